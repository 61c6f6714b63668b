/-
  Texts of this claim, packed (what nothing names is left out): TreeM, S6, SchemaP2, SchemaP3, SchemaP4, SchemaP5, Q2h, Q2g, Q2i, TreeR, R1, R2, R3, SchemaP6. Own work, partly printed by own programs. No condition.
-/
import Derived.Test.YtalifkcchfkgmaaGreatDoorPkD3
import Derived.Test.YtalifkcchfkgmaaGreatDoorPkD2
import Derived.Test.YtalifkcchfkgmaaGreatDoorPkD1
set_option linter.unusedVariables false
set_option linter.unusedSimpArgs false
set_option maxHeartbeats 2000000
section
section
namespace Go.Proofs.YtalifkcchfkgmaaGreatDoor
open Go Go.Vc Go.RowKit
def Small : Nat → TD0 → Prop
  | 0, _ => False
  | d + 1, v => v.fList.length ≤ 3000 ∧ v.fKeys.length ≤ 3000 ∧ v.fText.length ≤ 5000 ∧ (∀ k ∈ v.fKeys, k.length ≤ 5000) ∧ ∀ x ∈ v.fList, Small d x
theorem walkVs_app : ∀ (l m : List TD0), walkVs (l ++ m) = walkVs l ++ walkVs m
 | [], m => by simp [walkVs]
 | x :: r, m => by simp [walkVs, walkVs_app r m]
theorem walkVs_take {l : List TD0} {i : Nat} {x : TD0} (h : l[i]? = some x) : walkVs (l.take (i + 1)) = walkVs (l.take i) ++ walkV x := by
 rw [List.take_add_one, h, walkVs_app]
 simp [walkVs]
theorem weight_ok {n : Nat} (hn : 3000 < n) : ∀ (k d : Nat) (v : TD0), d < k → d ≤ 1000 → ∃ W : Int, ref03_weight_k n k v (d : Int) = some W ∧ 0 ≤ W ∧ W ≤ 30010001 + 10000 * d ∧ (W ≤ 5000 → Small d v ∧ ((walkV v).length : Int) ≤ W)
 | 0, d, v, h, _ => absurd h (by omega)
 | k + 1, d, v, h, hd => by
  show ∃ W : Int, ref03_weight_b n (ref03_weight_k n k) v (d : Int) = some W ∧ _
  unfold ref03_weight_b
  by_cases h0 : d = 0 ∨ 3000 < v.fList.length ∨ 3000 < v.fKeys.length
  ·have e : (bif decide ((d : Int) = 0) then some true else bif decide ((3000 : Int) < ((v.fList.length : Nat) : Int)) then some true else some (decide ((3000 : Int) < ((v.fKeys.length : Nat) : Int))) : Option Bool) = some true := by
    by_cases a : (d : Int) = 0
    ·rw [decide_eq_true a, cT]
    ·rw [decide_eq_false a, cF]
     by_cases b : (3000 : Int) < ((v.fList.length : Nat) : Int)
     ·rw [decide_eq_true b, cT]
     ·rw [decide_eq_false b, cF, decide_eq_true (by omega)]
   rw [e, bnd, cT]
   exact ⟨10000, rfl, by omega, by omega, fun h => absurd h (by omega)⟩
  ·have e : (bif decide ((d : Int) = 0) then some true else bif decide ((3000 : Int) < ((v.fList.length : Nat) : Int)) then some true else some (decide ((3000 : Int) < ((v.fKeys.length : Nat) : Int))) : Option Bool) = some false := by
    rw [decide_eq_false (by omega), cF, decide_eq_false (by omega), cF, decide_eq_false (by omega)]
   rw [e, bnd, cF]
   obtain ⟨base, hbase⟩ : ∃ base : Int, base = (1 : Int) + (min (v.fText.length : Int) (10000 : Int)) := ⟨_, rfl⟩
   rw [← hbase, need_i (by omega) (by omega)]
   obtain ⟨y, hy, hy1, hy2, hy3⟩ := loop_inv (step := ref03_weight_s1 n v) (n := n) (s0 := (base, (0 : Int)))
    (fun k s => s.2 = (k : Int) ∧ base ≤ s.1 ∧ s.1 ≤ base + 10000 * k ∧ (s.1 ≤ 5000 → ∀ j, j < k → (v.fKeys.getD j []).length ≤ 5000))
    (fun b => base ≤ b ∧ b ≤ base + 10000 * v.fKeys.length ∧ (b ≤ 5000 → ∀ j, j < v.fKeys.length → (v.fKeys.getD j []).length ≤ 5000)) v.fKeys.length
    ⟨rfl, Int.le_refl _, by simp, fun _ j hj => absurd hj (by omega)⟩
    (fun q s hq hI => by
     obtain ⟨t, i⟩ := s
     obtain ⟨h1, h2, h3, h4⟩ := hI
     have h1' : i = (q : Int) := h1
     subst h1'
     left
     refine ⟨(t + min ((v.fKeys.getD q []).length : Int) 10000, (q : Int) + 1), ?_, by simp, ?_, ?_, ?_⟩
     ·show ref03_weight_s1 n v (t, (q : Int)) = _
      unfold ref03_weight_s1
      dsimp only at h2 h3 ⊢
      rw [decide_eq_true (by omega), cT, getI_at [] hq, bnd, need_i (by omega) (by omega), need_i (by omega) (by omega)]
     ·dsimp only at h2 ⊢; omega
     ·dsimp only at h3 ⊢; push_cast; omega
     ·dsimp only at h4 ⊢
      intro hle j hj
      by_cases hjq : j = q
      ·subst hjq; omega
      ·exact h4 (by omega) j (by omega))
    (fun s hI => by
     obtain ⟨t, i⟩ := s
     obtain ⟨h1, h2, h3, h4⟩ := hI
     have h1' : i = (v.fKeys.length : Int) := h1
     subst h1'
     refine ⟨t, ?_, h2, h3, h4⟩
     unfold ref03_weight_s1
     dsimp only
     rw [decide_eq_false (by omega), cF])
    (by omega)
   rw [hy, bnd]
   obtain ⟨z, hz, hz1, hz2, hz3⟩ := loop_inv (step := ref03_weight_s2 n (ref03_weight_k n k) v (d : Int)) (n := n) (s0 := (y, (0 : Int)))
    (fun k s => s.2 = (k : Int) ∧ y ≤ s.1 ∧ s.1 ≤ 30010001 + 10000 * d ∧ (s.1 ≤ 5000 → (∀ j x, j < k → v.fList[j]? = some x → Small (d - 1) x) ∧ ((walkVs (v.fList.take k)).length : Int) + 1 ≤ s.1))
    (fun b => y ≤ b ∧ b ≤ 30010001 + 10000 * d ∧ (b ≤ 5000 → (∀ j x, j < v.fList.length → v.fList[j]? = some x → Small (d - 1) x) ∧ ((walkVs v.fList).length : Int) + 1 ≤ b)) v.fList.length
    ⟨rfl, Int.le_refl _, by omega, fun _ => ⟨fun j x hj => absurd hj (by omega), by simp [walkVs]; omega⟩⟩
    (fun q s hq hI => by
     obtain ⟨t, i⟩ := s
     obtain ⟨h1, h2, h3, h4⟩ := hI
     have h1' : i = (q : Int) := h1
     subst h1'
     dsimp only at h2 h3 h4
     by_cases ht : t ≤ 10000
     ·left
      have hx : v.fList[q]? = some v.fList[q] := List.getElem?_eq_getElem hq
      obtain ⟨W, w1, w2, w3, w4⟩ := weight_ok hn k (d - 1) v.fList[q] (by omega) (by omega)
      have hd1 : ((d - 1 : Nat) : Int) = (d : Int) - 1 := by omega
      rw [hd1] at w1
      refine ⟨(t + W, (q : Int) + 1), ?_, by simp, ?_, ?_, ?_⟩
      ·show ref03_weight_s2 n (ref03_weight_k n k) v (d : Int) (t, (q : Int)) = _
       unfold ref03_weight_s2
       dsimp only
       have hg : getI v.fList (q : Int) = some v.fList[q] := by simp [getI]
       rw [decide_eq_true (by omega), cT, bnd, decide_eq_true ht, cT, hg, bnd, need_i (by omega) (by omega), w1, bnd, need_i (by omega) (by omega), need_i (by omega) (by omega)]
      ·dsimp only; omega
      ·dsimp only; omega
      ·dsimp only
       intro hle
       obtain ⟨s1, s2⟩ := h4 (by omega)
       obtain ⟨c1, c2⟩ := w4 (by omega)
       refine ⟨fun j x hj hjx => ?_, ?_⟩
       ·by_cases hjq : j = q
        ·subst hjq
         rw [hx] at hjx
         exact Option.some.inj hjx ▸ c1
        ·exact s1 j x (by omega) hjx
       ·rw [walkVs_take hx, List.length_append]
        omega
     ·right
      refine ⟨t, ?_, h2, h3, fun hle => absurd hle (by omega)⟩
      unfold ref03_weight_s2
      dsimp only
      rw [decide_eq_true (by omega), cT, bnd, decide_eq_false ht, cF])
    (fun s hI => by
     obtain ⟨t, i⟩ := s
     obtain ⟨h1, h2, h3, h4⟩ := hI
     have h1' : i = (v.fList.length : Int) := h1
     subst h1'
     dsimp only at h2 h3 h4
     rw [List.take_length] at h4
     refine ⟨t, ?_, h2, h3, h4⟩
     unfold ref03_weight_s2
     dsimp only
     rw [decide_eq_false (by omega), cF, bnd, cF])
    (by omega)
   rw [hz, bnd]
   refine ⟨z, rfl, by omega, hz2, fun hle => ?_⟩
   obtain ⟨s1, s2⟩ := hz3 hle
   have s3 := hy3 (by omega)
   obtain ⟨d, rfl⟩ : ∃ e, d = e + 1 := ⟨d - 1, by omega⟩
   refine ⟨⟨by omega, by omega, by omega, fun q hq => ?_, fun x hx => ?_⟩, ?_⟩
   ·obtain ⟨j, hj, rfl⟩ := List.getElem_of_mem hq
    have := s3 j hj
    simpa [hj] using this
   ·obtain ⟨j, hj, rfl⟩ := List.getElem_of_mem hx
    exact s1 j _ hj (List.getElem?_eq_getElem hj)
   ·rw [walkV_eq, List.length_cons]
    push_cast
    omega
end Go.Proofs.YtalifkcchfkgmaaGreatDoor
end
section
namespace Go.Proofs.YtalifkcchfkgmaaGreatDoor
open Go Go.Vc
theorem and_tab : ((List.range 256).all fun c => bAnd .i64 (c : Int) 31 == ((c % 32 : Nat) : Int) && (bAnd .i64 (c : Int) 15 == ((c % 16 : Nat) : Int) && bAnd .i64 (c : Int) 7 == ((c % 8 : Nat) : Int))) = true := by kernel_rfl
theorem and_low (c : UInt8) : bAnd .i64 (c.toNat : Int) 31 = ((c.toNat % 32 : Nat) : Int) ∧ bAnd .i64 (c.toNat : Int) 15 = ((c.toNat % 16 : Nat) : Int) ∧ bAnd .i64 (c.toNat : Int) 7 = ((c.toNat % 8 : Nat) : Int) := by
 have h := List.all_eq_true.1 and_tab c.toNat (List.mem_range.2 c.toNat_lt)
 simp only [Bool.and_eq_true, beq_iff_eq] at h
 exact h
theorem one_s1 {n : Nat} {s : List UInt8} {i k : Nat} {y : Int × Int × Int} {r w : Nat} (hy : y.1 = (w : Int)) (hk : k < w) (hi : i + w ≤ s.length) (hs : s.length < 1000000) (hr : r < 1000000000) :
  ref01_One_s1 n s i y ((r : Int), (k : Int)) = some (if (s.getD (i + k) 0).toNat / 64 = 2 then .nx (((64 * r + (s.getD (i + k) 0).toNat % 64 : Nat) : Int), ((k + 1 : Nat) : Int)) else .br (.inl ())) := by
 unfold ref01_One_s1
 dsimp only
 have e : (i : Int) + (k : Int) = ((i + k : Nat) : Int) := by omega
 rw [hy, decide_eq_true (by omega : (k : Int) < (w : Int)), cT, need_i (by omega) (by omega), e, getI_at 0 (by omega), bnd]
 have hb := (s.getD (i + k) 0).toNat_lt
 generalize (s.getD (i + k) 0) = b at hb ⊢
 by_cases h1 : b.toNat < 128
 ·rw [decide_eq_true (by omega : (b.toNat : Int) < 128), cT, bnd, cT, if_neg (by omega)]
 ·rw [decide_eq_false (by omega : ¬ (b.toNat : Int) < 128), cF, bnd]
  by_cases h2 : 191 < b.toNat
  ·rw [decide_eq_true (by omega : (191 : Int) < (b.toNat : Int)), cT, if_neg (by omega)]
  ·rw [decide_eq_false (by omega : ¬ (191 : Int) < (b.toNat : Int)), cF, if_pos (by omega), need_i (by omega) (by omega), need_i (by omega) (by omega), need_i (by omega) (by omega), need_i (by omega) (by omega)]
   congr 3
   ·omega
theorem one_s1e {n : Nat} {s : List UInt8} {i : Nat} {y : Int × Int × Int} {r : Int} {w : Nat} (hy : y.1 = (w : Int)) :
  ref01_One_s1 n s i y (r, (w : Int)) = some (.br (.inr r)) := by
 unfold ref01_One_s1
 dsimp only
 rw [hy, decide_eq_false (by omega : ¬ (w : Int) < (w : Int)), cF]
def contB (s : List UInt8) (i : Nat) : Bool := decide ((s.getD i 0).toNat / 64 = 2)
theorem one_l2 {n : Nat} {s : List UInt8} {i : Nat} {y : Int × Int × Int} {r : Nat} (hy : y.1 = 2) (hi : i + 2 ≤ s.length) (hs : s.length < 1000000) (hr : r < 100) (hn : 5 ≤ n) :
  loopF (ref01_One_s1 n s i y) n ((r : Int), (1 : Int)) = some (if contB s (i + 1) then .inr (((64 * r + (s.getD (i + 1) 0).toNat % 64 : Nat) : Int)) else .inl ()) := by
 obtain ⟨n, rfl⟩ : ∃ q, n = q + 5 := ⟨n - 5, by omega⟩
 have h1 := one_s1 (n := n + 5) (k := 1) (w := 2) hy (by omega) hi hs (by omega : r < 1000000000)
 rw [show ((1 : Nat) : Int) = 1 from rfl] at h1
 rw [loopF, h1, bnd]
 unfold contB
 by_cases h2 : (s.getD (i + 1) 0).toNat / 64 = 2
 ·rw [if_pos h2, if_pos (by simpa using h2)]
  show loopF _ (n + 4) _ = _
  rw [loopF, one_s1e (w := 2) hy, bnd]
 ·rw [if_neg h2, if_neg (by simpa using h2)]
theorem one_l3 {n : Nat} {s : List UInt8} {i : Nat} {y : Int × Int × Int} {r : Nat} (hy : y.1 = 3) (hi : i + 3 ≤ s.length) (hs : s.length < 1000000) (hr : r < 100) (hn : 5 ≤ n) :
  loopF (ref01_One_s1 n s i y) n ((r : Int), (1 : Int)) = some (if contB s (i + 1) && contB s (i + 2) then .inr (((64 * (64 * r + (s.getD (i + 1) 0).toNat % 64) + (s.getD (i + 2) 0).toNat % 64 : Nat) : Int)) else .inl ()) := by
 obtain ⟨n, rfl⟩ : ∃ q, n = q + 5 := ⟨n - 5, by omega⟩
 have h1 := one_s1 (n := n + 5) (k := 1) (w := 3) hy (by omega) hi hs (by omega : r < 1000000000)
 rw [show ((1 : Nat) : Int) = 1 from rfl] at h1
 rw [loopF, h1, bnd]
 unfold contB
 by_cases h2 : (s.getD (i + 1) 0).toNat / 64 = 2
 ·rw [if_pos h2]
  show loopF _ (n + 4) _ = _
  rw [loopF, one_s1 (n := n + 5) (k := 2) (w := 3) hy (by omega) hi hs (by omega), bnd]
  by_cases h3 : (s.getD (i + 2) 0).toNat / 64 = 2
  ·rw [if_pos h3, if_pos (by simp only [h2, h3]; rfl)]
   show loopF _ (n + 3) _ = _
   rw [loopF, one_s1e (w := 3) hy, bnd]
  ·rw [if_neg h3, if_neg (by simp only [h2, h3]; decide)]
 ·rw [if_neg h2, if_neg (by simp only [h2]; simp)]
theorem one_l4 {n : Nat} {s : List UInt8} {i : Nat} {y : Int × Int × Int} {r : Nat} (hy : y.1 = 4) (hi : i + 4 ≤ s.length) (hs : s.length < 1000000) (hr : r < 100) (hn : 5 ≤ n) :
  loopF (ref01_One_s1 n s i y) n ((r : Int), (1 : Int)) = some (if contB s (i + 1) && (contB s (i + 2) && contB s (i + 3)) then .inr (((64 * (64 * (64 * r + (s.getD (i + 1) 0).toNat % 64) + (s.getD (i + 2) 0).toNat % 64) + (s.getD (i + 3) 0).toNat % 64 : Nat) : Int)) else .inl ()) := by
 obtain ⟨n, rfl⟩ : ∃ q, n = q + 5 := ⟨n - 5, by omega⟩
 have h1 := one_s1 (n := n + 5) (k := 1) (w := 4) hy (by omega) hi hs (by omega : r < 1000000000)
 rw [show ((1 : Nat) : Int) = 1 from rfl] at h1
 rw [loopF, h1, bnd]
 unfold contB
 by_cases h2 : (s.getD (i + 1) 0).toNat / 64 = 2
 ·rw [if_pos h2]
  show loopF _ (n + 4) _ = _
  rw [loopF, one_s1 (n := n + 5) (k := 2) (w := 4) hy (by omega) hi hs (by omega), bnd]
  by_cases h3 : (s.getD (i + 2) 0).toNat / 64 = 2
  ·rw [if_pos h3]
   show loopF _ (n + 3) _ = _
   rw [loopF, one_s1 (n := n + 5) (k := 3) (w := 4) hy (by omega) hi hs (by omega), bnd]
   by_cases h4 : (s.getD (i + 3) 0).toNat / 64 = 2
   ·rw [if_pos h4, if_pos (by simp only [h2, h3, h4]; rfl)]
    show loopF _ (n + 2) _ = _
    rw [loopF, one_s1e (w := 4) hy, bnd]
   ·rw [if_neg h4, if_neg (by simp only [h2, h3, h4]; decide)]
  ·rw [if_neg h3, if_neg (by simp only [h2, h3]; simp)]
 ·rw [if_neg h2, if_neg (by simp only [h2]; simp)]
theorem one_ref {n : Nat} {s : List UInt8} {i : Nat} (hi : i < s.length) (hs : s.length < 1000000) (hn : 5 ≤ n) :
  ref01_One n s i = some (if (Lib.decodeL (s.drop i)).1 = 65533 ∧ (Lib.decodeL (s.drop i)).2 = 1 then (0, 0) else (((Lib.decodeL (s.drop i)).1 : Int), ((Lib.decodeL (s.drop i)).2 : Int))) := by
 rw [Lib.decodeL_N, List.length_drop, Lib.getD_dropU, Lib.getD_dropU, Lib.getD_dropU, Lib.getD_dropU, Nat.add_zero]
 unfold ref01_One
 rw [decide_eq_false (by omega : ¬ (i : Int) < 0), cF, decide_eq_false (by omega : ¬ (s.length : Int) ≤ (i : Int)), bnd, cF, getI_at 0 hi, bnd]
 have hb0 := (s.getD i 0).toNat_lt
 have hb1 := (s.getD (i + 1) 0).toNat_lt
 have hb2 := (s.getD (i + 2) 0).toNat_lt
 have hb3 := (s.getD (i + 3) 0).toNat_lt
 obtain ⟨a1, a2, a3⟩ := and_low (s.getD i 0)
 by_cases h0 : (s.getD i 0).toNat < 128
 ·rw [decide_eq_true (by omega : ((s.getD i 0).toNat : Int) < 128), cT, Lib.decodeN_ascii _ _ _ _ _ h0]
  rw [mpS, bnd, jB, if_neg (by dsimp only; omega)]
  rfl
 rw [decide_eq_false (by omega : ¬ ((s.getD i 0).toNat : Int) < 128), cF]
 generalize hD : Lib.decodeN (s.length - i) (s.getD i 0).toNat (s.getD (i + 1) 0).toNat (s.getD (i + 2) 0).toNat (s.getD (i + 3) 0).toNat = D
 have hB : D = (65533, 1) → some ((0 : Int), (0 : Int)) = some (if D.1 = 65533 ∧ D.2 = 1 then (0, 0) else ((D.1 : Int), (D.2 : Int))) := fun e => by rw [e]; rfl
 have hG : ∀ (R w : Nat), D = (R, w) → 1 < w → some ((R : Int), (w : Int)) = some (if D.1 = 65533 ∧ D.2 = 1 then (0, 0) else ((D.1 : Int), (D.2 : Int))) := fun R w e hw => by rw [e, if_neg (by dsimp only; omega)]
 have bad : (s.getD i 0).toNat < 192 ∨ 248 ≤ (s.getD i 0).toNat → D = (65533, 1) := fun hb => by
  rw [← hD]
  unfold Lib.decodeN
  rw [if_neg h0, if_neg (by omega), if_neg (by omega), if_neg (by omega)]
 by_cases h1 : 192 ≤ (s.getD i 0).toNat
 case neg =>
  rw [decide_eq_false (by omega : ¬ (192 : Int) ≤ ((s.getD i 0).toNat : Int)), cF, bnd, cF, decide_eq_false (by omega : ¬ (224 : Int) ≤ ((s.getD i 0).toNat : Int)), cF, bnd, cF, decide_eq_false (by omega : ¬ (240 : Int) ≤ ((s.getD i 0).toNat : Int)), cF, bnd, cF, mpS, bnd, jB]
  exact hB (bad (by omega))
 rw [decide_eq_true (by omega : (192 : Int) ≤ ((s.getD i 0).toNat : Int)), cT]
 by_cases h2 : (s.getD i 0).toNat < 224
 ·rw [decide_eq_true (by omega : ((s.getD i 0).toNat : Int) < 224), bnd, cT, a1, bnd]
  rw [jN]
  dsimp only
  rw [need_i (by omega) (by omega)]
  unfold Lib.decodeN at hD
  rw [if_neg h0] at hD
  by_cases hl : s.length < i + 2
  ·rw [decide_eq_true (by omega : (s.length : Int) < (i : Int) + 2), cT]
   exact hB (by rw [← hD, if_neg (by omega), if_neg (by omega), if_neg (by omega)])
  rw [decide_eq_false (by omega : ¬ (s.length : Int) < (i : Int) + 2), cF, one_l2 rfl (by omega) hs (by omega) hn, bnd]
  unfold contB
  by_cases hc : (s.getD (i + 1) 0).toNat / 64 = 2
  ·rw [if_pos (by simp only [hc]; rfl)]
   rw [if_pos ⟨by omega, by omega, hc⟩] at hD
   dsimp only
   generalize hR : (64 * ((s.getD i 0).toNat % 32) + (s.getD (i + 1) 0).toNat % 64) = R
   rw [show (s.getD i 0).toNat % 32 * 64 + (s.getD (i + 1) 0).toNat % 64 = R by omega] at hD
   have hR2 : R < 2048 := by omega
   by_cases hv : R ≥ 128
   ·rw [if_pos hv] at hD
    rw [decide_eq_false (by omega : ¬ (R : Int) < 128), cF, decide_eq_false (by omega : ¬ (1114111 : Int) < (R : Int)), cF, decide_eq_false (by omega : ¬ (55296 : Int) ≤ (R : Int)), cF, bnd, cF]
    exact hG R 2 hD.symm (by omega)
   ·rw [if_neg hv] at hD
    rw [decide_eq_true (by omega : (R : Int) < 128), cT, bnd, cT]
    exact hB hD.symm
  ·rw [if_neg (by simp only [hc]; decide)]
   exact hB (by rw [← hD, if_neg (by omega), if_neg (by omega), if_neg (by omega)])
 rw [decide_eq_false (by omega : ¬ ((s.getD i 0).toNat : Int) < 224), bnd, cF, decide_eq_true (by omega : (224 : Int) ≤ ((s.getD i 0).toNat : Int)), cT]
 by_cases h3 : (s.getD i 0).toNat < 240
 ·rw [decide_eq_true (by omega : ((s.getD i 0).toNat : Int) < 240), bnd, cT, a2, bnd]
  rw [jN]
  dsimp only
  rw [need_i (by omega) (by omega)]
  unfold Lib.decodeN at hD
  rw [if_neg h0, if_neg (by omega)] at hD
  by_cases hl : s.length < i + 3
  ·rw [decide_eq_true (by omega : (s.length : Int) < (i : Int) + 3), cT]
   exact hB (by rw [← hD, if_neg (by omega), if_neg (by omega)])
  rw [decide_eq_false (by omega : ¬ (s.length : Int) < (i : Int) + 3), cF, one_l3 rfl (by omega) hs (by omega) hn, bnd]
  unfold contB
  by_cases hc : (s.getD (i + 1) 0).toNat / 64 = 2 ∧ (s.getD (i + 2) 0).toNat / 64 = 2
  ·rw [if_pos (by simp only [hc]; rfl)]
   rw [if_pos ⟨by omega, ⟨by omega, hc.1⟩, by omega, hc.2⟩] at hD
   dsimp only
   generalize hR : (64 * (64 * ((s.getD i 0).toNat % 16) + (s.getD (i + 1) 0).toNat % 64) + (s.getD (i + 2) 0).toNat % 64) = R
   rw [show (s.getD i 0).toNat % 16 * 4096 + (s.getD (i + 1) 0).toNat % 64 * 64 + (s.getD (i + 2) 0).toNat % 64 = R by omega] at hD
   have hR2 : R < 65536 := by omega
   by_cases hv : R < 2048
   ·rw [decide_eq_true (by omega : (R : Int) < 2048), cT, bnd, cT]
    exact hB (by rw [← hD, if_neg (by omega)])
   rw [decide_eq_false (by omega : ¬ (R : Int) < 2048), cF, decide_eq_false (by omega : ¬ (1114111 : Int) < (R : Int)), cF]
   by_cases hv2 : 55296 ≤ R
   ·rw [decide_eq_true (by omega : (55296 : Int) ≤ (R : Int)), cT, bnd]
    by_cases hv3 : R ≤ 57343
    ·rw [decide_eq_true (by omega : (R : Int) ≤ 57343), cT]
     exact hB (by rw [← hD, if_neg (by omega)])
    ·rw [decide_eq_false (by omega : ¬ (R : Int) ≤ 57343), cF]
     exact hG R 3 (by rw [← hD, if_pos (by omega)]) (by omega)
   ·rw [decide_eq_false (by omega : ¬ (55296 : Int) ≤ (R : Int)), cF, bnd, cF]
    exact hG R 3 (by rw [← hD, if_pos (by omega)]) (by omega)
  ·rw [if_neg (by simp only [Bool.and_eq_true, decide_eq_true_eq]; exact hc)]
   exact hB (by rw [← hD, if_neg (by omega), if_neg (by omega)])
 rw [decide_eq_false (by omega : ¬ ((s.getD i 0).toNat : Int) < 240), bnd, cF, decide_eq_true (by omega : (240 : Int) ≤ ((s.getD i 0).toNat : Int)), cT]
 by_cases h4 : (s.getD i 0).toNat < 248
 ·rw [decide_eq_true (by omega : ((s.getD i 0).toNat : Int) < 248), bnd, cT, a3, bnd]
  rw [jN]
  dsimp only
  rw [need_i (by omega) (by omega)]
  unfold Lib.decodeN at hD
  rw [if_neg h0, if_neg (by omega), if_neg (by omega)] at hD
  by_cases hl : s.length < i + 4
  ·rw [decide_eq_true (by omega : (s.length : Int) < (i : Int) + 4), cT]
   exact hB (by rw [← hD, if_neg (by omega)])
  rw [decide_eq_false (by omega : ¬ (s.length : Int) < (i : Int) + 4), cF, one_l4 rfl (by omega) hs (by omega) hn, bnd]
  unfold contB
  by_cases hc : (s.getD (i + 1) 0).toNat / 64 = 2 ∧ (s.getD (i + 2) 0).toNat / 64 = 2 ∧ (s.getD (i + 3) 0).toNat / 64 = 2
  ·rw [if_pos (by simp only [hc]; rfl)]
   rw [if_pos ⟨by omega, ⟨by omega, hc.1⟩, ⟨by omega, hc.2.1⟩, by omega, hc.2.2⟩] at hD
   dsimp only
   generalize hR : (64 * (64 * (64 * ((s.getD i 0).toNat % 8) + (s.getD (i + 1) 0).toNat % 64) + (s.getD (i + 2) 0).toNat % 64) + (s.getD (i + 3) 0).toNat % 64) = R
   rw [show (s.getD i 0).toNat % 8 * 262144 + (s.getD (i + 1) 0).toNat % 64 * 4096 + (s.getD (i + 2) 0).toNat % 64 * 64 + (s.getD (i + 3) 0).toNat % 64 = R by omega] at hD
   have hR2 : R < 16777216 := by omega
   by_cases hv : R < 65536
   ·rw [decide_eq_true (by omega : (R : Int) < 65536), cT, bnd, cT]
    exact hB (by rw [← hD, if_neg (by omega)])
   rw [decide_eq_false (by omega : ¬ (R : Int) < 65536), cF]
   by_cases hv2 : 1114111 < R
   ·rw [decide_eq_true (by omega : (1114111 : Int) < (R : Int)), cT, bnd, cT]
    exact hB (by rw [← hD, if_neg (by omega)])
   ·rw [decide_eq_false (by omega : ¬ (1114111 : Int) < (R : Int)), cF, decide_eq_true (by omega : (55296 : Int) ≤ (R : Int)), cT, bnd, decide_eq_false (by omega : ¬ (R : Int) ≤ 57343), cF]
    exact hG R 4 (by rw [← hD, if_pos (by omega)]) (by omega)
  ·rw [if_neg (by simp only [Bool.and_eq_true, decide_eq_true_eq]; exact hc)]
   exact hB (by rw [← hD, if_neg (by omega)])
 rw [decide_eq_false (by omega : ¬ ((s.getD i 0).toNat : Int) < 248), bnd, cF, mpS, bnd, jB]
 exact hB (bad (by omega))
theorem valid_loop {n : Nat} {s : List UInt8} (hs : s.length < 1000000) (hn : 5 ≤ n) : ∀ (m i : Nat), s.length ≤ i + m → i ≤ s.length → ∀ q, m < q → loopF (ref01_Valid_s1 n s) q (i : Int) = some (if Lib.validD (s.drop i) then .inr () else .inl ())
 | 0, i, hm, hi, q, hq => by
  obtain ⟨q, rfl⟩ : ∃ r, q = r + 1 := ⟨q - 1, by omega⟩
  have e : s.drop i = [] := List.drop_eq_nil_of_le (by omega)
  rw [loopF, e]
  unfold ref01_Valid_s1
  rw [decide_eq_false (by omega), cF, bnd]
  rfl
 | m + 1, i, hm, hi, q, hq => by
  obtain ⟨q, rfl⟩ : ∃ r, q = r + 1 := ⟨q - 1, by omega⟩
  by_cases hlt : i < s.length
  ·have hne : s.drop i ≠ [] := fun e => by
    have := congrArg List.length e
    rw [List.length_drop] at this
    simp at this
    omega
   have hst : ref01_Valid_s1 n s (i : Int) = some (if (Lib.decodeL (s.drop i)).1 = 65533 ∧ (Lib.decodeL (s.drop i)).2 = 1 then .br (.inl ()) else .nx (((i + (Lib.decodeL (s.drop i)).2 : Nat) : Int))) := by
    unfold ref01_Valid_s1
    rw [decide_eq_true (by omega : (i : Int) < (s.length : Int)), cT, one_ref hlt hs hn, bnd]
    by_cases hb : (Lib.decodeL (s.drop i)).1 = 65533 ∧ (Lib.decodeL (s.drop i)).2 = 1
    ·rw [if_pos hb, if_pos hb]
     rfl
    ·rw [if_neg hb, if_neg hb]
     have hw := Lib.decodeL_width (s.drop i)
     have hw4 : (Lib.decodeL (s.drop i)).2 ≤ 4 := by
      rcases dec_cases (s.drop i) hne with ⟨e, _⟩ | ⟨r, w, e, h1, h2, h3, _⟩
      ·rw [e]; decide
      ·rw [e]; exact h3
     dsimp only
     rw [decide_eq_false (by omega), cF, need_i (by omega) (by omega)]
     rfl
   rw [loopF, hst, bnd, Lib.validD_step _ hne]
   by_cases hb : (Lib.decodeL (s.drop i)).1 = 65533 ∧ (Lib.decodeL (s.drop i)).2 = 1
   ·rw [if_pos hb, if_pos hb]
    rfl
   ·rw [if_neg hb, if_neg hb]
    have hw := Lib.decodeL_width (s.drop i)
    have hle : (Lib.decodeL (s.drop i)).2 ≤ s.length - i := by
     rcases dec_cases (s.drop i) hne with ⟨e, _⟩ | ⟨r, w, e, h1, _⟩
     ·rw [e] at hb; exact absurd ⟨rfl, rfl⟩ hb
     ·rw [e]; rw [List.length_drop] at h1; exact h1
    dsimp only
    rw [valid_loop hs hn m _ (by omega) (by omega) q (by omega), List.drop_drop]
  ·have e : s.drop i = [] := List.drop_eq_nil_of_le (by omega)
   rw [loopF, e]
   unfold ref01_Valid_s1
   rw [decide_eq_false (by omega), cF, bnd]
   rfl
theorem valid_ref {n : Nat} {s : List UInt8} (hs : s.length < 1000000) (hn : 5 ≤ n) (hl : s.length < n) : ref01_Valid n s = some (Lib.validD s) := by
 unfold ref01_Valid
 have h := valid_loop hs hn s.length 0 (by omega) (by omega) n hl
 rw [show ((0 : Nat) : Int) = 0 from rfl, List.drop_zero] at h
 rw [h, bnd]
 cases Lib.validD s <;> rfl
end Go.Proofs.YtalifkcchfkgmaaGreatDoor
end
section
namespace Go.Proofs.YtalifkcchfkgmaaGreatDoor
open Go Go.Vc Go.RowKit
theorem great_ok {n : Nat} (hn : 3000 < n) (v : TD0) : ∃ g, ref03_Great n v = some g ∧ (g = false → Small 30 v ∧ (walkV v).length ≤ 5000) := by
 obtain ⟨W, w1, w2, w3, w4⟩ := weight_ok hn n 30 v (by omega) (by omega)
 refine ⟨decide ((5000 : Int) < W), ?_, fun h => ?_⟩
 ·unfold ref03_Great ref03_weight
  have e : ((30 : Nat) : Int) = 30 := rfl
  rw [e] at w1
  rw [w1, bnd]
 ·have h' := of_decide_eq_false h
  obtain ⟨a, b⟩ := w4 (by omega)
  exact ⟨a, by omega⟩
theorem wvs_mem : ∀ {l : List TD0} {x : TD0}, x ∈ l → (walkV x).length ≤ (walkVs l).length
 | y :: r, x, h => by
  rw [walkVs, List.length_append]
  rcases List.mem_cons.1 h with rfl | h
  ·omega
  ·have := wvs_mem h
   omega
theorem same_k_ok {n : Nat} (hn : 3000 < n) : ∀ (k d : Nat) (v : TD0), d ≤ k → Small d v → ref03_Same_k n k v v = some true
 | _, 0, v, _, h => h.elim
 | 0, d + 1, v, h, _ => absurd h (by omega)
 | k + 1, d + 1, v, hk, hs => by
  obtain ⟨h1, h2, h3, h4, h5⟩ := hs
  show ref03_Same_b n (ref03_Same_k n k) v v = _
  unfold ref03_Same_b
  rw [decide_eq_true rfl, decide_eq_true rfl, decide_eq_true rfl, decide_eq_true rfl, decide_eq_true rfl, beq_self_eq_true, Bool.not_true, cF, cF, cF, cF, cF, bnd, cF]
  have a1 := loop_all (step := ref03_Same_s1 n v v) (n := n) (fun q => (q : Int)) v.fKeys.length (.inr ()) (fun q hq => by
   unfold ref03_Same_s1
   rw [decide_eq_true (by omega), cT, getI_at [] hq, bnd, bnd, decide_eq_true rfl, Bool.not_true, cF, need_i (by omega) (by omega)]
   rfl) (by
   unfold ref03_Same_s1
   rw [decide_eq_false (by omega), cF]) (by omega)
  have a2 := loop_all (step := ref03_Same_s2 n (ref03_Same_k n k) v v) (n := n) (fun q => (q : Int)) v.fList.length (.inr ()) (fun q hq => by
   have hg : getI v.fList (q : Int) = some v.fList[q] := by simp [getI]
   unfold ref03_Same_s2
   rw [decide_eq_true (by omega), cT, hg, bnd, bnd, same_k_ok hn k d v.fList[q] (by omega) (h5 _ (List.getElem_mem hq)), bnd, Bool.not_true, cF, need_i (by omega) (by omega)]
   rfl) (by
   unfold ref03_Same_s2
   rw [decide_eq_false (by omega), cF]) (by omega)
  have e0 : ((0 : Nat) : Int) = 0 := rfl
  simp only [e0] at a1 a2
  rw [a1, bnd]
  dsimp only
  rw [a2, bnd]
end Go.Proofs.YtalifkcchfkgmaaGreatDoor
end
section
namespace Go.Proofs.YtalifkcchfkgmaaGreatDoor
open Go Go.Vc Go.RowKit
def thenC (a b : Int) : Int := bif decide (a = 0) then b else a
def cmpI (a b : Int) : Int := bif decide (a < b) then -1 else bif decide (b < a) then 1 else 0
def bitI (b : Bool) : Int := bif b then 1 else 0
theorem thenC0 (b : Int) : thenC 0 b = b := rfl
theorem thenCn {a : Int} (b : Int) (h : a ≠ 0) : thenC a b = a := by unfold thenC; rw [decide_eq_false h, cF]
mutual
def cmpV : TD0 → TD0 → Int
  | ⟨k, b, n, t, l, ks⟩, w => thenC (cmpI k w.fKind) (thenC (cmpI (bitI b) (bitI w.fBool)) (thenC (cmpI n w.fNum) (thenC (Lib.compareBytes t w.fText) (cmpVs (decide (k = 5)) l ks w.fList w.fKeys))))
def cmpVs (o : Bool) : List TD0 → List (List UInt8) → List TD0 → List (List UInt8) → Int
  | [], _, [], _ => 0
  | [], _, _ :: _, _ => -1
  | _ :: _, _, [], _ => 1
  | x :: l, ks, y :: m, js => thenC (bif o then Lib.compareBytes (ks.headD []) (js.headD []) else 0) (thenC (cmpV x y) (cmpVs o l ks.tail m js.tail))
end
theorem cmpV_eq (v w : TD0) : cmpV v w = thenC (cmpI v.fKind w.fKind) (thenC (cmpI (bitI v.fBool) (bitI w.fBool)) (thenC (cmpI v.fNum w.fNum) (thenC (Lib.compareBytes v.fText w.fText) (cmpVs (decide (v.fKind = 5)) v.fList v.fKeys w.fList w.fKeys)))) := by
 cases v; rw [cmpV]
theorem cmpI_cases (a b : Int) : (a < b ∧ cmpI a b = -1) ∨ (a = b ∧ cmpI a b = 0) ∨ (b < a ∧ cmpI a b = 1) := by
 unfold cmpI
 rcases Int.lt_trichotomy a b with h | h | h
 ·exact .inl ⟨h, by rw [decide_eq_true h, cT]⟩
 ·subst h; exact .inr (.inl ⟨rfl, by rw [decide_eq_false (by omega), cF, cF]⟩)
 ·exact .inr (.inr ⟨h, by rw [decide_eq_false (by omega), cF, decide_eq_true h, cT]⟩)
theorem cmpI_zero {a b : Int} (h : cmpI a b = 0) : a = b := by
 unfold cmpI at h
 by_cases h1 : a < b
 ·rw [decide_eq_true h1, cT] at h; omega
 ·rw [decide_eq_false h1, cF] at h
  by_cases h2 : b < a
  ·rw [decide_eq_true h2, cT] at h; omega
  ·omega
theorem cmpI_self (a : Int) : cmpI a a = 0 := by unfold cmpI; rw [decide_eq_false (by omega), cF, cF]
theorem cmpI_anti (a b : Int) : cmpI b a = - cmpI a b := by
 unfold cmpI
 rcases Int.lt_trichotomy a b with h | h | h
 ·rw [decide_eq_true h, decide_eq_false (by omega), cT, cF, cT]; rfl
 ·subst h; rw [decide_eq_false (by omega), cF, cF]; rfl
 ·rw [decide_eq_true h, decide_eq_false (by omega), cT, cF, cT]
theorem thenC_anti {a b a' b' : Int} (h : a' = - a) (h' : a = 0 → b' = - b) : thenC a' b' = - thenC a b := by
 by_cases e : a = 0
 ·subst e
  have : a' = 0 := by omega
  subst this
  rw [thenC0, thenC0]
  exact h' rfl
 ·rw [thenCn b e, thenCn b' (by omega)]; exact h
theorem thenC_zero {a b : Int} (h : thenC a b = 0) : a = 0 ∧ b = 0 := by
 by_cases e : a = 0
 ·subst e; exact ⟨rfl, h⟩
 ·rw [thenCn b e] at h; exact absurd h e
mutual
theorem cmpV_anti : ∀ v w : TD0, cmpV w v = - cmpV v w
 | ⟨k, b, n, t, l, ks⟩, w => by
  rw [cmpV_eq, cmpV_eq]
  refine thenC_anti (cmpI_anti _ _) fun h1 => thenC_anti (cmpI_anti _ _) fun _ => thenC_anti (cmpI_anti _ _) fun _ => thenC_anti (cb_anti _ _) fun _ => ?_
  have := cmpI_zero h1
  rw [← this]
  exact cmpVs_anti _ l ks w.fList w.fKeys
theorem cmpVs_anti (o : Bool) : ∀ (l : List TD0) (ks : List (List UInt8)) (m : List TD0) (js : List (List UInt8)), cmpVs o m js l ks = - cmpVs o l ks m js
 | [], _, [], _ => by simp [cmpVs]
 | [], _, _ :: _, _ => by simp [cmpVs]
 | _ :: _, _, [], _ => by simp [cmpVs]
 | x :: l, ks, y :: m, js => by
  rw [cmpVs, cmpVs]
  refine thenC_anti ?_ fun _ => thenC_anti (cmpV_anti x y) fun _ => cmpVs_anti o l ks.tail m js.tail
  cases o with
  | true => rw [cT, cT]; exact cb_anti _ _
  | false => rw [cF, cF]; rfl
end
theorem cmpI_range (a b : Int) : -1 ≤ cmpI a b ∧ cmpI a b ≤ 1 := by
 have := cmpI_cases a b
 omega
theorem cb_range : ∀ a b : List UInt8, -1 ≤ Lib.compareBytes a b ∧ Lib.compareBytes a b ≤ 1
 | [], [] => by simp [Lib.compareBytes]
 | [], _ :: _ => by simp [Lib.compareBytes]
 | _ :: _, [] => by simp [Lib.compareBytes]
 | x :: r, y :: s => by
  have := cb_range r s
  unfold Lib.compareBytes
  split
  ·omega
  ·split <;> omega
end Go.Proofs.YtalifkcchfkgmaaGreatDoor
end
section
namespace Go.Proofs.YtalifkcchfkgmaaGreatDoor
open Go Go.Vc Go.RowKit
def PlainV (v : TD0) : Prop := 0 ≤ v.fKind ∧ v.fKind ≤ 5 ∧ (v.fBool = true → v.fKind = 1) ∧ (v.fNum ≠ 0 → v.fKind = 2) ∧ (v.fText ≠ [] → v.fKind = 3) ∧ (v.fList.length ≠ 0 → v.fKind = 4 ∨ v.fKind = 5) ∧ (v.fKind = 5 → v.fKeys.length = v.fList.length) ∧ (v.fKind ≠ 5 → v.fKeys.length = 0)
instance (v : TD0) : Decidable (PlainV v) := by unfold PlainV; exact inferInstance
def aloneV (v : TD0) : Int :=
  if PlainV v then (if v.fNum < -9007199254740992 ∨ 9007199254740992 < v.fNum then 20 else if Lib.validD v.fText = true ∧ ∀ k ∈ v.fKeys, Lib.validD k = true then (if v.fKeys.Nodup then 0 else 41) else 10) else 2
def NumOut (v : TD0) : Prop := v.fNum < -9007199254740992 ∨ 9007199254740992 < v.fNum
def TextsOk (v : TD0) : Prop := Lib.validD v.fText = true ∧ ∀ k ∈ v.fKeys, Lib.validD k = true
theorem alone_2 {v : TD0} (h : ¬ PlainV v) : aloneV v = 2 := if_neg h
theorem alone_20 {v : TD0} (h : PlainV v) (hn : NumOut v) : aloneV v = 20 := (if_pos h).trans (if_pos hn)
theorem alone_10 {v : TD0} (h : PlainV v) (hn : ¬ NumOut v) (ht : ¬ TextsOk v) : aloneV v = 10 := ((if_pos h).trans (if_neg hn)).trans (if_neg ht)
theorem alone_41 {v : TD0} (h : PlainV v) (hn : ¬ NumOut v) (ht : TextsOk v) (hd : ¬ v.fKeys.Nodup) : aloneV v = 41 := (((if_pos h).trans (if_neg hn)).trans (if_pos ht)).trans (if_neg hd)
theorem alone_0 {v : TD0} (h : PlainV v) (hn : ¬ NumOut v) (ht : TextsOk v) (hd : v.fKeys.Nodup) : aloneV v = 0 := (((if_pos h).trans (if_neg hn)).trans (if_pos ht)).trans (if_pos hd)
theorem alone_ok {v : TD0} (h : aloneV v = 0) : PlainV v ∧ ¬ NumOut v ∧ TextsOk v ∧ v.fKeys.Nodup := by
 by_cases h1 : PlainV v
 ·by_cases h2 : NumOut v
  ·rw [alone_20 h1 h2] at h; omega
  ·by_cases h3 : TextsOk v
   ·by_cases h4 : v.fKeys.Nodup
    ·exact ⟨h1, h2, h3, h4⟩
    ·rw [alone_41 h1 h2 h3 h4] at h; omega
   ·rw [alone_10 h1 h2 h3] at h; omega
 ·rw [alone_2 h1] at h; omega
def Wide (v : TD0) : Prop := v.fList.length ≤ 3000 ∧ v.fKeys.length ≤ 3000 ∧ v.fText.length ≤ 5000 ∧ ∀ k ∈ v.fKeys, k.length ≤ 5000
theorem Small.wide : ∀ {d : Nat} {v : TD0}, Small d v → Wide v
 | _ + 1, _, h => ⟨h.1, h.2.1, h.2.2.1, h.2.2.2.1⟩
theorem plain_ref {n : Nat} (v : TD0) : ref03_plain n v = some (decide (PlainV v)) := by
  unfold ref03_plain
  by_cases h0 : v.fKind < 0
  · rw [decide_eq_true h0, cT, bnd, cT, decide_eq_false (fun h => by have := h.1; omega)]
  rw [decide_eq_false h0, cF, bnd]
  by_cases h5 : 5 < v.fKind
  · rw [decide_eq_true h5, cT, decide_eq_false (fun h => by have := h.2.1; omega)]
  rw [decide_eq_false h5, cF]
  have key : ((bif v.fBool then
        (bif (!(decide (v.fKind = 1))) then
          (some ((true)))
        else
          bif (!(decide (v.fNum = 0))) then
            (bif (!(decide (v.fKind = 2))) then
              (some ((true)))
            else
              bif (!(decide (v.fText = []))) then
                (some ((!(decide (v.fKind = 3)))))
              else
                some ((false)))
          else
            bif (!(decide (v.fText = []))) then
              (some ((!(decide (v.fKind = 3)))))
            else
              some ((false)))
      else
        bif (!(decide (v.fNum = 0))) then
          (bif (!(decide (v.fKind = 2))) then
            (some ((true)))
          else
            bif (!(decide (v.fText = []))) then
              (some ((!(decide (v.fKind = 3)))))
            else
              some ((false)))
        else
          bif (!(decide (v.fText = []))) then
            (some ((!(decide (v.fKind = 3)))))
          else
            some ((false)) : Option Bool)) = some (!decide ((v.fBool = true → v.fKind = 1) ∧ (v.fNum ≠ 0 → v.fKind = 2) ∧ (v.fText ≠ [] → v.fKind = 3))) := by
    cases v.fBool <;> by_cases h1 : v.fKind = 1 <;> by_cases h2 : v.fKind = 2 <;> by_cases h3 : v.fKind = 3 <;> by_cases hn : v.fNum = 0 <;> by_cases ht : v.fText = [] <;> simp [h1, h2, h3, hn, ht]
  rw [key, bnd]
  by_cases hk : (v.fBool = true → v.fKind = 1) ∧ (v.fNum ≠ 0 → v.fKind = 2) ∧ (v.fText ≠ [] → v.fKind = 3)
  · rw [decide_eq_true hk, Bool.not_true, cF]
    by_cases hl : v.fList.length = 0
    · rw [decide_eq_false (by omega), cF, bnd, cF]
      by_cases e5 : v.fKind = 5
      · rw [decide_eq_true e5, cT]
        refine congrArg some (decide_eq_decide.2 ?_)
        unfold PlainV
        constructor
        · intro h; exact ⟨by omega, by omega, hk.1, hk.2.1, hk.2.2, fun h => absurd hl h, fun _ => by omega, fun h => absurd e5 h⟩
        · intro h; have := h.2.2.2.2.2.2.1 e5; omega
      · rw [decide_eq_false e5, cF]
        refine congrArg some (decide_eq_decide.2 ?_)
        unfold PlainV
        constructor
        · intro h; exact ⟨by omega, by omega, hk.1, hk.2.1, hk.2.2, fun h => absurd hl h, fun h => absurd h e5, fun _ => by omega⟩
        · intro h; have := h.2.2.2.2.2.2.2 e5; omega
    · rw [decide_eq_true (by omega), cT]
      by_cases e4 : v.fKind = 4
      · rw [decide_eq_true e4, Bool.not_true, cF, bnd, cF, decide_eq_false (by omega), cF]
        refine congrArg some (decide_eq_decide.2 ?_)
        unfold PlainV
        constructor
        · intro h; exact ⟨by omega, by omega, hk.1, hk.2.1, hk.2.2, fun h => .inl e4, fun h => by omega, fun _ => by omega⟩
        · intro h; have := h.2.2.2.2.2.2.2 (by omega); omega
      · rw [decide_eq_false e4, Bool.not_false, cT]
        by_cases e5 : v.fKind = 5
        · rw [decide_eq_true e5, Bool.not_true, bnd, cF, cT]
          refine congrArg some (decide_eq_decide.2 ?_)
          unfold PlainV
          constructor
          · intro h; exact ⟨by omega, by omega, hk.1, hk.2.1, hk.2.2, fun h => .inr e5, fun _ => by omega, fun h => absurd e5 h⟩
          · intro h; have := h.2.2.2.2.2.2.1 e5; omega
        · rw [decide_eq_false e5, Bool.not_false, bnd, cT, decide_eq_false]
          intro h
          have := h.2.2.2.2.2.1 hl
          omega
  · rw [decide_eq_false hk, Bool.not_false, cT, decide_eq_false]
    intro h
    exact hk ⟨h.2.2.1, h.2.2.2.1, h.2.2.2.2.1⟩
theorem mem_take_succ {α : Type} {l : List α} {i : Nat} {x : α} (h : l[i]? = some x) (y : α) : y ∈ l.take (i + 1) ↔ y ∈ l.take i ∨ y = x := by
 rw [List.take_add_one, h, List.mem_append]
 simp
theorem nodup_take_succ {α : Type} {l : List α} {i : Nat} {x : α} (h : l[i]? = some x) : (l.take (i + 1)).Nodup ↔ (l.take i).Nodup ∧ x ∉ l.take i := by
 rw [List.take_add_one, h]
 simp only [Option.toList_some, List.nodup_append]
 constructor
 ·rintro ⟨h1, _, h3⟩
  exact ⟨h1, fun hx => h3 x hx x (by simp) rfl⟩
 ·rintro ⟨h1, h2⟩
  refine ⟨h1, by simp, fun a ha b hb => ?_⟩
  simp only [List.mem_singleton] at hb
  subst hb
  intro e
  exact h2 (e ▸ ha)
theorem nodup_of_take {α : Type} {l : List α} (i : Nat) (h : l.Nodup) : (l.take i).Nodup := (List.take_sublist i l).nodup h
theorem keys_ref {n : Nat} (hn : 6000 < n) {v : TD0} (hw : Wide v) : loopF (ref03_wrong_s1 n v) n (0 : Int) = some (bif v.fKeys.any (fun k => !Lib.validD k) then .inl () else .inr ()) := by
 rw [← any_range [] (fun k => !Lib.validD k) v.fKeys]
 refine loop_any (fun k => !Lib.validD (v.fKeys.getD k [])) v.fKeys.length _ _ (fun k hk => ?_) ?_ (by have := hw.2.1; omega)
 ·unfold ref03_wrong_s1
  have hm : v.fKeys.getD k [] ∈ v.fKeys := by simp [List.getD, hk]
  have hl := hw.2.2.2 _ hm
  rw [decide_eq_true (by omega), cT, getI_at [] hk, bnd, valid_ref (by omega) (by omega) (by omega), bnd]
  cases Lib.validD (v.fKeys.getD k []) with
  | true => rw [Bool.not_true, cF, need_i (by omega) (by have := hw.2.1; omega)]; simp
  | false => rw [Bool.not_false, cT]; simp
 ·unfold ref03_wrong_s1
  rw [decide_eq_false (by omega), cF]
theorem twice_in {n : Nat} (hn : 6000 < n) {v : TD0} (hw : Wide v) {i : Nat} (hi : i < v.fKeys.length) : loopF (ref03_wrong_s3 n v (i : Int)) n (0 : Int) = some (bif (List.range i).any (fun k => decide (v.fKeys.getD k [] = v.fKeys.getD i [])) then .inl () else .inr ()) := by
 refine loop_any (fun k => decide (v.fKeys.getD k [] = v.fKeys.getD i [])) i _ _ (fun k hk => ?_) ?_ (by have := hw.2.1; omega)
 ·unfold ref03_wrong_s3
  rw [decide_eq_true (by omega), cT, getI_at [] (by omega), bnd, getI_at [] hi, bnd]
  by_cases h : v.fKeys.getD k [] = v.fKeys.getD i []
  ·rw [decide_eq_true h, cT]; simp
  ·rw [decide_eq_false h, cF, need_i (by omega) (by have := hw.2.1; omega)]; simp
 ·unfold ref03_wrong_s3
  rw [decide_eq_false (by omega), cF]
theorem any_take {l : List (List UInt8)} {i : Nat} (hi : i < l.length) : (List.range i).any (fun k => decide (l.getD k [] = l.getD i [])) = decide (l[i] ∈ l.take i) := by
 rw [Bool.eq_iff_iff, List.any_eq_true, decide_eq_true_eq, List.mem_take_iff_getElem]
 constructor
 ·rintro ⟨k, hk, h⟩
  have hk' : k < i := by simpa using hk
  refine ⟨k, by omega, ?_⟩
  have := of_decide_eq_true h
  simpa [List.getD, hi, (by omega : k < l.length)] using this
 ·rintro ⟨k, hk, h⟩
  refine ⟨k, List.mem_range.2 (by omega), ?_⟩
  simpa [List.getD, hi, (by omega : k < l.length)] using h
theorem twice_ref {n : Nat} (hn : 6000 < n) {v : TD0} (hw : Wide v) : loopF (ref03_wrong_s2 n v) n (0 : Int) = some (bif decide v.fKeys.Nodup then .inr () else .inl ()) := by
 obtain ⟨b, hb, hp⟩ := loop_inv (step := ref03_wrong_s2 n v) (n := n) (s0 := (0 : Int)) (fun k s => s = (k : Int) ∧ (v.fKeys.take k).Nodup)
  (fun b => b = bif decide v.fKeys.Nodup then .inr () else .inl ()) v.fKeys.length ⟨rfl, by simp⟩
  (fun q s hq hI => by
   obtain ⟨rfl, hnd⟩ := hI
   unfold ref03_wrong_s2
   rw [decide_eq_true (by omega), cT, twice_in hn hw hq, bnd, any_take hq]
   have hx : v.fKeys[q]? = some v.fKeys[q] := List.getElem?_eq_getElem hq
   by_cases hm : v.fKeys[q] ∈ v.fKeys.take q
   ·rw [decide_eq_true hm, cT]
    refine .inr ⟨_, rfl, ?_⟩
    rw [decide_eq_false, cF]
    intro h
    exact ((nodup_take_succ hx).1 (nodup_of_take (q + 1) h)).2 hm
   ·rw [decide_eq_false hm, cF]
    dsimp only
    rw [need_i (by omega) (by have := hw.2.1; omega)]
    exact .inl ⟨_, rfl, by omega, (nodup_take_succ hx).2 ⟨hnd, hm⟩⟩)
  (fun s hI => by
   obtain ⟨rfl, hnd⟩ := hI
   rw [List.take_length] at hnd
   unfold ref03_wrong_s2
   rw [decide_eq_false (by omega), cF]
   exact ⟨_, rfl, by rw [decide_eq_true hnd, cT]⟩) (by have := hw.2.1; omega)
 rw [hb, hp]
def faultL : List TD0 → Int
  | [] => 0
  | x :: r => if aloneV x = 0 then faultL r else aloneV x
theorem faultL_app : ∀ l m : List TD0, faultL (l ++ m) = if faultL l = 0 then faultL m else faultL l
 | [], m => by simp [faultL]
 | x :: l, m => by
  rw [List.cons_append, faultL, faultL, faultL_app l m]
  by_cases h : aloneV x = 0
  ·rw [if_pos h, if_pos h]
  ·rw [if_neg h, if_neg h, if_neg h]
theorem faultL_cons_walk (v : TD0) : faultL (walkV v) = if aloneV v = 0 then faultL (walkVs v.fList) else aloneV v := by rw [walkV_eq, faultL]
theorem faultL_take {l : List TD0} {i : Nat} {x : TD0} (h : l[i]? = some x) : faultL (walkVs (l.take (i + 1))) = if faultL (walkVs (l.take i)) = 0 then faultL (walkV x) else faultL (walkVs (l.take i)) := by rw [walkVs_take h, faultL_app]
theorem wrong_ref {n : Nat} (hn : 6000 < n) : ∀ (k d : Nat) (v : TD0), d ≤ k → Small d v → ref03_wrong_k n k v = some (faultL (walkV v))
 | _, 0, v, _, h => h.elim
 | 0, d + 1, v, h, _ => absurd h (by omega)
 | k + 1, d + 1, v, hk, hs => by
  have hw := hs.wide
  obtain ⟨h1, h2, h3, h4, h5⟩ := hs
  show ref03_wrong_b n (ref03_wrong_k n k) v = _
  unfold ref03_wrong_b
  rw [faultL_cons_walk, plain_ref, bnd]
  by_cases hp : PlainV v
  ·rw [decide_eq_true hp, Bool.not_true, cF]
   by_cases hnum : NumOut v
   ·rw [alone_20 hp hnum, if_neg (by decide)]
    rcases hnum with hm | hm
    ·rw [decide_eq_true hm, cT, bnd, cT]
    ·by_cases hm' : v.fNum < -9007199254740992
     ·omega
     ·rw [decide_eq_false hm', cF, bnd, decide_eq_true hm, cT]
   ·have hnum' : ¬ (v.fNum < -9007199254740992 ∨ 9007199254740992 < v.fNum) := hnum
    rw [decide_eq_false (by omega), cF, bnd, decide_eq_false (by omega), cF, valid_ref (by omega) (by omega) (by omega), bnd, keys_ref hn hw, twice_ref hn hw]
    cases hv : Lib.validD v.fText with
    | false =>
     rw [Bool.not_false, cT, alone_10 hp hnum (fun h => by rw [h.1] at hv; cases hv), if_neg (by decide)]
    | true =>
     rw [Bool.not_true, cF, bnd]
     by_cases ha : ∀ k ∈ v.fKeys, Lib.validD k = true
     ·have : v.fKeys.any (fun k => !Lib.validD k) = false := by
       rw [List.any_eq_false]
       intro x hx
       simp [ha x hx]
      rw [this, cF]
      dsimp only
      rw [bnd]
      by_cases hd : v.fKeys.Nodup
      ·rw [decide_eq_true hd, cT, alone_0 hp hnum ⟨hv, ha⟩ hd, if_pos rfl]
       dsimp only
       obtain ⟨b, hb, hpost⟩ := loop_inv (step := ref03_wrong_s4 n (ref03_wrong_k n k) v) (n := n) (s0 := (0 : Int)) (fun q s => s = (q : Int) ∧ faultL (walkVs (v.fList.take q)) = 0)
        (fun b => match b with | .inl e => e = faultL (walkVs v.fList) | .inr () => faultL (walkVs v.fList) = 0) v.fList.length ⟨rfl, by simp [walkVs, faultL]⟩
        (fun q s hq hI => by
         obtain ⟨rfl, hf⟩ := hI
         have hx : v.fList[q]? = some v.fList[q] := List.getElem?_eq_getElem hq
         have hg : getI v.fList (q : Int) = some v.fList[q] := by simp [getI]
         have hft := faultL_take hx
         rw [if_pos hf] at hft
         unfold ref03_wrong_s4
         rw [decide_eq_true (by omega), cT, hg, bnd, wrong_ref hn k d _ (by omega) (h5 _ (List.getElem_mem hq)), bnd]
         by_cases he : faultL (walkV v.fList[q]) = 0
         ·rw [decide_eq_true he, Bool.not_true, cF, need_i (by omega) (by omega)]
          exact .inl ⟨_, rfl, by omega, by rw [hft]; exact he⟩
         ·rw [decide_eq_false he, Bool.not_false, cT]
          refine .inr ⟨_, rfl, ?_⟩
          have hsplit : walkVs v.fList = walkVs (v.fList.take (q + 1)) ++ walkVs (v.fList.drop (q + 1)) := by rw [← walkVs_app, List.take_append_drop]
          dsimp only
          rw [hsplit, faultL_app, hft, if_neg he])
        (fun s hI => by
         obtain ⟨rfl, hf⟩ := hI
         rw [List.take_length] at hf
         unfold ref03_wrong_s4
         rw [decide_eq_false (by omega), cF]
         exact ⟨_, rfl, hf⟩) (by omega)
       rw [hb, bnd]
       cases b with
       | inl e => dsimp only at hpost ⊢; rw [hpost]
       | inr u => dsimp only at hpost ⊢; rw [hpost]
      ·rw [decide_eq_false hd, cF, alone_41 hp hnum ⟨hv, ha⟩ hd, if_neg (by decide)]
     ·rw [alone_10 hp hnum (fun h => ha h.2), if_neg (by decide)]
      have : v.fKeys.any (fun k => !Lib.validD k) = true := by
       rw [List.any_eq_true]
       apply Classical.byContradiction
       intro h
       apply ha
       intro k hk
       cases hvk : Lib.validD k with
       | true => rfl
       | false => exact absurd ⟨k, hk, by simp [hvk]⟩ h
      rw [this, cT]
  ·rw [decide_eq_false hp, Bool.not_false, cT, alone_2 hp, if_neg (by decide)]
end Go.Proofs.YtalifkcchfkgmaaGreatDoor
end
section
namespace Go.Proofs.YtalifkcchfkgmaaGreatDoor
open Go Go.Vc Go.RowKit
theorem valid_run {n : Nat} {s : List UInt8} (h : s.length < 1000000) : runes_Valid n s = some (Lib.validD s) := by
 unfold runes_Valid h_ValidString
 rw [need_t (by omega), bnd]
theorem contains_run {n : Nat} (hn : 6000 < n) {v : TD0} (hw : Wide v) : slices_ContainsFuncstring_string n v.fKeys = some (v.fKeys.any (fun k => !Lib.validD k)) := by
 unfold slices_ContainsFuncstring_string slices_IndexFuncstring_string
 have hl := hw.2.1
 have hd : ∀ k : Nat, k < v.fKeys.length → slices_IndexFuncstring_string_s1 n v.fKeys (k : Int) = some (if !Lib.validD (v.fKeys.getD k []) then .br (.inl (k : Int)) else .nx ((k : Int) + 1)) := fun k hk => by
  unfold slices_IndexFuncstring_string_s1 tree_alone_1
  have hm : v.fKeys.getD k [] ∈ v.fKeys := by simp [List.getD, hk]
  have := hw.2.2.2 _ hm
  rw [decide_eq_true (by omega), cT, getI_at [] hk, bnd, valid_run (by omega), bnd, bnd]
  cases Lib.validD (v.fKeys.getD k []) with
  | true => rw [Bool.not_true, cF, need_i (by omega) (by omega)]; rfl
  | false => rw [Bool.not_false, cT]; rfl
 obtain ⟨b, hb, hp⟩ := loop_inv (step := slices_IndexFuncstring_string_s1 n v.fKeys) (n := n) (s0 := (0 : Int)) (fun q s => s = (q : Int) ∧ ∀ k ∈ v.fKeys.take q, Lib.validD k = true)
  (fun b => match b with | .inl i => 0 ≤ i ∧ v.fKeys.any (fun k => !Lib.validD k) = true | .inr () => v.fKeys.any (fun k => !Lib.validD k) = false) v.fKeys.length ⟨rfl, by simp⟩
  (fun q s hq hI => by
   obtain ⟨rfl, hf⟩ := hI
   have hx : v.fKeys[q]? = some v.fKeys[q] := List.getElem?_eq_getElem hq
   rw [hd q hq]
   have hg : v.fKeys.getD q [] = v.fKeys[q] := by simp [List.getD, hq]
   rw [hg]
   cases hv : Lib.validD v.fKeys[q] with
   | true =>
    refine .inl ⟨_, rfl, by omega, fun k hk => ?_⟩
    rcases (mem_take_succ hx k).1 hk with h | h
    ·exact hf k h
    ·rw [h]; exact hv
   | false =>
    refine .inr ⟨_, rfl, by omega, ?_⟩
    rw [List.any_eq_true]
    exact ⟨_, List.getElem_mem hq, by simp [hv]⟩)
  (fun s hI => by
   obtain ⟨rfl, hf⟩ := hI
   rw [List.take_length] at hf
   unfold slices_IndexFuncstring_string_s1
   rw [decide_eq_false (by omega), cF]
   refine ⟨_, rfl, ?_⟩
   dsimp only
   rw [List.any_eq_false]
   intro x hx
   simp [hf x hx]) (by omega)
 rw [hb, bnd]
 cases b with
 | inl i => dsimp only at hp ⊢; rw [bnd, hp.2, decide_eq_true hp.1]
 | inr u => dsimp only at hp ⊢; rw [bnd, hp]; rfl
theorem twice_run {n : Nat} (hn : 6000 < n) {v : TD0} (hw : Wide v) : ∃ b, loopF (tree_alone_s1 n v) n ((0 : Int), ([] : List ((List UInt8) × Bool))) = some b ∧ (match b with | .inl _ => ¬ v.fKeys.Nodup | .inr _ => v.fKeys.Nodup) := by
 have hl := hw.2.1
 refine loop_inv (step := tree_alone_s1 n v) (n := n) (fun q s => s.1 = (q : Int) ∧ (∀ x, (mget s.2 x).getD false = decide (x ∈ v.fKeys.take q)) ∧ (v.fKeys.take q).Nodup)
  (fun b => match b with | .inl _ => ¬ v.fKeys.Nodup | .inr _ => v.fKeys.Nodup) v.fKeys.length ⟨rfl, fun x => by simp [mget], by simp⟩
  (fun q s hq hI => ?_) (fun s hI => ?_) (by omega)
 ·obtain ⟨i, m⟩ := s
  obtain ⟨h1, h2, h3⟩ := hI
  have h1' : i = (q : Int) := h1
  subst h1'
  dsimp only at h2
  have hx : v.fKeys[q]? = some v.fKeys[q] := List.getElem?_eq_getElem hq
  have hg : getI v.fKeys (q : Int) = some v.fKeys[q] := by simp [getI]
  unfold tree_alone_s1
  dsimp only
  rw [decide_eq_true (by omega), cT, hg, bnd, h2]
  by_cases hm : v.fKeys[q] ∈ v.fKeys.take q
  ·rw [decide_eq_true hm, cT]
   exact .inr ⟨_, rfl, fun h => ((nodup_take_succ hx).1 (nodup_of_take (q + 1) h)).2 hm⟩
  ·rw [decide_eq_false hm, cF, need_i (by omega) (by omega)]
   refine .inl ⟨_, rfl, by dsimp only; omega, fun x => ?_, (nodup_take_succ hx).2 ⟨h3, hm⟩⟩
   dsimp only
   rw [mget_mput]
   by_cases hxe : v.fKeys[q] = x
   ·rw [if_pos hxe, decide_eq_true ((mem_take_succ hx x).2 (.inr hxe.symm))]; rfl
   ·rw [if_neg hxe, h2]
    refine decide_eq_decide.2 ?_
    rw [mem_take_succ hx]
    exact ⟨.inl, fun h => h.elim id fun h => absurd h.symm hxe⟩
 ·obtain ⟨i, m⟩ := s
  obtain ⟨h1, h2, h3⟩ := hI
  have h1' : i = (v.fKeys.length : Int) := h1
  subst h1'
  rw [List.take_length] at h3
  unfold tree_alone_s1
  dsimp only
  rw [decide_eq_false (by omega), cF]
  exact ⟨_, rfl, h3⟩
theorem alone_run {n : Nat} (hn : 6000 < n) {v : TD0} (hw : Wide v) : tree_alone n v = some (aloneV v) := by
 obtain ⟨hl, hk, ht, hkk⟩ := id hw
 unfold tree_alone
 -- the rest: either 2 at once, or what is left
 have tail : ∀ y : Bool × Int × List UInt8 × List TD0 × List (List UInt8), y.2.2.2.1.length ≤ 3000 → y.2.2.2.2.length ≤ 3000 → (PlainV v ↔ (y.1 = false ∧ y.2.1 = 0 ∧ y.2.2.1 = [] ∧ y.2.2.2.1.length = 0 ∧ y.2.2.2.2.length = 0)) →
   (((((bif y.1 then
    (some ((true)))
   else
    bif (!(decide (y.2.1 = 0))) then
     (some ((true)))
    else
     bif (!(decide (y.2.2.1 = []))) then
      (some ((true)))
     else
      need (inR .i64 (((y.2.2.2.1.length : Nat) : Int) + ((y.2.2.2.2.length : Nat) : Int))) <|
      some ((decide ((0 : Int) < (((y.2.2.2.1.length : Nat) : Int) + ((y.2.2.2.2.length : Nat) : Int))))) : Option Bool)).bind fun y_2 =>
  bif y_2 then
   (((some ((2 : Int)) : Option Int)).map Lp.br)
  else
   ((bif (decide (v.fNum < (-9007199254740992))) then
     (some ((true)))
    else
     some ((decide ((9007199254740992 : Int) < v.fNum))) : Option Bool)).bind fun y_3 =>
   bif y_3 then
    (((some ((20 : Int)) : Option Int)).map Lp.br)
   else
    (runes_Valid n v.fText).bind fun x_1 =>
    bif !x_1 then
     (((some ((10 : Int)) : Option Int)).map Lp.br)
    else
     (slices_ContainsFuncstring_string n v.fKeys).bind fun x_2 =>
     bif x_2 then
      (((some ((10 : Int)) : Option Int)).map Lp.br)
     else
      some (.nx ()) : Option (Lp Unit Int))).bind fun j => joinF j fun _ =>
 (loopF (tree_alone_s1 n v) n ((0 : Int), ([] : List ((List UInt8) × Bool)))).bind fun b_2 =>
 (match b_2 with 
 | .inl y_5 => some ((41 : Int)) 
 | .inr y_6 => some ((0 : Int)))) = some (aloneV v) := by
  intro y hy1 hy2 hy
  have e : (bif y.1 then
    (some ((true)))
   else
    bif (!(decide (y.2.1 = 0))) then
     (some ((true)))
    else
     bif (!(decide (y.2.2.1 = []))) then
      (some ((true)))
     else
      need (inR .i64 (((y.2.2.2.1.length : Nat) : Int) + ((y.2.2.2.2.length : Nat) : Int))) <|
      some ((decide ((0 : Int) < (((y.2.2.2.1.length : Nat) : Int) + ((y.2.2.2.2.length : Nat) : Int))))) : Option Bool) = some (!decide (PlainV v)) := by
   rw [need_i (by omega) (by omega)]
   by_cases hp : PlainV v
   ·obtain ⟨a1, a2, a3, a4, a5⟩ := hy.1 hp
    rw [a1, cF, decide_eq_true a2, Bool.not_true, cF, decide_eq_true a3, Bool.not_true, cF, decide_eq_false (by omega), decide_eq_true hp]; rfl
   ·rw [decide_eq_false hp, Bool.not_false]
    cases hb : y.1 with
    | true => rw [cT]
    | false =>
     rw [cF]
     by_cases h2 : y.2.1 = 0
     ·rw [decide_eq_true h2, Bool.not_true, cF]
      by_cases h3 : y.2.2.1 = []
      ·rw [decide_eq_true h3, Bool.not_true, cF, decide_eq_true]
       by_cases h4 : y.2.2.2.1.length = 0
       ·by_cases h5 : y.2.2.2.2.length = 0
        ·exact absurd (hy.2 ⟨hb, h2, h3, h4, h5⟩) hp
        ·omega
       ·omega
      ·rw [decide_eq_false h3, Bool.not_false, cT]
     ·rw [decide_eq_false h2, Bool.not_false, cT]
  rw [e, bnd]
  by_cases hp : PlainV v
  ·rw [decide_eq_true hp, Bool.not_true, cF]
   by_cases hnum : NumOut v
   ·rw [alone_20 hp hnum]
    rcases hnum with hm | hm
    ·rw [decide_eq_true hm, cT, bnd, cT, mpS, bnd, jB]
    ·by_cases hm' : v.fNum < -9007199254740992
     ·omega
     ·rw [decide_eq_false hm', cF, bnd, decide_eq_true hm, cT, mpS, bnd, jB]
   ·have hnum' : ¬ (v.fNum < -9007199254740992 ∨ 9007199254740992 < v.fNum) := hnum
    rw [decide_eq_false (by omega), cF, bnd, decide_eq_false (by omega), cF, valid_run (by omega), bnd, contains_run hn hw]
    cases hv : Lib.validD v.fText with
    | false => rw [Bool.not_false, cT, mpS, bnd, jB, alone_10 hp hnum (fun h => by rw [h.1] at hv; cases hv)]
    | true =>
     rw [Bool.not_true, cF, bnd]
     by_cases ha : ∀ k ∈ v.fKeys, Lib.validD k = true
     ·have : v.fKeys.any (fun k => !Lib.validD k) = false := by
       rw [List.any_eq_false]
       intro x hx
       simp [ha x hx]
      rw [this, cF, bnd, jN]
      obtain ⟨b, hb, hpost⟩ := twice_run hn hw
      rw [hb, bnd]
      cases b with
      | inl m => dsimp only at hpost ⊢; rw [alone_41 hp hnum ⟨hv, ha⟩ hpost]
      | inr m => dsimp only at hpost ⊢; rw [alone_0 hp hnum ⟨hv, ha⟩ hpost]
     ·have : v.fKeys.any (fun k => !Lib.validD k) = true := by
       rw [List.any_eq_true]
       apply Classical.byContradiction
       intro h
       apply ha
       intro k hk
       cases hvk : Lib.validD k with
       | true => rfl
       | false => exact absurd ⟨k, hk, by simp [hvk]⟩ h
      rw [this, cT, mpS, bnd, jB, alone_10 hp hnum (fun h => ha h.2)]
  ·rw [decide_eq_false hp, Bool.not_false, cT, mpS, bnd, jB, alone_2 hp]
 have len0 : ∀ {α : Type} {l : List α}, l = [] ↔ l.length = 0 := fun {α l} => by simp
 by_cases h0 : v.fKind = 0
 ·rw [decide_eq_true h0, cT, bnd, jN]
  refine tail _ hl hk ?_
  unfold PlainV
  dsimp only
  rw [h0]
  constructor
  ·rintro ⟨_, _, a, b, c, d, _, e⟩
   refine ⟨?_, ?_, ?_, ?_, e (by omega)⟩
   ·cases hb : v.fBool with
    | false => rfl
    | true => have := a hb; omega
   ·apply Classical.byContradiction; intro h; have := b h; omega
   ·apply Classical.byContradiction; intro h; have := c h; omega
   ·apply Classical.byContradiction; intro h; have := d h; omega
  ·rintro ⟨a, b, c, d, e⟩
   exact ⟨by omega, by omega, fun h => (by rw [a] at h; cases h), fun h => absurd b h, fun h => absurd c h, fun h => absurd d h, fun h => by omega, fun _ => e⟩
 rw [decide_eq_false h0, cF]
 by_cases h1 : v.fKind = 1
 ·rw [decide_eq_true h1, cT, bnd, jN]
  refine tail _ hl hk ?_
  unfold PlainV
  dsimp only
  rw [h1]
  constructor
  ·rintro ⟨_, _, a, b, c, d, _, e⟩
   refine ⟨rfl, ?_, ?_, ?_, e (by omega)⟩
   ·apply Classical.byContradiction; intro h; have := b h; omega
   ·apply Classical.byContradiction; intro h; have := c h; omega
   ·apply Classical.byContradiction; intro h; have := d h; omega
  ·rintro ⟨_, b, c, d, e⟩
   exact ⟨by omega, by omega, fun _ => rfl, fun h => absurd b h, fun h => absurd c h, fun h => absurd d h, fun h => by omega, fun _ => e⟩
 rw [decide_eq_false h1, cF]
 by_cases h2 : v.fKind = 2
 ·rw [decide_eq_true h2, cT, bnd, jN]
  refine tail _ hl hk ?_
  unfold PlainV
  dsimp only
  rw [h2]
  constructor
  ·rintro ⟨_, _, a, b, c, d, _, e⟩
   refine ⟨?_, rfl, ?_, ?_, e (by omega)⟩
   ·cases hb : v.fBool with
    | false => rfl
    | true => have := a hb; omega
   ·apply Classical.byContradiction; intro h; have := c h; omega
   ·apply Classical.byContradiction; intro h; have := d h; omega
  ·rintro ⟨a, _, c, d, e⟩
   exact ⟨by omega, by omega, fun h => (by rw [a] at h; cases h), fun _ => rfl, fun h => absurd c h, fun h => absurd d h, fun h => by omega, fun _ => e⟩
 rw [decide_eq_false h2, cF]
 by_cases h3 : v.fKind = 3
 ·rw [decide_eq_true h3, cT, bnd, jN]
  refine tail _ hl hk ?_
  unfold PlainV
  dsimp only
  rw [h3]
  constructor
  ·rintro ⟨_, _, a, b, c, d, _, e⟩
   refine ⟨?_, ?_, rfl, ?_, e (by omega)⟩
   ·cases hb : v.fBool with
    | false => rfl
    | true => have := a hb; omega
   ·apply Classical.byContradiction; intro h; have := b h; omega
   ·apply Classical.byContradiction; intro h; have := d h; omega
  ·rintro ⟨a, b, _, d, e⟩
   exact ⟨by omega, by omega, fun h => (by rw [a] at h; cases h), fun h => absurd b h, fun _ => rfl, fun h => absurd d h, fun h => by omega, fun _ => e⟩
 rw [decide_eq_false h3, cF]
 by_cases h4 : v.fKind = 4
 ·rw [decide_eq_true h4, cT, bnd, jN]
  refine tail _ (by simp) hk ?_
  unfold PlainV
  dsimp only
  rw [h4]
  constructor
  ·rintro ⟨_, _, a, b, c, d, _, e⟩
   refine ⟨?_, ?_, ?_, rfl, e (by omega)⟩
   ·cases hb : v.fBool with
    | false => rfl
    | true => have := a hb; omega
   ·apply Classical.byContradiction; intro h; have := b h; omega
   ·apply Classical.byContradiction; intro h; have := c h; omega
  ·rintro ⟨a, b, c, _, e⟩
   exact ⟨by omega, by omega, fun h => (by rw [a] at h; cases h), fun h => absurd b h, fun h => absurd c h, fun _ => .inl rfl, fun h => by omega, fun _ => e⟩
 rw [decide_eq_false h4, cF]
 by_cases h5 : v.fKind = 5
 ·rw [decide_eq_true h5, cT]
  by_cases hkl : v.fKeys.length = v.fList.length
  ·rw [decide_eq_true (by omega), Bool.not_true, cF, bnd, jN]
   refine tail _ (by simp) (by simp) ?_
   unfold PlainV
   dsimp only
   rw [h5]
   constructor
   ·rintro ⟨_, _, a, b, c, d, _, e⟩
    refine ⟨?_, ?_, ?_, rfl, rfl⟩
    ·cases hb : v.fBool with
     | false => rfl
     | true => have := a hb; omega
    ·apply Classical.byContradiction; intro h; have := b h; omega
    ·apply Classical.byContradiction; intro h; have := c h; omega
   ·rintro ⟨a, b, c, _, _⟩
    exact ⟨by omega, by omega, fun h => (by rw [a] at h; cases h), fun h => absurd b h, fun h => absurd c h, fun _ => .inr rfl, fun _ => hkl, fun h => absurd rfl h⟩
  ·rw [decide_eq_false (by omega), Bool.not_false, cT, mpS, bnd, jB, alone_2 (fun h => hkl (h.2.2.2.2.2.2.1 h5))]
 ·rw [decide_eq_false h5, cF, mpS, bnd, jB, alone_2]
  intro h
  have a := h.1
  have b := h.2.1
  omega
end Go.Proofs.YtalifkcchfkgmaaGreatDoor
end
section
namespace Go.Proofs.YtalifkcchfkgmaaGreatDoor
open Go Go.Vc Go.RowKit
mutual
def depthV : TD0 → Nat
  | ⟨_, _, _, _, l, _⟩ => depthVs l + 1
def depthVs : List TD0 → Nat
  | [] => 0
  | x :: r => max (depthV x) (depthVs r)
end
theorem depthV_eq (v : TD0) : depthV v = depthVs v.fList + 1 := by cases v; rw [depthV]
theorem depthVs_app : ∀ l m : List TD0, depthVs (l ++ m) = max (depthVs l) (depthVs m)
 | [], m => by simp [depthVs]
 | x :: l, m => by rw [List.cons_append, depthVs, depthVs, depthVs_app l m]; omega
theorem depthVs_take {l : List TD0} {i : Nat} {x : TD0} (h : l[i]? = some x) : depthVs (l.take (i + 1)) = max (depthVs (l.take i)) (depthV x) := by
 rw [List.take_add_one, h, depthVs_app]
 simp [depthVs]
theorem depthVs_mem : ∀ {l : List TD0} {x : TD0}, x ∈ l → depthV x ≤ depthVs l
 | y :: r, x, h => by
  rw [depthVs]
  rcases List.mem_cons.1 h with rfl | h
  ·omega
  ·have := depthVs_mem h
   omega
theorem depthV_pos (v : TD0) : 1 ≤ depthV v := by rw [depthV_eq]; omega
theorem depth_run {n : Nat} (hn : 6000 < n) : ∀ (k d : Nat) (v : TD0) (left : Nat), d ≤ k → Small d v → left ≤ 1000 → tree_depth_k n k v (left : Int) = some ((min (depthV v) (left + 1) : Nat) : Int)
 | _, 0, v, _, _, h, _ => h.elim
 | 0, d + 1, v, _, h, _, _ => absurd h (by omega)
 | k + 1, d + 1, v, left, hk, hs, hle => by
  obtain ⟨h1, h2, h3, h4, h5⟩ := hs
  show tree_depth_b n (tree_depth_k n k) v left = _
  unfold tree_depth_b
  have := loop_all (step := tree_depth_s1 n (tree_depth_k n k) v (left : Int)) (n := n) (fun q => (((min (depthVs (v.fList.take q)) left : Nat) : Int), (q : Int))) v.fList.length ((min (depthVs v.fList) left : Nat) : Int) (fun q hq => by
   have hx : v.fList[q]? = some v.fList[q] := List.getElem?_eq_getElem hq
   have hg : getI v.fList (q : Int) = some v.fList[q] := by simp [getI]
   unfold tree_depth_s1
   dsimp only
   rw [decide_eq_true (by omega), cT]
   by_cases hl : left = 0
   ·subst hl
    rw [decide_eq_false (by omega), cF, need_i (by omega) (by omega)]
    simp
   ·have hl1 : ((left : Nat) : Int) - 1 = ((left - 1 : Nat) : Int) := by omega
    rw [decide_eq_true (by omega), cT, hg, bnd, need_i (by omega) (by omega), hl1, depth_run hn k d _ (left - 1) (by omega) (h5 _ (List.getElem_mem hq)) (by omega), bnd, need_i (by omega) (by omega), depthVs_take hx]
    congr 3
    omega) (by
   unfold tree_depth_s1
   dsimp only
   rw [decide_eq_false (by omega), cF, List.take_length]) (by omega)
  have e0 : ((0 : Nat) : Int) = 0 := rfl
  simp only [List.take_zero, depthVs, Nat.zero_min, e0] at this
  rw [this, bnd, need_i (by omega) (by omega), depthV_eq]
  congr 1
  omega
theorem deeper_ref {n : Nat} (hn : 6000 < n) : ∀ (k d : Nat) (v : TD0) (left : Nat), d ≤ k → Small d v → left ≤ 1000 → ref03_deeper_k n k v (left : Int) = some (decide (left < depthV v))
 | _, 0, v, _, _, h, _ => h.elim
 | 0, d + 1, v, _, h, _, _ => absurd h (by omega)
 | k + 1, d + 1, v, left, hk, hs, hle => by
  obtain ⟨h1, h2, h3, h4, h5⟩ := hs
  show ref03_deeper_b n (ref03_deeper_k n k) v left = _
  unfold ref03_deeper_b
  by_cases hl : left = 0
  ·subst hl
   have := depthV_pos v
   rw [decide_eq_true (by omega), cT, decide_eq_true (by omega)]
  rw [decide_eq_false (by omega), cF]
  obtain ⟨b, hb, hp⟩ := loop_inv (step := ref03_deeper_s1 n (ref03_deeper_k n k) v (left : Int)) (n := n) (s0 := (0 : Int)) (fun q s => s = (q : Int) ∧ depthVs (v.fList.take q) < left) (fun b => match b with | .inl _ => left ≤ depthVs v.fList | .inr _ => depthVs v.fList < left) v.fList.length ⟨rfl, by simp [depthVs]; omega⟩ (fun q s hq hI => by
   obtain ⟨rfl, hI⟩ := hI
   have hx : v.fList[q]? = some v.fList[q] := List.getElem?_eq_getElem hq
   have hg : getI v.fList (q : Int) = some v.fList[q] := by simp [getI]
   have hm : v.fList[q] ∈ v.fList := List.getElem_mem hq
   have hdm := depthVs_mem hm
   unfold ref03_deeper_s1
   have hl1 : ((left : Nat) : Int) - 1 = ((left - 1 : Nat) : Int) := by omega
   rw [decide_eq_true (by omega), cT, hg, bnd, need_i (by omega) (by omega), hl1, deeper_ref hn k d _ (left - 1) (by omega) (h5 _ hm) (by omega), bnd]
   by_cases hd : left - 1 < depthV v.fList[q]
   ·rw [decide_eq_true hd, cT]
    refine .inr ⟨_, rfl, ?_⟩
    dsimp only
    omega
   ·rw [decide_eq_false hd, cF, need_i (by omega) (by omega)]
    refine .inl ⟨_, rfl, by omega, ?_⟩
    rw [depthVs_take hx]
    omega) (fun s hI => by
   obtain ⟨rfl, hI⟩ := hI
   rw [List.take_length] at hI
   unfold ref03_deeper_s1
   rw [decide_eq_false (by omega), cF]
   exact ⟨_, rfl, hI⟩) (by omega)
  rw [hb, bnd]
  have := depthV_eq v
  cases b with
  | inl u => dsimp only at hp ⊢; rw [decide_eq_true (by omega)]
  | inr u => dsimp only at hp ⊢; rw [decide_eq_false (by omega)]
theorem count_ref {n : Nat} (hn : 6000 < n) : ∀ (k d : Nat) (v : TD0), d ≤ k → Small d v → (walkV v).length ≤ 5900 → ref03_Count_k n k v = some ((walkV v).length : Int)
 | _, 0, v, _, h, _ => h.elim
 | 0, d + 1, v, h, _, _ => absurd h (by omega)
 | k + 1, d + 1, v, hk, hs, hlen => by
  obtain ⟨h1, h2, h3, h4, h5⟩ := hs
  show ref03_Count_b n (ref03_Count_k n k) v = _
  unfold ref03_Count_b
  have hwl : (walkV v).length = (walkVs v.fList).length + 1 := by rw [walkV_eq, List.length_cons]
  have := loop_all (step := ref03_Count_s1 n (ref03_Count_k n k) v) (n := n) (fun q => (((walkVs (v.fList.take q)).length : Int) + 1, (q : Int))) v.fList.length ((walkVs v.fList).length + 1 : Int) (fun q hq => by
   have hx : v.fList[q]? = some v.fList[q] := List.getElem?_eq_getElem hq
   have hg : getI v.fList (q : Int) = some v.fList[q] := by simp [getI]
   have hm : v.fList[q] ∈ v.fList := List.getElem_mem hq
   have hw1 := walkVs_mem hm
   have hw2 : (walkVs (v.fList.take q)).length ≤ (walkVs v.fList).length := by
    have := congrArg List.length (walkVs_app (v.fList.take q) (v.fList.drop q))
    rw [List.take_append_drop, List.length_append] at this
    omega
   unfold ref03_Count_s1
   dsimp only
   rw [decide_eq_true (by omega), cT, hg, bnd, count_ref hn k d _ (by omega) (h5 _ hm) (by omega), bnd, need_i (by omega) (by omega), need_i (by omega) (by omega), walkVs_take hx, List.length_append]
   congr 3
   push_cast
   omega) (by
   unfold ref03_Count_s1
   dsimp only
   rw [decide_eq_false (by omega), cF, List.take_length]) (by omega)
  have e0 : ((0 : Nat) : Int) = 0 := rfl
  have e1 : (0 : Int) + 1 = 1 := rfl
  simp only [List.take_zero, walkVs, List.length_nil, e0, e1] at this
  rw [this, bnd, hwl]
  rfl
structure Fine (v : TD0) : Prop where
  small : Small 60 v
  few : (walkV v).length ≤ 5900
theorem Small.le : ∀ {d e : Nat} {v : TD0}, d ≤ e → Small d v → Small e v
 | 0, _, _, _, h => h.elim
 | d + 1, 0, _, hde, _ => absurd hde (by omega)
 | d + 1, e + 1, _, hde, h => ⟨h.1, h.2.1, h.2.2.1, h.2.2.2.1, fun x hx => Small.le (by omega) (h.2.2.2.2 x hx)⟩
theorem Fine.wide {v : TD0} (h : Fine v) : Wide v := h.small.wide
theorem Fine.part {v x : TD0} (h : Fine v) (hx : x ∈ v.fList) : Fine x := by
 refine ⟨Small.le (d := 59) (by omega) (h.small.2.2.2.2 x hx), ?_⟩
 have := walkVs_mem hx
 have := h.few
 rw [walkV_eq, List.length_cons] at this
 omega
theorem small_walk : ∀ {d : Nat} {v x : TD0}, Small d v → x ∈ walkV v → Small d x
 | d + 1, v, x, h, hx => by
  rw [walkV_eq] at hx
  rcases List.mem_cons.1 hx with rfl | hx
  ·exact h
  ·have key : ∀ l : List TD0, (∀ y ∈ l, Small d y) → x ∈ walkVs l → Small d x := by
    intro l
    induction l with
    | nil => intro _ hx; simp [walkVs] at hx
    | cons y r ih =>
     intro hl hx
     rw [walkVs, List.mem_append] at hx
     rcases hx with hx | hx
     ·exact small_walk (hl y List.mem_cons_self) hx
     ·exact ih (fun z hz => hl z (List.mem_cons_of_mem _ hz)) hx
   exact Small.le (by omega) (key _ h.2.2.2.2 hx)
def checkV (v : TD0) : Int := if 24 < depthV v then 30 else if faultL (walkV v) = 0 then (if 4096 < (walkV v).length then 3 else 0) else faultL (walkV v)
theorem check_ref {n : Nat} (hn : 6000 < n) {v : TD0} (h : Fine v) : ref03_Check n v = some (checkV v) := by
 unfold ref03_Check ref03_deeper ref03_wrong ref03_Count checkV
 have e : ((24 : Nat) : Int) = 24 := rfl
 have := deeper_ref hn n 60 v 24 (by omega) h.small (by omega)
 rw [e] at this
 rw [this, bnd]
 by_cases hd : 24 < depthV v
 ·rw [decide_eq_true hd, cT, if_pos hd]
 ·rw [decide_eq_false hd, cF, if_neg hd, wrong_ref hn n 60 v (by omega) h.small, bnd]
  by_cases hf : faultL (walkV v) = 0
  ·rw [if_pos hf, decide_eq_true hf, Bool.not_true, cF, count_ref hn n 60 v (by omega) h.small h.few, bnd]
   by_cases hc : 4096 < (walkV v).length
   ·rw [if_pos hc, decide_eq_true (by omega), cT]
   ·rw [if_neg hc, decide_eq_false (by omega), cF]
  ·rw [if_neg hf, decide_eq_false hf, Bool.not_false, cT]
theorem check_fold {n : Nat} (hn : 6000 < n) : ∀ (l : List TD0) (s : Nat), (∀ x ∈ l, Wide x) → s + l.length ≤ 6000 → ∃ j, foldY (tree_Check_s1 n) l (s : Int) = some j ∧ (match j with | .nx t => faultL l = 0 ∧ t = ((s + l.length : Nat) : Int) | .br b => faultL l ≠ 0 ∧ b.2 = faultL l)
 | [], s, _, _ => ⟨_, rfl, rfl, by simp⟩
 | x :: r, s, hw, hl => by
  rw [List.length_cons] at hl
  unfold foldY faultL
  have e : tree_Check_s1 n (s : Int) x = if aloneV x = 0 then some (.nx ((s + 1 : Nat) : Int)) else some (.br ((s : Int), aloneV x)) := by
   unfold tree_Check_s1
   have ex : (⟨x.fKind, (x.fBool), x.fNum, x.fText, x.fList, x.fKeys⟩ : TD0) = x := by cases x; rfl
   try rw [ex]
   rw [alone_run hn (hw x List.mem_cons_self), bnd]
   by_cases h : aloneV x = 0
   ·rw [if_pos h, decide_eq_true h, Bool.not_true, cF, need_i (by omega) (by omega)]
    congr 2
   ·rw [if_neg h, decide_eq_false h, Bool.not_false, cT]
  rw [e]
  by_cases h : aloneV x = 0
  ·rw [if_pos h, if_pos h, bnd]
   obtain ⟨j, hj, hp⟩ := check_fold hn r (s + 1) (fun y hy => hw y (List.mem_cons_of_mem _ hy)) (by omega)
   refine ⟨j, hj, ?_⟩
   cases j with
   | nx t => dsimp only at hp ⊢; exact ⟨hp.1, by rw [hp.2, List.length_cons]; omega⟩
   | br b => exact hp
  ·rw [if_neg h, if_neg h, bnd]
   exact ⟨_, rfl, h, rfl⟩
theorem check_run {n : Nat} (hn : 6000 < n) {v : TD0} (h : Fine v) : tree_Check n v = some (checkV v) := by
 unfold tree_Check tree_depth checkV
 have e : ((24 : Nat) : Int) = 24 := rfl
 have hd0 := depth_run hn n 60 v 24 (by omega) h.small (by omega)
 rw [e] at hd0
 rw [hd0, bnd]
 by_cases hd : 24 < depthV v
 ·rw [decide_eq_true (by omega), cT, if_pos hd]
 ·rw [decide_eq_false (by omega), cF, if_neg hd, need_t (by have := h.few; omega)]
  obtain ⟨j, hj, hp⟩ := check_fold hn (walkV v) 0 (fun x hx => (small_walk h.small hx).wide) (by have := h.few; omega)
  have e0 : ((0 : Nat) : Int) = 0 := rfl
  rw [e0] at hj
  rw [hj, bnd]
  cases j with
  | nx t =>
   dsimp only at hp ⊢
   rw [if_pos hp.1]
   by_cases hc : 4096 < (walkV v).length
   ·rw [if_pos hc, decide_eq_true (by omega), cT]
   ·rw [if_neg hc, decide_eq_false (by omega), cF]
  | br b =>
   dsimp only at hp ⊢
   rw [if_neg hp.1, hp.2]
end Go.Proofs.YtalifkcchfkgmaaGreatDoor
end
section
namespace Go.Proofs.YtalifkcchfkgmaaGreatDoor
open Go Go.Vc Go.RowKit
theorem less_cb : ∀ a b : List UInt8, Op.bytesLess a b = decide (Lib.compareBytes a b < 0)
 | [], [] => by simp [Op.bytesLess, Lib.compareBytes]
 | [], _ :: _ => by simp [Op.bytesLess, Lib.compareBytes]
 | _ :: _, [] => by simp [Op.bytesLess, Lib.compareBytes]
 | x :: r, y :: s => by
  unfold Op.bytesLess Lib.compareBytes
  rw [less_cb r s]
  by_cases h1 : x < y
  ·simp [h1]
  ·by_cases h2 : y < x
   ·have hne : (x == y) = false := by
     rw [beq_eq_false_iff_ne]
     intro e
     rw [e, UInt8.lt_iff_toNat_lt] at h2
     omega
    simp [h1, h2, hne]
   ·have hxy : x = y := UInt8.toNat_inj.1 (by rw [UInt8.lt_iff_toNat_lt] at h1 h2; omega)
    simp [h1, h2, hxy]
abbrev KV := List UInt8 × TD0
def leK (p q : KV) : Bool := !(decide (Lib.compareBytes q.1 p.1 < 0))
def insP (p : KV) : List KV → List KV
  | [] => [p]
  | q :: r => bif leK p q then p :: q :: r else q :: insP p r
def isortP : List KV → List KV
  | [] => []
  | p :: r => insP p (isortP r)
theorem insP_perm (p : KV) : ∀ l, (insP p l).Perm (p :: l)
 | [] => List.Perm.refl _
 | q :: r => by
  unfold insP
  cases leK p q with
  | true => exact List.Perm.refl _
  | false => exact ((insP_perm p r).cons q).trans (List.Perm.swap p q r)
theorem isortP_perm : ∀ l, (isortP l).Perm l
 | [] => List.Perm.refl _
 | p :: r => (insP_perm p _).trans ((isortP_perm r).cons p)
theorem leK_iff {p q : KV} : leK p q = true ↔ Lib.compareBytes p.1 q.1 ≤ 0 := by
 have := cb_anti p.1 q.1
 simp only [leK, Bool.not_eq_true', decide_eq_false_iff_not]
 omega
theorem leK_trans {a b c : KV} (h1 : leK a b = true) (h2 : leK b c = true) : leK a c = true := leK_iff.2 (cb_trans _ _ _ (leK_iff.1 h1) (leK_iff.1 h2)).1
theorem leK_total (a b : KV) : leK a b = true ∨ leK b a = true := by
 rw [leK_iff, leK_iff]
 have := cb_anti a.1 b.1
 omega
theorem insP_sorted (x : KV) : ∀ l, l.Pairwise (fun a b => leK a b = true) → (insP x l).Pairwise (fun a b => leK a b = true)
 | [], _ => by simp [insP]
 | y :: r, h => by
  obtain ⟨h1, h2⟩ := List.pairwise_cons.1 h
  unfold insP
  cases hxy : leK x y with
  | true => exact List.pairwise_cons.2 ⟨fun z hz => by
    rcases List.mem_cons.1 hz with rfl | hz
    ·exact hxy
    ·exact leK_trans hxy (h1 z hz), h⟩
  | false =>
   refine List.pairwise_cons.2 ⟨fun z hz => ?_, insP_sorted x r h2⟩
   rcases List.mem_cons.1 ((insP_perm x r).mem_iff.1 hz) with rfl | hz
   ·exact (leK_total z y).resolve_left (by simp [hxy])
   ·exact h1 z hz
theorem isortP_sorted : ∀ l, (isortP l).Pairwise (fun a b => leK a b = true)
 | [] => List.Pairwise.nil
 | x :: r => insP_sorted x _ (isortP_sorted r)
theorem nodup_key : ∀ {l : List KV} {p q : KV}, (l.map (·.1)).Nodup → p ∈ l → q ∈ l → p.1 = q.1 → p = q
 | x :: r, p, q, h, hp, hq, e => by
  rw [List.map_cons, List.nodup_cons] at h
  rcases List.mem_cons.1 hp with hp | hp <;> rcases List.mem_cons.1 hq with hq | hq
  ·rw [hp, hq]
  ·have : x.1 ∈ r.map (·.1) := by rw [← hp, e]; exact List.mem_map_of_mem hq
   exact absurd this h.1
  ·have : x.1 ∈ r.map (·.1) := by rw [← hq, ← e]; exact List.mem_map_of_mem hp
   exact absurd this h.1
  ·exact nodup_key h.2 hp hq e
theorem sorted_one {l m : List KV} (hn : (m.map (·.1)).Nodup) (hp : l.Perm m) (hl : l.Pairwise (fun a b => leK a b = true)) : l = isortP m := by
 refine List.Perm.eq_of_pairwise (le := fun a b => leK a b = true) (fun a b ha hb h1 h2 => ?_) hl (isortP_sorted m) (hp.trans (isortP_perm m).symm)
 have ia := hp.mem_iff.1 ha
 have ib := (isortP_perm m).mem_iff.1 hb
 have e1 := leK_iff.1 h1
 have e2 := leK_iff.1 h2
 have e3 := cb_anti a.1 b.1
 exact nodup_key hn ia ib (cb_eq _ _ (by omega))
theorem ins_map (keys : List (List UInt8)) (f : Int → KV) (hf : ∀ i, (f i).1 = keys.getD i.toNat []) (x : Int) : ∀ l, (ins (keyLe keys) x l).map f = insP (f x) (l.map f)
 | [] => rfl
 | y :: r => by
  have e : leK (f x) (f y) = keyLe keys x y := by unfold leK keyLe; rw [hf, hf]
  unfold ins
  rw [List.map_cons, insP, e]
  cases keyLe keys x y with
  | true => rfl
  | false => rw [cF, cF, List.map_cons, ins_map keys f hf x r]
theorem isort_map (keys : List (List UInt8)) (f : Int → KV) (hf : ∀ i, (f i).1 = keys.getD i.toNat []) : ∀ l, (isort (keyLe keys) l).map f = isortP (l.map f)
 | [] => rfl
 | x :: r => by
  unfold isort
  rw [ins_map keys f hf, isort_map keys f hf r, List.map_cons, isortP]
mutual
def sortV : TD0 → TD0
  | ⟨k, b, n, t, l, ks⟩ => bif decide (k = 5) then ⟨k, b, n, t, (isortP (ks.zip (sortVs l))).map (·.2), (isortP (ks.zip (sortVs l))).map (·.1)⟩ else ⟨k, b, n, t, sortVs l, []⟩
def sortVs : List TD0 → List TD0
  | [] => []
  | x :: r => sortV x :: sortVs r
end
theorem sortVs_map : ∀ l, sortVs l = l.map sortV
 | [] => rfl
 | x :: r => by rw [sortVs, sortVs_map r, List.map_cons]
def pairsV (v : TD0) : List KV := isortP (v.fKeys.zip (v.fList.map sortV))
theorem sortV_5 {v : TD0} (h : v.fKind = 5) : sortV v = ⟨v.fKind, v.fBool, v.fNum, v.fText, (pairsV v).map (·.2), (pairsV v).map (·.1)⟩ := by
 cases v with
 | mk k b n t l ks =>
  dsimp only at h
  rw [sortV, sortVs_map, decide_eq_true h, cT]
  rfl
theorem sortV_n {v : TD0} (h : v.fKind ≠ 5) : sortV v = ⟨v.fKind, v.fBool, v.fNum, v.fText, v.fList.map sortV, []⟩ := by
 cases v with
 | mk k b n t l ks =>
  dsimp only at h
  rw [sortV, sortVs_map, decide_eq_false h, cF]
def OkV (v : TD0) : Prop := faultL (walkV v) = 0
theorem faultL_zero : ∀ {l : List TD0}, faultL l = 0 ↔ ∀ x ∈ l, aloneV x = 0
 | [] => by simp [faultL]
 | x :: r => by
  rw [faultL]
  by_cases h : aloneV x = 0
  ·rw [if_pos h, faultL_zero (l := r)]
   simp [h]
  ·rw [if_neg h]
   constructor
   ·intro e; exact absurd e h
   ·intro e; exact absurd (e x List.mem_cons_self) h
theorem mem_walkVs {x : TD0} : ∀ {l : List TD0}, x ∈ walkVs l ↔ ∃ y ∈ l, x ∈ walkV y
 | [] => by simp [walkVs]
 | y :: r => by
  rw [walkVs, List.mem_append, mem_walkVs (l := r)]
  simp
theorem OkV_iff {v : TD0} : OkV v ↔ aloneV v = 0 ∧ ∀ x ∈ v.fList, OkV x := by
 unfold OkV
 rw [faultL_zero, walkV_eq]
 constructor
 ·intro h
  refine ⟨h v List.mem_cons_self, fun x hx => ?_⟩
  rw [faultL_zero]
  intro y hy
  exact h y (List.mem_cons_of_mem _ (mem_walkVs.2 ⟨x, hx, hy⟩))
 ·rintro ⟨h1, h2⟩ x hx
  rcases List.mem_cons.1 hx with rfl | hx
  ·exact h1
  ·obtain ⟨y, hy, hxy⟩ := mem_walkVs.1 hx
   exact faultL_zero.1 (h2 y hy) x hxy
theorem checkV_ok {v : TD0} (h : checkV v = 0) : OkV v ∧ depthV v ≤ 24 ∧ (walkV v).length ≤ 4096 := by
 unfold checkV at h
 by_cases h1 : 24 < depthV v
 ·rw [if_pos h1] at h; omega
 ·rw [if_neg h1] at h
  by_cases h2 : faultL (walkV v) = 0
  ·rw [if_pos h2] at h
   by_cases h3 : 4096 < (walkV v).length
   ·rw [if_pos h3] at h; omega
   ·exact ⟨h2, by omega, by omega⟩
  ·rw [if_neg h2] at h; exact absurd h h2
def upto (n : Nat) : List Int := (List.range n).map Int.ofNat
theorem upto_succ (q : Nat) : upto (q + 1) = upto q ++ [(q : Int)] := by unfold upto; rw [List.range_succ, List.map_append]; rfl
theorem upto_len (q : Nat) : (upto q).length = q := by simp [upto]
theorem order_run {n : Nat} (hn : 6000 < n) {v : TD0} (hw : v.fKeys.length ≤ 3000) (hd : v.fKeys.Nodup) : tree_order n v = some (isort (keyLe v.fKeys) (upto v.fKeys.length)) := by
 unfold tree_order
 rw [need_t ⟨by omega, by omega, by omega⟩]
 have := loop_all (step := tree_order_s1 n v) (n := n) (fun q => (upto q ++ List.replicate (v.fKeys.length - q) (0 : Int), (q : Int))) v.fKeys.length (upto v.fKeys.length) (fun q hq => by
  unfold tree_order_s1
  dsimp only
  have hll : (List.replicate ((v.fKeys.length : Nat) : Int).toNat (0 : Int)).length = v.fKeys.length := by simp
  have hg : getI (upto q ++ List.replicate (v.fKeys.length - q) (0 : Int)) (q : Int) = some 0 := by
   rw [getI_at (k := q) 0 (by simp [upto_len]; omega)]
   rw [List.getD_eq_getElem?_getD, List.getElem?_append_right (by rw [upto_len]; omega), upto_len]
   simp [(by omega : 0 < v.fKeys.length - q)]
  rw [hll, decide_eq_true (by omega), cT, hg, bnd, need_i (by omega) (by omega)]
  congr 3
  have e : v.fKeys.length - q = (v.fKeys.length - (q + 1)) + 1 := by omega
  rw [Int.toNat_natCast, e, List.replicate_succ, List.set_append_right _ _ (by rw [upto_len]; omega), upto_len, Nat.sub_self, List.set_cons_zero, upto_succ, List.append_assoc]
  rfl) (by
  unfold tree_order_s1
  dsimp only
  have hll : (List.replicate ((v.fKeys.length : Nat) : Int).toNat (0 : Int)).length = v.fKeys.length := by simp
  rw [hll, decide_eq_false (by omega), cF, Nat.sub_self, List.replicate_zero, List.append_nil]) (by omega)
 have e0 : ((0 : Nat) : Int) = 0 := rfl
 have e1 : upto 0 = [] := rfl
 simp only [e1, e0, Nat.sub_zero, List.nil_append] at this
 rw [Int.toNat_natCast, this, bnd]
 unfold h_sortKeys
 rw [need_t, need_t (by rw [upto_len]; omega), bnd]
 refine ⟨hd, fun i hi => ?_⟩
 simp only [upto, List.mem_map, List.mem_range] at hi
 obtain ⟨j, hj, rfl⟩ := hi
 have : Int.ofNat j = (j : Int) := rfl
 omega
theorem map_take_succ {α β : Type} (f : α → β) {l : List α} {i : Nat} {x : α} (h : l[i]? = some x) : (l.take (i + 1)).map f = (l.take i).map f ++ [f x] := by
 rw [List.take_add_one, h]
 simp
theorem zip_upto (ks : List (List UInt8)) (l : List TD0) (hl : ks.length = l.length) (g : TD0 → TD0) (z : TD0) : (upto ks.length).map (fun i => (ks.getD i.toNat [], g (l.getD i.toNat z))) = ks.zip (l.map g) := by
 apply List.ext_getElem
 ·simp [upto, hl]
 ·intro i h1 h2
  simp [upto_len] at h1
  have h3 : i < l.length := by omega
  simp [upto, List.getD, h1, h3]
theorem sorted_run {n : Nat} (hn : 6000 < n) : ∀ (k d : Nat) (v : TD0), d ≤ k → Small d v → OkV v → tree_sorted_k n k v = some (sortV v)
 | _, 0, v, _, h, _ => h.elim
 | 0, d + 1, v, h, _, _ => absurd h (by omega)
 | k + 1, d + 1, v, hk, hs, hok => by
  obtain ⟨h1, h2, h3, h4, h5⟩ := hs
  obtain ⟨ha, hl⟩ := OkV_iff.1 hok
  obtain ⟨hp, _, _, hnd⟩ := alone_ok ha
  show tree_sorted_b n (tree_sorted_k n k) v = _
  unfold tree_sorted_b
  have ih : ∀ x ∈ v.fList, tree_sorted_k n k x = some (sortV x) := fun x hx => sorted_run hn k d x (by omega) (h5 x hx) (hl x hx)
  by_cases hkind : v.fKind = 5
  ·have hkl : v.fKeys.length = v.fList.length := hp.2.2.2.2.2.2.1 hkind
   rw [decide_eq_true hkind, cT, order_run hn h2 hnd, bnd]
   obtain ⟨idx, hidx⟩ : ∃ idx, idx = isort (keyLe v.fKeys) (upto v.fKeys.length) := ⟨_, rfl⟩
   rw [← hidx]
   have hperm : idx.Perm (upto v.fKeys.length) := hidx ▸ isort_perm _ _
   have hlen : idx.length = v.fKeys.length := by rw [hperm.length_eq, upto_len]
   have hin : ∀ i ∈ idx, ∃ j : Nat, i = (j : Int) ∧ j < v.fKeys.length := fun i hi => by
    have := hperm.mem_iff.1 hi
    simp only [upto, List.mem_map, List.mem_range] at this
    obtain ⟨j, hj, rfl⟩ := this
    exact ⟨j, rfl, hj⟩
   obtain ⟨f, hf⟩ : ∃ f : Int → KV, f = fun i => (v.fKeys.getD i.toNat [], sortV (v.fList.getD i.toNat v)) := ⟨_, rfl⟩
   have := loop_all (step := tree_sorted_s1 n (tree_sorted_k n k) v idx) (n := n) (fun q => ((q : Int), ((idx.take q).map f).map (·.2), ((idx.take q).map f).map (·.1))) idx.length ((idx.map f).map (·.2), (idx.map f).map (·.1)) (fun q hq => by
    have hx : idx[q]? = some idx[q] := List.getElem?_eq_getElem hq
    obtain ⟨j, hj, hjl⟩ := hin _ (List.getElem_mem hq)
    rw [hj] at hx
    have hg : getI idx (q : Int) = some (j : Int) := by simp [getI, hx]
    have hgk : getI v.fKeys (j : Int) = some (f j).1 := by rw [getI_at [] hjl, hf]; rfl
    have hgl : getI v.fList (j : Int) = some (v.fList.getD j v) := getI_at v (by omega)
    have hm : v.fList.getD j v ∈ v.fList := by simp [List.getD, (by omega : j < v.fList.length)]
    have ef : sortV (v.fList.getD j v) = (f j).2 := by rw [hf]; rfl
    unfold tree_sorted_s1
    dsimp only
    have ev : ∀ x : TD0, (⟨x.fKind, (x.fBool), x.fNum, x.fText, x.fList, x.fKeys⟩ : TD0) = x := fun x => by cases x; rfl
    have hlq : ((idx.take q).map f).length ≤ 3000 := by simp; omega
    rw [decide_eq_true (by omega), cT, hg, bnd, hgk, bnd, need_t (by rw [List.length_map]; omega), bnd, hgl, bnd, ih _ hm, bnd, need_t (by rw [List.length_map]; omega), bnd, need_i (by omega) (by omega), ev, ef, map_take_succ f hx, List.map_append, List.map_append]
    rfl) (by
    unfold tree_sorted_s1
    dsimp only
    rw [decide_eq_false (by omega), cF, List.take_length]) (by omega)
   have e0 : ((0 : Nat) : Int) = 0 := rfl
   simp only [List.take_zero, List.map_nil, e0] at this
   rw [this, bnd, sortV_5 hkind]
   have e : idx.map f = pairsV v := by
    rw [hidx, isort_map v.fKeys f (fun i => by rw [hf]), hf]
    unfold pairsV
    rw [zip_upto v.fKeys v.fList hkl sortV v]
   rw [e]
  ·rw [decide_eq_false hkind, cF]
   have := loop_all (step := tree_sorted_s2 n (tree_sorted_k n k) v) (n := n) (fun q => ((q : Int), (v.fList.take q).map sortV)) v.fList.length (v.fList.map sortV) (fun q hq => by
    have hx : v.fList[q]? = some v.fList[q] := List.getElem?_eq_getElem hq
    have hg : getI v.fList (q : Int) = some v.fList[q] := by simp [getI]
    unfold tree_sorted_s2
    dsimp only
    have ev : ∀ x : TD0, (⟨x.fKind, (x.fBool), x.fNum, x.fText, x.fList, x.fKeys⟩ : TD0) = x := fun x => by cases x; rfl
    rw [decide_eq_true (by omega), cT, hg, bnd, ih _ (List.getElem_mem hq), bnd, need_t (by simp; omega), bnd, need_i (by omega) (by omega), ev, map_take_succ sortV hx]
    rfl) (by
    unfold tree_sorted_s2
    dsimp only
    rw [decide_eq_false (by omega), cF, List.take_length]) (by omega)
   have e0 : ((0 : Nat) : Int) = 0 := rfl
   simp only [List.take_zero, List.map_nil, e0] at this
   rw [this, bnd, sortV_n hkind]
end Go.Proofs.YtalifkcchfkgmaaGreatDoor
end
section
namespace Go.Proofs.YtalifkcchfkgmaaGreatDoor
open Go Go.Vc Go.RowKit
theorem pairs_perm (v : TD0) : (pairsV v).Perm (v.fKeys.zip (v.fList.map sortV)) := isortP_perm _
theorem pairs_snd {v : TD0} (h : v.fKeys.length = v.fList.length) : ((pairsV v).map (·.2)).Perm (v.fList.map sortV) := by
 have := (pairs_perm v).map (·.2)
 rwa [List.map_snd_zip (by simp [h])] at this
theorem pairs_fst {v : TD0} (h : v.fKeys.length = v.fList.length) : ((pairsV v).map (·.1)).Perm v.fKeys := by
 have := (pairs_perm v).map (·.1)
 rwa [List.map_fst_zip (by simp [h])] at this
theorem plain_len {v : TD0} (h : PlainV v) (hk : v.fKind = 5) : v.fKeys.length = v.fList.length := h.2.2.2.2.2.2.1 hk
theorem sort_perm {v : TD0} (h : PlainV v) : (sortV v).fList.Perm (v.fList.map sortV) := by
 by_cases hk : v.fKind = 5
 ·rw [sortV_5 hk]; exact pairs_snd (plain_len h hk)
 ·rw [sortV_n hk]
theorem sort_keys {v : TD0} (h : PlainV v) : (sortV v).fKeys.Perm v.fKeys := by
 by_cases hk : v.fKind = 5
 ·rw [sortV_5 hk]; exact pairs_fst (plain_len h hk)
 ·rw [sortV_n hk]
  have := h.2.2.2.2.2.2.2 hk
  have e : v.fKeys = [] := by simpa using this
  rw [e]
theorem sort_kind (v : TD0) : (sortV v).fKind = v.fKind := by
 by_cases hk : v.fKind = 5
 ·rw [sortV_5 hk]
 ·rw [sortV_n hk]
theorem sort_bool (v : TD0) : (sortV v).fBool = v.fBool := by
 by_cases hk : v.fKind = 5
 ·rw [sortV_5 hk]
 ·rw [sortV_n hk]
theorem sort_num (v : TD0) : (sortV v).fNum = v.fNum := by
 by_cases hk : v.fKind = 5
 ·rw [sortV_5 hk]
 ·rw [sortV_n hk]
theorem sort_text (v : TD0) : (sortV v).fText = v.fText := by
 by_cases hk : v.fKind = 5
 ·rw [sortV_5 hk]
 ·rw [sortV_n hk]
theorem OkV.plain {v : TD0} (h : OkV v) : PlainV v := (alone_ok (OkV_iff.1 h).1).1
theorem OkV.part {v x : TD0} (h : OkV v) (hx : x ∈ v.fList) : OkV x := (OkV_iff.1 h).2 x hx
theorem sort_small : ∀ {d : Nat} {v : TD0}, Small d v → OkV v → Small d (sortV v)
 | d + 1, v, h, hok => by
  have hp := hok.plain
  have h1 := sort_perm hp
  have h2 := sort_keys hp
  refine ⟨by rw [h1.length_eq, List.length_map]; exact h.1, by rw [h2.length_eq]; exact h.2.1, by rw [sort_text]; exact h.2.2.1, fun k hk => h.2.2.2.1 k (h2.mem_iff.1 hk), fun x hx => ?_⟩
  obtain ⟨y, hy, rfl⟩ := List.mem_map.1 (h1.mem_iff.1 hx)
  exact sort_small (h.2.2.2.2 y hy) (hok.part hy)
theorem sort_ok : ∀ (m : Nat) {v : TD0}, SizeOf.sizeOf v < m → OkV v → OkV (sortV v)
 | 0, v, hm, _ => absurd hm (by omega)
 | m + 1, v, hm, hok => by
  have hp := hok.plain
  obtain ⟨_, hn, ht, hd⟩ := alone_ok (OkV_iff.1 hok).1
  have h1 := sort_perm hp
  have h2 := sort_keys hp
  rw [OkV_iff]
  constructor
  ·refine alone_0 ?_ ?_ ?_ ?_
   ·obtain ⟨a, b, c, d, e, f, g, i⟩ := hp
    refine ⟨by rw [sort_kind]; exact a, by rw [sort_kind]; exact b, by rw [sort_kind, sort_bool]; exact c, by rw [sort_kind, sort_num]; exact d, by rw [sort_kind, sort_text]; exact e, ?_, ?_, ?_⟩
    ·rw [sort_kind, h1.length_eq, List.length_map]; exact f
    ·rw [sort_kind, h1.length_eq, List.length_map, h2.length_eq]; exact g
    ·rw [sort_kind, h2.length_eq]; exact i
   ·unfold NumOut; rw [sort_num]; exact hn
   ·unfold TextsOk; rw [sort_text]; exact ⟨ht.1, fun k hk => ht.2 k (h2.mem_iff.1 hk)⟩
   ·exact h2.nodup_iff.2 hd
  ·intro x hx
   obtain ⟨y, hy, rfl⟩ := List.mem_map.1 (h1.mem_iff.1 hx)
   exact sort_ok m (by have := part_small hy; omega) (hok.part hy)
theorem OkV.sort {v : TD0} (h : OkV v) : OkV (sortV v) := sort_ok _ (Nat.lt_succ_self _) h
def lenW (l : List TD0) : List Nat := l.map fun x => (walkV x).length
theorem walkVs_sum : ∀ l : List TD0, (walkVs l).length = (lenW l).sum
 | [] => rfl
 | x :: r => by rw [walkVs, List.length_append, walkVs_sum r]; rfl
theorem sort_count : ∀ (m : Nat) {v : TD0}, SizeOf.sizeOf v < m → OkV v → (walkV (sortV v)).length = (walkV v).length
 | 0, v, hm, _ => absurd hm (by omega)
 | m + 1, v, hm, hok => by
  rw [walkV_eq, walkV_eq v, List.length_cons, List.length_cons, walkVs_sum, walkVs_sum]
  have h1 := (sort_perm hok.plain).map fun x => (walkV x).length
  have e : (lenW (sortV v).fList).sum = (lenW (v.fList.map sortV)).sum := h1.sum_nat
  rw [e]
  unfold lenW
  rw [List.map_map]
  congr 2
  refine List.map_congr_left fun x hx => ?_
  exact sort_count m (by have := part_small hx; omega) (hok.part hx)
theorem Fine.sort {v : TD0} (h : Fine v) (hok : OkV v) : Fine (sortV v) := ⟨sort_small h.small hok, by rw [sort_count _ (Nat.lt_succ_self _) hok]; exact h.few⟩
theorem cmpC_run {n : Nat} (a b : Int) : cmp_Compare n a b = some (cmpI a b) := by
 unfold cmp_Compare cmp_isNaN cmpI
 rw [bnd, bnd, cF, cF]
 by_cases h : a < b
 ·rw [decide_eq_true h, cT, cT]
 ·rw [decide_eq_false h, cF, cF]
  by_cases h2 : b < a
  ·rw [decide_eq_true h2, cT, cT]
  ·rw [decide_eq_false h2, cF, cF]
theorem cmpC2_run {n : Nat} (a b : Int) : cmp_Compare_2 n a b = some (cmpI a b) := by
 unfold cmp_Compare_2 cmp_isNaN_2 cmpI
 rw [bnd, bnd, cF, cF]
 by_cases h : a < b
 ·rw [decide_eq_true h, cT, cT]
 ·rw [decide_eq_false h, cF, cF]
  by_cases h2 : b < a
  ·rw [decide_eq_true h2, cT, cT]
  ·rw [decide_eq_false h2, cF, cF]
theorem bit_run {n : Nat} (a : Bool) : tree_bit n a = some (bitI a) := by unfold tree_bit bitI; cases a <;> rfl
theorem or_run {n : Nat} (hn : 6000 < n) (a b c d : Int) : cmp_Or n [a, b, c, d] = some (thenC a (thenC b (thenC c d))) := by
 obtain ⟨m, rfl⟩ : ∃ m, n = m + 5 := ⟨n - 5, by omega⟩
 have st : ∀ (x : Int) (i : Nat), [a, b, c, d][i]? = some x → cmp_Or_s1 (m + 5) [a, b, c, d] (i : Int) = bif decide (x = 0) then some (.nx ((i : Int) + 1)) else some (.br (.inl x)) := fun x i hx => by
  have hi : i < 4 := by
   have := (List.getElem?_eq_some_iff.1 hx).1
   simpa using this
  unfold cmp_Or_s1
  have hg : getI [a, b, c, d] (i : Int) = some x := by simp [getI, hx]
  rw [decide_eq_true (by simp; omega), cT, hg, bnd]
  by_cases h : x = 0
  ·rw [decide_eq_true h, Bool.not_true, cF, cT, need_i (by omega) (by omega)]
  ·rw [decide_eq_false h, Bool.not_false, cT, cF]
 have s0 := st a 0 rfl
 have s1 := st b 1 rfl
 have s2 := st c 2 rfl
 have s3 := st d 3 rfl
 have e0 : ((0 : Nat) : Int) = 0 := rfl
 have e1 : ((0 : Nat) : Int) + 1 = ((1 : Nat) : Int) := rfl
 have e2 : ((1 : Nat) : Int) + 1 = ((2 : Nat) : Int) := rfl
 have e3 : ((2 : Nat) : Int) + 1 = ((3 : Nat) : Int) := rfl
 have e4 : ((3 : Nat) : Int) + 1 = 4 := rfl
 rw [e1] at s0
 rw [e2] at s1
 rw [e3] at s2
 rw [e4] at s3
 have s4 : cmp_Or_s1 (m + 5) [a, b, c, d] 4 = some (.br (.inr ())) := by
  unfold cmp_Or_s1
  rw [decide_eq_false (by simp), cF]
 unfold cmp_Or
 rw [← e0]
 unfold loopF
 rw [s0]
 by_cases ha : a = 0
 ·rw [decide_eq_true ha, cT, bnd, ha, thenC0]
  dsimp only
  unfold loopF
  rw [← ha, s1]
  by_cases hb : b = 0
  ·rw [decide_eq_true hb, cT, bnd]
   have : thenC b (thenC c d) = thenC c d := by rw [hb, thenC0]
   rw [this]
   dsimp only
   unfold loopF
   rw [s2]
   by_cases hc : c = 0
   ·rw [decide_eq_true hc, cT, bnd]
    have : thenC c d = d := by rw [hc, thenC0]
    rw [this]
    dsimp only
    unfold loopF
    rw [s3]
    by_cases hd : d = 0
    ·rw [decide_eq_true hd, cT, bnd]
     dsimp only
     unfold loopF
     rw [s4, bnd]
     dsimp only
     rw [bnd, hd]
     rfl
    ·rw [decide_eq_false hd, cF, bnd]
     dsimp only
     rw [bnd]
   ·rw [decide_eq_false hc, cF, bnd, thenCn d hc]
    dsimp only
    rw [bnd]
  ·rw [decide_eq_false hb, cF, bnd, thenCn _ hb]
   dsimp only
   rw [bnd]
 ·rw [decide_eq_false ha, cF, bnd, thenCn _ ha]
  dsimp only
  rw [bnd]
theorem cmpVs_drop (o : Bool) {l : List TD0} {ks : List (List UInt8)} {m : List TD0} {js : List (List UInt8)} {q : Nat} (h1 : q < l.length) (h2 : q < m.length) :
  cmpVs o (l.drop q) (ks.drop q) (m.drop q) (js.drop q) = thenC (bif o then Lib.compareBytes (ks.getD q []) (js.getD q []) else 0) (thenC (cmpV l[q] m[q]) (cmpVs o (l.drop (q + 1)) (ks.drop (q + 1)) (m.drop (q + 1)) (js.drop (q + 1)))) := by
 have hh : ∀ ks : List (List UInt8), (ks.drop q).headD [] = ks.getD q [] := fun ks => by
  rw [List.headD_eq_head?_getD, List.head?_drop, List.getD_eq_getElem?_getD]
 rw [List.drop_eq_getElem_cons h1, List.drop_eq_getElem_cons h2, cmpVs, hh, hh, List.tail_drop, List.tail_drop]
theorem cmpVs_end (o : Bool) {l : List TD0} {ks : List (List UInt8)} {m : List TD0} {js : List (List UInt8)} {q : Nat} (h : q = min l.length m.length) :
  cmpVs o (l.drop q) (ks.drop q) (m.drop q) (js.drop q) = cmpI (l.length : Int) (m.length : Int) := by
 rcases Nat.lt_trichotomy l.length m.length with hl | hl | hl
 ·rw [List.drop_of_length_le (l := l) (by omega), List.drop_eq_getElem_cons (l := m) (by omega : q < m.length), cmpVs]
  have := cmpI_cases (l.length : Int) (m.length : Int)
  omega
 ·rw [List.drop_of_length_le (l := l) (by omega), List.drop_of_length_le (l := m) (by omega), cmpVs]
  have := cmpI_cases (l.length : Int) (m.length : Int)
  omega
 ·rw [List.drop_of_length_le (l := m) (by omega), List.drop_eq_getElem_cons (l := l) (by omega : q < l.length), cmpVs]
  have := cmpI_cases (l.length : Int) (m.length : Int)
  omega
theorem compare_loop {n : Nat} (hn : 6000 < n) (rec : TD0 → TD0 → Option Int) (v w : TD0) (hv : v.fList.length ≤ 3000) (hk : v.fKind = 5 → v.fKeys.length = v.fList.length ∧ w.fKeys.length = w.fList.length) (hr : ∀ x ∈ v.fList, ∀ y ∈ w.fList, rec x y = some (cmpV x y)) :
  ∃ b, loopF (tree_compare_s1 n rec v w) n (0 : Int) = some b ∧ (match b with | .inl c => c ≠ 0 ∧ cmpVs (decide (v.fKind = 5)) v.fList v.fKeys w.fList w.fKeys = c | .inr _ => cmpVs (decide (v.fKind = 5)) v.fList v.fKeys w.fList w.fKeys = cmpI (v.fList.length : Int) (w.fList.length : Int)) := by
 refine loop_inv (step := tree_compare_s1 n rec v w) (n := n) (fun q s => s = (q : Int) ∧ cmpVs (decide (v.fKind = 5)) v.fList v.fKeys w.fList w.fKeys = cmpVs (decide (v.fKind = 5)) (v.fList.drop q) (v.fKeys.drop q) (w.fList.drop q) (w.fKeys.drop q)) _ (min v.fList.length w.fList.length) ⟨rfl, by simp only [List.drop_zero]⟩ (fun q s hq hI => ?_) (fun s hI => ?_) (by omega)
 ·obtain ⟨rfl, hI⟩ := hI
  have h1 : q < v.fList.length := by omega
  have h2 : q < w.fList.length := by omega
  rw [cmpVs_drop _ h1 h2] at hI
  have hg1 : getI v.fList (q : Int) = some v.fList[q] := by simp [getI]
  have hg2 : getI w.fList (q : Int) = some w.fList[q] := by simp [getI]
  have tail : ∀ (h0 : cmpVs (decide (v.fKind = 5)) v.fList v.fKeys w.fList w.fKeys = thenC (cmpV v.fList[q] w.fList[q]) (cmpVs (decide (v.fKind = 5)) (v.fList.drop (q + 1)) (v.fKeys.drop (q + 1)) (w.fList.drop (q + 1)) (w.fKeys.drop (q + 1)))) (t : Option (Lp Int (Sum Int Unit))), t = ((getI v.fList (q : Int)).bind fun x_10 =>
   (getI w.fList (q : Int)).bind fun x_11 =>
   (rec x_10 x_11).bind fun x_12 =>
   bif (!(decide (x_12 = 0))) then
    (some (.br (.inl x_12)))
   else
    need (inR .i64 ((q : Int) + 1)) <|
    some (.nx ((q : Int) + 1))) → (∃ s', t = some (.nx s') ∧ (s' = ((q + 1 : Nat) : Int) ∧ cmpVs (decide (v.fKind = 5)) v.fList v.fKeys w.fList w.fKeys = cmpVs (decide (v.fKind = 5)) (v.fList.drop (q + 1)) (v.fKeys.drop (q + 1)) (w.fList.drop (q + 1)) (w.fKeys.drop (q + 1)))) ∨ ∃ b, t = some (.br b) ∧ (match b with | .inl c => c ≠ 0 ∧ cmpVs (decide (v.fKind = 5)) v.fList v.fKeys w.fList w.fKeys = c | .inr _ => cmpVs (decide (v.fKind = 5)) v.fList v.fKeys w.fList w.fKeys = cmpI (v.fList.length : Int) (w.fList.length : Int)) := by
   intro h0 t ht
   rw [hg1, bnd, hg2, bnd, hr _ (List.getElem_mem h1) _ (List.getElem_mem h2), bnd] at ht
   by_cases hc : cmpV v.fList[q] w.fList[q] = 0
   ·rw [decide_eq_true hc, Bool.not_true, cF, need_i (by omega) (by omega)] at ht
    rw [hc, thenC0] at h0
    exact .inl ⟨_, ht, by omega, h0⟩
   ·rw [decide_eq_false hc, Bool.not_false, cT] at ht
    rw [thenCn _ hc] at h0
    exact .inr ⟨_, ht, hc, h0⟩
  unfold tree_compare_s1
  rw [decide_eq_true (by omega), cT]
  by_cases hkind : v.fKind = 5
  ·obtain ⟨k1, k2⟩ := hk hkind
   rw [decide_eq_true hkind, cT] at hI
   rw [decide_eq_true hkind, cT, getI_at [] (by omega), bnd, getI_at [] (by omega), bnd]
   unfold h_Compare
   rw [bnd]
   by_cases hc : Lib.compareBytes (v.fKeys.getD q []) (w.fKeys.getD q []) = 0
   ·rw [decide_eq_true hc, Bool.not_true, cF, bnd, jN]
    rw [hc, thenC0] at hI
    have := tail (by rw [decide_eq_true hkind]; exact hI) _ rfl
    rw [decide_eq_true hkind] at this
    exact this
   ·rw [decide_eq_false hc, Bool.not_false, cT, mpS, bnd, jB]
    rw [thenCn _ hc] at hI
    exact .inr ⟨_, rfl, hc, hI⟩
  ·rw [decide_eq_false hkind, cF] at hI
   rw [decide_eq_false hkind, cF, bnd, jN]
   rw [thenC0] at hI
   have := tail (by rw [decide_eq_false hkind]; exact hI) _ rfl
   rw [decide_eq_false hkind] at this
   exact this
 ·obtain ⟨rfl, hI⟩ := hI
  unfold tree_compare_s1
  rw [decide_eq_false (by omega), cF]
  refine ⟨_, rfl, ?_⟩
  dsimp only
  rw [hI, cmpVs_end _ rfl]
theorem bit_cmp (a b : Bool) : bitI a - bitI b = cmpI (bitI a) (bitI b) := by cases a <;> cases b <;> rfl
theorem compare_b {n : Nat} (hn : 6000 < n) (rec : TD0 → TD0 → Option Int) (v w : TD0) (hv : v.fList.length ≤ 3000) (hok : OkV v) (how : OkV w) (hr : ∀ x ∈ v.fList, ∀ y ∈ w.fList, rec x y = some (cmpV x y)) : tree_compare_b n rec v w = some (cmpV v w) := by
 unfold tree_compare_b h_Compare
 rw [cmpC_run, bnd, bit_run, bnd, bit_run, bnd, bit_cmp, need_i (by have := cmpI_range (bitI v.fBool) (bitI w.fBool); omega) (by have := cmpI_range (bitI v.fBool) (bitI w.fBool); omega), cmpC2_run, bnd, bnd, or_run hn, bnd, cmpV_eq]
 generalize hA : cmpI v.fKind w.fKind = A
 generalize hB : cmpI (bitI v.fBool) (bitI w.fBool) = B
 generalize hC : cmpI v.fNum w.fNum = C
 generalize hD : Lib.compareBytes v.fText w.fText = D
 have assoc : ∀ E, thenC A (thenC B (thenC C (thenC D E))) = thenC (thenC A (thenC B (thenC C D))) E := fun E => by
  by_cases a : A = 0
  ·subst a
   rw [thenC0, thenC0]
   by_cases b : B = 0
   ·rw [b, thenC0, thenC0]
    by_cases c : C = 0
    ·rw [c, thenC0, thenC0]
    ·rw [thenCn _ c, thenCn D c, thenCn _ c]
   ·rw [thenCn _ b, thenCn _ b, thenCn _ b]
  ·rw [thenCn _ a, thenCn _ a, thenCn _ a]
 rw [assoc]
 by_cases hx : thenC A (thenC B (thenC C D)) = 0
 ·have ha := (thenC_zero hx).1
  rw [decide_eq_true hx, Bool.not_true, cF, hx, thenC0]
  have hkk : v.fKind = w.fKind := cmpI_zero (hA.trans ha)
  obtain ⟨b, hb, hp⟩ := compare_loop hn rec v w hv (fun hk => ⟨plain_len hok.plain hk, plain_len how.plain (by rw [← hkk]; exact hk)⟩) hr
  rw [hb, bnd]
  cases b with
  | inl c => dsimp only at hp ⊢; rw [hp.2]
  | inr u => dsimp only at hp ⊢; rw [cmpC2_run, bnd, hp]
 ·rw [decide_eq_false hx, Bool.not_false, cT, thenCn _ hx]
theorem compare_run {n : Nat} (hn : 6000 < n) : ∀ (k d : Nat) (v w : TD0), d ≤ k → Small d v → OkV v → OkV w → tree_compare_k n k v w = some (cmpV v w)
 | _, 0, v, _, _, h, _, _ => h.elim
 | 0, d + 1, v, _, h, _, _, _ => absurd h (by omega)
 | k + 1, d + 1, v, w, hk, hs, hok, how => compare_b hn _ v w hs.1 hok how fun x hx y hy => compare_run hn k d x y (by omega) (hs.2.2.2.2 x hx) (hok.part hx) (how.part hy)
end Go.Proofs.YtalifkcchfkgmaaGreatDoor
end
section
namespace Go.Proofs.YtalifkcchfkgmaaGreatDoor
open Go Go.Vc Go.RowKit
theorem great_fine {n : Nat} (hn : 6000 < n) (v : TD0) : ∃ g, ref03_Great n v = some g ∧ (g = false → Fine v ∧ Small 30 v ∧ (walkV v).length ≤ 5000) := by
 obtain ⟨g, h1, h2⟩ := great_ok (n := n) (by omega) v
 exact ⟨g, h1, fun h => ⟨⟨Small.le (by omega) (h2 h).1, by have := (h2 h).2; omega⟩, h2 h⟩⟩
def eqV (a b : TD0) : Bool := decide (checkV a = 0) && (decide (checkV b = 0) && decide (cmpV (sortV a) (sortV b) = 0))
theorem sortedT_run {n : Nat} (hn : 6000 < n) {v : TD0} (h : Fine v) (hok : OkV v) : tree_sorted n v = some (sortV v) := sorted_run hn n 60 v (by omega) h.small hok
theorem compareT_run {n : Nat} (hn : 6000 < n) {v w : TD0} (h : Fine v) (hok : OkV v) (how : OkV w) : tree_compare n v w = some (cmpV v w) := compare_run hn n 60 v w (by omega) h.small hok how
theorem compare2_run {n : Nat} (hn : 6000 < n) {v w : TD0} (h : Fine v) (hok : OkV v) (how : OkV w) : ∃ z, tree_compare_2 n v.fKind (v.fBool) v.fNum v.fText v.fList v.fKeys w.fKind (w.fBool) w.fNum w.fText w.fList w.fKeys = some z ∧ z.1 = cmpV v w := by
 have key : (tree_compare_2 n v.fKind (v.fBool) v.fNum v.fText v.fList v.fKeys w.fKind (w.fBool) w.fNum w.fText w.fList w.fKeys).map (·.1) = tree_compare_b n (tree_compare n) v w := by
  have hs : tree_compare_2_s1 n v.fKind v.fList v.fKeys w.fList w.fKeys = tree_compare_s1 n (tree_compare n) v w := rfl
  unfold tree_compare_2 tree_compare_b
  rw [hs, cmpC_run, bnd, bnd, bit_run, bnd, bnd, bit_run, bnd, bnd]
  unfold need
  split
  ·rw [cmpC2_run, bnd, bnd]
   unfold h_Compare
   rw [bnd, bnd, or_run hn, bnd, bnd]
   generalize thenC _ _ = x
   by_cases hx : x = 0
   ·rw [decide_eq_true hx, Bool.not_true, cF, cF]
    cases loopF (tree_compare_s1 n (tree_compare n) v w) n (0 : Int) with
    | none => rfl
    | some b =>
     rw [bnd, bnd]
     cases b with
     | inl c => rfl
     | inr u => dsimp only; rw [cmpC2_run, bnd, bnd]; rfl
   ·rw [decide_eq_false hx, Bool.not_false, cT, cT]; rfl
  ·rfl
 rw [compare_b hn (tree_compare n) v w h.wide.1 hok how (fun x hx y hy => compareT_run hn (h.part hx) (hok.part hx) (how.part hy))] at key
 obtain ⟨z, hz, e⟩ := Option.map_eq_some_iff.1 key
 exact ⟨z, hz, e⟩
theorem both_run {n : Nat} (hn : 6000 < n) {v w : TD0} (h : Fine v) (h' : Fine w) : tree_both n v w = some (if checkV v = 0 ∧ checkV w = 0 then (cmpV (sortV v) (sortV w), true) else (0, false)) := by
 unfold tree_both
 rw [check_run hn h, bnd]
 by_cases a : checkV v = 0
 ·rw [decide_eq_true a, Bool.not_true, cF, check_run hn h', bnd]
  by_cases b : checkV w = 0
  ·rw [decide_eq_true b, Bool.not_true, bnd, cF, if_pos ⟨a, b⟩]
   have oa := (checkV_ok a).1
   have ob := (checkV_ok b).1
   rw [sortedT_run hn h oa, bnd, sortedT_run hn h' ob, bnd]
   obtain ⟨z, hz, e⟩ := compare2_run hn (h.sort oa) oa.sort ob.sort
   rw [hz, bnd, e]
  ·rw [decide_eq_false b, Bool.not_false, bnd, cT, if_neg (fun x => b x.2)]
 ·rw [decide_eq_false a, Bool.not_false, cT, bnd, cT, if_neg (fun x => a x.1)]
theorem Equal_run {n : Nat} (hn : 6000 < n) {v w : TD0} (h : Fine v) (h' : Fine w) : tree_Equal n v w = some (eqV v w) := by
 unfold tree_Equal eqV
 rw [both_run hn h h', bnd]
 by_cases a : checkV v = 0
 ·by_cases b : checkV w = 0
  ·rw [if_pos ⟨a, b⟩, decide_eq_true a, decide_eq_true b]; rfl
  ·rw [if_neg (fun x => b x.2), decide_eq_true a, decide_eq_false b]; rfl
 ·rw [if_neg (fun x => a x.1), decide_eq_false a]; rfl
def placeV (key : List UInt8) : List (List UInt8) → Option Nat
  | [] => none
  | k :: r => if k = key then some 0 else (placeV key r).map (· + 1)
theorem place_some : ∀ {key : List UInt8} {l : List (List UInt8)} {i : Nat}, placeV key l = some i → l[i]? = some key ∧ ∀ j, j < i → l[j]? ≠ some key
 | key, k :: r, i, h => by
  rw [placeV] at h
  by_cases e : k = key
  ·rw [if_pos e] at h
   obtain rfl := Option.some.inj h
   exact ⟨by rw [e]; rfl, fun j hj => absurd hj (by omega)⟩
  ·rw [if_neg e] at h
   obtain ⟨j, hj, rfl⟩ := Option.map_eq_some_iff.1 h
   obtain ⟨h1, h2⟩ := place_some hj
   refine ⟨by simpa using h1, fun q hq => ?_⟩
   cases q with
   | zero => simpa using e
   | succ q => simpa using h2 q (by omega)
theorem place_none : ∀ {key : List UInt8} {l : List (List UInt8)}, placeV key l = none → key ∉ l
 | key, [], _ => by simp
 | key, k :: r, h => by
  rw [placeV] at h
  by_cases e : k = key
  ·rw [if_pos e] at h; cases h
  ·rw [if_neg e] at h
   have := place_none (Option.map_eq_none_iff.1 h)
   simp only [List.mem_cons, not_or]
   exact ⟨fun h => e h.symm, this⟩
theorem place_lt {key : List UInt8} {l : List (List UInt8)} {i : Nat} (h : placeV key l = some i) : i < l.length := (List.getElem?_eq_some_iff.1 (place_some h).1).1
theorem place_first {key : List UInt8} {l : List (List UInt8)} {q : Nat} (hq : l[q]? = some key) (hf : ∀ j, j < q → l[j]? ≠ some key) : placeV key l = some q := by
 cases h : placeV key l with
 | none => exact absurd (List.mem_of_getElem? hq) (place_none h)
 | some i =>
  obtain ⟨a, b⟩ := place_some h
  rcases Nat.lt_trichotomy i q with hl | hl | hl
  ·exact absurd a (hf i hl)
  ·rw [hl]
  ·exact absurd hq (b q hl)
theorem same_gen {n : Nat} (hn : 6000 < n) : ∀ (k d : Nat) (v w : TD0), d ≤ k → Small d v → ∃ b, ref03_Same_k n k v w = some b ∧ (b = true ↔ v = w)
 | _, 0, v, _, _, h => h.elim
 | 0, d + 1, v, _, h, _ => absurd h (by omega)
 | k + 1, d + 1, v, w, hk, hs => by
  obtain ⟨h1, h2, h3, h4, h5⟩ := hs
  show ∃ b, ref03_Same_b n (ref03_Same_k n k) v w = some b ∧ _
  unfold ref03_Same_b
  by_cases hA : v.fKind = w.fKind
  case neg => exact ⟨false, by rw [decide_eq_false hA, Bool.not_false, cT, bnd, cT], by simp; exact fun e => hA (e ▸ rfl)⟩
  by_cases hB : v.fBool = w.fBool
  case neg =>
   have hbe : (v.fBool == w.fBool) = false := by simpa using hB
   exact ⟨false, by rw [decide_eq_true hA, Bool.not_true, cF, hbe, Bool.not_false, cT, bnd, cT], by simp; exact fun e => hB (e ▸ rfl)⟩
  have hbe : (v.fBool == w.fBool) = true := by simpa using hB
  by_cases hC : v.fNum = w.fNum
  case neg => exact ⟨false, by rw [decide_eq_true hA, Bool.not_true, cF, hbe, Bool.not_true, cF, decide_eq_false hC, Bool.not_false, cT, bnd, cT], by simp; exact fun e => hC (e ▸ rfl)⟩
  by_cases hD : v.fText = w.fText
  case neg => exact ⟨false, by rw [decide_eq_true hA, Bool.not_true, cF, hbe, Bool.not_true, cF, decide_eq_true hC, Bool.not_true, cF, decide_eq_false hD, Bool.not_false, cT, bnd, cT], by simp; exact fun e => hD (e ▸ rfl)⟩
  by_cases hE : v.fList.length = w.fList.length
  case neg => exact ⟨false, by rw [decide_eq_true hA, Bool.not_true, cF, hbe, Bool.not_true, cF, decide_eq_true hC, Bool.not_true, cF, decide_eq_true hD, Bool.not_true, cF, decide_eq_false (by omega), Bool.not_false, cT, bnd, cT], by simp; exact fun e => hE (e ▸ rfl)⟩
  by_cases hG : v.fKeys.length = w.fKeys.length
  case neg => exact ⟨false, by rw [decide_eq_true hA, Bool.not_true, cF, hbe, Bool.not_true, cF, decide_eq_true hC, Bool.not_true, cF, decide_eq_true hD, Bool.not_true, cF, decide_eq_true (by omega), Bool.not_true, cF, decide_eq_false (by omega), Bool.not_false, bnd, cT], by simp; exact fun e => hG (e ▸ rfl)⟩
  rw [decide_eq_true hA, Bool.not_true, cF, hbe, Bool.not_true, cF, decide_eq_true hC, Bool.not_true, cF, decide_eq_true hD, Bool.not_true, cF, decide_eq_true (by omega), Bool.not_true, cF, decide_eq_true (by omega), Bool.not_true, bnd, cF]
  obtain ⟨b, hb, hp⟩ := loop_inv (step := ref03_Same_s1 n v w) (n := n) (s0 := (0 : Int)) (fun q s => s = (q : Int) ∧ ∀ j, j < q → v.fKeys[j]? = w.fKeys[j]?)
   (fun b => match b with | .inl _ => v.fKeys ≠ w.fKeys | .inr _ => v.fKeys = w.fKeys) v.fKeys.length ⟨rfl, fun j hj => absurd hj (by omega)⟩ (fun q s hq hI => by
    obtain ⟨rfl, hI⟩ := hI
    have hq2 : q < w.fKeys.length := by omega
    have hg : getI v.fKeys (q : Int) = some v.fKeys[q] := by simp [getI]
    have hg2 : getI w.fKeys (q : Int) = some w.fKeys[q] := by simp [getI]
    unfold ref03_Same_s1
    rw [decide_eq_true (by omega), cT, hg, bnd, hg2, bnd]
    by_cases h : v.fKeys[q] = w.fKeys[q]
    ·rw [decide_eq_true h, Bool.not_true, cF, need_i (by omega) (by omega)]
     refine .inl ⟨_, rfl, by omega, fun j hj => ?_⟩
     by_cases hjq : j = q
     ·subst hjq; simp [hq, hq2, h]
     ·exact hI j (by omega)
    ·rw [decide_eq_false h, Bool.not_false, cT]
     refine .inr ⟨_, rfl, ?_⟩
     dsimp only
     intro e
     exact h (by simp [e])) (fun s hI => by
    obtain ⟨rfl, hI⟩ := hI
    unfold ref03_Same_s1
    rw [decide_eq_false (by omega), cF]
    refine ⟨_, rfl, ?_⟩
    dsimp only
    apply List.ext_getElem?
    intro j
    by_cases hj : j < v.fKeys.length
    ·exact hI j hj
    ·rw [List.getElem?_eq_none (by omega), List.getElem?_eq_none (by omega)]) (by omega)
  rw [hb, bnd]
  cases b with
  | inl u => exact ⟨false, rfl, by simp; exact fun e => hp (e ▸ rfl)⟩
  | inr u =>
   dsimp only at hp ⊢
   obtain ⟨b, hb, hp2⟩ := loop_inv (step := ref03_Same_s2 n (ref03_Same_k n k) v w) (n := n) (s0 := (0 : Int)) (fun q s => s = (q : Int) ∧ ∀ j, j < q → v.fList[j]? = w.fList[j]?)
    (fun b => match b with | .inl _ => v.fList ≠ w.fList | .inr _ => v.fList = w.fList) v.fList.length ⟨rfl, fun j hj => absurd hj (by omega)⟩ (fun q s hq hI => by
     obtain ⟨rfl, hI⟩ := hI
     have hq2 : q < w.fList.length := by omega
     have hg : getI v.fList (q : Int) = some v.fList[q] := by simp [getI]
     have hg2 : getI w.fList (q : Int) = some w.fList[q] := by simp [getI]
     obtain ⟨b, hb, hbi⟩ := same_gen hn k d v.fList[q] w.fList[q] (by omega) (h5 _ (List.getElem_mem hq))
     unfold ref03_Same_s2
     rw [decide_eq_true (by omega), cT, hg, bnd, hg2, bnd, hb, bnd]
     cases b with
     | true =>
      have h := hbi.1 rfl
      rw [Bool.not_true, cF, need_i (by omega) (by omega)]
      refine .inl ⟨_, rfl, by omega, fun j hj => ?_⟩
      by_cases hjq : j = q
      ·subst hjq; simp [hq, hq2, h]
      ·exact hI j (by omega)
     | false =>
      rw [Bool.not_false, cT]
      refine .inr ⟨_, rfl, ?_⟩
      dsimp only
      intro e
      have := hbi.2 (by simp [e])
      cases this) (fun s hI => by
     obtain ⟨rfl, hI⟩ := hI
     unfold ref03_Same_s2
     rw [decide_eq_false (by omega), cF]
     refine ⟨_, rfl, ?_⟩
     dsimp only
     apply List.ext_getElem?
     intro j
     by_cases hj : j < v.fList.length
     ·exact hI j hj
     ·rw [List.getElem?_eq_none (by omega), List.getElem?_eq_none (by omega)]) (by omega)
   rw [hb, bnd]
   cases b with
   | inl u => exact ⟨false, rfl, by simp; exact fun e => hp2 (e ▸ rfl)⟩
   | inr u =>
    refine ⟨true, rfl, by simp only [true_iff]; cases v; cases w; dsimp only at *; rw [hA, hB, hC, hD, hp, hp2]⟩
theorem Same_run {n : Nat} (hn : 6000 < n) {d : Nat} (hd : d ≤ 6000) (v w : TD0) (h : Small d v) : ∃ b, ref03_Same n v w = some b ∧ (b = true ↔ v = w) := same_gen hn n d v w (by omega) h
end Go.Proofs.YtalifkcchfkgmaaGreatDoor
end
end

section
namespace Go.Proofs.YtalifkcchfkgmaaGreatDoor
open Go Go.Vc Go.RowKit
def ref09_Great_s1 (n : Nat) (d0 : List TE0) (s_1 : Int) : Option (Lp Int (Sum Unit Unit)) :=
    bif (decide (s_1 < ((d0.length : Nat) : Int))) then
      ((getI d0 s_1).bind fun x_1 =>
      bif (decide ((200 : Int) < (x_1.fName.length : Int))) then
        (some (.br (.inl ())))
      else
        (getI d0 s_1).bind fun x_2 =>
        (ref03_Great n (⟨x_2.fV.fKind, (x_2.fV.fBool), x_2.fV.fNum, x_2.fV.fText, x_2.fV.fList, x_2.fV.fKeys⟩ : TD0)).bind fun x_3 =>
        bif x_3 then
          (some (.br (.inl ())))
        else
          need (inR .i64 (s_1 + 1)) <|
          some (.nx (s_1 + 1)))
    else
      some (.br (.inr ()))
def ref09_Great (n : Nat) (d0 : List TE0) : Option Bool :=
  bif (decide ((60 : Int) < ((d0.length : Nat) : Int))) then
    (some ((true)))
  else
    (loopF (ref09_Great_s1 n d0) n (0 : Int)).bind fun b_1 =>
    (match b_1 with 
    | .inl y_1 => some ((true)) 
    | .inr y_2 => some ((false)))
theorem ref09_Great_ok (n : Nat) (M : Mem) (hG : GL M) (A0 : Option Addr) (cap0 : Nat) (d0 : List TE0) (h0 : Sli M 8 emb_TE0 A0 cap0 d0) (r : Bool) (hF : ref09_Great n d0 = some r) : Ok Tryz.prog M 24 [.slice A0 d0.length cap0] (fun _ v => v = .bool r) := by
 unfold ref09_Great at hF
 intro M1 hM0 w0 H w p0
 replace hG := GL.mono hM0 hG
 replace h0 := h0.mono hM0
 refine R_enter 28 Tryz.func24 rfl rfl (by simp) fun a0 f0 => RR (Y f0 1 fun _ f => eT (R_seq (RR (Y f 3 fun _ f => eT (RcF f hF (fun h_1 hF_1 => ?_) fun h_1 hF_2 => ?_)))))
 ·have k_1 := dI.1 h_1
  refine RR (Y f 1 fun _ f => eT (wp_ret (T_r (E_ret1 f rfl (by kernel_rfl : Vc.look _ 2 = some (.bool true)) ?_))))
  obtain rfl := sI hF_1
  exact ⟨_, rfl, M1, (mR _), p0, rfl⟩
 ·have k_2 := iff_f dI h_1
  refine wp_skip (T_n (R_seq (RR (Y f 1 fun _ f => eT (wp_block ?_)))))
  obtain ⟨b_1, hL_1, hF_3⟩ := bS hF_2
  refine wp_mono (Q := fun e a w => (e = .ret ∧ (∃ y_1 : Unit, b_1 = .inl y_1 ∧ ∃ M_2 : Mem, M1.le M_2 ∧ Frm 28 [(2, .bool true)] a ∧ Hp w0 M_2 (H) w)) ∨ (e = .exit 0 ∧ (∃ y_2 : Unit, b_1 = .inr y_2 ∧ ∃ M_3 : Mem, M1.le M_3 ∧ Frm 28 [] a ∧ Hp w0 M_3 (H) w))) (R_loop (n := 28) (w0 := w0) (M := M1) (fun (x : Nat × Int) => match x with | (m_1, s_1) => [(0, .slice A0 d0.length cap0), (3, .int .i64 s_1)]) (fun (x : Nat × Int) => match x with | (m_1, s_1) => (H)) (fun (x : Nat × Int) (MM : Mem) => match x with | (m_1, s_1) => loopF (ref09_Great_s1 n d0) m_1 s_1 = some b_1) (fun (x : Nat × Int) => match x with | (m_1, s_1) => m_1) (n, (0 : Int)) (f.kp) p0 hL_1 ?_) ?_
  ·rintro ⟨m_1, s_1⟩ M_1 _ w_1 hM_1 I_1 f p_1
   have I_1L := I_1
   obtain ⟨m_2, r_1, rfl, hs_1, hn_1⟩ := loop_step I_1L
   unfold ref09_Great_s1 at hs_1
   refine R_seq (RR (Y f 4 fun _ f => eT (RcF f hs_1 (fun h_2 hF_4 => ?_) fun h_2 hF_13 => ?_)))
   ·have k_3 := dI.1 h_2
    refine wp_skip (T_n (R_seq (wp_block (RR (Y f 2 fun _ f => ?_)))))
    obtain ⟨x_1, hx_1, hF_5⟩ := bS hF_4
    obtain ⟨ad_1, c_1, e_1, -, hr_1, hc_1⟩ := Sli.at_ (h0.mono hM_1) hx_1
    obtain ⟨A_1, cap_1, A_2, cap_2, rfl, h_3, h_4⟩ := TE0.opn hr_1
    refine Z f (Y31 e_1 rfl (len := d0.length) (cap := cap0) (k := .i64) (i := s_1) (e := 78) (sz := 8) (getI_nn hx_1) (getI_lt hx_1)) fun _ f => Y f 1 fun _ f => Y15 f p_1 hc_1 0 rfl fun _ f => Y f 3 fun _ f => ?_
    rcases cE hF_5 with ⟨h_5, hF_6⟩ | ⟨h_5, hF_7⟩
    ·have k_4 := dI.1 h_5
     have f := f.st 20 (cB h_5)
     refine Y f 7 fun _ f => eT (Y8 f (RR (Y f 1 fun _ f => eT (wp_ret (B_r (T_r (T_r ?_)))))))
     obtain rfl := sI hF_6
     exact .inl ⟨rfl, (), (sI hn_1).symm, M_1, hM_1, f.kp, p_1⟩
    ·have k_5 := iff_f dI h_5
     have f := f.st 20 (cB h_5)
     refine Y f 2 fun _ f => ?_
     obtain ⟨x_2, hx_2, hF_8⟩ := bS hF_7
     obtain ⟨ad_2, c_2, e_2, -, hr_2, hc_2⟩ := Sli.at_ (h0.mono hM_1) hx_2
     obtain ⟨A_3, cap_3, A_4, cap_4, rfl, h_6, h_7⟩ := TE0.opn hr_2
     refine Z f (Y31 e_2 rfl (len := d0.length) (cap := cap0) (k := .i64) (i := s_1) (e := 78) (sz := 8) (getI_nn hx_2) (getI_lt hx_2)) fun _ f => Y f 1 fun _ f => Z (v := .agg #[.int .i8 x_2.fV.fKind, .bool x_2.fV.fBool, .int .i64 x_2.fV.fNum, S x_2.fV.fText, .slice A_3 x_2.fV.fList.length cap_3, .slice A_4 x_2.fV.fKeys.length cap_4]) f (Y33 (cs := [.int .i8 x_2.fV.fKind, .bool x_2.fV.fBool, .int .i64 x_2.fV.fNum, S x_2.fV.fText, .slice A_3 x_2.fV.fList.length cap_3, .slice A_4 x_2.fV.fKeys.length cap_4]) rfl (ad := (ad_2.add (s_1.toNat * 8)).add 2) (fz_part (base := ad_2.add (s_1.toNat * 8)) (fun j v h => p_1.cell (hc_2 j v h)) 2 rfl)) fun _ f => ?_
     obtain ⟨x_3, hx_3, hF_9⟩ := bS hF_8
     refine Y18 f p_1 (ref03_Great_ok n _ _ (⟨x_2.fV.fKind, (x_2.fV.fBool), x_2.fV.fNum, x_2.fV.fText, x_2.fV.fList, x_2.fV.fKeys⟩ : TD0) (TD0.shut h_6 h_7) x_3 hx_3) fun w_2 p_2 _ f => Y f 1 fun _ f => eT (RcF f hF_9 (fun h_8 hF_10 => ?_) fun h_8 hF_11 => ?_)
     ·refine RR (Y f 1 fun _ f => eT (wp_ret (B_r (T_r (T_r ?_)))))
      obtain rfl := sI hF_10
      exact .inl ⟨rfl, (), (sI hn_1).symm, M_1, hM_1, f.kp, p_2⟩
     ·refine wp_skip (B_n (T_n (R_reg (Y f 1 fun _ f => ?_))))
      obtain ⟨g_1, hF_12⟩ := nS hF_11
      refine Y f 1 fun _ f => ?_
      have f := f.st 12 (congrArg (Value.int .i64) (inR_wrap g_1))
      refine Y f 1 fun _ f => eT ?_
      obtain rfl := sI hF_12
      exact ⟨⟨m_2, s_1 + 1⟩, Nat.lt_succ_self _, M_1, hM_1, hn_1, f.kp, p_2⟩
   ·have k_8 := iff_f dI h_2
    refine wp_exit (T_x (T_x ?_))
    obtain rfl := sI hF_13
    exact .inr ⟨rfl, (), (sI hn_1).symm, M_1, hM_1, f.kp, p_1⟩
  ·rintro _ _ w_5 (⟨rfl, y_1, rfl, M_2, hM_2, f, p_3⟩ | ⟨rfl, y_2, rfl, M_3, hM_3, f, p_4⟩)
   ·refine B_r (T_r (E_ret1 f rfl (by kernel_rfl : Vc.look _ 2 = some (.bool true)) ?_))
    obtain rfl := sI hF_3
    exact ⟨_, rfl, M_2, hM_2, p_3, rfl⟩
   ·refine B_x (T_n (RR (Y f 1 fun _ f => eT (wp_ret (E_ret1 f rfl (by kernel_rfl : Vc.look _ 2 = some (.bool false)) ?_)))))
    obtain rfl := sI hF_3
    exact ⟨_, rfl, M_3, hM_3, p_4, rfl⟩
theorem index_any {n : Nat} {α : Type} (d : α) (q : α → Bool) (xs : List α) {step : Int → Option (Lp Int (Sum Int Unit))} (hd : ∀ k : Nat, k < xs.length → step (k : Int) = some (if q (xs.getD k d) then .br (.inl (k : Int)) else .nx ((k : Int) + 1))) (he : step ((xs.length : Nat) : Int) = some (.br (.inr ()))) (hn : xs.length < n) :
  ∃ b, loopF step n 0 = some b ∧ (match b with | .inl i => 0 ≤ i ∧ xs.any q = true | .inr () => xs.any q = false) := by
 refine loop_inv (fun k s => s = (k : Int) ∧ ∀ x ∈ xs.take k, q x = false) _ xs.length ⟨rfl, by simp⟩ (fun k s hk hI => ?_) (fun s hI => ?_) hn
 ·obtain ⟨rfl, hf⟩ := hI
  have hx : xs[k]? = some xs[k] := List.getElem?_eq_getElem hk
  have hg : xs.getD k d = xs[k] := by simp [List.getD, hk]
  rw [hd k hk, hg]
  cases hv : q xs[k] with
  | false =>
   refine .inl ⟨_, rfl, by omega, fun y hy => ?_⟩
   rcases (mem_take_succ hx y).1 hy with h | h
   ·exact hf y h
   ·rw [h]; exact hv
  | true => exact .inr ⟨_, rfl, by omega, List.any_eq_true.2 ⟨_, List.getElem_mem hk, hv⟩⟩
 ·obtain ⟨rfl, hf⟩ := hI
  rw [List.take_length] at hf
  refine ⟨_, he, ?_⟩
  dsimp only
  rw [List.any_eq_false]
  intro x hx
  simp [hf x hx]
def wordV (t : List UInt8) : Bool := bif decide ((t.length : Int) ≤ 64) then Lib.validD t else false
theorem word_run {n : Nat} {t : List UInt8} : print_Word n t = some (wordV t) := by
 unfold print_Word wordV
 by_cases h : (t.length : Int) ≤ 64
 ·rw [decide_eq_true h, cT, cT, valid_run (by omega), bnd]
 ·rw [decide_eq_false h, cF, cF]
def fitV (v : TD0) (k : Int) : Bool := bif !decide (v.fKind = k) then false else decide (checkV v = 0)
def wordy (v : TD0) : Bool := bif fitV v 3 then wordV v.fText else false
def valueV (v : TD0) (k : Int) : Bool := bif fitV v k then (bif decide (k = 3) then wordV v.fText else bif decide (k = 4) then (bif decide (((v.fList.length : Nat) : Int) ≤ 8) then !(v.fList.any fun x => !wordy x) else false) else true) else false
theorem contains_vals {n : Nat} (hn : 6000 < n) {rc : TD0 → Int → Option Bool} {l : List TD0} (hl : l.length ≤ 8) (h : ∀ x ∈ l, rc x 3 = some (wordy x)) : slices_ContainsFuncapi_Value_api_Value_2 n rc l = some (l.any fun x => !wordy x) := by
 unfold slices_ContainsFuncapi_Value_api_Value_2 slices_IndexFuncapi_Value_api_Value_2
 obtain ⟨b, hb, hp⟩ := index_any (n := n) z_TD0 (fun x => !wordy x) l (step := slices_IndexFuncapi_Value_api_Value_2_s1 n rc l) (fun k hk => by
  unfold slices_IndexFuncapi_Value_api_Value_2_s1 schema_value_1_2
  have hm : l.getD k z_TD0 ∈ l := by simp [List.getD, hk]
  rw [decide_eq_true (by omega), cT, getI_at z_TD0 hk, bnd, h _ hm, bnd, bnd]
  cases wordy (l.getD k z_TD0) with
  | true => rw [Bool.not_true, cF, need_i (by omega) (by omega)]; rfl
  | false => rw [Bool.not_false, cT]; rfl) (by
  unfold slices_IndexFuncapi_Value_api_Value_2_s1
  rw [decide_eq_false (by omega), cF]) (by omega)
 rw [hb, bnd]
 cases b with
 | inl i =>
  obtain ⟨h0, h1⟩ := hp
  dsimp only
  rw [bnd, h1, decide_eq_true h0]
 | inr u =>
  have h1 : l.any (fun x => !wordy x) = false := hp
  dsimp only
  rw [bnd, h1]
  rfl
theorem value_b_run {n : Nat} (hn : 6000 < n) {v : TD0} (h : Fine v) (k : Int) {rc : TD0 → Int → Option Bool} (hrec : k = 4 → ∀ x ∈ v.fList, rc x 3 = some (wordy x)) : schema_value_b n rc v k = some (valueV v k) := by
 unfold schema_value_b valueV fitV
 by_cases hk : v.fKind = k
 ·rw [decide_eq_true hk, Bool.not_true, cF, cF, check_run hn h, bnd, bnd]
  by_cases hc : checkV v = 0
  ·rw [decide_eq_true hc, Bool.not_true, cF, cT]
   by_cases h3 : k = 3
   ·rw [decide_eq_true h3, cT, cT, word_run, bnd]
   ·rw [decide_eq_false h3, cF, cF]
    by_cases h4 : k = 4
    ·rw [decide_eq_true h4, cT, cT]
     by_cases h8 : ((v.fList.length : Nat) : Int) ≤ 8
     ·rw [decide_eq_true h8, cT, cT, contains_vals hn (by omega) (hrec h4), bnd]
     ·rw [decide_eq_false h8, cF, cF]
    ·rw [decide_eq_false h4, cF, cF]
  ·rw [decide_eq_false hc, Bool.not_false, cT, cF]
 ·rw [decide_eq_false hk, Bool.not_false, cT, cT, bnd, cT, cF]
theorem value_run {n : Nat} (hn : 6000 < n) {v : TD0} (h : Fine v) (k : Int) : schema_value n v k = some (valueV v k) := by
 unfold schema_value
 obtain ⟨m, rfl⟩ : ∃ m, n = m + 2 := ⟨n - 2, by omega⟩
 refine value_b_run hn h k fun _ x hx => ?_
 exact value_b_run hn (h.part hx) 3 (fun e => absurd e (by decide))
def emptyV (v : TD0) : Bool := bif decide (v.fKind = 0) then decide (checkV v = 0) else false
theorem empty_run {n : Nat} (hn : 6000 < n) {v : TD0} (h : Fine v) : schema_empty n v = some (emptyV v) := by
 unfold schema_empty emptyV
 by_cases hk : v.fKind = 0
 ·rw [decide_eq_true hk, cT, cT, check_run hn h, bnd]
 ·rw [decide_eq_false hk, cF, cF]
def specOf (kind prop : List UInt8) : TF0 := (specAt kind prop).getD z_TF0
def fitG (kind : List UInt8) (g : TE0) : Bool := bif g.fUnknown then (bif !decide ((specOf kind g.fName).fKind = 2) then emptyV g.fV else false) else valueV g.fV (specOf kind g.fName).fKind
def okG (kind : List UInt8) (g : TE0) : Bool := (specAt kind g.fName).isSome && fitG kind g
def upG (gs : List TE0) (k : Nat) : Bool := decide (k = 0) || Op.bytesLess (gs.getD (k - 1) z_TE0).fName (gs.getD k z_TE0).fName
theorem cb_flip (a b : List UInt8) : (Lib.compareBytes a b < 0 ∨ a = b) ↔ ¬ Lib.compareBytes b a < 0 := by
 have h := cb_anti a b
 constructor
 ·rintro (h1 | rfl)
  ·omega
  ·rw [cb_self]; omega
 ·intro h1
  by_cases e : Lib.compareBytes a b = 0
  ·exact .inr (cb_eq _ _ e)
  ·exact .inl (by omega)
theorem less_flip (a b : List UInt8) : (Op.bytesLess a b || a == b) = !Op.bytesLess b a := by
 have h1 := less_cb a b
 have h2 := less_cb b a
 rw [h1, h2]
 rw [Bool.eq_iff_iff]
 simp only [Bool.or_eq_true, decide_eq_true_eq, beq_iff_eq, Bool.not_eq_true', decide_eq_false_iff_not]
 exact cb_flip a b
def checkG (kind : List UInt8) (gs : List TE0) : Int := bif !kindIn kind then 90 else bif (List.range gs.length).any (fun k => !(okG kind (gs.getD k z_TE0) && upG gs k)) then 91 else 0
theorem schemaCheck_run {n : Nat} (hn : 6000 < n) (kind : List UInt8) {gs : List TE0} (hl : gs.length ≤ 60) (hf : ∀ g ∈ gs, Fine g.fV) : schema_Check n kind gs = some (checkG kind gs) := by
 unfold schema_Check checkG
 cases hk : kindIn kind with
 | false => rw [Bool.not_false, cT, cT]
 | true =>
  rw [Bool.not_true, cF, cF]
  have hlp := loop_any (n := n) (step := schema_Check_s1 n kind gs) (fun k => !(okG kind (gs.getD k z_TE0) && upG gs k)) gs.length (.inl ()) (.inr ()) (fun k hk => by
   unfold schema_Check_s1 schema_Find
   have hm : gs.getD k z_TE0 ∈ gs := by simp [List.getD, hk]
   rw [decide_eq_true (by omega), cT, getI_at z_TE0 hk, bnd, bnd, value_run hn (hf _ hm), bnd]
   have e : (bif (gs.getD k z_TE0).fUnknown then (bif !decide ((specOf kind (gs.getD k z_TE0).fName).fKind = 2) then (schema_empty n (gs.getD k z_TE0).fV).bind fun x => some x else some false) else some (valueV (gs.getD k z_TE0).fV (specOf kind (gs.getD k z_TE0).fName).fKind) : Option Bool) = some (fitG kind (gs.getD k z_TE0)) := by
    unfold fitG
    cases (gs.getD k z_TE0).fUnknown with
    | false => rw [cF, cF]
    | true =>
     rw [cT, cT]
     cases decide ((specOf kind (gs.getD k z_TE0).fName).fKind = 2) with
     | true => rw [Bool.not_true, cF, cF]
     | false => rw [Bool.not_false, cT, cT, empty_run hn (hf _ hm), bnd]
   unfold specOf at e
   dsimp only
   rw [e, bnd]
   unfold okG
   cases (specAt kind (gs.getD k z_TE0).fName).isSome with
   | false => rw [Bool.not_false, cT]; rfl
   | true =>
    rw [Bool.not_true, cF]
    cases fitG kind (gs.getD k z_TE0) with
    | false => rw [Bool.not_false, cT]; rfl
    | true =>
     rw [Bool.not_true, cF]
     unfold upG
     by_cases h0 : k = 0
     ·subst h0
      rw [decide_eq_false (by decide), cF, need_i (by omega) (by omega)]
      rfl
     ·have hk1 : k - 1 < gs.length := by omega
      have e1 : (k : Int) - 1 = ((k - 1 : Nat) : Int) := by omega
      rw [decide_eq_true (by omega : (0 : Int) < (k : Int)), cT, need_i (by omega) (by omega), e1, getI_at z_TE0 hk1, bnd, less_flip, decide_eq_false h0]
      cases Op.bytesLess (gs.getD (k - 1) z_TE0).fName (gs.getD k z_TE0).fName with
      | true => rw [Bool.not_true, cF, need_i (by omega) (by omega)]; rfl
      | false => rw [Bool.not_false, cT]; rfl) (by
   unfold schema_Check_s1
   rw [decide_eq_false (by omega), cF]) (by omega)
  rw [hlp, bnd]
  cases (List.range gs.length).any (fun k => !(okG kind (gs.getD k z_TE0) && upG gs k)) with
  | true => rw [cT, cT]
  | false => rw [cF, cF]
theorem great9 {n : Nat} (hn : 6000 < n) (gs : List TE0) : ∃ g, ref09_Great n gs = some g ∧ (g = false → gs.length ≤ 60 ∧ ∀ x ∈ gs, x.fName.length ≤ 200 ∧ Fine x.fV) := by
 unfold ref09_Great
 by_cases hl : (60 : Int) < ((gs.length : Nat) : Int)
 ·exact ⟨true, by rw [decide_eq_true hl, cT], fun h => by cases h⟩
 rw [decide_eq_false hl, cF]
 obtain ⟨b, hb, hp⟩ := loop_inv (step := ref09_Great_s1 n gs) (n := n) (s0 := (0 : Int)) (fun k s => s = (k : Int) ∧ ∀ x ∈ gs.take k, x.fName.length ≤ 200 ∧ Fine x.fV)
  (fun b => match b with | .inl _ => True | .inr _ => ∀ x ∈ gs, x.fName.length ≤ 200 ∧ Fine x.fV) gs.length ⟨rfl, by simp⟩
  (fun k s hk hI => by
   obtain ⟨rfl, hf⟩ := hI
   have hx : gs[k]? = some gs[k] := List.getElem?_eq_getElem hk
   have hg : gs.getD k z_TE0 = gs[k] := by simp [List.getD, hk]
   unfold ref09_Great_s1
   rw [decide_eq_true (by omega), cT, getI_at z_TE0 hk, bnd, hg]
   by_cases h2 : (200 : Int) < (gs[k].fName.length : Int)
   ·exact .inr ⟨_, by rw [decide_eq_true h2, cT], trivial⟩
   obtain ⟨g, hg1, hg2⟩ := great_fine hn gs[k].fV
   rw [decide_eq_false h2, cF, bnd]
   have ex : (⟨gs[k].fV.fKind, (gs[k].fV.fBool), gs[k].fV.fNum, gs[k].fV.fText, gs[k].fV.fList, gs[k].fV.fKeys⟩ : TD0) = gs[k].fV := by cases gs[k].fV; rfl
   rw [ex, hg1, bnd]
   cases g with
   | true => exact .inr ⟨_, cT _ _, trivial⟩
   | false =>
    rw [cF, need_i (by omega) (by omega)]
    refine .inl ⟨_, rfl, by omega, fun y hy => ?_⟩
    rcases (mem_take_succ hx y).1 hy with h | h
    ·exact hf y h
    ·rw [h]; exact ⟨by omega, (hg2 rfl).1⟩)
  (fun s hI => by
   obtain ⟨rfl, hf⟩ := hI
   rw [List.take_length] at hf
   unfold ref09_Great_s1
   rw [decide_eq_false (by omega), cF]
   exact ⟨_, rfl, hf⟩) (by omega)
 rw [hb, bnd]
 cases b with
 | inl u => exact ⟨true, rfl, fun h => by cases h⟩
 | inr u => exact ⟨false, rfl, fun _ => ⟨by omega, hp⟩⟩
def byN (gs : List TE0) : List (List UInt8 × TE0) := gs.foldl (fun m g => mput m g.fName g) []
theorem byN_snoc (gs : List TE0) (g : TE0) : byN (gs ++ [g]) = mput (byN gs) g.fName g := by unfold byN; rw [List.foldl_append]; rfl
theorem byName_run {n : Nat} (gs : List TE0) (hl : gs.length ≤ 60) (hn : 6000 < n) : schema_byName n gs = some (byN gs) := by
 unfold schema_byName
 have := loop_all (n := n) (step := schema_byName_s1 n gs) (fun k => ((k : Int), byN (gs.take k))) gs.length (byN gs) (fun k hk => by
  unfold schema_byName_s1
  have hx : gs[k]? = some gs[k] := List.getElem?_eq_getElem hk
  have hg : gs.getD k z_TE0 = gs[k] := by simp [List.getD, hk]
  dsimp only
  rw [decide_eq_true (by omega), cT, getI_at z_TE0 hk, bnd, need_i (by omega) (by omega), hg, List.take_add_one, hx]
  have e : byN (gs.take k ++ (some gs[k]).toList) = mput (byN (gs.take k)) gs[k].fName gs[k] := byN_snoc _ _
  rw [e]; rfl) (by
  unfold schema_byName_s1
  dsimp only
  rw [decide_eq_false (by omega), cF, List.take_length]) (by omega)
 have e0 : (((0 : Nat) : Int), byN (gs.take 0)) = ((0 : Int), ([] : List (List UInt8 × TE0))) := rfl
 rw [e0] at this
 rw [this, bnd]
theorem byN_some {k : List UInt8} {g : TE0} : ∀ {m : Nat} {gs : List TE0}, gs.length = m → mget (byN gs) k = some g → g ∈ gs ∧ g.fName = k
 | 0, gs, hm, h => by
  have : gs = [] := List.length_eq_zero_iff.1 hm
  subst this; cases h
 | m + 1, gs, hm, h => by
  obtain ⟨l, x, rfl⟩ : ∃ l x, gs = l ++ [x] := ⟨gs.dropLast, gs.getLast (by intro e; subst e; cases hm), (List.dropLast_concat_getLast _).symm⟩
  rw [byN_snoc, mget_mput] at h
  by_cases hx : x.fName = k
  ·rw [if_pos hx] at h
   cases h
   exact ⟨by simp, hx⟩
  ·rw [if_neg hx] at h
   obtain ⟨h1, h2⟩ := byN_some (m := m) (by simpa using hm) h
   exact ⟨by simp [h1], h2⟩
def sameK (a b : List TE0) (k : List UInt8) : Bool :=
  bif (mget (byN a) k).isSome == (mget (byN b) k).isSome then
    bif !((mget (byN b) k).getD z_TE0).fUnknown then
      bif !(mget (byN a) k).isSome then true else eqV ((mget (byN a) k).getD z_TE0).fV ((mget (byN b) k).getD z_TE0).fV
    else false
  else false
def stepK (a b : List TE0) (p : List UInt8 × TF0) (s : Int) : Lp Int (Sum Int Unit) := bif sameK a b p.1 then .nx s else bif p.2.fReplace then .br (.inr ()) else .nx 2
def endK (a b : List TE0) (l : List (List UInt8 × TF0)) (s : Int) : Sum Int Unit := bif l.any (fun p => !sameK a b p.1 && p.2.fReplace) then .inr () else .inl (bif l.any (fun p => !sameK a b p.1) then 2 else s)
theorem step_run {n : Nat} (hn : 6000 < n) {a b : List TE0} (ha : ∀ g ∈ a, Fine g.fV) (hb : ∀ g ∈ b, Fine g.fV) (p : List UInt8 × TF0) (s : Int) : schema_Differ_s1_y n (byN a) (byN b) p s = some (stepK a b p s) := by
 unfold schema_Differ_s1_y stepK sameK
 cases h1 : (mget (byN a) p.1).isSome == (mget (byN b) p.1).isSome with
 | false =>
  rw [cF, cF, bnd, cF, cF]
  cases p.2.fReplace <;> rfl
 | true =>
  rw [cT, cT]
  cases h2 : ((mget (byN b) p.1).getD z_TE0).fUnknown with
  | true =>
   rw [Bool.not_true, cF, cF, bnd, cF, cF]
   cases p.2.fReplace <;> rfl
  | false =>
   rw [Bool.not_false, cT, cT]
   cases h3 : (mget (byN a) p.1).isSome with
   | false => rw [Bool.not_false, cT, cT, bnd, cT, cT]
   | true =>
    rw [Bool.not_true, cF, cF]
    have h4 : (mget (byN b) p.1).isSome = true := by rw [h3] at h1; simpa using h1.symm
    obtain ⟨x, hx⟩ := Option.isSome_iff_exists.1 h3
    obtain ⟨y, hy⟩ := Option.isSome_iff_exists.1 h4
    have fx := ha x (byN_some rfl hx).1
    have fy := hb y (byN_some rfl hy).1
    have ex : ∀ v : TD0, (⟨v.fKind, (v.fBool), v.fNum, v.fText, v.fList, v.fKeys⟩ : TD0) = v := fun v => by cases v; rfl
    rw [hx, hy, Option.getD_some, Option.getD_some, ex, ex, Equal_run hn fx fy, bnd, bnd]
    cases eqV x.fV y.fV with
    | true => rw [cT, cT]
    | false =>
     rw [cF, cF]
     cases p.2.fReplace <;> rfl
theorem fold_run {n : Nat} (hn : 6000 < n) {a b : List TE0} (ha : ∀ g ∈ a, Fine g.fV) (hb : ∀ g ∈ b, Fine g.fV) : ∀ (l : List (List UInt8 × TF0)) (s : Int), foldO (schema_Differ_s1_e n (byN a) (byN b)) (schema_Differ_s1_y n (byN a) (byN b)) l s = some (endK a b l s)
 | [], s => rfl
 | p :: l, s => by
  unfold foldO
  rw [step_run hn ha hb, bnd]
  unfold stepK endK
  rw [List.any_cons, List.any_cons]
  cases sameK a b p.1 with
  | true =>
   rw [cT]
   dsimp only
   rw [fold_run hn ha hb l s]
   unfold endK
   rw [Bool.not_true, Bool.false_and, Bool.false_or, Bool.false_or]
  | false =>
   rw [cF]
   cases p.2.fReplace with
   | true => rfl
   | false =>
    rw [cF]
    dsimp only
    rw [fold_run hn ha hb l 2]
    unfold endK
    rw [Bool.not_false, Bool.and_false, Bool.false_or, Bool.true_or, cT]
    cases l.any (fun p => !sameK a b p.1) <;> rfl
theorem endK_perm (a b : List TE0) {l l' : List (List UInt8 × TF0)} (h : l.Perm l') (s : Int) : endK a b l s = endK a b l' s := by
 have e : ∀ q : List UInt8 × TF0 → Bool, l.any q = l'.any q := fun q => by
  rw [Bool.eq_iff_iff, List.any_eq_true, List.any_eq_true]
  exact ⟨fun ⟨x, h1, h2⟩ => ⟨x, h.mem_iff.1 h1, h2⟩, fun ⟨x, h1, h2⟩ => ⟨x, h.mem_iff.2 h1, h2⟩⟩
 unfold endK
 rw [e, e]
def differV (kind : List UInt8) (a b : List TE0) : Int × Int :=
  bif !decide (checkG kind a = 0) then (0, checkG kind a) else bif !decide (checkG kind b = 0) then (0, checkG kind b) else
  bif a.any (·.fUnknown) then (0, 91) else match endK a b (propsD kind) 0 with | .inl y => (y, 0) | .inr _ => (3, 0)
theorem or2_run {n : Nat} (hn : 6000 < n) (x y : Int) : cmp_Or_2 n [x, y] = some (bif !decide (x = 0) then x else y) := by
 obtain ⟨n, rfl⟩ : ∃ m, n = m + 3 := ⟨n - 3, by omega⟩
 unfold cmp_Or_2
 have s0 : cmp_Or_2_s1 (n + 3) [x, y] 0 = bif !decide (x = 0) then some (.br (.inl x)) else some (.nx 1) := by
  unfold cmp_Or_2_s1
  have e : getI [x, y] 0 = some x := rfl
  rw [decide_eq_true (by simp only [List.length_cons, List.length_nil]; omega), cT, e, bnd, need_i (by omega) (by omega)]; rfl
 have s1 : cmp_Or_2_s1 (n + 3) [x, y] 1 = bif !decide (y = 0) then some (.br (.inl y)) else some (.nx 2) := by
  unfold cmp_Or_2_s1
  have e : getI [x, y] 1 = some y := rfl
  rw [decide_eq_true (by simp only [List.length_cons, List.length_nil]; omega), cT, e, bnd, need_i (by omega) (by omega)]; rfl
 have s2 : cmp_Or_2_s1 (n + 3) [x, y] 2 = some (.br (.inr ())) := by
  unfold cmp_Or_2_s1
  rw [decide_eq_false (by simp only [List.length_cons, List.length_nil]; omega), cF]
 have l0 : loopF (cmp_Or_2_s1 (n + 3) [x, y]) (n + 3) 0 = some (bif !decide (x = 0) then .inl x else bif !decide (y = 0) then .inl y else .inr ()) := by
  unfold loopF
  rw [s0]
  by_cases hx : x = 0
  ·rw [decide_eq_true hx, Bool.not_true, cF, cF, bnd]
   dsimp only
   unfold loopF
   rw [s1]
   by_cases hy : y = 0
   ·rw [decide_eq_true hy, Bool.not_true, cF, cF, bnd]
    dsimp only
    unfold loopF
    rw [s2, bnd]
   ·rw [decide_eq_false hy, Bool.not_false, cT, cT, bnd]
  ·rw [decide_eq_false hx, Bool.not_false, cT, cT, bnd]
 rw [l0, bnd]
 by_cases hx : x = 0
 ·rw [decide_eq_true hx, Bool.not_true, cF, cF]
  by_cases hy : y = 0
  ·rw [decide_eq_true hy, Bool.not_true, cF]; rw [hy]
  ·rw [decide_eq_false hy, Bool.not_false, cT]
 ·rw [decide_eq_false hx, Bool.not_false, cT, cT]
theorem unknown_run {n : Nat} (hn : 6000 < n) (gs : List TE0) (hl : gs.length ≤ 60) : slices_ContainsFuncapi_Given_api_Given n gs = some (gs.any (·.fUnknown)) := by
 unfold slices_ContainsFuncapi_Given_api_Given slices_IndexFuncapi_Given_api_Given
 obtain ⟨b, hb, hp⟩ := index_any (n := n) z_TE0 (·.fUnknown) gs (step := slices_IndexFuncapi_Given_api_Given_s1 n gs) (fun k hk => by
  unfold slices_IndexFuncapi_Given_api_Given_s1 schema_Differ_1
  rw [decide_eq_true (by omega), cT, getI_at z_TE0 hk, bnd, bnd]
  cases (gs.getD k z_TE0).fUnknown with
  | false => rw [cF, need_i (by omega) (by omega)]; rfl
  | true => rw [cT]; rfl) (by
  unfold slices_IndexFuncapi_Given_api_Given_s1
  rw [decide_eq_false (by omega), cF]) (by omega)
 rw [hb, bnd]
 cases b with
 | inl i =>
  obtain ⟨h0, h1⟩ := hp
  dsimp only
  rw [bnd, h1, decide_eq_true h0]
 | inr u =>
  have h1 : gs.any (·.fUnknown) = false := hp
  dsimp only
  rw [bnd, h1]
  rfl
theorem Differ_run {n : Nat} (hn : 6000 < n) (kind : List UInt8) {a b : List TE0} (la : a.length ≤ 60) (lb : b.length ≤ 60) (ha : ∀ g ∈ a, Fine g.fV) (hb : ∀ g ∈ b, Fine g.fV) : schema_Differ n kind a b = some (differV kind a b) := by
 unfold schema_Differ differV
 rw [schemaCheck_run hn kind la ha, bnd, schemaCheck_run hn kind lb hb, bnd, or2_run hn, bnd]
 by_cases h1 : checkG kind a = 0
 ·rw [decide_eq_true h1, Bool.not_true, cF, cF]
  by_cases h2 : checkG kind b = 0
  ·rw [decide_eq_true h2, Bool.not_true, cF, cF, unknown_run hn a la, bnd]
   cases a.any (·.fUnknown) with
   | true => rw [cT, cT]
   | false =>
    rw [cF, cF, byName_run a la hn, bnd, byName_run b lb hn, bnd, foldP_run (b := endK a b (propsD kind) 0) (fun l hl => by rw [fold_run hn ha hb, endK_perm a b hl]), bnd]
    cases endK a b (propsD kind) 0 <;> rfl
  ·rw [decide_eq_false h2, Bool.not_false, cT, cT]
 ·rw [decide_eq_false h1, Bool.not_false, cT, cT, decide_eq_false h1, Bool.not_false, cT]
theorem getD_in {gs : List TE0} {k : Nat} (hk : k < gs.length) : gs.getD k z_TE0 = gs[k] := by simp [List.getD, hk]
noncomputable instance decV : DecidableEq TD0 := fun a b => Classical.propDecidable _
theorem eqs_run {n : Nat} (hn : 6000 < n) {xs ys : List (List UInt8)} (hl : xs.length ≤ 6000) : slices_Equalstring_string n xs ys = some (decide (xs = ys)) := by
 unfold slices_Equalstring_string
 by_cases h : xs.length = ys.length
 ·have h' : ((xs.length : Nat) : Int) = ((ys.length : Nat) : Int) := by omega
  rw [decide_eq_true h', Bool.not_true, cF]
  have := loop_any (n := n) (step := slices_Equalstring_string_s1 n xs ys) (fun k => !decide (xs.getD k [] = ys.getD k [])) xs.length (.inl ()) (.inr ()) (fun k hk => by
   unfold slices_Equalstring_string_s1
   rw [decide_eq_true (by omega), cT, getI_at [] hk, bnd, getI_at [] (by omega), bnd, need_i (by omega) (by omega)]
   cases decide (xs.getD k [] = ys.getD k []) <;> rfl) (by
   unfold slices_Equalstring_string_s1
   rw [decide_eq_false (by omega), cF]) (by omega)
  rw [this, bnd, any_neq [] h]
  cases decide (xs = ys) <;> rfl
 ·have h' : ¬ ((xs.length : Nat) : Int) = ((ys.length : Nat) : Int) := by omega
  rw [decide_eq_false h', Bool.not_false, cT, decide_eq_false (fun e => h (by rw [e]))]
theorem eqV_symm (v w : TD0) : eqV v w = eqV w v := by
 unfold eqV
 have := cmpV_anti (sortV v) (sortV w)
 have e : decide (cmpV (sortV w) (sortV v) = 0) = decide (cmpV (sortV v) (sortV w) = 0) := decide_eq_decide.2 ⟨fun h => by omega, fun h => by omega⟩
 rw [e]
 cases decide (checkV v = 0) <;> cases decide (checkV w = 0) <;> rfl
theorem eqvs_run {n : Nat} (hn : 6000 < n) {rc : TD0 → TD0 → Option Bool} {xs ys : List TD0} (hl : xs.length ≤ 6000) (hr : ∀ x ∈ xs, ∀ y, rc x y = some (decide (x = y))) : slices_EqualFuncapi_Value_api_Value_api_Value_api_Value_2 n rc xs ys = some (decide (xs = ys)) := by
 unfold slices_EqualFuncapi_Value_api_Value_api_Value_api_Value_2
 by_cases h : xs.length = ys.length
 ·have h' : ((xs.length : Nat) : Int) = ((ys.length : Nat) : Int) := by omega
  rw [decide_eq_true h', Bool.not_true, cF]
  have := loop_any (n := n) (step := slices_EqualFuncapi_Value_api_Value_api_Value_api_Value_2_s1 n rc xs ys) (fun k => !decide (xs.getD k z_TD0 = ys.getD k z_TD0)) xs.length (.inl ()) (.inr ()) (fun k hk => by
   unfold slices_EqualFuncapi_Value_api_Value_api_Value_api_Value_2_s1
   have hm : xs.getD k z_TD0 ∈ xs := by simp [List.getD, hk]
   rw [decide_eq_true (by omega), cT, getI_at z_TD0 hk, bnd, getI_at z_TD0 (by omega), bnd, hr _ hm, bnd, need_i (by omega) (by omega)]
   cases decide (xs.getD k z_TD0 = ys.getD k z_TD0) <;> rfl) (by
   unfold slices_EqualFuncapi_Value_api_Value_api_Value_api_Value_2_s1
   rw [decide_eq_false (by omega), cF]) (by omega)
  rw [this, bnd, any_neq z_TD0 h]
  cases decide (xs = ys) <;> rfl
 ·have h' : ¬ ((xs.length : Nat) : Int) = ((ys.length : Nat) : Int) := by omega
  rw [decide_eq_false h', Bool.not_false, cT, decide_eq_false (fun e => h (by rw [e]))]
theorem alike_run {n : Nat} (hn : 6000 < n) : ∀ (m d : Nat) (v w : TD0), d < m → Small d v → schema_alike_k n m v w = some (decide (v = w))
 | 0, d, v, w, hd, _ => absurd hd (by omega)
 | m + 1, 0, v, w, _, h => h.elim
 | m + 1, d + 1, v, w, hd, h => by
  obtain ⟨h1, h2, h3, h4, h5⟩ := h
  unfold schema_alike_k schema_alike_b
  rw [eqs_run hn (by omega), bnd, eqvs_run hn (by omega) (fun x hx y => alike_run hn m d x y (by omega) (h5 x hx)), bnd]
  obtain ⟨k1, b1, n1, t1, l1, s1⟩ := v
  obtain ⟨k2, b2, n2, t2, l2, s2⟩ := w
  dsimp only
  have e : decide ((⟨k1, b1, n1, t1, l1, s1⟩ : TD0) = ⟨k2, b2, n2, t2, l2, s2⟩) = (decide (k1 = k2) && ((b1 == b2) && (decide (n1 = n2) && (decide (t1 = t2) && (decide (s1 = s2) && decide (l1 = l2)))))) := by
   rw [Bool.eq_iff_iff]
   simp only [decide_eq_true_eq, Bool.and_eq_true, beq_iff_eq, TD0.mk.injEq]
   exact ⟨fun ⟨a, b, c, d, e, f⟩ => ⟨a, b, c, d, f, e⟩, fun ⟨a, b, c, d, e, f⟩ => ⟨a, b, c, d, f, e⟩⟩
  rw [e]
  cases decide (k1 = k2) <;> cases (b1 == b2) <;> cases decide (n1 = n2) <;> cases decide (t1 = t2) <;> cases decide (s1 = s2) <;> cases decide (l1 = l2) <;> rfl
noncomputable def sameG (x y : TE0) : Bool := decide (x.fName = y.fName) && (x.fUnknown == y.fUnknown && (eqV x.fV y.fV || decide (x.fV = y.fV)))
theorem same1_run {n : Nat} (hn : 6000 < n) {x y : TE0} (hx : Fine x.fV) (hy : Fine y.fV) : schema_Same_1 n x y = some (sameG x y) := by
 unfold schema_Same_1 sameG schema_alike
 have ex : ∀ v : TD0, (⟨v.fKind, (v.fBool), v.fNum, v.fText, v.fList, v.fKeys⟩ : TD0) = v := fun v => by cases v; rfl
 rw [ex, ex, Equal_run hn hx hy, bnd, alike_run hn n 60 x.fV y.fV (by omega) hx.small, bnd]
 cases decide (x.fName = y.fName) <;> cases (x.fUnknown == y.fUnknown) <;> cases eqV x.fV y.fV <;> rfl
theorem Same_run9 {n : Nat} (hn : 6000 < n) {a b : List TE0} (la : a.length ≤ 60) (ha : ∀ g ∈ a, Fine g.fV) (hb : ∀ g ∈ b, Fine g.fV) :
  schema_Same n a b = some (decide (a.length = b.length) && !((List.range a.length).any fun k => !sameG (a.getD k z_TE0) (b.getD k z_TE0))) := by
 unfold schema_Same slices_EqualFuncapi_Given_api_Given_api_Given_api_Given
 by_cases h : a.length = b.length
 ·have h' : ((a.length : Nat) : Int) = ((b.length : Nat) : Int) := by omega
  rw [decide_eq_true h', Bool.not_true, cF, decide_eq_true h, Bool.true_and]
  have := loop_any (n := n) (step := slices_EqualFuncapi_Given_api_Given_api_Given_api_Given_s1 n a b) (fun k => !sameG (a.getD k z_TE0) (b.getD k z_TE0)) a.length (.inl ()) (.inr ()) (fun k hk => by
   unfold slices_EqualFuncapi_Given_api_Given_api_Given_api_Given_s1
   have hm : a.getD k z_TE0 ∈ a := by simp [List.getD, hk]
   have hm2 : b.getD k z_TE0 ∈ b := by
    have : k < b.length := by omega
    simp [List.getD, this]
   rw [decide_eq_true (by omega), cT, getI_at z_TE0 hk, bnd, getI_at z_TE0 (by omega), bnd, same1_run hn (ha _ hm) (hb _ hm2), bnd, need_i (by omega) (by omega)]
   cases sameG (a.getD k z_TE0) (b.getD k z_TE0) <;> rfl) (by
   unfold slices_EqualFuncapi_Given_api_Given_api_Given_api_Given_s1
   rw [decide_eq_false (by omega), cF]) (by omega)
  rw [this, bnd]
  cases (List.range a.length).any (fun k => !sameG (a.getD k z_TE0) (b.getD k z_TE0)) <;> rfl
 ·have h' : ¬ ((a.length : Nat) : Int) = ((b.length : Nat) : Int) := by omega
  rw [decide_eq_false h', Bool.not_false, cT, decide_eq_false h, bnd, Bool.false_and]
def ref03_sorted_s2 (n : Nat) (d0 : TD0) (s_1 : Int × List TD0 × List (List UInt8)) (s_2 : Int) : Option (Lp Int Int) :=
    bif (decide (s_2 < ((s_1.2.2.length : Nat) : Int))) then
      ((getI s_1.2.2 s_2).bind fun x_3 =>
      (getI d0.fKeys s_1.1).bind fun x_4 =>
      bif (Op.bytesLess x_3 x_4) then
        (need (inR .i64 (s_2 + 1)) <|
        some (.nx (s_2 + 1)))
      else
        some (.br s_2))
    else
      some (.br s_2)
def ref03_sorted_s1 (n : Nat) (rec_ref03_sorted : TD0 → Option TD0) (d0 : TD0) (s_1 : Int × List TD0 × List (List UInt8)) : Option (Lp (Int × List TD0 × List (List UInt8)) (List TD0 × List (List UInt8))) :=
    bif (decide (s_1.1 < ((d0.fList.length : Nat) : Int))) then
      ((getI d0.fList s_1.1).bind fun x_1 =>
      (rec_ref03_sorted x_1).bind fun x_2 =>
      bif (decide (d0.fKind = 4)) then
        (need ((s_1.2.1.length + 1) * 80 ≤ 140737488355328) <|
        need (inR .i64 (s_1.1 + 1)) <|
        some (.nx (s_1.1 + 1, s_1.2.1 ++ [(⟨x_2.fKind, (x_2.fBool), x_2.fNum, x_2.fText, x_2.fList, x_2.fKeys⟩ : TD0)], s_1.2.2)))
      else
        (loopF (ref03_sorted_s2 n d0 s_1) n (0 : Int)).bind fun y_1 =>
        need (0 ≤ y_1 ∧ y_1 ≤ (s_1.2.2.length : Int)) <|
        need ((([] : List (List UInt8)).length + (s_1.2.2.length - y_1.toNat)) * 16 ≤ 140737488355328) <|
        need (0 ≤ y_1 ∧ y_1 ≤ (s_1.2.1.length : Int)) <|
        need ((([] : List TD0).length + (s_1.2.1.length - y_1.toNat)) * 80 ≤ 140737488355328) <|
        (((getI d0.fKeys s_1.1).bind fun x_5 =>
          need (0 ≤ y_1 ∧ y_1 ≤ (s_1.2.2.length : Int)) <|
          need (((s_1.2.2.take y_1.toNat).length + 1) * 16 ≤ 140737488355328) <|
          need ((((s_1.2.2.take y_1.toNat) ++ [x_5]).length + (([] : List (List UInt8)) ++ (s_1.2.2.take s_1.2.2.length).drop y_1.toNat).length) * 16 ≤ 140737488355328) <|
          some (((s_1.2.2.take y_1.toNat) ++ [x_5]) ++ (([] : List (List UInt8)) ++ (s_1.2.2.take s_1.2.2.length).drop y_1.toNat)) : Option (List (List UInt8)))).bind fun y_2 =>
        ((need (0 ≤ y_1 ∧ y_1 ≤ (s_1.2.1.length : Int)) <|
          need (((s_1.2.1.take y_1.toNat).length + 1) * 80 ≤ 140737488355328) <|
          need ((((s_1.2.1.take y_1.toNat) ++ [(⟨x_2.fKind, (x_2.fBool), x_2.fNum, x_2.fText, x_2.fList, x_2.fKeys⟩ : TD0)]).length + (([] : List TD0) ++ (s_1.2.1.take s_1.2.1.length).drop y_1.toNat).length) * 80 ≤ 140737488355328) <|
          some (((s_1.2.1.take y_1.toNat) ++ [(⟨x_2.fKind, (x_2.fBool), x_2.fNum, x_2.fText, x_2.fList, x_2.fKeys⟩ : TD0)]) ++ (([] : List TD0) ++ (s_1.2.1.take s_1.2.1.length).drop y_1.toNat)) : Option (List TD0))).bind fun y_3 =>
        need (inR .i64 (s_1.1 + 1)) <|
        some (.nx (s_1.1 + 1, y_3, y_2)))
    else
      some (.br (s_1.2.1, s_1.2.2))
def ref03_sorted_b (n : Nat) (rec_ref03_sorted : TD0 → Option TD0) (d0 : TD0) : Option TD0 :=
  (loopF (ref03_sorted_s1 n rec_ref03_sorted d0) n ((0 : Int), ([] : List TD0), ([] : List (List UInt8)))).bind fun y_4 =>
  some ((⟨d0.fKind, (d0.fBool), d0.fNum, d0.fText, y_4.1, y_4.2⟩ : TD0))
theorem ref03_sorted_b_ok (n : Nat) (rec_ref03_sorted : TD0 → Option TD0) (hrec_ref03_sorted : ∀ (M : Mem) (c0 : List Value) (d0 : TD0) (h0 : Rep M (emb_TD0 d0) c0) (r : TD0) (hF : rec_ref03_sorted d0 = some r), Ok Tryz.prog M 77 [.agg c0.toArray] (fun M' v => ∃ (c0 : List Value), v = .agg c0.toArray ∧ Rep M' (emb_TD0 r) c0)) (M : Mem) (c0 : List Value) (d0 : TD0) (h0 : Rep M (emb_TD0 d0) c0) (r : TD0) (hF : ref03_sorted_b n rec_ref03_sorted d0 = some r) : Ok Tryz.prog M 77 [.agg c0.toArray] (fun M' v => ∃ (c0 : List Value), v = .agg c0.toArray ∧ Rep M' (emb_TD0 r) c0) := by
 unfold ref03_sorted_b at hF
 intro M1 hM0 w0 H w p0
 replace h0 := Rep.mono hM0 _ _ h0
 obtain ⟨A_1, cap_1, A_2, cap_2, rfl, h_1, h_2⟩ := TD0.opn h0
 refine R_enter 97 Tryz.func77 rfl rfl (by simp) fun a0 f0 => RR (Y13 (cs := #[.int .i8 d0.fKind, .bool d0.fBool, .int .i64 d0.fNum, S d0.fText, .slice A_1 d0.fList.length cap_1, .slice A_2 d0.fKeys.length cap_2]) (T := 76) f0 p0 fun b_1 M_1 w_1 hM_1 hc_1 p_1 _ f => ?_)
 have hc_2 := fz_box hc_1
 refine Y12 f p_1 (.cells #[.int .i8 0, .bool false, .int .i64 0, S [], .slice none 0 0, .slice none 0 0] 76 (0, 0)) fun b_2 w_2 p_2 _ f => eT (RR (Y f 1 fun _ f => Y15 f p_2 hc_2 0 rfl fun _ f => Y f 1 fun _ f => Y15 f p_2 hc_2 1 rfl fun _ f => Y f 1 fun _ f => Y15 f p_2 hc_2 2 rfl fun _ f => Y f 1 fun _ f => Y15 f p_2 hc_2 3 rfl fun _ f => Y f 1 fun _ f => ?_))
 refine Y12 f p_2 (.cells #[.int .i8 0, .bool false, .int .i64 0, S [], .slice none 0 0, .slice none 0 0] 76 (0, 0)) fun b_3 w_3 p_3 _ f => Y28 (vs := [.int .i8 d0.fKind, .bool d0.fBool, .int .i64 d0.fNum, S d0.fText, .slice none 0 0, .slice none 0 0]) (j := 0) f p_3 rfl rfl (by simp [Value.oneCell', S]) (by simp) (by decide) (cs' := #[.int .i8 d0.fKind, .bool d0.fBool, .int .i64 d0.fNum, S d0.fText, .slice none 0 0, .slice none 0 0]) (by kernel_rfl) fun w_4 p_4 _ f => eT (R_seq (RR (Y f 1 fun _ f => eT (wp_block ?_))))
 obtain ⟨A_3, cap_3, hv_1⟩ : ∃ A cap, Value.slice none 0 0 = .slice A ([] : List TD0).length cap := ⟨none, 0, rfl⟩
 have p_5 : Hp w0 M_1 ((Ent.row 76 6 (.slice A_3 ([] : List TD0).length cap_3) ([] : List TD0).length []) :: (Ent.obj b_3 (.cells #[.int .i8 d0.fKind, .bool d0.fBool, .int .i64 d0.fNum, S d0.fText, .slice A_3 ([] : List TD0).length cap_3, .slice none 0 0] 76 (0, 0))) :: (Ent.obj b_2 (.cells #[.int .i8 0, .bool false, .int .i64 0, S [], .slice none 0 0, .slice none 0 0] 76 (0, 0))) :: H) w_4 := by rw [← hv_1]; exact p_4.nilRow 76 6
 have hr_1 : RepSeq M_1 (([] : List TD0).map emb_TD0) [] := rfl
 obtain ⟨A_4, cap_4, hv_2⟩ : ∃ A cap, Value.slice none 0 0 = .slice A ([] : List (List UInt8)).length cap := ⟨none, 0, rfl⟩
 have p_6 : Hp w0 M_1 ((Ent.row 9 1 (.slice A_4 ([] : List (List UInt8)).length cap_4) ([] : List (List UInt8)).length []) :: (Ent.row 76 6 (.slice A_3 ([] : List TD0).length cap_3) ([] : List TD0).length []) :: (Ent.obj b_3 (.cells #[.int .i8 d0.fKind, .bool d0.fBool, .int .i64 d0.fNum, S d0.fText, .slice A_3 ([] : List TD0).length cap_3, .slice A_4 ([] : List (List UInt8)).length cap_4] 76 (0, 0))) :: (Ent.obj b_2 (.cells #[.int .i8 0, .bool false, .int .i64 0, S [], .slice none 0 0, .slice none 0 0] 76 (0, 0))) :: H) w_4 := by rw [← hv_2]; exact p_5.nilRow 9 1
 have hr_2 : RepSeq M_1 (([] : List (List UInt8)).map Dat.str) [] := rfl
 have p_10 := p_6.pl [3, 3, 2, 3]
 obtain ⟨b_4, hL_1, hF_1⟩ := bS hF
 refine wp_mono (Q := fun e a w => (e = .exit 0 ∧ (∃ y_4 : List TD0 × List (List UInt8), b_4 = y_4 ∧ ∃ M_14 : Mem, M_1.le M_14 ∧ ∃ (A_44 : Option Addr), ∃ (cap_45 : Nat), ∃ (cs_20 : List Value), ∃ (A_45 : Option Addr), ∃ (cap_46 : Nat), ∃ (cs_21 : List Value), RepSeq M_14 (y_4.1.map emb_TD0) cs_20 ∧ RepSeq M_14 (y_4.2.map Dat.str) cs_21 ∧ Frm 97 [(2, .pointer (some (⟨b_2, 0, none⟩))), (3, .pointer (some (⟨b_3, 0, none⟩)))] a ∧ Hp w0 M_14 ((Ent.row 76 6 (.slice A_44 y_4.1.length cap_45) y_4.1.length cs_20) :: (Ent.row 9 1 (.slice A_45 y_4.2.length cap_46) y_4.2.length cs_21) :: (Ent.obj b_3 (.cells #[.int .i8 d0.fKind, .bool d0.fBool, .int .i64 d0.fNum, S d0.fText, .slice A_44 y_4.1.length cap_45, .slice A_45 y_4.2.length cap_46] 76 (0, 0))) :: (Ent.obj b_2 (.cells #[.int .i8 0, .bool false, .int .i64 0, S [], .slice none 0 0, .slice none 0 0] 76 (0, 0))) :: H) w))) (R_loop (n := 97) (w0 := w0) (M := M_1) (fun (x : Nat × (Int × List TD0 × List (List UInt8)) × (Option Addr) × Nat × (List Value) × (Option Addr) × Nat × (List Value)) => match x with | (m_1, s_1, A_5, cap_5, cs_1, A_6, cap_6, cs_2) => [(1, .pointer (some (⟨b_1, 0, none⟩))), (2, .pointer (some (⟨b_2, 0, none⟩))), (3, .pointer (some (⟨b_3, 0, none⟩))), (4, .int .i64 s_1.1)]) (fun (x : Nat × (Int × List TD0 × List (List UInt8)) × (Option Addr) × Nat × (List Value) × (Option Addr) × Nat × (List Value)) => match x with | (m_1, s_1, A_5, cap_5, cs_1, A_6, cap_6, cs_2) => ((Ent.row 76 6 (.slice A_5 s_1.2.1.length cap_5) s_1.2.1.length cs_1) :: (Ent.row 9 1 (.slice A_6 s_1.2.2.length cap_6) s_1.2.2.length cs_2) :: (Ent.obj b_3 (.cells #[.int .i8 d0.fKind, .bool d0.fBool, .int .i64 d0.fNum, S d0.fText, .slice A_5 s_1.2.1.length cap_5, .slice A_6 s_1.2.2.length cap_6] 76 (0, 0))) :: (Ent.obj b_2 (.cells #[.int .i8 0, .bool false, .int .i64 0, S [], .slice none 0 0, .slice none 0 0] 76 (0, 0))) :: H)) (fun (x : Nat × (Int × List TD0 × List (List UInt8)) × (Option Addr) × Nat × (List Value) × (Option Addr) × Nat × (List Value)) (MM : Mem) => match x with | (m_1, s_1, A_5, cap_5, cs_1, A_6, cap_6, cs_2) => loopF (ref03_sorted_s1 n rec_ref03_sorted d0) m_1 s_1 = some b_4 ∧ RepSeq MM (s_1.2.1.map emb_TD0) cs_1 ∧ RepSeq MM (s_1.2.2.map Dat.str) cs_2) (fun (x : Nat × (Int × List TD0 × List (List UInt8)) × (Option Addr) × Nat × (List Value) × (Option Addr) × Nat × (List Value)) => match x with | (m_1, s_1, A_5, cap_5, cs_1, A_6, cap_6, cs_2) => m_1) (n, ((0 : Int), ([] : List TD0), ([] : List (List UInt8))), A_3, cap_3, [], A_4, cap_4, []) (f.kp) p_10 ⟨hL_1, hr_1, hr_2⟩ ?_) ?_
 ·rintro ⟨m_1, s_1, A_5, cap_5, cs_1, A_6, cap_6, cs_2⟩ M_2 _ w_5 hM_2 I_1 f p_11
  obtain ⟨I_1L, hr_3, hr_4⟩ := I_1
  obtain ⟨m_2, r_1, rfl, hs_1, hn_1⟩ := loop_step I_1L
  unfold ref03_sorted_s1 at hs_1
  refine R_seq (RR (Y f 2 fun _ f => Y15 f p_11 (fzu hM_2 hc_2) 4 rfl fun _ f => Y f 2 fun _ f => eT (RcF f hs_1 (fun h_3 hF_2 => ?_) fun h_3 hF_31 => ?_)))
  ·have k_1 := dI.1 h_3
   refine wp_skip (T_n (R_seq (wp_block (RR (Y f 1 fun _ f => Y15 f p_11 (fzu hM_2 hc_2) 4 rfl fun _ f => Y f 1 fun _ f => ?_)))))
   obtain ⟨x_1, hx_1, hF_3⟩ := bS hF_2
   obtain ⟨ad_1, c_1, e_1, -, hr_5, hc_3⟩ := Sli.at_ (h_1.mono (hM_1.trans hM_2)) hx_1
   obtain ⟨A_7, cap_7, A_8, cap_8, rfl, h_4, h_5⟩ := TD0.opn hr_5
   refine Z f (Y31 e_1 rfl (len := d0.fList.length) (cap := cap_1) (k := .i64) (i := s_1.1) (e := 76) (sz := 6) (getI_nn hx_1) (getI_lt hx_1)) fun _ f => Z (v := .agg #[.int .i8 x_1.fKind, .bool x_1.fBool, .int .i64 x_1.fNum, S x_1.fText, .slice A_7 x_1.fList.length cap_7, .slice A_8 x_1.fKeys.length cap_8]) f (Y33 (cs := [.int .i8 x_1.fKind, .bool x_1.fBool, .int .i64 x_1.fNum, S x_1.fText, .slice A_7 x_1.fList.length cap_7, .slice A_8 x_1.fKeys.length cap_8]) rfl (ad := ad_1.add (s_1.1.toNat * 6)) (fun j v h => p_11.cell (hc_3 j v h))) fun _ f => ?_
   obtain ⟨x_2, hx_2, hF_4⟩ := bS hF_3
   refine Y16 f p_11 (hrec_ref03_sorted _ _ x_1 (TD0.shutx (x := x_1) h_4 h_5) x_2 hx_2) fun _ M_3 w_6 hM_3 p_12 q_1 _ f => ?_
   obtain ⟨c_2, rfl, hr_6⟩ := q_1
   obtain ⟨A_9, cap_9, A_10, cap_10, rfl, h_6, h_7⟩ := TD0.opn hr_6
   refine Y12 f p_12 (.cells #[.int .i8 0, .bool false, .int .i64 0, S [], .slice none 0 0, .slice none 0 0] 76 (0, 0)) fun b_5 w_7 p_13 _ f => Y28 (vs := [.int .i8 x_2.fKind, .bool x_2.fBool, .int .i64 x_2.fNum, S x_2.fText, .slice A_9 x_2.fList.length cap_9, .slice A_10 x_2.fKeys.length cap_10]) (j := 0) f p_13 rfl rfl (by simp [Value.oneCell', S]) (by simp) (by decide) (cs' := #[.int .i8 x_2.fKind, .bool x_2.fBool, .int .i64 x_2.fNum, S x_2.fText, .slice A_9 x_2.fList.length cap_9, .slice A_10 x_2.fKeys.length cap_10]) (by kernel_rfl) fun w_8 p_14 _ f => eT (R_seq (RR (Y f 1 fun _ f => Y15 f p_14 (fzu (hM_2.trans hM_3) hc_2) 0 rfl fun _ f => Y f 1 fun _ f => eT (RcF f hF_4 (fun h_8 hF_5 => ?_) fun h_8 hF_8 => ?_))))
   ·have k_2 := dI.1 h_8
    refine RR (Y f 1 fun _ f => Z f (Y32 (v := .slice A_5 s_1.2.1.length cap_5) rfl (ad := ⟨b_3, 4, none⟩) (p_14.ownCell 3 rfl 4)) fun _ f => Z (v := .agg #[.int .i8 x_2.fKind, .bool x_2.fBool, .int .i64 x_2.fNum, S x_2.fText, .slice A_9 x_2.fList.length cap_9, .slice A_10 x_2.fKeys.length cap_10]) f (Y33 (cs := [.int .i8 x_2.fKind, .bool x_2.fBool, .int .i64 x_2.fNum, S x_2.fText, .slice A_9 x_2.fList.length cap_9, .slice A_10 x_2.fKeys.length cap_10]) rfl (ad := ⟨b_5, 0, none⟩) (own_cells (p_14.ownCell 0 rfl) 0 rfl)) fun _ f => V_allocS (k := 1) (c := 1) f p_14 (.cells #[.int .i8 x_2.fKind, .bool x_2.fBool, .int .i64 x_2.fNum, S x_2.fText, .slice A_9 x_2.fList.length cap_9, .slice A_10 x_2.fKeys.length cap_10] 76 (0, 0)) (by kernel_rfl) (fun _ => by kernel_rfl) fun b_6 w_9 p_15 _ f => ?_)
    have p_16 := p_15.pl [2]
    obtain ⟨g_1, hF_6⟩ := nS hF_5
    refine Y22 (z := .agg #[.int .i8 0, .bool false, .int .i64 0, S [], .slice none 0 0, .slice none 0 0]) (f := emb_TD0) (xs := s_1.2.1) (ys := [(⟨x_2.fKind, (x_2.fBool), x_2.fNum, x_2.fText, x_2.fList, x_2.fKeys⟩ : TD0)]) (news := [.int .i8 x_2.fKind, .bool x_2.fBool, .int .i64 x_2.fNum, S x_2.fText, .slice A_9 x_2.fList.length cap_9, .slice A_10 x_2.fKeys.length cap_10]) (ad := ⟨b_6, 0, none⟩) (m := 1) (c := 1) f p_16 (RepSeq.mono hM_3 _ _ hr_3) (by exact ⟨_, _, rfl, TD0.shut h_6 h_7, rfl⟩) rfl rfl rfl rfl (own_cells (p_16.ownCell 1 rfl) 0 rfl) (by exact g_1) (by have hg_ := g_1; first | omega | (simp only [List.length_cons, List.length_nil] at *; omega)) fun A_11 cap_11 cs_3 w_10 p_17 hr_7 _ f => ?_
    have p_18 := p_17.pl [1]
    have p_19 := p_18.drop
    refine Y f 1 fun _ f => Y27 f p_19 3 rfl rfl (b := b_3) (j := 4) (v := .slice A_11 (s_1.2.1 ++ [(⟨x_2.fKind, (x_2.fBool), x_2.fNum, x_2.fText, x_2.fList, x_2.fKeys⟩ : TD0)]).length cap_11) rfl (by exact rfl) (by simp) (by simp) ((Ent.row 76 6 (.slice A_11 (s_1.2.1 ++ [(⟨x_2.fKind, (x_2.fBool), x_2.fNum, x_2.fText, x_2.fList, x_2.fKeys⟩ : TD0)]).length cap_11) (s_1.2.1 ++ [(⟨x_2.fKind, (x_2.fBool), x_2.fNum, x_2.fText, x_2.fList, x_2.fKeys⟩ : TD0)]).length cs_3) :: (Ent.obj b_5 (.cells #[.int .i8 x_2.fKind, .bool x_2.fBool, .int .i64 x_2.fNum, S x_2.fText, .slice A_9 x_2.fList.length cap_9, .slice A_10 x_2.fKeys.length cap_10] 76 (0, 0))) :: (Ent.row 9 1 (.slice A_6 s_1.2.2.length cap_6) s_1.2.2.length cs_2) :: (Ent.obj b_3 (.cells #[.int .i8 d0.fKind, .bool d0.fBool, .int .i64 d0.fNum, S d0.fText, .slice A_11 (s_1.2.1 ++ [(⟨x_2.fKind, (x_2.fBool), x_2.fNum, x_2.fText, x_2.fList, x_2.fKeys⟩ : TD0)]).length cap_11, .slice A_6 s_1.2.2.length cap_6] 76 (0, 0))) :: (Ent.obj b_2 (.cells #[.int .i8 0, .bool false, .int .i64 0, S [], .slice none 0 0, .slice none 0 0] 76 (0, 0))) :: H) rfl fun w_11 p_20 _ f => eT (wp_exit (T_x (B_x (T_n (R_reg (Y f 1 fun _ f => ?_))))))
    obtain ⟨g_2, hF_7⟩ := nS hF_6
    refine Y f 1 fun _ f => ?_
    have f := f.st 24 (congrArg (Value.int .i64) (inR_wrap g_2))
    refine Y f 1 fun _ f => W_end rfl ?_
    have p_127 := p_20.pl [4, 4, 4, 3, 4]
    refine T_n ?_
    obtain rfl := sI hF_7
    exact ⟨⟨m_2, (s_1.1 + 1, s_1.2.1 ++ [(⟨x_2.fKind, (x_2.fBool), x_2.fNum, x_2.fText, x_2.fList, x_2.fKeys⟩ : TD0)], s_1.2.2), A_11, cap_11, cs_3, A_6, cap_6, cs_2⟩, Nat.lt_succ_self _, M_3, (hM_2.trans hM_3), ⟨hn_1, hr_7, (RepSeq.mono hM_3 _ _ hr_4)⟩, f.kp, (p_127.dropN 1)⟩
   ·have k_3 := iff_f dI h_8
    refine wp_skip (T_n (RR (Y f 1 fun _ f => eT (R_seq (wp_block ?_)))))
    obtain ⟨b_7, hL_2, hF_9⟩ := bS hF_8
    refine wp_mono (Q := fun e a w => (e = .exit 2 ∧ (∃ y_1 : Int, b_7 = y_1 ∧ ∃ M_5 : Mem, M_3.le M_5 ∧ Frm 97 [(1, .pointer (some (⟨b_1, 0, none⟩))), (2, .pointer (some (⟨b_2, 0, none⟩))), (3, .pointer (some (⟨b_3, 0, none⟩))), (4, .int .i64 s_1.1), (5, .pointer (some (⟨b_5, 0, none⟩))), (6, .int .i64 y_1)] a ∧ Hp w0 M_5 ((Ent.obj b_5 (.cells #[.int .i8 x_2.fKind, .bool x_2.fBool, .int .i64 x_2.fNum, S x_2.fText, .slice A_9 x_2.fList.length cap_9, .slice A_10 x_2.fKeys.length cap_10] 76 (0, 0))) :: (Ent.row 76 6 (.slice A_5 s_1.2.1.length cap_5) s_1.2.1.length cs_1) :: (Ent.row 9 1 (.slice A_6 s_1.2.2.length cap_6) s_1.2.2.length cs_2) :: (Ent.obj b_3 (.cells #[.int .i8 d0.fKind, .bool d0.fBool, .int .i64 d0.fNum, S d0.fText, .slice A_5 s_1.2.1.length cap_5, .slice A_6 s_1.2.2.length cap_6] 76 (0, 0))) :: (Ent.obj b_2 (.cells #[.int .i8 0, .bool false, .int .i64 0, S [], .slice none 0 0, .slice none 0 0] 76 (0, 0))) :: H) w))) (R_loop (n := 97) (w0 := w0) (M := M_3) (fun (x : Nat × Int) => match x with | (m_3, s_2) => [(1, .pointer (some (⟨b_1, 0, none⟩))), (2, .pointer (some (⟨b_2, 0, none⟩))), (3, .pointer (some (⟨b_3, 0, none⟩))), (4, .int .i64 s_1.1), (5, .pointer (some (⟨b_5, 0, none⟩))), (6, .int .i64 s_2)]) (fun (x : Nat × Int) => match x with | (m_3, s_2) => ((Ent.obj b_5 (.cells #[.int .i8 x_2.fKind, .bool x_2.fBool, .int .i64 x_2.fNum, S x_2.fText, .slice A_9 x_2.fList.length cap_9, .slice A_10 x_2.fKeys.length cap_10] 76 (0, 0))) :: (Ent.row 76 6 (.slice A_5 s_1.2.1.length cap_5) s_1.2.1.length cs_1) :: (Ent.row 9 1 (.slice A_6 s_1.2.2.length cap_6) s_1.2.2.length cs_2) :: (Ent.obj b_3 (.cells #[.int .i8 d0.fKind, .bool d0.fBool, .int .i64 d0.fNum, S d0.fText, .slice A_5 s_1.2.1.length cap_5, .slice A_6 s_1.2.2.length cap_6] 76 (0, 0))) :: (Ent.obj b_2 (.cells #[.int .i8 0, .bool false, .int .i64 0, S [], .slice none 0 0, .slice none 0 0] 76 (0, 0))) :: H)) (fun (x : Nat × Int) (MM : Mem) => match x with | (m_3, s_2) => loopF (ref03_sorted_s2 n d0 s_1) m_3 s_2 = some b_7) (fun (x : Nat × Int) => match x with | (m_3, s_2) => m_3) (n, (0 : Int)) (f.kp) p_14 hL_2 ?_) ?_
    ·rintro ⟨m_3, s_2⟩ M_4 _ w_12 hM_4 I_2 f p_21
     have I_2L := I_2
     obtain ⟨m_4, r_2, rfl, hs_2, hn_2⟩ := loop_step I_2L
     unfold ref03_sorted_s2 at hs_2
     refine R_seq (R_seq (R_draw p_21 (by kernel_rfl) (by kernel_rfl) (Y5 default f 2 fun _ f => Y2 (v := .slice A_6 s_1.2.2.length cap_6) f (fun _ pq => Y32 (v := .slice A_6 s_1.2.2.length cap_6) rfl (ad := ⟨b_3, 5, none⟩) (pq.ownCell 3 rfl 5)) fun _ f => Y5 default f 3 fun _ f => ?_)))
     rcases cE hs_2 with ⟨h_9, hF_10⟩ | ⟨h_9, hF_16⟩
     ·have k_4 := dI.1 h_9
      have f := f.st 45 (cB h_9)
      refine Y5 default f 1 fun _ f => Y2 (v := .slice A_6 s_1.2.2.length cap_6) f (fun _ pq => Y32 (v := .slice A_6 s_1.2.2.length cap_6) rfl (ad := ⟨b_3, 5, none⟩) (pq.ownCell 3 rfl 5)) fun _ f => Y5 default f 1 fun _ f => ?_
      obtain ⟨x_3, hx_3, hF_11⟩ := bS hF_10
      obtain ⟨b_8, cap_12, hv_3, hcap_1⟩ := p_21.rowAddr 2 rfl (getI_pos hx_3)
      have f := f.st 47 (hv_3)
      refine Y2 (v := .pointer (some ((⟨b_8, 0, none⟩ : Addr).add (s_2.toNat * 1)))) f (fun _ pq => Y30 rfl (ad := ⟨b_8, 0, none⟩) (len := s_1.2.2.length) (cap := cap_12) (k := .i64) (i := s_2) (e := 9) (sz := 1) (getI_nn hx_3) (getI_lt hx_3)) fun _ f => ?_
      have f := f.st 47 (hv_3.symm)
      obtain ⟨c_3, -, hr_8, hc_4⟩ := RepSeq.get s_2.toNat (szd_all szd_str) (RepSeq.mono (hM_3.trans hM_4) _ _ hr_4) (getI_map hx_3)
      obtain rfl : c_3 = [S x_3] := hr_8
      refine Y2 (v := S x_3) f (fun _ pq => Y32 (v := S x_3) rfl (ad := (⟨b_8, 0, none⟩ : Addr).add (s_2.toNat * 1)) (by simpa [Addr.add] using (fun j v h => row_at (pq.rowCell 2 rfl hv_3) hc_4 j v h) 0 _ rfl)) fun _ f => Y5 default f 1 fun _ f => Y4 f (fzu ((hM_2.trans hM_3).trans hM_4) hc_2) 5 rfl fun _ f => Y5 default f 1 fun _ f => ?_
      obtain ⟨x_4, hx_4, hF_12⟩ := bS hF_11
      obtain ⟨ad_2, c_4, e_2, -, hr_9, hc_5⟩ := Sli.at_ (h_2.mono (((hM_1.trans hM_2).trans hM_3).trans hM_4)) hx_4
      obtain rfl : c_4 = [S x_4] := hr_9
      refine Y2 (v := .pointer (some (ad_2.add (s_1.1.toNat * 1)))) f (fun _ pq => Y31 e_2 rfl (len := d0.fKeys.length) (cap := cap_2) (k := .i64) (i := s_1.1) (e := 9) (sz := 1) (getI_nn hx_4) (getI_lt hx_4)) fun _ f => Y4 f hc_5 0 rfl fun _ f => Y2 (v := .bool (Op.bytesLess x_3 x_4)) f (fun _ pq => X_strlt rfl (l := x_3) (m := x_4) (by kernel_rfl) (by kernel_rfl)) fun _ f => Y5 default f 1 fun _ f => Q_end rfl ?_
      intro w_13 p_22
      refine T_n (RcF f hF_12 (fun h_10 hF_13 => ?_) fun h_10 hF_15 => ?_)
      ·refine wp_skip (T_n (wp_block (R_reg (Y f 1 fun _ f => ?_))))
       obtain ⟨g_3, hF_14⟩ := nS hF_13
       refine Y f 1 fun _ f => ?_
       have f := f.st 59 (congrArg (Value.int .i64) (inR_wrap g_3))
       refine Y f 1 fun _ f => W_end rfl (B_n (T_n ?_))
       obtain rfl := sI hF_14
       exact ⟨⟨m_4, s_2 + 1⟩, Nat.lt_succ_self _, M_4, hM_4, hn_2, f.kp, p_22⟩
      ·refine wp_exit (T_x (T_x ?_))
       obtain rfl := sI hF_15
       exact ⟨rfl, s_2, (sI hn_2).symm, M_4, hM_4, f.kp, p_22⟩
     ·have k_7 := iff_f dI h_9
      have f := f.st 45 (cB h_9)
      refine Y5 default f 12 fun _ f => Q_end rfl ?_
      intro w_14 p_23
      refine T_n (Y7 f (wp_exit (T_x (T_x ?_))))
      obtain rfl := sI hF_16
      exact ⟨rfl, s_2, (sI hn_2).symm, M_4, hM_4, f.kp, p_23⟩
    ·rintro _ _ w_16 ⟨rfl, y_1, hq_, M_5, hM_5, f, p_24⟩
     subst b_7
     refine B_x (T_n (RR (Y f 1 fun _ f => eT (RR (Y f 1 fun _ f => eT (RR (Y f 2 fun _ f => Z f (Y32 (v := .slice A_6 s_1.2.2.length cap_6) rfl (ad := ⟨b_3, 5, none⟩) (p_24.ownCell 3 rfl 5)) fun _ f => Y f 1 fun _ f => ?_)))))))
     obtain ⟨g_4, hF_17⟩ := nS hF_9
     obtain ⟨A_12, cap_13, hv_4, hcap_2, hcn_1⟩ := p_24.rowShape 2 rfl
     have f := f.st 62 (hv_4)
     refine Z f (Y35 rfl (A := A_12) (len := s_1.2.2.length) (cap := cap_13) (k := .i64) (a := y_1) (e := 9) (sz := 1) (by omega) (by omega)) fun _ f => ?_
     have f := f.st 62 (hv_4.symm)
     obtain ⟨A_13, cap_14, hv_5⟩ : ∃ A cap, Value.slice none 0 0 = .slice A ([] : List (List UInt8)).length cap := ⟨none, 0, rfl⟩
     have p_25 : Hp w0 M_5 ((Ent.row 9 1 (.slice A_13 ([] : List (List UInt8)).length cap_14) ([] : List (List UInt8)).length []) :: (Ent.obj b_5 (.cells #[.int .i8 x_2.fKind, .bool x_2.fBool, .int .i64 x_2.fNum, S x_2.fText, .slice A_9 x_2.fList.length cap_9, .slice A_10 x_2.fKeys.length cap_10] 76 (0, 0))) :: (Ent.row 76 6 (.slice A_5 s_1.2.1.length cap_5) s_1.2.1.length cs_1) :: (Ent.row 9 1 (.slice A_6 s_1.2.2.length cap_6) s_1.2.2.length cs_2) :: (Ent.obj b_3 (.cells #[.int .i8 d0.fKind, .bool d0.fBool, .int .i64 d0.fNum, S d0.fText, .slice A_5 s_1.2.1.length cap_5, .slice A_6 s_1.2.2.length cap_6] 76 (0, 0))) :: (Ent.obj b_2 (.cells #[.int .i8 0, .bool false, .int .i64 0, S [], .slice none 0 0, .slice none 0 0] 76 (0, 0))) :: H) w_16 := by rw [← hv_5]; exact p_24.nilRow 9 1
     have f := f.st 60 (hv_5)
     have hr_10 : RepSeq M_5 (([] : List (List UInt8)).map Dat.str) [] := rfl
     obtain ⟨g_5, hF_18⟩ := nS hF_17
     refine Y23 (z := S []) (f := Dat.str) (xs := ([] : List (List UInt8))) (ys := s_1.2.2) (lo := y_1.toNat) (hi := s_1.2.2.length) f p_25 szd_str hr_10 (RepSeq.mono (hM_3.trans hM_5) _ _ hr_4) 3 rfl hv_4 (by omega) (by omega) rfl rfl rfl g_5 (by omega) fun A_14 cap_15 cs_4 w_17 p_26 hr_11 _ f => Y f 1 fun _ f => eT (RR (Y f 2 fun _ f => Z f (Y32 (v := .slice A_5 s_1.2.1.length cap_5) rfl (ad := ⟨b_3, 4, none⟩) (p_26.ownCell 4 rfl 4)) fun _ f => Y f 1 fun _ f => ?_))
     obtain ⟨g_6, hF_19⟩ := nS hF_18
     obtain ⟨A_15, cap_16, hv_6, hcap_3, hcn_2⟩ := p_26.rowShape 2 rfl
     have f := f.st 68 (hv_6)
     refine Z f (Y35 rfl (A := A_15) (len := s_1.2.1.length) (cap := cap_16) (k := .i64) (a := y_1) (e := 76) (sz := 6) (by omega) (by omega)) fun _ f => ?_
     have f := f.st 68 (hv_6.symm)
     obtain ⟨A_16, cap_17, hv_7⟩ : ∃ A cap, Value.slice none 0 0 = .slice A ([] : List TD0).length cap := ⟨none, 0, rfl⟩
     have p_27 : Hp w0 M_5 ((Ent.row 76 6 (.slice A_16 ([] : List TD0).length cap_17) ([] : List TD0).length []) :: (Ent.row 9 1 (.slice A_14 (([] : List (List UInt8)) ++ (s_1.2.2.take s_1.2.2.length).drop y_1.toNat).length cap_15) (([] : List (List UInt8)) ++ (s_1.2.2.take s_1.2.2.length).drop y_1.toNat).length cs_4) :: (Ent.obj b_5 (.cells #[.int .i8 x_2.fKind, .bool x_2.fBool, .int .i64 x_2.fNum, S x_2.fText, .slice A_9 x_2.fList.length cap_9, .slice A_10 x_2.fKeys.length cap_10] 76 (0, 0))) :: (Ent.row 76 6 (.slice A_5 s_1.2.1.length cap_5) s_1.2.1.length cs_1) :: (Ent.row 9 1 (.slice A_6 s_1.2.2.length cap_6) s_1.2.2.length cs_2) :: (Ent.obj b_3 (.cells #[.int .i8 d0.fKind, .bool d0.fBool, .int .i64 d0.fNum, S d0.fText, .slice A_5 s_1.2.1.length cap_5, .slice A_6 s_1.2.2.length cap_6] 76 (0, 0))) :: (Ent.obj b_2 (.cells #[.int .i8 0, .bool false, .int .i64 0, S [], .slice none 0 0, .slice none 0 0] 76 (0, 0))) :: H) w_17 := by rw [← hv_7]; exact p_26.nilRow 76 6
     have f := f.st 66 (hv_7)
     have hr_12 : RepSeq M_5 (([] : List TD0).map emb_TD0) [] := rfl
     obtain ⟨g_7, hF_20⟩ := nS hF_19
     refine Y23 (z := .agg #[.int .i8 0, .bool false, .int .i64 0, S [], .slice none 0 0, .slice none 0 0]) (f := emb_TD0) (xs := ([] : List TD0)) (ys := s_1.2.1) (lo := y_1.toNat) (hi := s_1.2.1.length) f p_27 szd_TD0 hr_12 (RepSeq.mono (hM_3.trans hM_5) _ _ hr_3) 3 rfl hv_6 (by omega) (by omega) rfl rfl rfl g_7 (by omega) fun A_17 cap_18 cs_5 w_18 p_28 hr_13 _ f => Y f 1 fun _ f => eT (R_seq ?_)
     obtain ⟨j_1, hj_1, hF_21⟩ := bS hF_20
     refine R_mid (fun a_110 w_40 => ∃ y_2 : List (List UInt8), j_1 = y_2 ∧ ∃ M_9 : Mem, M_5.le M_9 ∧ ∃ (A_30 : Option Addr), ∃ (cap_31 : Nat), ∃ (cs_12 : List Value), RepSeq M_9 (y_2.map Dat.str) cs_12 ∧ Frm 97 [(1, .pointer (some (⟨b_1, 0, none⟩))), (2, .pointer (some (⟨b_2, 0, none⟩))), (3, .pointer (some (⟨b_3, 0, none⟩))), (4, .int .i64 s_1.1), (5, .pointer (some (⟨b_5, 0, none⟩))), (6, .int .i64 y_1), (8, .slice A_17 (([] : List TD0) ++ (s_1.2.1.take s_1.2.1.length).drop y_1.toNat).length cap_18)] a_110 ∧ Hp w0 M_9 ((Ent.row 9 1 (.slice A_30 y_2.length cap_31) y_2.length cs_12) :: (Ent.row 76 6 (.slice A_17 (([] : List TD0) ++ (s_1.2.1.take s_1.2.1.length).drop y_1.toNat).length cap_18) (([] : List TD0) ++ (s_1.2.1.take s_1.2.1.length).drop y_1.toNat).length cs_5) :: (Ent.obj b_5 (.cells #[.int .i8 x_2.fKind, .bool x_2.fBool, .int .i64 x_2.fNum, S x_2.fText, .slice A_9 x_2.fList.length cap_9, .slice A_10 x_2.fKeys.length cap_10] 76 (0, 0))) :: (Ent.row 76 6 (.slice A_5 s_1.2.1.length cap_5) s_1.2.1.length cs_1) :: (Ent.obj b_3 (.cells #[.int .i8 d0.fKind, .bool d0.fBool, .int .i64 d0.fNum, S d0.fText, .slice A_5 s_1.2.1.length cap_5, .slice A_30 y_2.length cap_31] 76 (0, 0))) :: (Ent.obj b_2 (.cells #[.int .i8 0, .bool false, .int .i64 0, S [], .slice none 0 0, .slice none 0 0] 76 (0, 0))) :: H) w_40) ?_ ?_
     ·have p_44 := p_28.pl [6, 6, 5, 5, 4, 6, 6]
      obtain ⟨x_5, hx_5, hF_22⟩ := bS hj_1
      obtain ⟨g_8, hF_23⟩ := nS hF_22
      obtain ⟨g_9, hF_24⟩ := nS hF_23
      obtain ⟨g_10, hF_25⟩ := nS hF_24
      refine R_plan (ks := [13, 14]) (E := [Ent.row 9 1 (.slice A_14 (([] : List (List UInt8)) ++ (s_1.2.2.take s_1.2.2.length).drop y_1.toNat).length cap_15) (([] : List (List UInt8)) ++ (s_1.2.2.take s_1.2.2.length).drop y_1.toNat).length cs_4, Ent.row 9 1 (.slice A_6 s_1.2.2.length cap_6) s_1.2.2.length cs_2]) (Hr := ((Ent.row 76 6 (.slice A_17 (([] : List TD0) ++ (s_1.2.1.take s_1.2.1.length).drop y_1.toNat).length cap_18) (([] : List TD0) ++ (s_1.2.1.take s_1.2.1.length).drop y_1.toNat).length cs_5) :: (Ent.obj b_5 (.cells #[.int .i8 x_2.fKind, .bool x_2.fBool, .int .i64 x_2.fNum, S x_2.fText, .slice A_9 x_2.fList.length cap_9, .slice A_10 x_2.fKeys.length cap_10] 76 (0, 0))) :: (Ent.row 76 6 (.slice A_5 s_1.2.1.length cap_5) s_1.2.1.length cs_1) :: (Ent.obj b_3 (.cells #[.int .i8 d0.fKind, .bool d0.fBool, .int .i64 d0.fNum, S d0.fText, .slice A_5 s_1.2.1.length cap_5, .slice A_6 s_1.2.2.length cap_6] 76 (0, 0))) :: (Ent.obj b_2 (.cells #[.int .i8 0, .bool false, .int .i64 0, S [], .slice none 0 0, .slice none 0 0] 76 (0, 0))) :: H)) (.quiet 0 (.quiet 1 (.quiet 2 (.quiet 4 (.quiet 5 (.quiet 6 (.quiet 7 (.quiet 8 (.quiet 11 (.alt 3 (.alt 9 (.alt 10 (.alt 12 .done .none) .none) .none) (.alt 9 (.alt 3 (.alt 10 (.alt 12 .done .none) .none) .none) .none))))))))))) p_44 (by kernel_rfl) (by kernel_rfl) (by kernel_rfl) (Y1 (v := .pointer (some (⟨b_3, 5, none⟩))) rfl f rfl rfl (fun _ _ => by kernel_rfl) fun _ f => Y1 (v := .slice A_6 s_1.2.2.length cap_6) rfl f rfl rfl (fun _ pq => Y32 (v := .slice A_6 s_1.2.2.length cap_6) rfl (ad := ⟨b_3, 5, none⟩) (pq.ownCell 3 rfl 5)) fun _ f => Y1 (v := .int .i64 y_1) rfl f rfl rfl (fun _ _ => by kernel_rfl) fun _ f => Y1 (v := .pointer (some ((⟨b_1, 0, none⟩ : Addr).add 5))) rfl f rfl rfl (fun _ _ => by kernel_rfl) fun _ f => Y1 (v := .slice A_2 d0.fKeys.length cap_2) rfl f rfl rfl (fun _ pq => Y32 (v := .slice A_2 d0.fKeys.length cap_2) rfl (ad := (⟨b_1, 0, none⟩ : Addr).add 5) (pq.cell ((fzu ((hM_2.trans hM_3).trans hM_5) hc_2) 5 _ rfl))) fun _ f => Y1 (v := .int .i64 s_1.1) rfl f rfl rfl (fun _ _ => by kernel_rfl) fun _ f => ?_)
      obtain ⟨ad_4, c_6, e_4, -, hr_18, hc_7⟩ := Sli.at_ (h_2.mono (((hM_1.trans hM_2).trans hM_3).trans hM_5)) hx_5
      obtain rfl : c_6 = [S x_5] := hr_18
      refine Y1 (v := .pointer (some (ad_4.add (s_1.1.toNat * 1)))) rfl f rfl rfl (fun _ pq => Y31 e_4 rfl (len := d0.fKeys.length) (cap := cap_2) (k := .i64) (i := s_1.1) (e := 9) (sz := 1) (getI_nn hx_5) (getI_lt hx_5)) fun _ f => Y1 (v := S x_5) rfl f rfl rfl (fun _ pq => Y32 (v := S x_5) rfl (ad := ad_4.add (s_1.1.toNat * 1)) (pq.cell (hc_7 0 _ rfl))) fun _ f => Y1 (v := .slice A_14 (([] : List (List UInt8)) ++ (s_1.2.2.take s_1.2.2.length).drop y_1.toNat).length cap_15) rfl f rfl rfl (fun _ _ => by kernel_rfl) fun _ f => N_alt rfl (fun w_22 p_45 => ?_) ?_
      ·obtain ⟨A_22, cap_23, hv_10, hcap_5, hcn_4⟩ := p_45.rowShape 1 rfl
       have f := f.st 73 (hv_10)
       refine Z f (Y36 rfl (A := A_22) (len := s_1.2.2.length) (cap := cap_23) (k' := .i64) (b := y_1) (e := 9) (sz := 1) (by omega) (by omega)) fun _ f => ?_
       have f := f.st 73 (hv_10.symm)
       refine W_end rfl (N_goN 2 (mR _) p_45 rfl (N_alt rfl (fun w_23 p_46 => ?_) ?_))
       ·refine V_allocS (k := 1) (c := 1) f p_46 (.cells #[S x_5] 9 (0, 0)) (by kernel_rfl) (fun _ => by kernel_rfl) fun b_10 w_24 p_47 _ f => W_end rfl (N_goN 3 (mR _) p_47 rfl (N_alt rfl (fun w_25 p_48 => ?_) ?_))
        ·have p_49 := p_48.pl [2]
         have hr_19 : RepSeq M_5 ((s_1.2.2.take y_1.toNat).map Dat.str) (cs_2.take (y_1.toNat * 1)) := by rw [List.map_take]; exact RepSeq.takeD _ (szd_all szd_str) (RepSeq.mono (hM_3.trans hM_5) _ _ hr_4)
         have hl_7 : (s_1.2.2.take y_1.toNat).length = y_1.toNat := by rw [List.length_take]; omega
         have p_50 : Hp w0 M_5 ((Ent.row 9 1 (.slice (cutA A_22 1 0 cap_23) (s_1.2.2.take y_1.toNat).length cap_23) (s_1.2.2.take y_1.toNat).length (cs_2.take (y_1.toNat * 1))) :: (Ent.obj b_10 (.cells #[S x_5] 9 (0, 0))) :: (Ent.row 9 1 (.slice A_14 (([] : List (List UInt8)) ++ (s_1.2.2.take s_1.2.2.length).drop y_1.toNat).length cap_15) (([] : List (List UInt8)) ++ (s_1.2.2.take s_1.2.2.length).drop y_1.toNat).length cs_4) :: (Ent.row 76 6 (.slice A_17 (([] : List TD0) ++ (s_1.2.1.take s_1.2.1.length).drop y_1.toNat).length cap_18) (([] : List TD0) ++ (s_1.2.1.take s_1.2.1.length).drop y_1.toNat).length cs_5) :: (Ent.obj b_5 (.cells #[.int .i8 x_2.fKind, .bool x_2.fBool, .int .i64 x_2.fNum, S x_2.fText, .slice A_9 x_2.fList.length cap_9, .slice A_10 x_2.fKeys.length cap_10] 76 (0, 0))) :: (Ent.row 76 6 (.slice A_5 s_1.2.1.length cap_5) s_1.2.1.length cs_1) :: (Ent.obj b_3 (.cells #[.int .i8 d0.fKind, .bool d0.fBool, .int .i64 d0.fNum, S d0.fText, .slice A_5 s_1.2.1.length cap_5, .slice A_6 s_1.2.2.length cap_6] 76 (0, 0))) :: (Ent.obj b_2 (.cells #[.int .i8 0, .bool false, .int .i64 0, S [], .slice none 0 0, .slice none 0 0] 76 (0, 0))) :: H) w_25 := by rw [hl_7]; exact p_49.rowFront hv_10 (by omega)
         have f := Frm.set f 75 (v := .slice (cutA A_22 1 0 cap_23) y_1.toNat cap_23) (v' := .slice (cutA A_22 1 0 cap_23) (s_1.2.2.take y_1.toNat).length cap_23) (by kernel_rfl) (by rw [hl_7])
         refine Y22 (z := S []) (f := Dat.str) (xs := s_1.2.2.take y_1.toNat) (ys := [x_5]) (news := [S x_5]) (ad := ⟨b_10, 0, none⟩) (m := 1) (c := 1) f p_50 hr_19 (by exact ⟨_, _, rfl, rfl, rfl⟩) rfl rfl rfl rfl (own_cells (p_50.ownCell 1 rfl) 0 rfl) (by exact g_9) (by have hg_ := g_9; first | omega | (simp only [List.length_cons, List.length_nil] at *; omega)) fun A_23 cap_24 cs_8 w_26 p_51 hr_20 _ f => ?_
         have p_52 := p_51.pl [1]
         have p_53 := p_52.drop
         refine W_end rfl (N_goN 2 (mR _) p_53 rfl (N_alt rfl (fun w_27 p_54 => ?_) ?_))
         ·have p_55 := p_54.pl [1]
          obtain ⟨A_24, cap_25, M_7, hv_11, hM_7, p_56, h_12⟩ := p_55.rowSli (f := Dat.str) (xs := ([] : List (List UInt8)) ++ (s_1.2.2.take s_1.2.2.length).drop y_1.toNat) szd_str hr_11
          have f := f.st 83 (hv_11)
          refine Y24 (z := S []) (f := Dat.str) (xs := (s_1.2.2.take y_1.toNat) ++ [x_5]) (ys := ([] : List (List UInt8)) ++ (s_1.2.2.take s_1.2.2.length).drop y_1.toNat) (c := cap_25) f p_56 (RepSeq.mono hM_7 _ _ hr_20) h_12 rfl rfl rfl g_10 (by omega) fun A_25 cap_26 cs_9 w_28 p_57 hr_21 _ f => W_end rfl (N_goN 1 hM_7 p_57 rfl (N_tail fun w_29 p_58 => Y f 1 fun _ f => Y27 f p_58 4 rfl rfl (b := b_3) (j := 5) (v := .slice A_25 (((s_1.2.2.take y_1.toNat) ++ [x_5]) ++ (([] : List (List UInt8)) ++ (s_1.2.2.take s_1.2.2.length).drop y_1.toNat)).length cap_26) rfl (by exact rfl) (by simp) (by simp) ((Ent.row 9 1 (.slice A_25 (((s_1.2.2.take y_1.toNat) ++ [x_5]) ++ (([] : List (List UInt8)) ++ (s_1.2.2.take s_1.2.2.length).drop y_1.toNat)).length cap_26) (((s_1.2.2.take y_1.toNat) ++ [x_5]) ++ (([] : List (List UInt8)) ++ (s_1.2.2.take s_1.2.2.length).drop y_1.toNat)).length cs_9) :: (Ent.row 76 6 (.slice A_17 (([] : List TD0) ++ (s_1.2.1.take s_1.2.1.length).drop y_1.toNat).length cap_18) (([] : List TD0) ++ (s_1.2.1.take s_1.2.1.length).drop y_1.toNat).length cs_5) :: (Ent.obj b_5 (.cells #[.int .i8 x_2.fKind, .bool x_2.fBool, .int .i64 x_2.fNum, S x_2.fText, .slice A_9 x_2.fList.length cap_9, .slice A_10 x_2.fKeys.length cap_10] 76 (0, 0))) :: (Ent.row 76 6 (.slice A_5 s_1.2.1.length cap_5) s_1.2.1.length cs_1) :: (Ent.obj b_3 (.cells #[.int .i8 d0.fKind, .bool d0.fBool, .int .i64 d0.fNum, S d0.fText, .slice A_5 s_1.2.1.length cap_5, .slice A_25 (((s_1.2.2.take y_1.toNat) ++ [x_5]) ++ (([] : List (List UInt8)) ++ (s_1.2.2.take s_1.2.2.length).drop y_1.toNat)).length cap_26] 76 (0, 0))) :: (Ent.obj b_2 (.cells #[.int .i8 0, .bool false, .int .i64 0, S [], .slice none 0 0, .slice none 0 0] 76 (0, 0))) :: H) rfl fun w_30 p_59 _ f => W_end rfl (N_te (T_n ?_))))
          exact ⟨((s_1.2.2.take y_1.toNat) ++ [x_5]) ++ (([] : List (List UInt8)) ++ (s_1.2.2.take s_1.2.2.length).drop y_1.toNat), (sI hF_25).symm, M_7, hM_7, A_25, cap_26, cs_9, hr_21, f.kp, p_59⟩
         exact N_none
        exact N_none
       exact N_none
      refine N_alt rfl (fun w_31 p_60 => ?_) ?_
      ·refine V_allocS (k := 1) (c := 1) f p_60 (.cells #[S x_5] 9 (0, 0)) (by kernel_rfl) (fun _ => by kernel_rfl) fun b_11 w_32 p_61 _ f => W_end rfl (N_goN 3 (mR _) p_61 rfl (N_alt rfl (fun w_33 p_62 => ?_) ?_))
       ·obtain ⟨A_26, cap_27, hv_12, hcap_6, hcn_5⟩ := p_62.rowShape 2 rfl
        have f := f.st 73 (hv_12)
        refine Z f (Y36 rfl (A := A_26) (len := s_1.2.2.length) (cap := cap_27) (k' := .i64) (b := y_1) (e := 9) (sz := 1) (by omega) (by omega)) fun _ f => ?_
        have f := f.st 73 (hv_12.symm)
        refine W_end rfl (N_goN 3 (mR _) p_62 rfl (N_alt rfl (fun w_34 p_63 => ?_) ?_))
        ·have p_64 := p_63.pl [2]
         have hr_22 : RepSeq M_5 ((s_1.2.2.take y_1.toNat).map Dat.str) (cs_2.take (y_1.toNat * 1)) := by rw [List.map_take]; exact RepSeq.takeD _ (szd_all szd_str) (RepSeq.mono (hM_3.trans hM_5) _ _ hr_4)
         have hl_8 : (s_1.2.2.take y_1.toNat).length = y_1.toNat := by rw [List.length_take]; omega
         have p_65 : Hp w0 M_5 ((Ent.row 9 1 (.slice (cutA A_26 1 0 cap_27) (s_1.2.2.take y_1.toNat).length cap_27) (s_1.2.2.take y_1.toNat).length (cs_2.take (y_1.toNat * 1))) :: (Ent.obj b_11 (.cells #[S x_5] 9 (0, 0))) :: (Ent.row 9 1 (.slice A_14 (([] : List (List UInt8)) ++ (s_1.2.2.take s_1.2.2.length).drop y_1.toNat).length cap_15) (([] : List (List UInt8)) ++ (s_1.2.2.take s_1.2.2.length).drop y_1.toNat).length cs_4) :: (Ent.row 76 6 (.slice A_17 (([] : List TD0) ++ (s_1.2.1.take s_1.2.1.length).drop y_1.toNat).length cap_18) (([] : List TD0) ++ (s_1.2.1.take s_1.2.1.length).drop y_1.toNat).length cs_5) :: (Ent.obj b_5 (.cells #[.int .i8 x_2.fKind, .bool x_2.fBool, .int .i64 x_2.fNum, S x_2.fText, .slice A_9 x_2.fList.length cap_9, .slice A_10 x_2.fKeys.length cap_10] 76 (0, 0))) :: (Ent.row 76 6 (.slice A_5 s_1.2.1.length cap_5) s_1.2.1.length cs_1) :: (Ent.obj b_3 (.cells #[.int .i8 d0.fKind, .bool d0.fBool, .int .i64 d0.fNum, S d0.fText, .slice A_5 s_1.2.1.length cap_5, .slice A_6 s_1.2.2.length cap_6] 76 (0, 0))) :: (Ent.obj b_2 (.cells #[.int .i8 0, .bool false, .int .i64 0, S [], .slice none 0 0, .slice none 0 0] 76 (0, 0))) :: H) w_34 := by rw [hl_8]; exact p_64.rowFront hv_12 (by omega)
         have f := Frm.set f 75 (v := .slice (cutA A_26 1 0 cap_27) y_1.toNat cap_27) (v' := .slice (cutA A_26 1 0 cap_27) (s_1.2.2.take y_1.toNat).length cap_27) (by kernel_rfl) (by rw [hl_8])
         refine Y22 (z := S []) (f := Dat.str) (xs := s_1.2.2.take y_1.toNat) (ys := [x_5]) (news := [S x_5]) (ad := ⟨b_11, 0, none⟩) (m := 1) (c := 1) f p_65 hr_22 (by exact ⟨_, _, rfl, rfl, rfl⟩) rfl rfl rfl rfl (own_cells (p_65.ownCell 1 rfl) 0 rfl) (by exact g_9) (by have hg_ := g_9; first | omega | (simp only [List.length_cons, List.length_nil] at *; omega)) fun A_27 cap_28 cs_10 w_35 p_66 hr_23 _ f => ?_
         have p_67 := p_66.pl [1]
         have p_68 := p_67.drop
         refine W_end rfl (N_goN 2 (mR _) p_68 rfl (N_alt rfl (fun w_36 p_69 => ?_) ?_))
         ·have p_70 := p_69.pl [1]
          obtain ⟨A_28, cap_29, M_8, hv_13, hM_8, p_71, h_13⟩ := p_70.rowSli (f := Dat.str) (xs := ([] : List (List UInt8)) ++ (s_1.2.2.take s_1.2.2.length).drop y_1.toNat) szd_str hr_11
          have f := f.st 83 (hv_13)
          refine Y24 (z := S []) (f := Dat.str) (xs := (s_1.2.2.take y_1.toNat) ++ [x_5]) (ys := ([] : List (List UInt8)) ++ (s_1.2.2.take s_1.2.2.length).drop y_1.toNat) (c := cap_29) f p_71 (RepSeq.mono hM_8 _ _ hr_23) h_13 rfl rfl rfl g_10 (by omega) fun A_29 cap_30 cs_11 w_37 p_72 hr_24 _ f => W_end rfl (N_goN 1 hM_8 p_72 rfl (N_tail fun w_38 p_73 => Y f 1 fun _ f => Y27 f p_73 4 rfl rfl (b := b_3) (j := 5) (v := .slice A_29 (((s_1.2.2.take y_1.toNat) ++ [x_5]) ++ (([] : List (List UInt8)) ++ (s_1.2.2.take s_1.2.2.length).drop y_1.toNat)).length cap_30) rfl (by exact rfl) (by simp) (by simp) ((Ent.row 9 1 (.slice A_29 (((s_1.2.2.take y_1.toNat) ++ [x_5]) ++ (([] : List (List UInt8)) ++ (s_1.2.2.take s_1.2.2.length).drop y_1.toNat)).length cap_30) (((s_1.2.2.take y_1.toNat) ++ [x_5]) ++ (([] : List (List UInt8)) ++ (s_1.2.2.take s_1.2.2.length).drop y_1.toNat)).length cs_11) :: (Ent.row 76 6 (.slice A_17 (([] : List TD0) ++ (s_1.2.1.take s_1.2.1.length).drop y_1.toNat).length cap_18) (([] : List TD0) ++ (s_1.2.1.take s_1.2.1.length).drop y_1.toNat).length cs_5) :: (Ent.obj b_5 (.cells #[.int .i8 x_2.fKind, .bool x_2.fBool, .int .i64 x_2.fNum, S x_2.fText, .slice A_9 x_2.fList.length cap_9, .slice A_10 x_2.fKeys.length cap_10] 76 (0, 0))) :: (Ent.row 76 6 (.slice A_5 s_1.2.1.length cap_5) s_1.2.1.length cs_1) :: (Ent.obj b_3 (.cells #[.int .i8 d0.fKind, .bool d0.fBool, .int .i64 d0.fNum, S d0.fText, .slice A_5 s_1.2.1.length cap_5, .slice A_29 (((s_1.2.2.take y_1.toNat) ++ [x_5]) ++ (([] : List (List UInt8)) ++ (s_1.2.2.take s_1.2.2.length).drop y_1.toNat)).length cap_30] 76 (0, 0))) :: (Ent.obj b_2 (.cells #[.int .i8 0, .bool false, .int .i64 0, S [], .slice none 0 0, .slice none 0 0] 76 (0, 0))) :: H) rfl fun w_39 p_74 _ f => W_end rfl (N_te (T_n ?_))))
          exact ⟨((s_1.2.2.take y_1.toNat) ++ [x_5]) ++ (([] : List (List UInt8)) ++ (s_1.2.2.take s_1.2.2.length).drop y_1.toNat), (sI hF_25).symm, M_8, hM_8, A_29, cap_30, cs_11, hr_24, f.kp, p_74⟩
         exact N_none
        exact N_none
       exact N_none
      exact N_none
     ·rintro a_110 w_40 ⟨y_2, hq_1, M_9, hM_9, A_30, cap_31, cs_12, hr_25, f, p_75⟩
      subst j_1
      refine T_n ?_
      obtain ⟨j_2, hj_2, hF_26⟩ := bS hF_21
      refine R_mid (fun a_137 w_62 => ∃ y_3 : List TD0, j_2 = y_3 ∧ ∃ M_13 : Mem, M_9.le M_13 ∧ ∃ (A_43 : Option Addr), ∃ (cap_44 : Nat), ∃ (cs_19 : List Value), RepSeq M_13 (y_3.map emb_TD0) cs_19 ∧ Frm 97 [(1, .pointer (some (⟨b_1, 0, none⟩))), (2, .pointer (some (⟨b_2, 0, none⟩))), (3, .pointer (some (⟨b_3, 0, none⟩))), (4, .int .i64 s_1.1)] a_137 ∧ Hp w0 M_13 ((Ent.row 76 6 (.slice A_43 y_3.length cap_44) y_3.length cs_19) :: (Ent.row 9 1 (.slice A_30 y_2.length cap_31) y_2.length cs_12) :: (Ent.obj b_5 (.cells #[.int .i8 x_2.fKind, .bool x_2.fBool, .int .i64 x_2.fNum, S x_2.fText, .slice A_9 x_2.fList.length cap_9, .slice A_10 x_2.fKeys.length cap_10] 76 (0, 0))) :: (Ent.obj b_3 (.cells #[.int .i8 d0.fKind, .bool d0.fBool, .int .i64 d0.fNum, S d0.fText, .slice A_43 y_3.length cap_44, .slice A_30 y_2.length cap_31] 76 (0, 0))) :: (Ent.obj b_2 (.cells #[.int .i8 0, .bool false, .int .i64 0, S [], .slice none 0 0, .slice none 0 0] 76 (0, 0))) :: H) w_62) ?_ ?_
      ·have p_90 := p_75.pl [5, 5, 4, 3, 5, 5]
       obtain ⟨g_11, hF_27⟩ := nS hj_2
       obtain ⟨g_12, hF_28⟩ := nS hF_27
       obtain ⟨g_13, hF_29⟩ := nS hF_28
       refine R_plan (ks := [9, 10]) (E := [Ent.row 76 6 (.slice A_17 (([] : List TD0) ++ (s_1.2.1.take s_1.2.1.length).drop y_1.toNat).length cap_18) (([] : List TD0) ++ (s_1.2.1.take s_1.2.1.length).drop y_1.toNat).length cs_5, Ent.row 76 6 (.slice A_5 s_1.2.1.length cap_5) s_1.2.1.length cs_1]) (Hr := ((Ent.row 9 1 (.slice A_30 y_2.length cap_31) y_2.length cs_12) :: (Ent.obj b_5 (.cells #[.int .i8 x_2.fKind, .bool x_2.fBool, .int .i64 x_2.fNum, S x_2.fText, .slice A_9 x_2.fList.length cap_9, .slice A_10 x_2.fKeys.length cap_10] 76 (0, 0))) :: (Ent.obj b_3 (.cells #[.int .i8 d0.fKind, .bool d0.fBool, .int .i64 d0.fNum, S d0.fText, .slice A_5 s_1.2.1.length cap_5, .slice A_30 y_2.length cap_31] 76 (0, 0))) :: (Ent.obj b_2 (.cells #[.int .i8 0, .bool false, .int .i64 0, S [], .slice none 0 0, .slice none 0 0] 76 (0, 0))) :: H)) (.quiet 0 (.quiet 1 (.quiet 2 (.quiet 4 (.quiet 7 (.alt 3 (.alt 5 (.alt 6 (.alt 8 .done .none) .none) .none) (.alt 5 (.alt 3 (.alt 6 (.alt 8 .done .none) .none) .none) .none))))))) p_90 (by kernel_rfl) (by kernel_rfl) (by kernel_rfl) (Y1 (v := .pointer (some (⟨b_3, 4, none⟩))) rfl f rfl rfl (fun _ _ => by kernel_rfl) fun _ f => Y1 (v := .slice A_5 s_1.2.1.length cap_5) rfl f rfl rfl (fun _ pq => Y32 (v := .slice A_5 s_1.2.1.length cap_5) rfl (ad := ⟨b_3, 4, none⟩) (pq.ownCell 2 rfl 4)) fun _ f => Y1 (v := .int .i64 y_1) rfl f rfl rfl (fun _ _ => by kernel_rfl) fun _ f => Y1 (v := .agg #[.int .i8 x_2.fKind, .bool x_2.fBool, .int .i64 x_2.fNum, S x_2.fText, .slice A_9 x_2.fList.length cap_9, .slice A_10 x_2.fKeys.length cap_10]) rfl f rfl rfl (fun _ pq => Y33 (cs := [.int .i8 x_2.fKind, .bool x_2.fBool, .int .i64 x_2.fNum, S x_2.fText, .slice A_9 x_2.fList.length cap_9, .slice A_10 x_2.fKeys.length cap_10]) rfl (ad := ⟨b_5, 0, none⟩) (own_cells (pq.ownCell 1 rfl) 0 rfl)) fun _ f => Y1 (v := .slice A_17 (([] : List TD0) ++ (s_1.2.1.take s_1.2.1.length).drop y_1.toNat).length cap_18) rfl f rfl rfl (fun _ _ => by kernel_rfl) fun _ f => N_alt rfl (fun w_44 p_91 => ?_) ?_)
       ·obtain ⟨A_35, cap_36, hv_16, hcap_8, hcn_7⟩ := p_91.rowShape 1 rfl
        have f := f.st 87 (hv_16)
        refine Z f (Y36 rfl (A := A_35) (len := s_1.2.1.length) (cap := cap_36) (k' := .i64) (b := y_1) (e := 76) (sz := 6) (by omega) (by omega)) fun _ f => ?_
        have f := f.st 87 (hv_16.symm)
        refine W_end rfl (N_goN 2 (mR _) p_91 rfl (N_alt rfl (fun w_45 p_92 => ?_) ?_))
        ·refine V_allocS (k := 1) (c := 1) f p_92 (.cells #[.int .i8 x_2.fKind, .bool x_2.fBool, .int .i64 x_2.fNum, S x_2.fText, .slice A_9 x_2.fList.length cap_9, .slice A_10 x_2.fKeys.length cap_10] 76 (0, 0)) (by kernel_rfl) (fun _ => by kernel_rfl) fun b_13 w_46 p_93 _ f => W_end rfl (N_goN 3 (mR _) p_93 rfl (N_alt rfl (fun w_47 p_94 => ?_) ?_))
         ·have p_95 := p_94.pl [2]
          have hr_29 : RepSeq M_9 ((s_1.2.1.take y_1.toNat).map emb_TD0) (cs_1.take (y_1.toNat * 6)) := by rw [List.map_take]; exact RepSeq.takeD _ (szd_all szd_TD0) (RepSeq.mono ((hM_3.trans hM_5).trans hM_9) _ _ hr_3)
          have hl_10 : (s_1.2.1.take y_1.toNat).length = y_1.toNat := by rw [List.length_take]; omega
          have p_96 : Hp w0 M_9 ((Ent.row 76 6 (.slice (cutA A_35 6 0 cap_36) (s_1.2.1.take y_1.toNat).length cap_36) (s_1.2.1.take y_1.toNat).length (cs_1.take (y_1.toNat * 6))) :: (Ent.obj b_13 (.cells #[.int .i8 x_2.fKind, .bool x_2.fBool, .int .i64 x_2.fNum, S x_2.fText, .slice A_9 x_2.fList.length cap_9, .slice A_10 x_2.fKeys.length cap_10] 76 (0, 0))) :: (Ent.row 76 6 (.slice A_17 (([] : List TD0) ++ (s_1.2.1.take s_1.2.1.length).drop y_1.toNat).length cap_18) (([] : List TD0) ++ (s_1.2.1.take s_1.2.1.length).drop y_1.toNat).length cs_5) :: (Ent.row 9 1 (.slice A_30 y_2.length cap_31) y_2.length cs_12) :: (Ent.obj b_5 (.cells #[.int .i8 x_2.fKind, .bool x_2.fBool, .int .i64 x_2.fNum, S x_2.fText, .slice A_9 x_2.fList.length cap_9, .slice A_10 x_2.fKeys.length cap_10] 76 (0, 0))) :: (Ent.obj b_3 (.cells #[.int .i8 d0.fKind, .bool d0.fBool, .int .i64 d0.fNum, S d0.fText, .slice A_5 s_1.2.1.length cap_5, .slice A_30 y_2.length cap_31] 76 (0, 0))) :: (Ent.obj b_2 (.cells #[.int .i8 0, .bool false, .int .i64 0, S [], .slice none 0 0, .slice none 0 0] 76 (0, 0))) :: H) w_47 := by rw [hl_10]; exact p_95.rowFront hv_16 (by omega)
          have f := Frm.set f 89 (v := .slice (cutA A_35 6 0 cap_36) y_1.toNat cap_36) (v' := .slice (cutA A_35 6 0 cap_36) (s_1.2.1.take y_1.toNat).length cap_36) (by kernel_rfl) (by rw [hl_10])
          refine Y22 (z := .agg #[.int .i8 0, .bool false, .int .i64 0, S [], .slice none 0 0, .slice none 0 0]) (f := emb_TD0) (xs := s_1.2.1.take y_1.toNat) (ys := [(⟨x_2.fKind, (x_2.fBool), x_2.fNum, x_2.fText, x_2.fList, x_2.fKeys⟩ : TD0)]) (news := [.int .i8 x_2.fKind, .bool x_2.fBool, .int .i64 x_2.fNum, S x_2.fText, .slice A_9 x_2.fList.length cap_9, .slice A_10 x_2.fKeys.length cap_10]) (ad := ⟨b_13, 0, none⟩) (m := 1) (c := 1) f p_96 hr_29 (by exact ⟨_, _, rfl, TD0.shut (h_6.mono (hM_5.trans hM_9)) (h_7.mono (hM_5.trans hM_9)), rfl⟩) rfl rfl rfl rfl (own_cells (p_96.ownCell 1 rfl) 0 rfl) (by exact g_12) (by have hg_ := g_12; first | omega | (simp only [List.length_cons, List.length_nil] at *; omega)) fun A_36 cap_37 cs_15 w_48 p_97 hr_30 _ f => ?_
          have p_98 := p_97.pl [1]
          have p_99 := p_98.drop
          refine W_end rfl (N_goN 2 (mR _) p_99 rfl (N_alt rfl (fun w_49 p_100 => ?_) ?_))
          ·have p_101 := p_100.pl [1]
           obtain ⟨A_37, cap_38, M_11, hv_17, hM_11, p_102, h_15⟩ := p_101.rowSli (f := emb_TD0) (xs := ([] : List TD0) ++ (s_1.2.1.take s_1.2.1.length).drop y_1.toNat) szd_TD0 (RepSeq.mono hM_9 _ _ hr_13)
           have f := f.st 93 (hv_17)
           refine Y24 (z := .agg #[.int .i8 0, .bool false, .int .i64 0, S [], .slice none 0 0, .slice none 0 0]) (f := emb_TD0) (xs := (s_1.2.1.take y_1.toNat) ++ [(⟨x_2.fKind, (x_2.fBool), x_2.fNum, x_2.fText, x_2.fList, x_2.fKeys⟩ : TD0)]) (ys := ([] : List TD0) ++ (s_1.2.1.take s_1.2.1.length).drop y_1.toNat) (c := cap_38) f p_102 (RepSeq.mono hM_11 _ _ hr_30) h_15 rfl rfl rfl g_13 (by omega) fun A_38 cap_39 cs_16 w_50 p_103 hr_31 _ f => W_end rfl (N_goN 1 hM_11 p_103 rfl (N_tail fun w_51 p_104 => Y f 1 fun _ f => Y27 f p_104 3 rfl rfl (b := b_3) (j := 4) (v := .slice A_38 (((s_1.2.1.take y_1.toNat) ++ [(⟨x_2.fKind, (x_2.fBool), x_2.fNum, x_2.fText, x_2.fList, x_2.fKeys⟩ : TD0)]) ++ (([] : List TD0) ++ (s_1.2.1.take s_1.2.1.length).drop y_1.toNat)).length cap_39) rfl (by exact rfl) (by simp) (by simp) ((Ent.row 76 6 (.slice A_38 (((s_1.2.1.take y_1.toNat) ++ [(⟨x_2.fKind, (x_2.fBool), x_2.fNum, x_2.fText, x_2.fList, x_2.fKeys⟩ : TD0)]) ++ (([] : List TD0) ++ (s_1.2.1.take s_1.2.1.length).drop y_1.toNat)).length cap_39) (((s_1.2.1.take y_1.toNat) ++ [(⟨x_2.fKind, (x_2.fBool), x_2.fNum, x_2.fText, x_2.fList, x_2.fKeys⟩ : TD0)]) ++ (([] : List TD0) ++ (s_1.2.1.take s_1.2.1.length).drop y_1.toNat)).length cs_16) :: (Ent.row 9 1 (.slice A_30 y_2.length cap_31) y_2.length cs_12) :: (Ent.obj b_5 (.cells #[.int .i8 x_2.fKind, .bool x_2.fBool, .int .i64 x_2.fNum, S x_2.fText, .slice A_9 x_2.fList.length cap_9, .slice A_10 x_2.fKeys.length cap_10] 76 (0, 0))) :: (Ent.obj b_3 (.cells #[.int .i8 d0.fKind, .bool d0.fBool, .int .i64 d0.fNum, S d0.fText, .slice A_38 (((s_1.2.1.take y_1.toNat) ++ [(⟨x_2.fKind, (x_2.fBool), x_2.fNum, x_2.fText, x_2.fList, x_2.fKeys⟩ : TD0)]) ++ (([] : List TD0) ++ (s_1.2.1.take s_1.2.1.length).drop y_1.toNat)).length cap_39, .slice A_30 y_2.length cap_31] 76 (0, 0))) :: (Ent.obj b_2 (.cells #[.int .i8 0, .bool false, .int .i64 0, S [], .slice none 0 0, .slice none 0 0] 76 (0, 0))) :: H) rfl fun w_52 p_105 _ f => W_end rfl (N_te (T_n ?_))))
           exact ⟨((s_1.2.1.take y_1.toNat) ++ [(⟨x_2.fKind, (x_2.fBool), x_2.fNum, x_2.fText, x_2.fList, x_2.fKeys⟩ : TD0)]) ++ (([] : List TD0) ++ (s_1.2.1.take s_1.2.1.length).drop y_1.toNat), (sI hF_29).symm, M_11, hM_11, A_38, cap_39, cs_16, hr_31, f.kp, p_105⟩
          exact N_none
         exact N_none
        exact N_none
       refine N_alt rfl (fun w_53 p_106 => ?_) ?_
       ·refine V_allocS (k := 1) (c := 1) f p_106 (.cells #[.int .i8 x_2.fKind, .bool x_2.fBool, .int .i64 x_2.fNum, S x_2.fText, .slice A_9 x_2.fList.length cap_9, .slice A_10 x_2.fKeys.length cap_10] 76 (0, 0)) (by kernel_rfl) (fun _ => by kernel_rfl) fun b_14 w_54 p_107 _ f => W_end rfl (N_goN 3 (mR _) p_107 rfl (N_alt rfl (fun w_55 p_108 => ?_) ?_))
        ·obtain ⟨A_39, cap_40, hv_18, hcap_9, hcn_8⟩ := p_108.rowShape 2 rfl
         have f := f.st 87 (hv_18)
         refine Z f (Y36 rfl (A := A_39) (len := s_1.2.1.length) (cap := cap_40) (k' := .i64) (b := y_1) (e := 76) (sz := 6) (by omega) (by omega)) fun _ f => ?_
         have f := f.st 87 (hv_18.symm)
         refine W_end rfl (N_goN 3 (mR _) p_108 rfl (N_alt rfl (fun w_56 p_109 => ?_) ?_))
         ·have p_110 := p_109.pl [2]
          have hr_32 : RepSeq M_9 ((s_1.2.1.take y_1.toNat).map emb_TD0) (cs_1.take (y_1.toNat * 6)) := by rw [List.map_take]; exact RepSeq.takeD _ (szd_all szd_TD0) (RepSeq.mono ((hM_3.trans hM_5).trans hM_9) _ _ hr_3)
          have hl_11 : (s_1.2.1.take y_1.toNat).length = y_1.toNat := by rw [List.length_take]; omega
          have p_111 : Hp w0 M_9 ((Ent.row 76 6 (.slice (cutA A_39 6 0 cap_40) (s_1.2.1.take y_1.toNat).length cap_40) (s_1.2.1.take y_1.toNat).length (cs_1.take (y_1.toNat * 6))) :: (Ent.obj b_14 (.cells #[.int .i8 x_2.fKind, .bool x_2.fBool, .int .i64 x_2.fNum, S x_2.fText, .slice A_9 x_2.fList.length cap_9, .slice A_10 x_2.fKeys.length cap_10] 76 (0, 0))) :: (Ent.row 76 6 (.slice A_17 (([] : List TD0) ++ (s_1.2.1.take s_1.2.1.length).drop y_1.toNat).length cap_18) (([] : List TD0) ++ (s_1.2.1.take s_1.2.1.length).drop y_1.toNat).length cs_5) :: (Ent.row 9 1 (.slice A_30 y_2.length cap_31) y_2.length cs_12) :: (Ent.obj b_5 (.cells #[.int .i8 x_2.fKind, .bool x_2.fBool, .int .i64 x_2.fNum, S x_2.fText, .slice A_9 x_2.fList.length cap_9, .slice A_10 x_2.fKeys.length cap_10] 76 (0, 0))) :: (Ent.obj b_3 (.cells #[.int .i8 d0.fKind, .bool d0.fBool, .int .i64 d0.fNum, S d0.fText, .slice A_5 s_1.2.1.length cap_5, .slice A_30 y_2.length cap_31] 76 (0, 0))) :: (Ent.obj b_2 (.cells #[.int .i8 0, .bool false, .int .i64 0, S [], .slice none 0 0, .slice none 0 0] 76 (0, 0))) :: H) w_56 := by rw [hl_11]; exact p_110.rowFront hv_18 (by omega)
          have f := Frm.set f 89 (v := .slice (cutA A_39 6 0 cap_40) y_1.toNat cap_40) (v' := .slice (cutA A_39 6 0 cap_40) (s_1.2.1.take y_1.toNat).length cap_40) (by kernel_rfl) (by rw [hl_11])
          refine Y22 (z := .agg #[.int .i8 0, .bool false, .int .i64 0, S [], .slice none 0 0, .slice none 0 0]) (f := emb_TD0) (xs := s_1.2.1.take y_1.toNat) (ys := [(⟨x_2.fKind, (x_2.fBool), x_2.fNum, x_2.fText, x_2.fList, x_2.fKeys⟩ : TD0)]) (news := [.int .i8 x_2.fKind, .bool x_2.fBool, .int .i64 x_2.fNum, S x_2.fText, .slice A_9 x_2.fList.length cap_9, .slice A_10 x_2.fKeys.length cap_10]) (ad := ⟨b_14, 0, none⟩) (m := 1) (c := 1) f p_111 hr_32 (by exact ⟨_, _, rfl, TD0.shut (h_6.mono (hM_5.trans hM_9)) (h_7.mono (hM_5.trans hM_9)), rfl⟩) rfl rfl rfl rfl (own_cells (p_111.ownCell 1 rfl) 0 rfl) (by exact g_12) (by have hg_ := g_12; first | omega | (simp only [List.length_cons, List.length_nil] at *; omega)) fun A_40 cap_41 cs_17 w_57 p_112 hr_33 _ f => ?_
          have p_113 := p_112.pl [1]
          have p_114 := p_113.drop
          refine W_end rfl (N_goN 2 (mR _) p_114 rfl (N_alt rfl (fun w_58 p_115 => ?_) ?_))
          ·have p_116 := p_115.pl [1]
           obtain ⟨A_41, cap_42, M_12, hv_19, hM_12, p_117, h_16⟩ := p_116.rowSli (f := emb_TD0) (xs := ([] : List TD0) ++ (s_1.2.1.take s_1.2.1.length).drop y_1.toNat) szd_TD0 (RepSeq.mono hM_9 _ _ hr_13)
           have f := f.st 93 (hv_19)
           refine Y24 (z := .agg #[.int .i8 0, .bool false, .int .i64 0, S [], .slice none 0 0, .slice none 0 0]) (f := emb_TD0) (xs := (s_1.2.1.take y_1.toNat) ++ [(⟨x_2.fKind, (x_2.fBool), x_2.fNum, x_2.fText, x_2.fList, x_2.fKeys⟩ : TD0)]) (ys := ([] : List TD0) ++ (s_1.2.1.take s_1.2.1.length).drop y_1.toNat) (c := cap_42) f p_117 (RepSeq.mono hM_12 _ _ hr_33) h_16 rfl rfl rfl g_13 (by omega) fun A_42 cap_43 cs_18 w_59 p_118 hr_34 _ f => W_end rfl (N_goN 1 hM_12 p_118 rfl (N_tail fun w_60 p_119 => Y f 1 fun _ f => Y27 f p_119 3 rfl rfl (b := b_3) (j := 4) (v := .slice A_42 (((s_1.2.1.take y_1.toNat) ++ [(⟨x_2.fKind, (x_2.fBool), x_2.fNum, x_2.fText, x_2.fList, x_2.fKeys⟩ : TD0)]) ++ (([] : List TD0) ++ (s_1.2.1.take s_1.2.1.length).drop y_1.toNat)).length cap_43) rfl (by exact rfl) (by simp) (by simp) ((Ent.row 76 6 (.slice A_42 (((s_1.2.1.take y_1.toNat) ++ [(⟨x_2.fKind, (x_2.fBool), x_2.fNum, x_2.fText, x_2.fList, x_2.fKeys⟩ : TD0)]) ++ (([] : List TD0) ++ (s_1.2.1.take s_1.2.1.length).drop y_1.toNat)).length cap_43) (((s_1.2.1.take y_1.toNat) ++ [(⟨x_2.fKind, (x_2.fBool), x_2.fNum, x_2.fText, x_2.fList, x_2.fKeys⟩ : TD0)]) ++ (([] : List TD0) ++ (s_1.2.1.take s_1.2.1.length).drop y_1.toNat)).length cs_18) :: (Ent.row 9 1 (.slice A_30 y_2.length cap_31) y_2.length cs_12) :: (Ent.obj b_5 (.cells #[.int .i8 x_2.fKind, .bool x_2.fBool, .int .i64 x_2.fNum, S x_2.fText, .slice A_9 x_2.fList.length cap_9, .slice A_10 x_2.fKeys.length cap_10] 76 (0, 0))) :: (Ent.obj b_3 (.cells #[.int .i8 d0.fKind, .bool d0.fBool, .int .i64 d0.fNum, S d0.fText, .slice A_42 (((s_1.2.1.take y_1.toNat) ++ [(⟨x_2.fKind, (x_2.fBool), x_2.fNum, x_2.fText, x_2.fList, x_2.fKeys⟩ : TD0)]) ++ (([] : List TD0) ++ (s_1.2.1.take s_1.2.1.length).drop y_1.toNat)).length cap_43, .slice A_30 y_2.length cap_31] 76 (0, 0))) :: (Ent.obj b_2 (.cells #[.int .i8 0, .bool false, .int .i64 0, S [], .slice none 0 0, .slice none 0 0] 76 (0, 0))) :: H) rfl fun w_61 p_120 _ f => W_end rfl (N_te (T_n ?_))))
           exact ⟨((s_1.2.1.take y_1.toNat) ++ [(⟨x_2.fKind, (x_2.fBool), x_2.fNum, x_2.fText, x_2.fList, x_2.fKeys⟩ : TD0)]) ++ (([] : List TD0) ++ (s_1.2.1.take s_1.2.1.length).drop y_1.toNat), (sI hF_29).symm, M_12, hM_12, A_42, cap_43, cs_18, hr_34, f.kp, p_120⟩
          exact N_none
         exact N_none
        exact N_none
       exact N_none
      ·rintro a_137 w_62 ⟨y_3, hq_2, M_13, hM_13, A_43, cap_44, cs_19, hr_35, f, p_121⟩
       subst j_2
       refine B_n (T_n (R_reg (Y f 1 fun _ f => ?_)))
       obtain ⟨g_14, hF_30⟩ := nS hF_26
       refine Y f 1 fun _ f => ?_
       have f := f.st 24 (congrArg (Value.int .i64) (inR_wrap g_14))
       refine Y f 1 fun _ f => W_end rfl ?_
       have p_132 := p_121.pl [4, 4, 3, 3, 4]
       refine T_n ?_
       obtain rfl := sI hF_30
       exact ⟨⟨m_2, (s_1.1 + 1, y_3, y_2), A_43, cap_44, cs_19, A_30, cap_31, cs_12⟩, Nat.lt_succ_self _, M_13, ((((hM_2.trans hM_3).trans hM_5).trans hM_9).trans hM_13), ⟨hn_1, hr_35, (RepSeq.mono hM_13 _ _ hr_25)⟩, f.kp, (p_132.dropN 1)⟩
  ·have k_8 := iff_f dI h_3
   refine wp_exit (T_x (T_x ?_))
   obtain rfl := sI hF_31
   exact ⟨rfl, (s_1.2.1, s_1.2.2), (sI hn_1).symm, M_2, hM_2, A_5, cap_5, cs_1, A_6, cap_6, cs_2, hr_3, hr_4, f.kp, p_11⟩
 ·rintro _ _ w_64 ⟨rfl, y_4, hq_, M_14, hM_14, A_44, cap_45, cs_20, A_45, cap_46, cs_21, hr_36, hr_37, f, p_122⟩
  subst b_4
  refine B_x (T_n (RR (Z (v := .agg #[.int .i8 d0.fKind, .bool d0.fBool, .int .i64 d0.fNum, S d0.fText, .slice A_44 y_4.1.length cap_45, .slice A_45 y_4.2.length cap_46]) f (Y33 (cs := [.int .i8 d0.fKind, .bool d0.fBool, .int .i64 d0.fNum, S d0.fText, .slice A_44 y_4.1.length cap_45, .slice A_45 y_4.2.length cap_46]) rfl (ad := ⟨b_3, 0, none⟩) (own_cells (p_122.ownCell 2 rfl) 0 rfl)) fun _ f => ?_)))
  obtain ⟨A_46, cap_47, M_15, hv_20, hM_15, p_133, h_17⟩ := p_122.rowSli (f := emb_TD0) (xs := y_4.1) szd_TD0 hr_36
  have f := Frm.set f 96 (v := .agg #[.int .i8 d0.fKind, .bool d0.fBool, .int .i64 d0.fNum, S d0.fText, .slice A_44 y_4.1.length cap_45, .slice A_45 y_4.2.length cap_46]) (v' := .agg #[.int .i8 d0.fKind, .bool d0.fBool, .int .i64 d0.fNum, S d0.fText, .slice A_46 y_4.1.length cap_47, .slice A_45 y_4.2.length cap_46]) (by kernel_rfl) (by rw [hv_20])
  have p_134 : Hp w0 M_15 ((Ent.row 9 1 (.slice A_45 y_4.2.length cap_46) y_4.2.length cs_21) :: (Ent.obj b_3 (.cells #[.int .i8 d0.fKind, .bool d0.fBool, .int .i64 d0.fNum, S d0.fText, .slice A_46 y_4.1.length cap_47, .slice A_45 y_4.2.length cap_46] 76 (0, 0))) :: (Ent.obj b_2 (.cells #[.int .i8 0, .bool false, .int .i64 0, S [], .slice none 0 0, .slice none 0 0] 76 (0, 0))) :: H) w_64 := by rw [hv_20] at p_133; exact p_133
  obtain ⟨A_47, cap_48, M_16, hv_21, hM_16, p_135, h_18⟩ := p_134.rowSli (f := Dat.str) (xs := y_4.2) szd_str (RepSeq.mono hM_15 _ _ hr_37)
  have f := Frm.set f 96 (v := .agg #[.int .i8 d0.fKind, .bool d0.fBool, .int .i64 d0.fNum, S d0.fText, .slice A_46 y_4.1.length cap_47, .slice A_45 y_4.2.length cap_46]) (v' := .agg #[.int .i8 d0.fKind, .bool d0.fBool, .int .i64 d0.fNum, S d0.fText, .slice A_46 y_4.1.length cap_47, .slice A_47 y_4.2.length cap_48]) (by kernel_rfl) (by rw [hv_21])
  have p_136 : Hp w0 M_16 ((Ent.obj b_3 (.cells #[.int .i8 d0.fKind, .bool d0.fBool, .int .i64 d0.fNum, S d0.fText, .slice A_46 y_4.1.length cap_47, .slice A_47 y_4.2.length cap_48] 76 (0, 0))) :: (Ent.obj b_2 (.cells #[.int .i8 0, .bool false, .int .i64 0, S [], .slice none 0 0, .slice none 0 0] 76 (0, 0))) :: H) w_64 := by rw [hv_21] at p_135; exact p_135
  have p_137 := p_136.pl [1]
  refine Y28 (vs := [.int .i8 d0.fKind, .bool d0.fBool, .int .i64 d0.fNum, S d0.fText, .slice A_46 y_4.1.length cap_47, .slice A_47 y_4.2.length cap_48]) (j := 0) f p_137 rfl rfl (by simp [Value.oneCell', S]) (by simp) (by decide) (cs' := #[.int .i8 d0.fKind, .bool d0.fBool, .int .i64 d0.fNum, S d0.fText, .slice A_46 y_4.1.length cap_47, .slice A_47 y_4.2.length cap_48]) (by kernel_rfl) fun w_65 p_138 _ f => eT (wp_ret (E_rv1 f rfl (Y10 (cs := [.int .i8 d0.fKind, .bool d0.fBool, .int .i64 d0.fNum, S d0.fText, .slice A_46 y_4.1.length cap_47, .slice A_47 y_4.2.length cap_48]) (ad := ⟨b_2, 0, none⟩) f (own_cells (p_138.ownCell 0 rfl) 0 rfl)) ?_))
  obtain rfl := sI hF_1
  exact ⟨_, rfl, M_16, (((hM_1.trans hM_14).trans hM_15).trans hM_16), (p_138.dropN 2), ⟨[.int .i8 d0.fKind, .bool d0.fBool, .int .i64 d0.fNum, S d0.fText, .slice A_46 y_4.1.length cap_47, .slice A_47 y_4.2.length cap_48], rfl, (TD0.shut (h_17.mono hM_16) h_18)⟩⟩
def ref03_sorted_k (n : Nat) : Nat → TD0 → Option TD0
  | 0 => fun _ => none
  | k + 1 => ref03_sorted_b n (ref03_sorted_k n k)
def ref03_sorted (n : Nat) (d0 : TD0) : Option TD0 := ref03_sorted_k n n d0
theorem ref03_sorted_ok (n : Nat) (M : Mem) (c0 : List Value) (d0 : TD0) (h0 : Rep M (emb_TD0 d0) c0) (r : TD0) (hF : ref03_sorted n d0 = some r) : Ok Tryz.prog M 77 [.agg c0.toArray] (fun M' v => ∃ (c0 : List Value), v = .agg c0.toArray ∧ Rep M' (emb_TD0 r) c0) := by
 have key : ∀ (k : Nat) (M : Mem) (c0 : List Value) (d0 : TD0) (h0 : Rep M (emb_TD0 d0) c0) (r : TD0) (hF : ref03_sorted_k n k d0 = some r), Ok Tryz.prog M 77 [.agg c0.toArray] (fun M' v => ∃ (c0 : List Value), v = .agg c0.toArray ∧ Rep M' (emb_TD0 r) c0) := by
  intro k
  induction k with
  | zero => intro M c0 d0 h0 r hF; simp [ref03_sorted_k] at hF
  | succ k ih => intro M c0 d0 h0 r hF; exact ref03_sorted_b_ok n (ref03_sorted_k n k) ih M c0 d0 h0 r hF
 exact key n M c0 d0 h0 r hF
def ref03_compare_s1 (n : Nat) (rec_ref03_compare : TD0 → TD0 → Option Int) (d0 : TD0) (d1 : TD0) (s_1 : Int) : Option (Lp Int (Sum Int Unit)) :=
    ((bif (decide (s_1 < ((d0.fList.length : Nat) : Int))) then
        (some ((decide (s_1 < ((d1.fList.length : Nat) : Int)))))
      else
        some ((false)) : Option Bool)).bind fun y_1 =>
    bif y_1 then
      (((bif (decide (d0.fKind = 5)) then
          ((getI d0.fKeys s_1).bind fun x_1 =>
          (getI d1.fKeys s_1).bind fun x_2 =>
          some ((!(decide (x_1 = x_2)))))
        else
          some ((false)) : Option Bool)).bind fun y_2 =>
      bif y_2 then
        ((getI d0.fKeys s_1).bind fun x_3 =>
        (getI d1.fKeys s_1).bind fun x_4 =>
        bif (Op.bytesLess x_3 x_4) then
          (some (.br (.inl (-1 : Int))))
        else
          some (.br (.inl (1 : Int))))
      else
        (getI d0.fList s_1).bind fun x_5 =>
        (getI d1.fList s_1).bind fun x_6 =>
        (rec_ref03_compare x_5 x_6).bind fun x_7 =>
        bif (!(decide (x_7 = 0))) then
          (some (.br (.inl x_7)))
        else
          need (inR .i64 (s_1 + 1)) <|
          some (.nx (s_1 + 1)))
    else
      some (.br (.inr ()))
def ref03_compare_b (n : Nat) (rec_ref03_compare : TD0 → TD0 → Option Int) (d0 : TD0) (d1 : TD0) : Option Int :=
  bif (!(decide (d0.fKind = d1.fKind))) then
    (bif (decide (d0.fKind < d1.fKind)) then
      (some ((-1 : Int)))
    else
      some ((1 : Int)))
  else
    bif (!(d0.fBool == d1.fBool)) then
      (bif d1.fBool then
        (some ((-1 : Int)))
      else
        some ((1 : Int)))
    else
      bif (!(decide (d0.fNum = d1.fNum))) then
        (bif (decide (d0.fNum < d1.fNum)) then
          (some ((-1 : Int)))
        else
          some ((1 : Int)))
      else
        bif (!(decide (d0.fText = d1.fText))) then
          (bif (Op.bytesLess d0.fText d1.fText) then
            (some ((-1 : Int)))
          else
            some ((1 : Int)))
        else
          (loopF (ref03_compare_s1 n rec_ref03_compare d0 d1) n (0 : Int)).bind fun b_3 =>
          (match b_3 with 
          | .inl y_3 => some (y_3) 
          | .inr y_4 => bif (!(decide (((d0.fList.length : Nat) : Int) = ((d1.fList.length : Nat) : Int)))) then
              (bif (decide (((d0.fList.length : Nat) : Int) < ((d1.fList.length : Nat) : Int))) then
                (some ((-1 : Int)))
              else
                some ((1 : Int)))
            else
              some ((0 : Int)))
theorem ref03_compare_b_ok (n : Nat) (rec_ref03_compare : TD0 → TD0 → Option Int) (hrec_ref03_compare : ∀ (M : Mem) (c0 : List Value) (d0 : TD0) (h0 : Rep M (emb_TD0 d0) c0) (c1 : List Value) (d1 : TD0) (h1 : Rep M (emb_TD0 d1) c1) (r : Int) (hF : rec_ref03_compare d0 d1 = some r), Ok Tryz.prog M 76 [.agg c0.toArray, .agg c1.toArray] (fun _ v => v = .int .i64 r)) (M : Mem) (c0 : List Value) (d0 : TD0) (h0 : Rep M (emb_TD0 d0) c0) (c1 : List Value) (d1 : TD0) (h1 : Rep M (emb_TD0 d1) c1) (r : Int) (hF : ref03_compare_b n rec_ref03_compare d0 d1 = some r) : Ok Tryz.prog M 76 [.agg c0.toArray, .agg c1.toArray] (fun _ v => v = .int .i64 r) := by
 unfold ref03_compare_b at hF
 intro M1 hM0 w0 H w p0
 replace h0 := Rep.mono hM0 _ _ h0
 replace h1 := Rep.mono hM0 _ _ h1
 obtain ⟨A_1, cap_1, A_2, cap_2, rfl, h_1, h_2⟩ := TD0.opn h0
 obtain ⟨A_3, cap_3, A_4, cap_4, rfl, h_3, h_4⟩ := TD0.opn h1
 refine R_enter 113 Tryz.func76 rfl rfl (by simp) fun a0 f0 => RR (Y13 (cs := #[.int .i8 d0.fKind, .bool d0.fBool, .int .i64 d0.fNum, S d0.fText, .slice A_1 d0.fList.length cap_1, .slice A_2 d0.fKeys.length cap_2]) (T := 76) f0 p0 fun b_1 M_1 w_1 hM_1 hc_1 p_1 _ f => ?_)
 have hc_2 := fz_box hc_1
 refine Y13 (cs := #[.int .i8 d1.fKind, .bool d1.fBool, .int .i64 d1.fNum, S d1.fText, .slice A_3 d1.fList.length cap_3, .slice A_4 d1.fKeys.length cap_4]) (T := 76) f p_1 fun b_2 M_2 w_2 hM_2 hc_3 p_2 _ f => ?_
 have hc_4 := fz_box hc_3
 refine Y f 1 fun _ f => eT (R_seq (RR (Y f 1 fun _ f => Y15 f p_2 (fzu hM_2 hc_2) 0 rfl fun _ f => Y f 1 fun _ f => Y15 f p_2 hc_4 0 rfl fun _ f => Y f 1 fun _ f => eT (RcF f hF (fun h_5 hF_1 => ?_) fun h_5 hF_4 => ?_))))
 ·have k_1 : ¬ (d0.fKind = d1.fKind) := (not_iff dI).1 h_5
  refine R_seq (RR (Y f 1 fun _ f => Y15 f p_2 (fzu hM_2 hc_2) 0 rfl fun _ f => Y f 1 fun _ f => Y15 f p_2 hc_4 0 rfl fun _ f => Y f 1 fun _ f => eT (RcF f hF_1 (fun h_6 hF_2 => ?_) fun h_6 hF_3 => ?_)))
  ·have k_2 := dI.1 h_6
   refine RR (Y f 1 fun _ f => eT (wp_ret (T_r (T_r (E_ret1 f rfl (by kernel_rfl : Vc.look _ 4 = some (.int .i64 (-1))) ?_)))))
   obtain rfl := sI hF_2
   exact ⟨_, rfl, M_2, (hM_1.trans hM_2), p_2, rfl⟩
  ·have k_3 := iff_f dI h_6
   refine wp_skip (T_n (RR (Y f 1 fun _ f => eT (wp_ret (T_r (E_ret1 f rfl (by kernel_rfl : Vc.look _ 4 = some (.int .i64 1)) ?_))))))
   obtain rfl := sI hF_3
   exact ⟨_, rfl, M_2, (hM_1.trans hM_2), p_2, rfl⟩
 ·have k_4 : ¬ (¬ (d0.fKind = d1.fKind)) := iff_f (not_iff dI) h_5
  refine wp_skip (T_n (R_seq (RR (Y f 1 fun _ f => Y15 f p_2 (fzu hM_2 hc_2) 1 rfl fun _ f => Y f 1 fun _ f => Y15 f p_2 hc_4 1 rfl fun _ f => Y f 1 fun _ f => eT (RcF f hF_4 (fun h_7 hF_5 => ?_) fun h_7 hF_8 => ?_)))))
  ·have k_5 : (d0.fBool == d1.fBool) = false := by simpa using h_7
   refine R_seq (RR (Y f 1 fun _ f => Y15 f p_2 hc_4 1 rfl fun _ f => eT (RcF f hF_5 (fun h_8 hF_6 => ?_) fun h_8 hF_7 => ?_)))
   ·refine RR (Y f 1 fun _ f => eT (wp_ret (T_r (T_r (E_ret1 f rfl (by kernel_rfl : Vc.look _ 4 = some (.int .i64 (-1))) ?_)))))
    obtain rfl := sI hF_6
    exact ⟨_, rfl, M_2, (hM_1.trans hM_2), p_2, rfl⟩
   ·refine wp_skip (T_n (RR (Y f 1 fun _ f => eT (wp_ret (T_r (E_ret1 f rfl (by kernel_rfl : Vc.look _ 4 = some (.int .i64 1)) ?_))))))
    obtain rfl := sI hF_7
    exact ⟨_, rfl, M_2, (hM_1.trans hM_2), p_2, rfl⟩
  ·have k_8 : (d0.fBool == d1.fBool) = true := by simpa using h_7
   refine wp_skip (T_n (R_seq (RR (Y f 1 fun _ f => Y15 f p_2 (fzu hM_2 hc_2) 2 rfl fun _ f => Y f 1 fun _ f => Y15 f p_2 hc_4 2 rfl fun _ f => Y f 1 fun _ f => eT (RcF f hF_8 (fun h_9 hF_9 => ?_) fun h_9 hF_12 => ?_)))))
   ·have k_9 : ¬ (d0.fNum = d1.fNum) := (not_iff dI).1 h_9
    refine R_seq (RR (Y f 1 fun _ f => Y15 f p_2 (fzu hM_2 hc_2) 2 rfl fun _ f => Y f 1 fun _ f => Y15 f p_2 hc_4 2 rfl fun _ f => Y f 1 fun _ f => eT (RcF f hF_9 (fun h_10 hF_10 => ?_) fun h_10 hF_11 => ?_)))
    ·have k_10 := dI.1 h_10
     refine RR (Y f 1 fun _ f => eT (wp_ret (T_r (T_r (E_ret1 f rfl (by kernel_rfl : Vc.look _ 4 = some (.int .i64 (-1))) ?_)))))
     obtain rfl := sI hF_10
     exact ⟨_, rfl, M_2, (hM_1.trans hM_2), p_2, rfl⟩
    ·have k_11 := iff_f dI h_10
     refine wp_skip (T_n (RR (Y f 1 fun _ f => eT (wp_ret (T_r (E_ret1 f rfl (by kernel_rfl : Vc.look _ 4 = some (.int .i64 1)) ?_))))))
     obtain rfl := sI hF_11
     exact ⟨_, rfl, M_2, (hM_1.trans hM_2), p_2, rfl⟩
   ·have k_12 : ¬ (¬ (d0.fNum = d1.fNum)) := iff_f (not_iff dI) h_9
    refine wp_skip (T_n (R_seq (RR (Y f 1 fun _ f => Y15 f p_2 (fzu hM_2 hc_2) 3 rfl fun _ f => Y f 1 fun _ f => Y15 f p_2 hc_4 3 rfl fun _ f => Z f (Y39 rfl (l := d0.fText) (m := d1.fText)) fun _ f => eT (RcF f hF_12 (fun h_11 hF_13 => ?_) fun h_11 hF_16 => ?_)))))
    ·have k_13 : ¬ (d0.fText = d1.fText) := (not_iff dI).1 h_11
     refine R_seq (RR (Y f 1 fun _ f => Y15 f p_2 (fzu hM_2 hc_2) 3 rfl fun _ f => Y f 1 fun _ f => Y15 f p_2 hc_4 3 rfl fun _ f => Z (v := .bool (Op.bytesLess d0.fText d1.fText)) f (X_strlt rfl (l := d0.fText) (m := d1.fText) (by kernel_rfl) (by kernel_rfl)) fun _ f => eT (RcF f hF_13 (fun h_12 hF_14 => ?_) fun h_12 hF_15 => ?_)))
     ·refine RR (Y f 1 fun _ f => eT (wp_ret (T_r (T_r (E_ret1 f rfl (by kernel_rfl : Vc.look _ 4 = some (.int .i64 (-1))) ?_)))))
      obtain rfl := sI hF_14
      exact ⟨_, rfl, M_2, (hM_1.trans hM_2), p_2, rfl⟩
     ·refine wp_skip (T_n (RR (Y f 1 fun _ f => eT (wp_ret (T_r (E_ret1 f rfl (by kernel_rfl : Vc.look _ 4 = some (.int .i64 1)) ?_))))))
      obtain rfl := sI hF_15
      exact ⟨_, rfl, M_2, (hM_1.trans hM_2), p_2, rfl⟩
    ·have k_16 : ¬ (¬ (d0.fText = d1.fText)) := iff_f (not_iff dI) h_11
     refine wp_skip (T_n (R_seq (RR (Y f 1 fun _ f => eT (wp_block ?_)))))
     obtain ⟨b_3, hL_1, hF_17⟩ := bS hF_16
     refine wp_mono (Q := fun e a w => (e = .ret ∧ (∃ y_3 : Int, b_3 = .inl y_3 ∧ ∃ M_6 : Mem, M_2.le M_6 ∧ Frm 113 [(4, .int .i64 y_3)] a ∧ Hp w0 M_6 (H) w)) ∨ (e = .exit 0 ∧ (∃ y_4 : Unit, b_3 = .inr y_4 ∧ ∃ M_7 : Mem, M_2.le M_7 ∧ Frm 113 [(2, .pointer (some (⟨b_1, 0, none⟩))), (3, .pointer (some (⟨b_2, 0, none⟩)))] a ∧ Hp w0 M_7 (H) w))) (R_loop (n := 113) (w0 := w0) (M := M_2) (fun (x : Nat × Int) => match x with | (m_1, s_1) => [(2, .pointer (some (⟨b_1, 0, none⟩))), (3, .pointer (some (⟨b_2, 0, none⟩))), (5, .int .i64 s_1)]) (fun (x : Nat × Int) => match x with | (m_1, s_1) => (H)) (fun (x : Nat × Int) (MM : Mem) => match x with | (m_1, s_1) => loopF (ref03_compare_s1 n rec_ref03_compare d0 d1) m_1 s_1 = some b_3) (fun (x : Nat × Int) => match x with | (m_1, s_1) => m_1) (n, (0 : Int)) (f.kp) p_2 hL_1 ?_) ?_
     ·rintro ⟨m_1, s_1⟩ M_3 _ w_3 hM_3 I_1 f p_3
      have I_1L := I_1
      obtain ⟨m_2, r_1, rfl, hs_1, hn_1⟩ := loop_step I_1L
      unfold ref03_compare_s1 at hs_1
      refine R_seq (R_seq ?_)
      obtain ⟨j_1, hj_1, hF_18⟩ := bS hs_1
      refine R_mid (fun a_58 w_4 => ∃ y_1 : Bool, j_1 = y_1 ∧ ∃ M_4 : Mem, M_3.le M_4 ∧ Frm 113 [(2, .pointer (some (⟨b_1, 0, none⟩))), (3, .pointer (some (⟨b_2, 0, none⟩))), (5, .int .i64 s_1), (55, .bool y_1)] a_58 ∧ Hp w0 M_4 (H) w_4) ?_ ?_
      ·refine R_reg (Y f 2 fun _ f => Y15 f p_3 (fzu (hM_2.trans hM_3) hc_2) 4 rfl fun _ f => Y f 3 fun _ f => ?_)
       rcases cE hj_1 with ⟨h_13, hF_19⟩ | ⟨h_13, hF_20⟩
       ·have k_17 := dI.1 h_13
        have f := f.st 49 (cB h_13)
        refine Y f 2 fun _ f => Y15 f p_3 (fzu hM_3 hc_4) 4 rfl fun _ f => Y f 3 fun _ f => eT ?_
        exact ⟨(decide (s_1 < ((d1.fList.length : Nat) : Int))), (sI hF_19).symm, M_3, (mR _), f.kp, p_3⟩
       ·have k_18 := iff_f dI h_13
        have f := f.st 49 (cB h_13)
        refine Y f 6 fun _ f => eT ?_
        exact ⟨(false), (sI hF_20).symm, M_3, (mR _), f.kp, p_3⟩
      ·rintro a_58 w_4 ⟨y_1, hq_1, M_4, hM_4, f, p_4⟩
       subst j_1
       refine T_n (RcF f hF_18 (fun h_14 hF_21 => ?_) fun h_14 hF_39 => ?_)
       ·refine wp_skip (T_n (R_seq (wp_block (R_seq (R_seq ?_)))))
        obtain ⟨j_2, hj_2, hF_22⟩ := bS hF_21
        refine R_mid (fun a_75 w_7 => ∃ y_2 : Bool, j_2 = y_2 ∧ ∃ M_5 : Mem, M_4.le M_5 ∧ Frm 113 [(2, .pointer (some (⟨b_1, 0, none⟩))), (3, .pointer (some (⟨b_2, 0, none⟩))), (5, .int .i64 s_1), (73, .bool y_2)] a_75 ∧ Hp w0 M_5 (H) w_7) ?_ ?_
        ·refine R_draw p_4 (by kernel_rfl) (by kernel_rfl) (Y5 default f 1 fun _ f => Y4 f (fzu ((hM_2.trans hM_3).trans hM_4) hc_2) 0 rfl fun _ f => Y5 default f 2 fun _ f => ?_)
         rcases cE hj_2 with ⟨h_15, hF_23⟩ | ⟨h_15, hF_26⟩
         ·have k_20 := dI.1 h_15
          have f := f.st 61 (cB h_15)
          refine Y5 default f 1 fun _ f => Y4 f (fzu ((hM_2.trans hM_3).trans hM_4) hc_2) 5 rfl fun _ f => Y5 default f 1 fun _ f => ?_
          obtain ⟨x_1, hx_1, hF_24⟩ := bS hF_23
          obtain ⟨ad_1, c_1, e_1, -, hr_1, hc_5⟩ := Sli.at_ (h_2.mono (((hM_1.trans hM_2).trans hM_3).trans hM_4)) hx_1
          obtain rfl : c_1 = [S x_1] := hr_1
          refine Y2 (v := .pointer (some (ad_1.add (s_1.toNat * 1)))) f (fun _ pq => Y31 e_1 rfl (len := d0.fKeys.length) (cap := cap_2) (k := .i64) (i := s_1) (e := 9) (sz := 1) (getI_nn hx_1) (getI_lt hx_1)) fun _ f => Y4 f hc_5 0 rfl fun _ f => Y5 default f 1 fun _ f => Y4 f (fzu (hM_3.trans hM_4) hc_4) 5 rfl fun _ f => Y5 default f 1 fun _ f => ?_
          obtain ⟨x_2, hx_2, hF_25⟩ := bS hF_24
          obtain ⟨ad_2, c_2, e_2, -, hr_2, hc_6⟩ := Sli.at_ (h_4.mono (((hM_1.trans hM_2).trans hM_3).trans hM_4)) hx_2
          obtain rfl : c_2 = [S x_2] := hr_2
          refine Y2 (v := .pointer (some (ad_2.add (s_1.toNat * 1)))) f (fun _ pq => Y31 e_2 rfl (len := d1.fKeys.length) (cap := cap_4) (k := .i64) (i := s_1) (e := 9) (sz := 1) (getI_nn hx_2) (getI_lt hx_2)) fun _ f => Y4 f hc_6 0 rfl fun _ f => Y2 (v := .bool (!(decide (x_1 = x_2)))) f (fun _ pq => Y39 rfl (l := x_1) (m := x_2)) fun _ f => Y5 default f 1 fun _ f => Q_end rfl ?_
          intro w_5 p_5
          refine T_n ?_
          exact ⟨(!(decide (x_1 = x_2))), (sI hF_25).symm, M_4, (mR _), f.kp, p_5⟩
         ·have k_21 := iff_f dI h_15
          have f := f.st 61 (cB h_15)
          refine Y5 default f 12 fun _ f => Q_end rfl ?_
          intro w_6 p_6
          refine T_n ?_
          exact ⟨(false), (sI hF_26).symm, M_4, (mR _), f.kp, p_6⟩
        ·rintro a_75 w_7 ⟨y_2, hq_2, M_5, hM_5, f, p_7⟩
         subst j_2
         refine T_n (RcF f hF_22 (fun h_16 hF_27 => ?_) fun h_16 hF_32 => ?_)
         ·refine R_seq (R_seq (R_draw p_7 (by kernel_rfl) (by kernel_rfl) (Y5 default f 1 fun _ f => Y4 f (fzu (((hM_2.trans hM_3).trans hM_4).trans hM_5) hc_2) 5 rfl fun _ f => Y5 default f 1 fun _ f => ?_)))
          obtain ⟨x_3, hx_3, hF_28⟩ := bS hF_27
          obtain ⟨ad_3, c_3, e_3, -, hr_3, hc_7⟩ := Sli.at_ (h_2.mono ((((hM_1.trans hM_2).trans hM_3).trans hM_4).trans hM_5)) hx_3
          obtain rfl : c_3 = [S x_3] := hr_3
          refine Y2 (v := .pointer (some (ad_3.add (s_1.toNat * 1)))) f (fun _ pq => Y31 e_3 rfl (len := d0.fKeys.length) (cap := cap_2) (k := .i64) (i := s_1) (e := 9) (sz := 1) (getI_nn hx_3) (getI_lt hx_3)) fun _ f => Y4 f hc_7 0 rfl fun _ f => Y5 default f 1 fun _ f => Y4 f (fzu ((hM_3.trans hM_4).trans hM_5) hc_4) 5 rfl fun _ f => Y5 default f 1 fun _ f => ?_
          obtain ⟨x_4, hx_4, hF_29⟩ := bS hF_28
          obtain ⟨ad_4, c_4, e_4, -, hr_4, hc_8⟩ := Sli.at_ (h_4.mono ((((hM_1.trans hM_2).trans hM_3).trans hM_4).trans hM_5)) hx_4
          obtain rfl : c_4 = [S x_4] := hr_4
          refine Y2 (v := .pointer (some (ad_4.add (s_1.toNat * 1)))) f (fun _ pq => Y31 e_4 rfl (len := d1.fKeys.length) (cap := cap_4) (k := .i64) (i := s_1) (e := 9) (sz := 1) (getI_nn hx_4) (getI_lt hx_4)) fun _ f => Y4 f hc_8 0 rfl fun _ f => Y2 (v := .bool (Op.bytesLess x_3 x_4)) f (fun _ pq => X_strlt rfl (l := x_3) (m := x_4) (by kernel_rfl) (by kernel_rfl)) fun _ f => Q_end rfl ?_
          intro w_8 p_8
          refine T_n (RcF f hF_29 (fun h_17 hF_30 => ?_) fun h_17 hF_31 => ?_)
          ·refine RR (Y f 1 fun _ f => eT (wp_ret (T_r (T_r (B_r (T_r (T_r ?_)))))))
           obtain rfl := sI hF_30
           exact .inl ⟨rfl, (-1 : Int), (sI hn_1).symm, M_5, ((hM_3.trans hM_4).trans hM_5), f.kp, p_8⟩
          ·refine wp_skip (T_n (RR (Y f 1 fun _ f => eT (wp_ret (T_r (B_r (T_r (T_r ?_))))))))
           obtain rfl := sI hF_31
           exact .inl ⟨rfl, (1 : Int), (sI hn_1).symm, M_5, ((hM_3.trans hM_4).trans hM_5), f.kp, p_8⟩
         ·refine wp_skip (T_n (R_seq (R_draw p_7 (by kernel_rfl) (by kernel_rfl) (Y5 default f 1 fun _ f => Y4 f (fzu (((hM_2.trans hM_3).trans hM_4).trans hM_5) hc_2) 4 rfl fun _ f => Y5 default f 1 fun _ f => ?_))))
          obtain ⟨x_5, hx_5, hF_33⟩ := bS hF_32
          obtain ⟨ad_5, c_5, e_5, -, hr_5, hc_9⟩ := Sli.at_ (h_1.mono ((((hM_1.trans hM_2).trans hM_3).trans hM_4).trans hM_5)) hx_5
          obtain ⟨A_5, cap_5, A_6, cap_6, rfl, h_18, h_19⟩ := TD0.opn hr_5
          refine Y2 (v := .pointer (some (ad_5.add (s_1.toNat * 6)))) f (fun _ pq => Y31 e_5 rfl (len := d0.fList.length) (cap := cap_1) (k := .i64) (i := s_1) (e := 76) (sz := 6) (getI_nn hx_5) (getI_lt hx_5)) fun _ f => Y2 (v := .agg #[.int .i8 x_5.fKind, .bool x_5.fBool, .int .i64 x_5.fNum, S x_5.fText, .slice A_5 x_5.fList.length cap_5, .slice A_6 x_5.fKeys.length cap_6]) f (fun _ pq => Y33 (cs := [.int .i8 x_5.fKind, .bool x_5.fBool, .int .i64 x_5.fNum, S x_5.fText, .slice A_5 x_5.fList.length cap_5, .slice A_6 x_5.fKeys.length cap_6]) rfl (ad := ad_5.add (s_1.toNat * 6)) (fun j v h => pq.cell (hc_9 j v h))) fun _ f => Y5 default f 1 fun _ f => Y4 f (fzu ((hM_3.trans hM_4).trans hM_5) hc_4) 4 rfl fun _ f => Y5 default f 1 fun _ f => ?_
          obtain ⟨x_6, hx_6, hF_34⟩ := bS hF_33
          obtain ⟨ad_6, c_6, e_6, -, hr_6, hc_10⟩ := Sli.at_ (h_3.mono ((((hM_1.trans hM_2).trans hM_3).trans hM_4).trans hM_5)) hx_6
          obtain ⟨A_7, cap_7, A_8, cap_8, rfl, h_20, h_21⟩ := TD0.opn hr_6
          refine Y2 (v := .pointer (some (ad_6.add (s_1.toNat * 6)))) f (fun _ pq => Y31 e_6 rfl (len := d1.fList.length) (cap := cap_3) (k := .i64) (i := s_1) (e := 76) (sz := 6) (getI_nn hx_6) (getI_lt hx_6)) fun _ f => Y2 (v := .agg #[.int .i8 x_6.fKind, .bool x_6.fBool, .int .i64 x_6.fNum, S x_6.fText, .slice A_7 x_6.fList.length cap_7, .slice A_8 x_6.fKeys.length cap_8]) f (fun _ pq => Y33 (cs := [.int .i8 x_6.fKind, .bool x_6.fBool, .int .i64 x_6.fNum, S x_6.fText, .slice A_7 x_6.fList.length cap_7, .slice A_8 x_6.fKeys.length cap_8]) rfl (ad := ad_6.add (s_1.toNat * 6)) (fun j v h => pq.cell (hc_10 j v h))) fun _ f => ?_
          obtain ⟨x_7, hx_7, hF_35⟩ := bS hF_34
          refine Y3 f (hrec_ref03_compare _ _ x_5 (TD0.shutx (x := x_5) h_18 h_19) _ x_6 (TD0.shutx (x := x_6) h_20 h_21) x_7 hx_7) fun _ f => Y5 default f 1 fun _ f => Q_end rfl ?_
          intro w_10 p_10
          refine T_n (RR (Y f 2 fun _ f => eT (RcF f hF_35 (fun h_22 hF_36 => ?_) fun h_22 hF_37 => ?_)))
          ·have k_26 : ¬ (x_7 = 0) := (not_iff dI).1 h_22
           refine RR (Y f 2 fun _ f => eT (wp_ret (B_r (T_r (T_r ?_)))))
           obtain rfl := sI hF_36
           exact .inl ⟨rfl, x_7, (sI hn_1).symm, M_5, ((hM_3.trans hM_4).trans hM_5), f.kp, p_10⟩
          ·have k_27 : ¬ (¬ (x_7 = 0)) := iff_f (not_iff dI) h_22
           refine wp_skip (B_n (T_n (R_reg (Y f 1 fun _ f => ?_))))
           obtain ⟨g_1, hF_38⟩ := nS hF_37
           refine Y f 1 fun _ f => ?_
           have f := f.st 57 (congrArg (Value.int .i64) (inR_wrap g_1))
           refine Y f 1 fun _ f => eT ?_
           obtain rfl := sI hF_38
           exact ⟨⟨m_2, s_1 + 1⟩, Nat.lt_succ_self _, M_5, ((hM_3.trans hM_4).trans hM_5), hn_1, f.kp, p_10⟩
       ·refine wp_exit (T_x (T_x ?_))
        obtain rfl := sI hF_39
        exact .inr ⟨rfl, (), (sI hn_1).symm, M_4, (hM_3.trans hM_4), f.kp, p_4⟩
     ·rintro _ _ w_13 (⟨rfl, y_3, rfl, M_6, hM_6, f, p_11⟩ | ⟨rfl, y_4, rfl, M_7, hM_7, f, p_12⟩)
      ·refine B_r (T_r (E_ret1 f rfl (by kernel_rfl : Vc.look _ 4 = some (.int .i64 y_3)) ?_))
       obtain rfl := sI hF_17
       exact ⟨_, rfl, M_6, ((hM_1.trans hM_2).trans hM_6), p_11, rfl⟩
      ·refine B_x (T_n (R_seq (RR (Y f 1 fun _ f => Y15 f p_12 (fzu (hM_2.trans hM_7) hc_2) 4 rfl fun _ f => Y f 2 fun _ f => Y15 f p_12 (fzu hM_7 hc_4) 4 rfl fun _ f => Y f 2 fun _ f => eT (RcF f hF_17 (fun h_23 hF_40 => ?_) fun h_23 hF_43 => ?_)))))
       ·have k_29 : ¬ (((d0.fList.length : Nat) : Int) = ((d1.fList.length : Nat) : Int)) := (not_iff dI).1 h_23
        refine R_seq (RR (Y f 1 fun _ f => Y15 f p_12 (fzu (hM_2.trans hM_7) hc_2) 4 rfl fun _ f => Y f 2 fun _ f => Y15 f p_12 (fzu hM_7 hc_4) 4 rfl fun _ f => Y f 2 fun _ f => eT (RcF f hF_40 (fun h_24 hF_41 => ?_) fun h_24 hF_42 => ?_)))
        ·have k_30 := dI.1 h_24
         refine RR (Y f 1 fun _ f => eT (wp_ret (T_r (T_r (E_ret1 f rfl (by kernel_rfl : Vc.look _ 4 = some (.int .i64 (-1))) ?_)))))
         obtain rfl := sI hF_41
         exact ⟨_, rfl, M_7, ((hM_1.trans hM_2).trans hM_7), p_12, rfl⟩
        ·have k_31 := iff_f dI h_24
         refine wp_skip (T_n (RR (Y f 1 fun _ f => eT (wp_ret (T_r (E_ret1 f rfl (by kernel_rfl : Vc.look _ 4 = some (.int .i64 1)) ?_))))))
         obtain rfl := sI hF_42
         exact ⟨_, rfl, M_7, ((hM_1.trans hM_2).trans hM_7), p_12, rfl⟩
       ·have k_32 : ¬ (¬ (((d0.fList.length : Nat) : Int) = ((d1.fList.length : Nat) : Int))) := iff_f (not_iff dI) h_23
        refine wp_skip (T_n (RR (Y f 1 fun _ f => eT (wp_ret (E_ret1 f rfl (by kernel_rfl : Vc.look _ 4 = some (.int .i64 0)) ?_)))))
        obtain rfl := sI hF_43
        exact ⟨_, rfl, M_7, ((hM_1.trans hM_2).trans hM_7), p_12, rfl⟩
def ref03_compare_k (n : Nat) : Nat → TD0 → TD0 → Option Int
  | 0 => fun _ _ => none
  | k + 1 => ref03_compare_b n (ref03_compare_k n k)
def ref03_compare (n : Nat) (d0 : TD0) (d1 : TD0) : Option Int := ref03_compare_k n n d0 d1
theorem ref03_compare_ok (n : Nat) (M : Mem) (c0 : List Value) (d0 : TD0) (h0 : Rep M (emb_TD0 d0) c0) (c1 : List Value) (d1 : TD0) (h1 : Rep M (emb_TD0 d1) c1) (r : Int) (hF : ref03_compare n d0 d1 = some r) : Ok Tryz.prog M 76 [.agg c0.toArray, .agg c1.toArray] (fun _ v => v = .int .i64 r) := by
 have key : ∀ (k : Nat) (M : Mem) (c0 : List Value) (d0 : TD0) (h0 : Rep M (emb_TD0 d0) c0) (c1 : List Value) (d1 : TD0) (h1 : Rep M (emb_TD0 d1) c1) (r : Int) (hF : ref03_compare_k n k d0 d1 = some r), Ok Tryz.prog M 76 [.agg c0.toArray, .agg c1.toArray] (fun _ v => v = .int .i64 r) := by
  intro k
  induction k with
  | zero => intro M c0 d0 h0 c1 d1 h1 r hF; simp [ref03_compare_k] at hF
  | succ k ih => intro M c0 d0 h0 c1 d1 h1 r hF; exact ref03_compare_b_ok n (ref03_compare_k n k) ih M c0 d0 h0 c1 d1 h1 r hF
 exact key n M c0 d0 h0 c1 d1 h1 r hF
def ref03_Equal (n : Nat) (d0 : TD0) (d1 : TD0) : Option Bool :=
  (ref03_Check n d0).bind fun x_1 =>
  bif (decide (x_1 = 0)) then
    ((ref03_Check n d1).bind fun x_2 =>
    bif (decide (x_2 = 0)) then
      ((ref03_sorted n d0).bind fun x_3 =>
      (ref03_sorted n d1).bind fun x_4 =>
      (ref03_compare n x_3 x_4).bind fun x_5 =>
      some ((decide (x_5 = 0))))
    else
      some ((false)))
  else
    some ((false))
theorem ref03_Equal_ok (n : Nat) (M : Mem) (c0 : List Value) (d0 : TD0) (h0 : Rep M (emb_TD0 d0) c0) (c1 : List Value) (d1 : TD0) (h1 : Rep M (emb_TD0 d1) c1) (r : Bool) (hF : ref03_Equal n d0 d1 = some r) : Ok Tryz.prog M 48 [.agg c0.toArray, .agg c1.toArray] (fun _ v => v = .bool r) := by
 unfold ref03_Equal at hF
 intro M1 hM0 w0 H w p0
 replace h0 := Rep.mono hM0 _ _ h0
 replace h1 := Rep.mono hM0 _ _ h1
 obtain ⟨A_1, cap_1, A_2, cap_2, rfl, h_1, h_2⟩ := TD0.opn h0
 obtain ⟨A_3, cap_3, A_4, cap_4, rfl, h_3, h_4⟩ := TD0.opn h1
 refine R_enter 21 Tryz.func48 rfl rfl (by simp) fun a0 f0 => RR (Y13 (cs := #[.int .i8 d0.fKind, .bool d0.fBool, .int .i64 d0.fNum, S d0.fText, .slice A_1 d0.fList.length cap_1, .slice A_2 d0.fKeys.length cap_2]) (T := 76) f0 p0 fun b_1 M_1 w_1 hM_1 hc_1 p_1 _ f => ?_)
 have hc_2 := fz_box hc_1
 refine Y13 (cs := #[.int .i8 d1.fKind, .bool d1.fBool, .int .i64 d1.fNum, S d1.fText, .slice A_3 d1.fList.length cap_3, .slice A_4 d1.fKeys.length cap_4]) (T := 76) f p_1 fun b_2 M_2 w_2 hM_2 hc_3 p_2 _ f => ?_
 have hc_4 := fz_box hc_3
 refine Y f 1 fun _ f => eT (R_seq (R_mix (E := []) (Hr := (H)) [(0, true), (1, true), (2, true), (3, true), (4, true), (5, true), (6, true), (7, true), (8, true), (9, true), (11, true), (10, false), (12, false), (13, false), (14, true), (15, true), (16, true)] p_2 (by kernel_rfl) (by kernel_rfl) rfl (by kernel_rfl) (M_eq (v := .agg #[.int .i8 d0.fKind, .bool d0.fBool, .int .i64 d0.fNum, S d0.fText, .slice A_1 d0.fList.length cap_1, .slice A_2 d0.fKeys.length cap_2]) f (by kernel_rfl) (by kernel_rfl) rfl rfl (fun _ pq => Y33 (cs := [.int .i8 d0.fKind, .bool d0.fBool, .int .i64 d0.fNum, S d0.fText, .slice A_1 d0.fList.length cap_1, .slice A_2 d0.fKeys.length cap_2]) rfl (ad := ⟨b_1, 0, none⟩) (fun j v h => pq.cell ((fzu hM_2 hc_2) j v h))) fun _ f => ?_)))
 obtain ⟨x_1, hx_1, hF_1⟩ := bS hF
 refine M_okv (v := .int .i64 x_1) f (by kernel_rfl) (by kernel_rfl) rfl rfl (fun _ => by kernel_rfl) (ref03_Check_ok n _ _ d0 (TD0.shutx (x := d0) (h_1.mono (hM_1.trans hM_2)) (h_2.mono (hM_1.trans hM_2))) x_1 hx_1) fun _ f => Y0 default f 2 fun _ f => ?_
 rcases cE hF_1 with ⟨h_5, hF_2⟩ | ⟨h_5, hF_9⟩
 ·have k_1 := dI.1 h_5
  have f := f.st 8 (cB h_5)
  refine M_eq (v := .agg #[.int .i8 d1.fKind, .bool d1.fBool, .int .i64 d1.fNum, S d1.fText, .slice A_3 d1.fList.length cap_3, .slice A_4 d1.fKeys.length cap_4]) f (by kernel_rfl) (by kernel_rfl) rfl rfl (fun _ pq => Y33 (cs := [.int .i8 d1.fKind, .bool d1.fBool, .int .i64 d1.fNum, S d1.fText, .slice A_3 d1.fList.length cap_3, .slice A_4 d1.fKeys.length cap_4]) rfl (ad := ⟨b_2, 0, none⟩) (fun j v h => pq.cell (hc_4 j v h))) fun _ f => ?_
  obtain ⟨x_2, hx_2, hF_3⟩ := bS hF_2
  refine M_okv (v := .int .i64 x_2) f (by kernel_rfl) (by kernel_rfl) rfl rfl (fun _ => by kernel_rfl) (ref03_Check_ok n _ _ d1 (TD0.shutx (x := d1) (h_3.mono (hM_1.trans hM_2)) (h_4.mono (hM_1.trans hM_2))) x_2 hx_2) fun _ f => Y0 default f 3 fun _ f => ?_
  rcases cE hF_3 with ⟨h_6, hF_4⟩ | ⟨h_6, hF_8⟩
  ·have k_2 := dI.1 h_6
   have f := f.st 13 (cB h_6)
   refine M_eq (v := .agg #[.int .i8 d0.fKind, .bool d0.fBool, .int .i64 d0.fNum, S d0.fText, .slice A_1 d0.fList.length cap_1, .slice A_2 d0.fKeys.length cap_2]) f (by kernel_rfl) (by kernel_rfl) rfl rfl (fun _ pq => Y33 (cs := [.int .i8 d0.fKind, .bool d0.fBool, .int .i64 d0.fNum, S d0.fText, .slice A_1 d0.fList.length cap_1, .slice A_2 d0.fKeys.length cap_2]) rfl (ad := ⟨b_1, 0, none⟩) (fun j v h => pq.cell ((fzu hM_2 hc_2) j v h))) fun _ f => M_eq (v := .agg #[.int .i8 d1.fKind, .bool d1.fBool, .int .i64 d1.fNum, S d1.fText, .slice A_3 d1.fList.length cap_3, .slice A_4 d1.fKeys.length cap_4]) f (by kernel_rfl) (by kernel_rfl) rfl rfl (fun _ pq => Y33 (cs := [.int .i8 d1.fKind, .bool d1.fBool, .int .i64 d1.fNum, S d1.fText, .slice A_3 d1.fList.length cap_3, .slice A_4 d1.fKeys.length cap_4]) rfl (ad := ⟨b_2, 0, none⟩) (fun j v h => pq.cell (hc_4 j v h))) fun _ f => M_fix (E := []) fun w_5 p_5 => ?_
   obtain ⟨x_3, hx_3, hF_5⟩ := bS hF_4
   refine Y16 f p_5 (ref03_sorted_ok n _ _ d0 (TD0.shutx (x := d0) (h_1.mono (hM_1.trans hM_2)) (h_2.mono (hM_1.trans hM_2))) x_3 hx_3) fun _ M_3 w_6 hM_3 p_6 q_1 _ f => ?_
   obtain ⟨c_1, rfl, hr_1⟩ := q_1
   obtain ⟨A_5, cap_5, A_6, cap_6, rfl, h_7, h_8⟩ := TD0.opn hr_1
   refine W_end rfl (M_go (M1 := M_3) (E := []) hM_3 p_6 (M_fix (E := []) fun w_7 p_7 => ?_))
   obtain ⟨x_4, hx_4, hF_6⟩ := bS hF_5
   refine Y16 f p_7 (ref03_sorted_ok n _ _ d1 (TD0.shutx (x := d1) (h_3.mono ((hM_1.trans hM_2).trans hM_3)) (h_4.mono ((hM_1.trans hM_2).trans hM_3))) x_4 hx_4) fun _ M_4 w_8 hM_4 p_8 q_2 _ f => ?_
   obtain ⟨c_2, rfl, hr_2⟩ := q_2
   obtain ⟨A_7, cap_7, A_8, cap_8, rfl, h_9, h_10⟩ := TD0.opn hr_2
   refine W_end rfl (M_go (M1 := M_4) (E := []) (hM_3.trans hM_4) p_8 (M_fix (E := []) fun w_9 p_9 => ?_))
   obtain ⟨x_5, hx_5, hF_7⟩ := bS hF_6
   refine Y18 f p_9 (ref03_compare_ok n _ _ x_3 (TD0.shutx (x := x_3) (h_7.mono hM_4) (h_8.mono hM_4)) _ x_4 (TD0.shutx (x := x_4) h_9 h_10) x_5 hx_5) fun w_10 p_10 _ f => W_end rfl (M_go (M1 := M_4) (E := []) (hM_3.trans hM_4) p_10 (Y0 default f 3 fun _ f => M_end rfl fun w_11 p_11 => T_n (wp_ret (E_ret1 f rfl (by kernel_rfl : Vc.look _ 4 = some (.bool (decide (x_5 = 0)))) ?_))))
   obtain rfl := sI hF_7
   exact ⟨_, rfl, M_4, (((hM_1.trans hM_2).trans hM_3).trans hM_4), p_11, rfl⟩
  ·have k_3 := iff_f dI h_6
   have f := f.st 13 (cB h_6)
   refine Y0 default f 2 fun _ f => M_fix (E := []) fun w_12 p_12 => Y f 1 fun _ f => W_end rfl (M_go (M1 := M_2) (E := []) (mR _) p_12 (M_fix (E := []) fun w_13 p_13 => Y f 1 fun _ f => W_end rfl (M_go (M1 := M_2) (E := []) (mR _) p_13 (M_fix (E := []) fun w_14 p_14 => Y f 1 fun _ f => ?_))))
   refine W_end rfl (M_go (M1 := M_2) (E := []) (mR _) p_14 (Y0 default f 3 fun _ f => M_end rfl fun w_15 p_15 => T_n (wp_ret (E_ret1 f rfl (by kernel_rfl : Vc.look _ 4 = some (.bool false)) ?_))))
   obtain rfl := sI hF_8
   exact ⟨_, rfl, M_2, (hM_1.trans hM_2), p_15, rfl⟩
 ·have k_4 := iff_f dI h_5
  have f := f.st 8 (cB h_5)
  refine Y0 default f 7 fun _ f => M_fix (E := []) fun w_16 p_16 => Y f 1 fun _ f => W_end rfl (M_go (M1 := M_2) (E := []) (mR _) p_16 (M_fix (E := []) fun w_17 p_17 => Y f 1 fun _ f => W_end rfl (M_go (M1 := M_2) (E := []) (mR _) p_17 (M_fix (E := []) fun w_18 p_18 => Y f 1 fun _ f => ?_))))
  refine W_end rfl (M_go (M1 := M_2) (E := []) (mR _) p_18 (Y0 default f 3 fun _ f => M_end rfl fun w_19 p_19 => T_n (wp_ret (E_ret1 f rfl (by kernel_rfl : Vc.look _ 4 = some (.bool false)) ?_))))
  obtain rfl := sI hF_9
  exact ⟨_, rfl, M_2, (hM_1.trans hM_2), p_19, rfl⟩
def posP (p : KV) : List KV → Nat
  | [] => 0
  | q :: r => bif leK p q then 0 else posP p r + 1
theorem posP_le (p : KV) : ∀ l, posP p l ≤ l.length
 | [] => Nat.le_refl _
 | q :: r => by
  have := posP_le p r
  rw [posP, List.length_cons]
  cases leK p q with
  | true => rw [cT]; omega
  | false => rw [cF]; omega
theorem posP_lt (p : KV) : ∀ (l : List KV) (i : Nat) (h : i < l.length), i < posP p l → leK p l[i] = false
 | q :: r, i, h, hi => by
  rw [posP] at hi
  cases hq : leK p q with
  | true => rw [hq, cT] at hi; omega
  | false =>
   rw [hq, cF] at hi
   cases i with
   | zero => exact hq
   | succ i => exact posP_lt p r i (by rw [List.length_cons] at h; omega) (by omega)
theorem posP_at (p : KV) : ∀ (l : List KV) (h : posP p l < l.length), leK p l[posP p l] = true
 | q :: r, h => by
  cases hq : leK p q with
  | true =>
   have e : posP p (q :: r) = 0 := by rw [posP, hq, cT]
   simp only [e]
   exact hq
  | false =>
   have e : posP p (q :: r) = posP p r + 1 := by rw [posP, hq, cF]
   simp only [e] at h ⊢
   rw [List.length_cons] at h
   exact posP_at p r (by omega)
theorem insP_pos (p : KV) : ∀ l, insP p l = l.take (posP p l) ++ p :: l.drop (posP p l)
 | [] => rfl
 | q :: r => by
  rw [insP, posP]
  cases leK p q with
  | true => rw [cT, cT]; rfl
  | false => rw [cF, cF, insP_pos p r]; rfl
def foldP (l : List KV) : List KV := l.foldl (fun acc p => insP p acc) []
theorem foldP_snoc (l : List KV) (p : KV) : foldP (l ++ [p]) = insP p (foldP l) := by unfold foldP; rw [List.foldl_append]; rfl
theorem foldP_perm_gen : ∀ (l acc : List KV), (l.foldl (fun acc p => insP p acc) acc).Perm (l ++ acc)
 | [], acc => List.Perm.refl _
 | p :: r, acc => by
  rw [List.foldl_cons]
  refine (foldP_perm_gen r _).trans ?_
  refine ((insP_perm p acc).append_left r).trans ?_
  exact List.perm_middle
theorem foldP_sorted_gen : ∀ (l acc : List KV), acc.Pairwise (fun a b => leK a b = true) → (l.foldl (fun acc p => insP p acc) acc).Pairwise (fun a b => leK a b = true)
 | [], acc, h => h
 | p :: r, acc, h => foldP_sorted_gen r _ (insP_sorted p acc h)
theorem foldP_eq {l : List KV} (hn : (l.map (·.1)).Nodup) : foldP l = isortP l := by
 refine sorted_one hn ?_ (foldP_sorted_gen l [] List.Pairwise.nil)
 have := foldP_perm_gen l []
 rwa [List.append_nil] at this
theorem foldP_len (l : List KV) : (foldP l).length = l.length := by
 have := (foldP_perm_gen l []).length_eq
 rwa [List.append_nil] at this
theorem sorted_ref {n : Nat} (hn : 6000 < n) : ∀ (k d : Nat) (v : TD0), d ≤ k → Small d v → OkV v → ref03_sorted_k n k v = some (sortV v)
 | _, 0, v, _, h, _ => h.elim
 | 0, d + 1, v, h, _, _ => absurd h (by omega)
 | k + 1, d + 1, v, hk, hs, hok => by
  obtain ⟨h1, h2, h3, h4, h5⟩ := hs
  obtain ⟨ha, hl⟩ := OkV_iff.1 hok
  obtain ⟨hp, _, _, hnd⟩ := alone_ok ha
  show ref03_sorted_b n (ref03_sorted_k n k) v = _
  unfold ref03_sorted_b
  have ih : ∀ x ∈ v.fList, ref03_sorted_k n k x = some (sortV x) := fun x hx => sorted_ref hn k d x (by omega) (h5 x hx) (hl x hx)
  have ev : ∀ x : TD0, (⟨x.fKind, (x.fBool), x.fNum, x.fText, x.fList, x.fKeys⟩ : TD0) = x := fun x => by cases x; rfl
  by_cases hkind : v.fKind = 5
  ·have hkl : v.fKeys.length = v.fList.length := hp.2.2.2.2.2.2.1 hkind
   obtain ⟨ps, hps⟩ : ∃ ps : List KV, ps = v.fKeys.zip (v.fList.map sortV) := ⟨_, rfl⟩
   have hpl : ps.length = v.fList.length := by rw [hps]; simp [hkl]
   have := loop_all (step := ref03_sorted_s1 n (ref03_sorted_k n k) v) (n := n) (fun q => ((q : Int), (foldP (ps.take q)).map (·.2), (foldP (ps.take q)).map (·.1))) v.fList.length ((foldP ps).map (·.2), (foldP ps).map (·.1)) (fun q hq => by
    have hx : v.fList[q]? = some v.fList[q] := List.getElem?_eq_getElem hq
    have hg : getI v.fList (q : Int) = some v.fList[q] := by simp [getI]
    have hgk : getI v.fKeys (q : Int) = some (v.fKeys.getD q []) := getI_at [] (by omega)
    have hpq : ps[q]? = some (v.fKeys.getD q [], sortV v.fList[q]) := by
     rw [hps]
     simp [List.getElem?_zip_eq_some, hx, List.getD, (by omega : q < v.fKeys.length)]
    obtain ⟨p, hpe⟩ : ∃ p : KV, p = (v.fKeys.getD q [], sortV v.fList[q]) := ⟨_, rfl⟩
    rw [← hpe] at hpq
    have hp1 : v.fKeys.getD q [] = p.1 := by rw [hpe]
    have hp2 : sortV v.fList[q] = p.2 := by rw [hpe]
    have hfold : foldP (ps.take (q + 1)) = insP p (foldP (ps.take q)) := by rw [List.take_add_one, hpq]; exact foldP_snoc _ _
    have hfl : (foldP (ps.take q)).length = q := by rw [foldP_len]; simp; omega
    rw [hp1] at hgk
    unfold ref03_sorted_s1
    dsimp only
    rw [decide_eq_true (by omega), cT, hg, bnd, ih _ (List.getElem_mem hq), bnd, decide_eq_false (by omega), cF, hfold]
    generalize foldP (ps.take q) = L at hfl ⊢
    have hpos := posP_le p L
    have hin := loop_all (step := ref03_sorted_s2 n v ((q : Int), L.map (·.2), L.map (·.1))) (n := n) (fun i => (i : Int)) (posP p L) ((posP p L : Nat) : Int) (fun i hi => by
     unfold ref03_sorted_s2
     dsimp only
     have hgi : getI (L.map (·.1)) (i : Int) = some (L[i]'(by omega)).1 := by simp [getI, (by omega : i < L.length)]
     have := posP_lt p L i (by omega) hi
     have hless : Op.bytesLess (L[i]'(by omega)).1 p.1 = true := by
      rw [less_cb]
      unfold leK at this
      simpa using this
     rw [decide_eq_true (by rw [List.length_map]; omega), cT, hgi, bnd, hgk, bnd, hless, cT, need_i (by omega) (by omega)]
     rfl) (by
     unfold ref03_sorted_s2
     dsimp only
     by_cases he : posP p L = L.length
     ·rw [decide_eq_false (by rw [List.length_map]; omega), cF]
     ·have hlt : posP p L < L.length := by omega
      have hgi : getI (L.map (·.1)) ((posP p L : Nat) : Int) = some (L[posP p L]).1 := by simp [getI, hlt]
      have := posP_at p L hlt
      have hless : Op.bytesLess (L[posP p L]).1 p.1 = false := by
       rw [less_cb]
       unfold leK at this
       simpa using this
      rw [decide_eq_true (by rw [List.length_map]; omega), cT, hgi, bnd, hgk, bnd, hless, cF]) (by omega)
    have e0 : ((0 : Nat) : Int) = 0 := rfl
    rw [e0] at hin
    have hL1 : (L.map (·.1)).length = q := by rw [List.length_map, hfl]
    have hL2 : (L.map (·.2)).length = q := by rw [List.length_map, hfl]
    rw [hin, bnd, hL1, hL2, Int.toNat_natCast]
    rw [need_t ⟨by omega, by omega⟩, need_t (by simp; omega), need_t ⟨by omega, by omega⟩, need_t (by simp; omega), hgk, bnd, need_t ⟨by omega, by omega⟩, need_t (by simp; omega), need_t (by simp; omega), bnd, need_t ⟨by omega, by omega⟩, need_t (by simp; omega), need_t (by simp; omega), bnd, need_i (by omega) (by omega), ev, hp2, insP_pos]
    congr 3
    ·simp [List.map_take, List.map_drop, List.take_of_length_le, hfl]
    ) (by
    unfold ref03_sorted_s1
    dsimp only
    rw [decide_eq_false (by omega), cF, List.take_of_length_le (by omega)]) (by omega)
   have e0 : ((0 : Nat) : Int) = 0 := rfl
   have e1 : foldP [] = [] := rfl
   simp only [List.take_zero, e1, List.map_nil, e0] at this
   rw [this, bnd, sortV_5 hkind]
   have hkeys : ps.map (·.1) = v.fKeys := by rw [hps]; exact List.map_fst_zip (by simp [hkl])
   have e : foldP ps = pairsV v := by
    rw [foldP_eq (by rw [hkeys]; exact hnd), hps]; rfl
   rw [e]
  ·have hkeys : v.fKeys = [] := by
    have := hp.2.2.2.2.2.2.2 hkind
    simpa using this
   by_cases h4k : v.fKind = 4
   ·have := loop_all (step := ref03_sorted_s1 n (ref03_sorted_k n k) v) (n := n) (fun q => ((q : Int), (v.fList.take q).map sortV, ([] : List (List UInt8)))) v.fList.length (v.fList.map sortV, []) (fun q hq => by
     have hx : v.fList[q]? = some v.fList[q] := List.getElem?_eq_getElem hq
     have hg : getI v.fList (q : Int) = some v.fList[q] := by simp [getI]
     unfold ref03_sorted_s1
     dsimp only
     rw [decide_eq_true (by omega), cT, hg, bnd, ih _ (List.getElem_mem hq), bnd, decide_eq_true h4k, cT, need_t (by simp; omega), need_i (by omega) (by omega), ev, map_take_succ sortV hx]
     rfl) (by
     unfold ref03_sorted_s1
     dsimp only
     rw [decide_eq_false (by omega), cF, List.take_length]) (by omega)
    have e0 : ((0 : Nat) : Int) = 0 := rfl
    simp only [List.take_zero, List.map_nil, e0] at this
    rw [this, bnd, sortV_n hkind]
   ·have hl0 : v.fList = [] := by
     by_cases h0 : v.fList.length = 0
     ·simpa using h0
     ·have := hp.2.2.2.2.2.1 h0
      omega
    obtain ⟨m, rfl⟩ : ∃ m, n = m + 1 := ⟨n - 1, by omega⟩
    have : loopF (ref03_sorted_s1 (m + 1) (ref03_sorted_k (m + 1) k) v) (m + 1) ((0 : Int), ([] : List TD0), ([] : List (List UInt8))) = some ([], []) := by
     unfold loopF ref03_sorted_s1
     dsimp only
     rw [hl0, decide_eq_false (by simp), cF, bnd]
    rw [this, bnd, sortV_n hkind, hl0]
    rfl
theorem compare_ref {n : Nat} (hn : 6000 < n) : ∀ (k d : Nat) (v w : TD0), d ≤ k → Small d v → OkV v → OkV w → ref03_compare_k n k v w = some (cmpV v w)
 | _, 0, v, _, _, h, _, _ => h.elim
 | 0, d + 1, v, _, h, _, _, _ => absurd h (by omega)
 | k + 1, d + 1, v, w, hk, hs, hok, how => by
  have ih : ∀ x ∈ v.fList, ∀ y ∈ w.fList, ref03_compare_k n k x y = some (cmpV x y) := fun x hx y hy => compare_ref hn k d x y (by omega) (hs.2.2.2.2 x hx) (hok.part hx) (how.part hy)
  have hv := hs.1
  show ref03_compare_b n (ref03_compare_k n k) v w = _
  unfold ref03_compare_b
  rw [cmpV_eq]
  by_cases hA : v.fKind = w.fKind
  ·rw [decide_eq_true hA, Bool.not_true, cF, ← hA, cmpI_self, thenC0]
   by_cases hB : v.fBool = w.fBool
   ·rw [hB, beq_self_eq_true, Bool.not_true, cF, cmpI_self, thenC0]
    by_cases hC : v.fNum = w.fNum
    ·rw [decide_eq_true hC, Bool.not_true, cF, ← hC, cmpI_self, thenC0]
     by_cases hD : v.fText = w.fText
     ·rw [decide_eq_true hD, Bool.not_true, cF, ← hD, cb_self, thenC0]
      have hkl : v.fKind = 5 → v.fKeys.length = v.fList.length ∧ w.fKeys.length = w.fList.length := fun h => ⟨plain_len hok.plain h, plain_len how.plain (by rw [← hA]; exact h)⟩
      obtain ⟨b, hb, hp⟩ := loop_inv (step := ref03_compare_s1 n (ref03_compare_k n k) v w) (n := n) (s0 := (0 : Int)) (fun q s => s = (q : Int) ∧ cmpVs (decide (v.fKind = 5)) v.fList v.fKeys w.fList w.fKeys = cmpVs (decide (v.fKind = 5)) (v.fList.drop q) (v.fKeys.drop q) (w.fList.drop q) (w.fKeys.drop q))
       (fun b => match b with | .inl c => cmpVs (decide (v.fKind = 5)) v.fList v.fKeys w.fList w.fKeys = c | .inr _ => cmpVs (decide (v.fKind = 5)) v.fList v.fKeys w.fList w.fKeys = cmpI (v.fList.length : Int) (w.fList.length : Int)) (min v.fList.length w.fList.length) ⟨rfl, by simp only [List.drop_zero]⟩ (fun q s hq hI => by
        obtain ⟨rfl, hI⟩ := hI
        have h1 : q < v.fList.length := by omega
        have h2 : q < w.fList.length := by omega
        rw [cmpVs_drop _ h1 h2] at hI
        have hg1 : getI v.fList (q : Int) = some v.fList[q] := by simp [getI]
        have hg2 : getI w.fList (q : Int) = some w.fList[q] := by simp [getI]
        unfold ref03_compare_s1
        rw [decide_eq_true (by omega), cT, decide_eq_true (by omega), bnd, cT]
        by_cases hkind : v.fKind = 5
        ·obtain ⟨k1, k2⟩ := hkl hkind
         rw [decide_eq_true hkind, cT] at hI
         rw [decide_eq_true hkind, cT, getI_at [] (by omega), bnd, getI_at [] (by omega), bnd, bnd]
         by_cases hc : v.fKeys.getD q [] = w.fKeys.getD q []
         ·rw [decide_eq_true hc, Bool.not_true, cF, hg1, bnd, hg2, bnd, ih _ (List.getElem_mem h1) _ (List.getElem_mem h2), bnd]
          rw [hc, cb_self, thenC0] at hI
          by_cases he : cmpV v.fList[q] w.fList[q] = 0
          ·rw [decide_eq_true he, Bool.not_true, cF, need_i (by omega) (by omega)]
           rw [he, thenC0] at hI
           exact .inl ⟨_, rfl, by omega, hI⟩
          ·rw [decide_eq_false he, Bool.not_false, cT]
           rw [thenCn _ he] at hI
           exact .inr ⟨_, rfl, hI⟩
         ·rw [decide_eq_false hc, Bool.not_false, cT, bnd, bnd, less_cb]
          have hne : Lib.compareBytes (v.fKeys.getD q []) (w.fKeys.getD q []) ≠ 0 := fun e => hc (cb_eq _ _ e)
          have hrange := cb_range (v.fKeys.getD q []) (w.fKeys.getD q [])
          rw [thenCn _ hne] at hI
          by_cases hl : Lib.compareBytes (v.fKeys.getD q []) (w.fKeys.getD q []) < 0
          ·rw [decide_eq_true hl, cT]
           refine .inr ⟨_, rfl, ?_⟩
           dsimp only
           omega
          ·rw [decide_eq_false hl, cF]
           refine .inr ⟨_, rfl, ?_⟩
           dsimp only
           omega
        ·rw [decide_eq_false hkind, cF] at hI
         rw [decide_eq_false hkind, cF, bnd, cF, hg1, bnd, hg2, bnd, ih _ (List.getElem_mem h1) _ (List.getElem_mem h2), bnd]
         rw [thenC0] at hI
         by_cases he : cmpV v.fList[q] w.fList[q] = 0
         ·rw [decide_eq_true he, Bool.not_true, cF, need_i (by omega) (by omega)]
          rw [he, thenC0] at hI
          exact .inl ⟨_, rfl, by omega, hI⟩
         ·rw [decide_eq_false he, Bool.not_false, cT]
          rw [thenCn _ he] at hI
          exact .inr ⟨_, rfl, hI⟩) (fun s hI => by
        obtain ⟨rfl, hI⟩ := hI
        refine ⟨.inr (), ?_, ?_⟩
        ·unfold ref03_compare_s1
         by_cases hvl : v.fList.length ≤ w.fList.length
         ·rw [decide_eq_false (by omega), cF, bnd, cF]
         ·rw [decide_eq_true (by omega), cT, decide_eq_false (by omega), bnd, cF]
        ·dsimp only
         rw [hI, cmpVs_end _ rfl]) (by omega)
      rw [hb, bnd]
      cases b with
      | inl c => dsimp only at hp ⊢; rw [hp]
      | inr u =>
       dsimp only at hp ⊢
       rw [hp]
       have hcc := cmpI_cases (v.fList.length : Int) (w.fList.length : Int)
       by_cases h1 : (v.fList.length : Int) = (w.fList.length : Int)
       ·rw [decide_eq_true h1, Bool.not_true, cF]
        congr 1
        omega
       ·rw [decide_eq_false h1, Bool.not_false, cT]
        by_cases h2 : (v.fList.length : Int) < (w.fList.length : Int)
        ·rw [decide_eq_true h2, cT]
         congr 1
         omega
        ·rw [decide_eq_false h2, cF]
         congr 1
         omega
     ·rw [decide_eq_false hD, Bool.not_false, cT, less_cb]
      have hne : Lib.compareBytes v.fText w.fText ≠ 0 := fun e => hD (cb_eq _ _ e)
      have hrange := cb_range v.fText w.fText
      rw [thenCn _ hne]
      by_cases hl : Lib.compareBytes v.fText w.fText < 0
      ·rw [decide_eq_true hl, cT]
       congr 1
       omega
      ·rw [decide_eq_false hl, cF]
       congr 1
       omega
    ·have hcc := cmpI_cases v.fNum w.fNum
     rw [decide_eq_false hC, Bool.not_false, cT, thenCn _ (by omega)]
     by_cases hl : v.fNum < w.fNum
     ·rw [decide_eq_true hl, cT]
      congr 1
      omega
     ·rw [decide_eq_false hl, cF]
      congr 1
      omega
   ·have hbe : (v.fBool == w.fBool) = false := by simpa using hB
    rw [hbe, Bool.not_false, cT]
    cases hv1 : v.fBool <;> cases hw1 : w.fBool
    ·rw [hv1, hw1] at hB; exact absurd rfl hB
    ·rfl
    ·rfl
    ·rw [hv1, hw1] at hB; exact absurd rfl hB
  ·have hcc := cmpI_cases v.fKind w.fKind
   rw [decide_eq_false hA, Bool.not_false, cT, thenCn _ (by omega)]
   by_cases hl : v.fKind < w.fKind
   ·rw [decide_eq_true hl, cT]
    congr 1
    omega
   ·rw [decide_eq_false hl, cF]
    congr 1
    omega
theorem sortedT_ref {n : Nat} (hn : 6000 < n) {v : TD0} (h : Fine v) (hok : OkV v) : ref03_sorted n v = some (sortV v) := sorted_ref hn n 60 v (by omega) h.small hok
theorem compareT_ref {n : Nat} (hn : 6000 < n) {v w : TD0} (h : Fine v) (hok : OkV v) (how : OkV w) : ref03_compare n v w = some (cmpV v w) := compare_ref hn n 60 v w (by omega) h.small hok how
theorem Equal_ref {n : Nat} (hn : 6000 < n) {v w : TD0} (h : Fine v) (h' : Fine w) : ref03_Equal n v w = some (eqV v w) := by
 unfold ref03_Equal eqV
 rw [check_ref hn h, bnd]
 by_cases a : checkV v = 0
 ·rw [decide_eq_true a, cT, check_ref hn h', bnd]
  by_cases b : checkV w = 0
  ·have oa := (checkV_ok a).1
   have ob := (checkV_ok b).1
   rw [decide_eq_true b, cT, sortedT_ref hn h oa, bnd, sortedT_ref hn h' ob, bnd, compareT_ref hn (h.sort oa) oa.sort ob.sort, bnd]; rfl
  ·rw [decide_eq_false b, cF]; rfl
 ·rw [decide_eq_false a, cF]; rfl
end Go.Proofs.YtalifkcchfkgmaaGreatDoor
end

section
namespace Go.Proofs.YtalifkcchfkgmaaGreatDoor
open Go Go.Vc Go.RowKit
open Go Go.Vc Go.RowKit
end Go.Proofs.YtalifkcchfkgmaaGreatDoor
end

section
namespace Go.Proofs.YtalifkcchfkgmaaGreatDoor
open Go Go.Vc Go.RowKit
def ref09_Same_s1 (n : Nat) (d0 : List TE0) (d1 : List TE0) (s_1 : Int) : Option (Lp Int (Sum Unit Unit)) :=
    bif (decide (s_1 < ((d0.length : Nat) : Int))) then
      ((getI d0 s_1).bind fun x_1 =>
      (getI d1 s_1).bind fun x_2 =>
      bif (!(decide (x_1.fName = x_2.fName))) then
        (some (.br (.inl ())))
      else
        (getI d0 s_1).bind fun x_3 =>
        (getI d1 s_1).bind fun x_4 =>
        bif (!(x_3.fUnknown == x_4.fUnknown)) then
          (some (.br (.inl ())))
        else
          (getI d0 s_1).bind fun x_5 =>
          (getI d1 s_1).bind fun x_6 =>
          (ref03_Same n (⟨x_5.fV.fKind, (x_5.fV.fBool), x_5.fV.fNum, x_5.fV.fText, x_5.fV.fList, x_5.fV.fKeys⟩ : TD0) (⟨x_6.fV.fKind, (x_6.fV.fBool), x_6.fV.fNum, x_6.fV.fText, x_6.fV.fList, x_6.fV.fKeys⟩ : TD0)).bind fun x_7 =>
          bif !x_7 then
            ((getI d0 s_1).bind fun x_8 =>
            (getI d1 s_1).bind fun x_9 =>
            (ref03_Equal n (⟨x_8.fV.fKind, (x_8.fV.fBool), x_8.fV.fNum, x_8.fV.fText, x_8.fV.fList, x_8.fV.fKeys⟩ : TD0) (⟨x_9.fV.fKind, (x_9.fV.fBool), x_9.fV.fNum, x_9.fV.fText, x_9.fV.fList, x_9.fV.fKeys⟩ : TD0)).bind fun x_10 =>
            bif !x_10 then
              (some (.br (.inl ())))
            else
              need (inR .i64 (s_1 + 1)) <|
              some (.nx (s_1 + 1)))
          else
            need (inR .i64 (s_1 + 1)) <|
            some (.nx (s_1 + 1)))
    else
      some (.br (.inr ()))
def ref09_Same (n : Nat) (d0 : List TE0) (d1 : List TE0) : Option Bool :=
  bif (!(decide (((d0.length : Nat) : Int) = ((d1.length : Nat) : Int)))) then
    (some ((false)))
  else
    (loopF (ref09_Same_s1 n d0 d1) n (0 : Int)).bind fun b_1 =>
    (match b_1 with 
    | .inl y_1 => some ((false)) 
    | .inr y_2 => some ((true)))
theorem ref09_Same_ok (n : Nat) (M : Mem) (hG : GL M) (A0 : Option Addr) (cap0 : Nat) (d0 : List TE0) (h0 : Sli M 8 emb_TE0 A0 cap0 d0) (A1 : Option Addr) (cap1 : Nat) (d1 : List TE0) (h1 : Sli M 8 emb_TE0 A1 cap1 d1) (r : Bool) (hF : ref09_Same n d0 d1 = some r) : Ok Tryz.prog M 22 [.slice A0 d0.length cap0, .slice A1 d1.length cap1] (fun _ v => v = .bool r) := by
 unfold ref09_Same at hF
 intro M1 hM0 w0 H w p0
 replace hG := GL.mono hM0 hG
 replace h0 := h0.mono hM0
 replace h1 := h1.mono hM0
 refine R_enter 69 Tryz.func22 rfl rfl (by simp) fun a0 f0 => RR (Y f0 1 fun _ f => eT (R_seq (RR (Y f 5 fun _ f => eT (RcF f hF (fun h_1 hF_1 => ?_) fun h_1 hF_2 => ?_)))))
 ·have k_1 : ¬ (((d0.length : Nat) : Int) = ((d1.length : Nat) : Int)) := (not_iff dI).1 h_1
  refine RR (Y f 1 fun _ f => eT (wp_ret (T_r (E_ret1 f rfl (by kernel_rfl : Vc.look _ 4 = some (.bool false)) ?_))))
  obtain rfl := sI hF_1
  exact ⟨_, rfl, M1, (mR _), p0, rfl⟩
 ·have k_2 : ¬ (¬ (((d0.length : Nat) : Int) = ((d1.length : Nat) : Int))) := iff_f (not_iff dI) h_1
  refine wp_skip (T_n (R_seq (RR (Y f 1 fun _ f => eT (wp_block ?_)))))
  obtain ⟨b_1, hL_1, hF_3⟩ := bS hF_2
  refine wp_mono (Q := fun e a w => (e = .ret ∧ (∃ y_1 : Unit, b_1 = .inl y_1 ∧ ∃ M_2 : Mem, M1.le M_2 ∧ Frm 69 [(4, .bool false)] a ∧ Hp w0 M_2 (H) w)) ∨ (e = .exit 0 ∧ (∃ y_2 : Unit, b_1 = .inr y_2 ∧ ∃ M_3 : Mem, M1.le M_3 ∧ Frm 69 [] a ∧ Hp w0 M_3 (H) w))) (R_loop (n := 69) (w0 := w0) (M := M1) (fun (x : Nat × Int) => match x with | (m_1, s_1) => [(0, .slice A0 d0.length cap0), (1, .slice A1 d1.length cap1), (5, .int .i64 s_1)]) (fun (x : Nat × Int) => match x with | (m_1, s_1) => (H)) (fun (x : Nat × Int) (MM : Mem) => match x with | (m_1, s_1) => loopF (ref09_Same_s1 n d0 d1) m_1 s_1 = some b_1) (fun (x : Nat × Int) => match x with | (m_1, s_1) => m_1) (n, (0 : Int)) (f.kp) p0 hL_1 ?_) ?_
  ·rintro ⟨m_1, s_1⟩ M_1 _ w_1 hM_1 I_1 f p_1
   have I_1L := I_1
   obtain ⟨m_2, r_1, rfl, hs_1, hn_1⟩ := loop_step I_1L
   unfold ref09_Same_s1 at hs_1
   refine R_seq (RR (Y f 4 fun _ f => eT (RcF f hs_1 (fun h_2 hF_4 => ?_) fun h_2 hF_25 => ?_)))
   ·have k_3 := dI.1 h_2
    refine wp_skip (T_n (R_seq (wp_block (R_seq (R_draw p_1 (by kernel_rfl) (by kernel_rfl) (Y5 default f 2 fun _ f => ?_))))))
    obtain ⟨x_1, hx_1, hF_5⟩ := bS hF_4
    obtain ⟨ad_1, c_1, e_1, -, hr_1, hc_1⟩ := Sli.at_ (h0.mono hM_1) hx_1
    obtain ⟨A_1, cap_1, A_2, cap_2, rfl, h_3, h_4⟩ := TE0.opn hr_1
    refine Y2 (v := .pointer (some (ad_1.add (s_1.toNat * 8)))) f (fun _ pq => Y31 e_1 rfl (len := d0.length) (cap := cap0) (k := .i64) (i := s_1) (e := 78) (sz := 8) (getI_nn hx_1) (getI_lt hx_1)) fun _ f => Y5 default f 1 fun _ f => Y4 f hc_1 0 rfl fun _ f => Y5 default f 2 fun _ f => ?_
    obtain ⟨x_2, hx_2, hF_6⟩ := bS hF_5
    obtain ⟨ad_2, c_2, e_2, -, hr_2, hc_2⟩ := Sli.at_ (h1.mono hM_1) hx_2
    obtain ⟨A_3, cap_3, A_4, cap_4, rfl, h_5, h_6⟩ := TE0.opn hr_2
    refine Y2 (v := .pointer (some (ad_2.add (s_1.toNat * 8)))) f (fun _ pq => Y31 e_2 rfl (len := d1.length) (cap := cap1) (k := .i64) (i := s_1) (e := 78) (sz := 8) (getI_nn hx_2) (getI_lt hx_2)) fun _ f => Y5 default f 1 fun _ f => Y4 f hc_2 0 rfl fun _ f => Y2 (v := .bool (!(decide (x_1.fName = x_2.fName)))) f (fun _ pq => Y39 rfl (l := x_1.fName) (m := x_2.fName)) fun _ f => Y5 default f 1 fun _ f => ?_
    rcases cE hF_6 with ⟨h_7, hF_7⟩ | ⟨h_7, hF_8⟩
    ·have k_4 : ¬ (x_1.fName = x_2.fName) := (not_iff dI).1 h_7
     have f := f.st 28 (cB h_7)
     refine Y5 default f 40 fun _ f => Q_end rfl ?_
     intro w_2 p_2
     refine T_n (Y8 f (RR (Y f 1 fun _ f => eT (wp_ret (B_r (T_r (T_r ?_)))))))
     obtain rfl := sI hF_7
     exact .inl ⟨rfl, (), (sI hn_1).symm, M_1, hM_1, f.kp, p_2⟩
    ·have k_5 : ¬ (¬ (x_1.fName = x_2.fName)) := iff_f (not_iff dI) h_7
     have f := f.st 28 (cB h_7)
     refine Y5 default f 2 fun _ f => ?_
     obtain ⟨x_3, hx_3, hF_9⟩ := bS hF_8
     obtain ⟨ad_3, c_3, e_3, -, hr_3, hc_3⟩ := Sli.at_ (h0.mono hM_1) hx_3
     obtain ⟨A_5, cap_5, A_6, cap_6, rfl, h_8, h_9⟩ := TE0.opn hr_3
     refine Y2 (v := .pointer (some (ad_3.add (s_1.toNat * 8)))) f (fun _ pq => Y31 e_3 rfl (len := d0.length) (cap := cap0) (k := .i64) (i := s_1) (e := 78) (sz := 8) (getI_nn hx_3) (getI_lt hx_3)) fun _ f => Y5 default f 1 fun _ f => Y4 f hc_3 1 rfl fun _ f => Y5 default f 2 fun _ f => ?_
     obtain ⟨x_4, hx_4, hF_10⟩ := bS hF_9
     obtain ⟨ad_4, c_4, e_4, -, hr_4, hc_4⟩ := Sli.at_ (h1.mono hM_1) hx_4
     obtain ⟨A_7, cap_7, A_8, cap_8, rfl, h_10, h_11⟩ := TE0.opn hr_4
     refine Y2 (v := .pointer (some (ad_4.add (s_1.toNat * 8)))) f (fun _ pq => Y31 e_4 rfl (len := d1.length) (cap := cap1) (k := .i64) (i := s_1) (e := 78) (sz := 8) (getI_nn hx_4) (getI_lt hx_4)) fun _ f => Y5 default f 1 fun _ f => Y4 f hc_4 1 rfl fun _ f => Y5 default f 3 fun _ f => ?_
     rcases cE hF_10 with ⟨h_12, hF_11⟩ | ⟨h_12, hF_12⟩
     ·have k_6 : (x_3.fUnknown == x_4.fUnknown) = false := by simpa using h_12
      have f := f.st 41 (cB h_12)
      refine Y5 default f 27 fun _ f => Q_end rfl ?_
      intro w_3 p_3
      refine T_n (Y8 f (RR (Y f 1 fun _ f => eT (wp_ret (B_r (T_r (T_r ?_)))))))
      obtain rfl := sI hF_11
      exact .inl ⟨rfl, (), (sI hn_1).symm, M_1, hM_1, f.kp, p_3⟩
     ·have k_7 : (x_3.fUnknown == x_4.fUnknown) = true := by simpa using h_12
      have f := f.st 41 (cB h_12)
      refine Y5 default f 2 fun _ f => ?_
      obtain ⟨x_5, hx_5, hF_13⟩ := bS hF_12
      obtain ⟨ad_5, c_5, e_5, -, hr_5, hc_5⟩ := Sli.at_ (h0.mono hM_1) hx_5
      obtain ⟨A_9, cap_9, A_10, cap_10, rfl, h_13, h_14⟩ := TE0.opn hr_5
      refine Y2 (v := .pointer (some (ad_5.add (s_1.toNat * 8)))) f (fun _ pq => Y31 e_5 rfl (len := d0.length) (cap := cap0) (k := .i64) (i := s_1) (e := 78) (sz := 8) (getI_nn hx_5) (getI_lt hx_5)) fun _ f => Y5 default f 1 fun _ f => Y2 (v := .agg #[.int .i8 x_5.fV.fKind, .bool x_5.fV.fBool, .int .i64 x_5.fV.fNum, S x_5.fV.fText, .slice A_9 x_5.fV.fList.length cap_9, .slice A_10 x_5.fV.fKeys.length cap_10]) f (fun _ pq => Y33 (cs := [.int .i8 x_5.fV.fKind, .bool x_5.fV.fBool, .int .i64 x_5.fV.fNum, S x_5.fV.fText, .slice A_9 x_5.fV.fList.length cap_9, .slice A_10 x_5.fV.fKeys.length cap_10]) rfl (ad := (ad_5.add (s_1.toNat * 8)).add 2) (fz_part (base := ad_5.add (s_1.toNat * 8)) (fun j v h => pq.cell (hc_5 j v h)) 2 rfl)) fun _ f => Y5 default f 2 fun _ f => ?_
      obtain ⟨x_6, hx_6, hF_14⟩ := bS hF_13
      obtain ⟨ad_6, c_6, e_6, -, hr_6, hc_6⟩ := Sli.at_ (h1.mono hM_1) hx_6
      obtain ⟨A_11, cap_11, A_12, cap_12, rfl, h_15, h_16⟩ := TE0.opn hr_6
      refine Y2 (v := .pointer (some (ad_6.add (s_1.toNat * 8)))) f (fun _ pq => Y31 e_6 rfl (len := d1.length) (cap := cap1) (k := .i64) (i := s_1) (e := 78) (sz := 8) (getI_nn hx_6) (getI_lt hx_6)) fun _ f => Y5 default f 1 fun _ f => Y2 (v := .agg #[.int .i8 x_6.fV.fKind, .bool x_6.fV.fBool, .int .i64 x_6.fV.fNum, S x_6.fV.fText, .slice A_11 x_6.fV.fList.length cap_11, .slice A_12 x_6.fV.fKeys.length cap_12]) f (fun _ pq => Y33 (cs := [.int .i8 x_6.fV.fKind, .bool x_6.fV.fBool, .int .i64 x_6.fV.fNum, S x_6.fV.fText, .slice A_11 x_6.fV.fList.length cap_11, .slice A_12 x_6.fV.fKeys.length cap_12]) rfl (ad := (ad_6.add (s_1.toNat * 8)).add 2) (fz_part (base := ad_6.add (s_1.toNat * 8)) (fun j v h => pq.cell (hc_6 j v h)) 2 rfl)) fun _ f => ?_
      obtain ⟨x_7, hx_7, hF_15⟩ := bS hF_14
      refine Y3 f (ref03_Same_ok n _ _ (⟨x_5.fV.fKind, (x_5.fV.fBool), x_5.fV.fNum, x_5.fV.fText, x_5.fV.fList, x_5.fV.fKeys⟩ : TD0) (TD0.shut h_13 h_14) _ (⟨x_6.fV.fKind, (x_6.fV.fBool), x_6.fV.fNum, x_6.fV.fText, x_6.fV.fList, x_6.fV.fKeys⟩ : TD0) (TD0.shut h_15 h_16) x_7 hx_7) fun _ f => Y5 default f 2 fun _ f => ?_
      rcases cE hF_15 with ⟨h_17, hF_16⟩ | ⟨h_17, hF_23⟩
      ·have k_8 : (x_7) = false := by simpa using h_17
       have f := f.st 54 (cB h_17)
       refine Y5 default f 2 fun _ f => ?_
       obtain ⟨x_8, hx_8, hF_17⟩ := bS hF_16
       obtain ⟨ad_7, c_7, e_7, -, hr_7, hc_7⟩ := Sli.at_ (h0.mono hM_1) hx_8
       obtain ⟨A_13, cap_13, A_14, cap_14, rfl, h_18, h_19⟩ := TE0.opn hr_7
       refine Y2 (v := .pointer (some (ad_7.add (s_1.toNat * 8)))) f (fun _ pq => Y31 e_7 rfl (len := d0.length) (cap := cap0) (k := .i64) (i := s_1) (e := 78) (sz := 8) (getI_nn hx_8) (getI_lt hx_8)) fun _ f => Y5 default f 1 fun _ f => Y2 (v := .agg #[.int .i8 x_8.fV.fKind, .bool x_8.fV.fBool, .int .i64 x_8.fV.fNum, S x_8.fV.fText, .slice A_13 x_8.fV.fList.length cap_13, .slice A_14 x_8.fV.fKeys.length cap_14]) f (fun _ pq => Y33 (cs := [.int .i8 x_8.fV.fKind, .bool x_8.fV.fBool, .int .i64 x_8.fV.fNum, S x_8.fV.fText, .slice A_13 x_8.fV.fList.length cap_13, .slice A_14 x_8.fV.fKeys.length cap_14]) rfl (ad := (ad_7.add (s_1.toNat * 8)).add 2) (fz_part (base := ad_7.add (s_1.toNat * 8)) (fun j v h => pq.cell (hc_7 j v h)) 2 rfl)) fun _ f => Y5 default f 2 fun _ f => ?_
       obtain ⟨x_9, hx_9, hF_18⟩ := bS hF_17
       obtain ⟨ad_8, c_8, e_8, -, hr_8, hc_8⟩ := Sli.at_ (h1.mono hM_1) hx_9
       obtain ⟨A_15, cap_15, A_16, cap_16, rfl, h_20, h_21⟩ := TE0.opn hr_8
       refine Y2 (v := .pointer (some (ad_8.add (s_1.toNat * 8)))) f (fun _ pq => Y31 e_8 rfl (len := d1.length) (cap := cap1) (k := .i64) (i := s_1) (e := 78) (sz := 8) (getI_nn hx_9) (getI_lt hx_9)) fun _ f => Y5 default f 1 fun _ f => Y2 (v := .agg #[.int .i8 x_9.fV.fKind, .bool x_9.fV.fBool, .int .i64 x_9.fV.fNum, S x_9.fV.fText, .slice A_15 x_9.fV.fList.length cap_15, .slice A_16 x_9.fV.fKeys.length cap_16]) f (fun _ pq => Y33 (cs := [.int .i8 x_9.fV.fKind, .bool x_9.fV.fBool, .int .i64 x_9.fV.fNum, S x_9.fV.fText, .slice A_15 x_9.fV.fList.length cap_15, .slice A_16 x_9.fV.fKeys.length cap_16]) rfl (ad := (ad_8.add (s_1.toNat * 8)).add 2) (fz_part (base := ad_8.add (s_1.toNat * 8)) (fun j v h => pq.cell (hc_8 j v h)) 2 rfl)) fun _ f => ?_
       obtain ⟨x_10, hx_10, hF_19⟩ := bS hF_18
       refine Y3 f (ref03_Equal_ok n _ _ (⟨x_8.fV.fKind, (x_8.fV.fBool), x_8.fV.fNum, x_8.fV.fText, x_8.fV.fList, x_8.fV.fKeys⟩ : TD0) (TD0.shut h_18 h_19) _ (⟨x_9.fV.fKind, (x_9.fV.fBool), x_9.fV.fNum, x_9.fV.fText, x_9.fV.fList, x_9.fV.fKeys⟩ : TD0) (TD0.shut h_20 h_21) x_10 hx_10) fun _ f => Y5 default f 3 fun _ f => Q_end rfl ?_
       intro w_6 p_6
       refine T_n (RcF f hF_19 (fun h_22 hF_20 => ?_) fun h_22 hF_21 => ?_)
       ·have k_9 : (x_10) = false := by simpa using h_22
        refine RR (Y f 1 fun _ f => eT (wp_ret (B_r (T_r (T_r ?_)))))
        obtain rfl := sI hF_20
        exact .inl ⟨rfl, (), (sI hn_1).symm, M_1, hM_1, f.kp, p_6⟩
       ·have k_10 : (x_10) = true := by simpa using h_22
        refine wp_skip (B_n (T_n (R_reg (Y f 1 fun _ f => ?_))))
        obtain ⟨g_1, hF_22⟩ := nS hF_21
        refine Y f 1 fun _ f => ?_
        have f := f.st 16 (congrArg (Value.int .i64) (inR_wrap g_1))
        refine Y f 1 fun _ f => eT ?_
        obtain rfl := sI hF_22
        exact ⟨⟨m_2, s_1 + 1⟩, Nat.lt_succ_self _, M_1, hM_1, hn_1, f.kp, p_6⟩
      ·have k_11 : (x_7) = true := by simpa using h_17
       have f := f.st 54 (cB h_17)
       refine Y5 default f 14 fun _ f => Q_end rfl ?_
       intro w_7 p_7
       refine T_n (Y7 f (wp_skip (B_n (T_n (R_reg (Y f 1 fun _ f => ?_))))))
       obtain ⟨g_2, hF_24⟩ := nS hF_23
       refine Y f 1 fun _ f => ?_
       have f := f.st 16 (congrArg (Value.int .i64) (inR_wrap g_2))
       refine Y f 1 fun _ f => eT ?_
       obtain rfl := sI hF_24
       exact ⟨⟨m_2, s_1 + 1⟩, Nat.lt_succ_self _, M_1, hM_1, hn_1, f.kp, p_7⟩
   ·have k_12 := iff_f dI h_2
    refine wp_exit (T_x (T_x ?_))
    obtain rfl := sI hF_25
    exact .inr ⟨rfl, (), (sI hn_1).symm, M_1, hM_1, f.kp, p_1⟩
  ·rintro _ _ w_10 (⟨rfl, y_1, rfl, M_2, hM_2, f, p_8⟩ | ⟨rfl, y_2, rfl, M_3, hM_3, f, p_9⟩)
   ·refine B_r (T_r (E_ret1 f rfl (by kernel_rfl : Vc.look _ 4 = some (.bool false)) ?_))
    obtain rfl := sI hF_3
    exact ⟨_, rfl, M_2, hM_2, p_8, rfl⟩
   ·refine B_x (T_n (RR (Y f 1 fun _ f => eT (wp_ret (E_ret1 f rfl (by kernel_rfl : Vc.look _ 4 = some (.bool true)) ?_)))))
    obtain rfl := sI hF_3
    exact ⟨_, rfl, M_3, hM_3, p_9, rfl⟩
theorem range_getD {α : Type} (d : α) (l : List α) : (List.range l.length).map (fun k => l.getD k d) = l := by
 apply List.ext_getElem (by simp)
 intro i h1 h2
 simp [List.getD, h2]
theorem range_find {α β : Type} (d : α) (h : α → Option β) (l : List α) : (List.range l.length).findSome? (fun k => h (l.getD k d)) = l.findSome? h := by
 conv => rhs; rw [← range_getD d l]
 rw [List.findSome?_map]
 rfl
theorem findSome_ite {α β : Type} (q : α → Bool) (g : α → β) : ∀ l : List α, l.findSome? (fun x => if q x = true then some (g x) else none) = (l.find? q).map g
 | [] => rfl
 | x :: l => by
  rw [List.findSome?_cons, List.find?_cons]
  cases h : q x with
  | true => simp
  | false => simpa using findSome_ite q g l
theorem range_first {α β : Type} (d : α) (q : α → Bool) (g : α → β) (l : List α) : (List.range l.length).findSome? (fun k => if q (l.getD k d) = true then some (g (l.getD k d)) else none) = (l.find? q).map g := by
 rw [← findSome_ite, ← range_find d]
theorem same_val {n : Nat} (hn : 6000 < n) {v : TD0} (h : Fine v) (w : TD0) : ref03_Same n v w = some (decide (v = w)) := by
 obtain ⟨b, h1, h2⟩ := Same_run hn (d := 60) (by omega) v w h.small
 rw [h1]
 congr 1
 rw [Bool.eq_iff_iff, h2, decide_eq_true_iff]
theorem evG (x : TD0) : (⟨x.fKind, (x.fBool), x.fNum, x.fText, x.fList, x.fKeys⟩ : TD0) = x := by cases x; rfl
theorem Same_ref {n : Nat} (hn : 6000 < n) {a b : List TE0} (la : a.length ≤ 60) (ha : ∀ g ∈ a, Fine g.fV) (hb : ∀ g ∈ b, Fine g.fV) :
  ref09_Same n a b = some (decide (a.length = b.length) && !((List.range a.length).any fun k => !sameG (a.getD k z_TE0) (b.getD k z_TE0))) := by
 unfold ref09_Same
 by_cases h : a.length = b.length
 ·have h' : ((a.length : Nat) : Int) = ((b.length : Nat) : Int) := by omega
  rw [decide_eq_true h', Bool.not_true, cF, decide_eq_true h, Bool.true_and]
  have := loop_any (n := n) (step := ref09_Same_s1 n a b) (fun k => !sameG (a.getD k z_TE0) (b.getD k z_TE0)) a.length (.inl ()) (.inr ()) (fun k hk => by
   unfold ref09_Same_s1 sameG
   have hm : a.getD k z_TE0 ∈ a := by simp [List.getD, hk]
   have hm2 : b.getD k z_TE0 ∈ b := by
    have : k < b.length := by omega
    simp [List.getD, this]
   rw [decide_eq_true (by omega), cT, getI_at z_TE0 hk, getI_at z_TE0 (by omega : k < b.length)]
   simp only [bnd, evG]
   rw [same_val hn (ha _ hm), Equal_ref hn (ha _ hm) (hb _ hm2), need_i (by omega) (by omega)]
   simp only [bnd]
   cases decide ((a.getD k z_TE0).fName = (b.getD k z_TE0).fName) <;> cases ((a.getD k z_TE0).fUnknown == (b.getD k z_TE0).fUnknown) <;> cases eqV (a.getD k z_TE0).fV (b.getD k z_TE0).fV <;> cases decide ((a.getD k z_TE0).fV = (b.getD k z_TE0).fV) <;> rfl) (by
   unfold ref09_Same_s1
   rw [decide_eq_false (by omega), cF]) (by omega)
  rw [this, bnd]
  cases (List.range a.length).any (fun k => !sameG (a.getD k z_TE0) (b.getD k z_TE0)) <;> rfl
 ·have h' : ¬ ((a.length : Nat) : Int) = ((b.length : Nat) : Int) := by omega
  rw [decide_eq_false h', Bool.not_false, cT, decide_eq_false h, Bool.false_and]
end Go.Proofs.YtalifkcchfkgmaaGreatDoor
end
