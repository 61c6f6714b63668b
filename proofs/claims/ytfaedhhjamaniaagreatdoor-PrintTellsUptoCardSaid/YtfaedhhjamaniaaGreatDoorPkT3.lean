/-
  Texts of this claim, packed (what nothing names is left out): TreeM, Num, Num2, PrintP1, PrintP2, VkG, VkH, VkI, P0, NumC, TextC, NumH, HdP, P1, P2, P3. Own work, partly printed by own programs. No condition.
-/
import Derived.Test.YtfaedhhjamaniaaGreatDoorPkT2
import GoSem.Op.String
import Derived.Test.YtfaedhhjamaniaaGreatDoorPkT1
import Derived.Laws.StructEq
import Derived.Test.YtfaedhhjamaniaaGreatDoorRows
set_option linter.unusedVariables false
set_option linter.unusedSimpArgs false
set_option maxHeartbeats 2000000
section
section
namespace Go.Proofs.YtfaedhhjamaniaaGreatDoor
open Go Go.Vc Go.RowKit
def Small : Nat → TA0 → Prop
  | 0, _ => False
  | d + 1, v => v.fList.length ≤ 3000 ∧ v.fKeys.length ≤ 3000 ∧ v.fText.length ≤ 5000 ∧ (∀ k ∈ v.fKeys, k.length ≤ 5000) ∧ ∀ x ∈ v.fList, Small d x
theorem walkVs_app : ∀ (l m : List TA0), walkVs (l ++ m) = walkVs l ++ walkVs m
 | [], m => by simp [walkVs]
 | x :: r, m => by simp [walkVs, walkVs_app r m]
theorem walkVs_take {l : List TA0} {i : Nat} {x : TA0} (h : l[i]? = some x) : walkVs (l.take (i + 1)) = walkVs (l.take i) ++ walkV x := by
 rw [List.take_add_one, h, walkVs_app]
 simp [walkVs]
theorem weight_ok {n : Nat} (hn : 3000 < n) : ∀ (k d : Nat) (v : TA0), d < k → d ≤ 1000 → ∃ W : Int, ref03_weight_k n k v (d : Int) = some W ∧ 0 ≤ W ∧ W ≤ 30010001 + 10000 * d ∧ (W ≤ 5000 → Small d v ∧ ((walkV v).length : Int) ≤ W)
 | 0, d, v, h, _ => absurd h (by omega)
 | k + 1, d, v, h, hd => by
  show ∃ W : Int, ref03_weight_b n (ref03_weight_k n k) v (d : Int) = some W ∧ _
  unfold ref03_weight_b
  by_cases h0 : d = 0 ∨ 3000 < v.fList.length ∨ 3000 < v.fKeys.length
  ·have e : (bif decide ((d : Int) = 0) then some true else bif decide ((3000 : Int) < ((v.fList.length : Nat) : Int)) then some true else some (decide ((3000 : Int) < ((v.fKeys.length : Nat) : Int))) : Option Bool) = some true := by
    by_cases a : (d : Int) = 0
    ·rw [decide_eq_true a, cT]
    ·rw [decide_eq_false a, cF]
     by_cases b : (3000 : Int) < ((v.fList.length : Nat) : Int)
     ·rw [decide_eq_true b, cT]
     ·rw [decide_eq_false b, cF, decide_eq_true (by omega)]
   rw [e, bnd, cT]
   exact ⟨10000, rfl, by omega, by omega, fun h => absurd h (by omega)⟩
  ·have e : (bif decide ((d : Int) = 0) then some true else bif decide ((3000 : Int) < ((v.fList.length : Nat) : Int)) then some true else some (decide ((3000 : Int) < ((v.fKeys.length : Nat) : Int))) : Option Bool) = some false := by
    rw [decide_eq_false (by omega), cF, decide_eq_false (by omega), cF, decide_eq_false (by omega)]
   rw [e, bnd, cF]
   obtain ⟨base, hbase⟩ : ∃ base : Int, base = (1 : Int) + (min (v.fText.length : Int) (10000 : Int)) := ⟨_, rfl⟩
   rw [← hbase, need_i (by omega) (by omega)]
   obtain ⟨y, hy, hy1, hy2, hy3⟩ := loop_inv (step := ref03_weight_s1 n v) (n := n) (s0 := (base, (0 : Int)))
    (fun k s => s.2 = (k : Int) ∧ base ≤ s.1 ∧ s.1 ≤ base + 10000 * k ∧ (s.1 ≤ 5000 → ∀ j, j < k → (v.fKeys.getD j []).length ≤ 5000))
    (fun b => base ≤ b ∧ b ≤ base + 10000 * v.fKeys.length ∧ (b ≤ 5000 → ∀ j, j < v.fKeys.length → (v.fKeys.getD j []).length ≤ 5000)) v.fKeys.length
    ⟨rfl, Int.le_refl _, by simp, fun _ j hj => absurd hj (by omega)⟩
    (fun q s hq hI => by
     obtain ⟨t, i⟩ := s
     obtain ⟨h1, h2, h3, h4⟩ := hI
     have h1' : i = (q : Int) := h1
     subst h1'
     left
     refine ⟨(t + min ((v.fKeys.getD q []).length : Int) 10000, (q : Int) + 1), ?_, by simp, ?_, ?_, ?_⟩
     ·show ref03_weight_s1 n v (t, (q : Int)) = _
      unfold ref03_weight_s1
      dsimp only at h2 h3 ⊢
      rw [decide_eq_true (by omega), cT, getI_at [] hq, bnd, need_i (by omega) (by omega), need_i (by omega) (by omega)]
     ·dsimp only at h2 ⊢; omega
     ·dsimp only at h3 ⊢; push_cast; omega
     ·dsimp only at h4 ⊢
      intro hle j hj
      by_cases hjq : j = q
      ·subst hjq; omega
      ·exact h4 (by omega) j (by omega))
    (fun s hI => by
     obtain ⟨t, i⟩ := s
     obtain ⟨h1, h2, h3, h4⟩ := hI
     have h1' : i = (v.fKeys.length : Int) := h1
     subst h1'
     refine ⟨t, ?_, h2, h3, h4⟩
     unfold ref03_weight_s1
     dsimp only
     rw [decide_eq_false (by omega), cF])
    (by omega)
   rw [hy, bnd]
   obtain ⟨z, hz, hz1, hz2, hz3⟩ := loop_inv (step := ref03_weight_s2 n (ref03_weight_k n k) v (d : Int)) (n := n) (s0 := (y, (0 : Int)))
    (fun k s => s.2 = (k : Int) ∧ y ≤ s.1 ∧ s.1 ≤ 30010001 + 10000 * d ∧ (s.1 ≤ 5000 → (∀ j x, j < k → v.fList[j]? = some x → Small (d - 1) x) ∧ ((walkVs (v.fList.take k)).length : Int) + 1 ≤ s.1))
    (fun b => y ≤ b ∧ b ≤ 30010001 + 10000 * d ∧ (b ≤ 5000 → (∀ j x, j < v.fList.length → v.fList[j]? = some x → Small (d - 1) x) ∧ ((walkVs v.fList).length : Int) + 1 ≤ b)) v.fList.length
    ⟨rfl, Int.le_refl _, by omega, fun _ => ⟨fun j x hj => absurd hj (by omega), by simp [walkVs]; omega⟩⟩
    (fun q s hq hI => by
     obtain ⟨t, i⟩ := s
     obtain ⟨h1, h2, h3, h4⟩ := hI
     have h1' : i = (q : Int) := h1
     subst h1'
     dsimp only at h2 h3 h4
     by_cases ht : t ≤ 10000
     ·left
      have hx : v.fList[q]? = some v.fList[q] := List.getElem?_eq_getElem hq
      obtain ⟨W, w1, w2, w3, w4⟩ := weight_ok hn k (d - 1) v.fList[q] (by omega) (by omega)
      have hd1 : ((d - 1 : Nat) : Int) = (d : Int) - 1 := by omega
      rw [hd1] at w1
      refine ⟨(t + W, (q : Int) + 1), ?_, by simp, ?_, ?_, ?_⟩
      ·show ref03_weight_s2 n (ref03_weight_k n k) v (d : Int) (t, (q : Int)) = _
       unfold ref03_weight_s2
       dsimp only
       have hg : getI v.fList (q : Int) = some v.fList[q] := by simp [getI]
       rw [decide_eq_true (by omega), cT, bnd, decide_eq_true ht, cT, hg, bnd, need_i (by omega) (by omega), w1, bnd, need_i (by omega) (by omega), need_i (by omega) (by omega)]
      ·dsimp only; omega
      ·dsimp only; omega
      ·dsimp only
       intro hle
       obtain ⟨s1, s2⟩ := h4 (by omega)
       obtain ⟨c1, c2⟩ := w4 (by omega)
       refine ⟨fun j x hj hjx => ?_, ?_⟩
       ·by_cases hjq : j = q
        ·subst hjq
         rw [hx] at hjx
         exact Option.some.inj hjx ▸ c1
        ·exact s1 j x (by omega) hjx
       ·rw [walkVs_take hx, List.length_append]
        omega
     ·right
      refine ⟨t, ?_, h2, h3, fun hle => absurd hle (by omega)⟩
      unfold ref03_weight_s2
      dsimp only
      rw [decide_eq_true (by omega), cT, bnd, decide_eq_false ht, cF])
    (fun s hI => by
     obtain ⟨t, i⟩ := s
     obtain ⟨h1, h2, h3, h4⟩ := hI
     have h1' : i = (v.fList.length : Int) := h1
     subst h1'
     dsimp only at h2 h3 h4
     rw [List.take_length] at h4
     refine ⟨t, ?_, h2, h3, h4⟩
     unfold ref03_weight_s2
     dsimp only
     rw [decide_eq_false (by omega), cF, bnd, cF])
    (by omega)
   rw [hz, bnd]
   refine ⟨z, rfl, by omega, hz2, fun hle => ?_⟩
   obtain ⟨s1, s2⟩ := hz3 hle
   have s3 := hy3 (by omega)
   obtain ⟨d, rfl⟩ : ∃ e, d = e + 1 := ⟨d - 1, by omega⟩
   refine ⟨⟨by omega, by omega, by omega, fun q hq => ?_, fun x hx => ?_⟩, ?_⟩
   ·obtain ⟨j, hj, rfl⟩ := List.getElem_of_mem hq
    have := s3 j hj
    simpa [hj] using this
   ·obtain ⟨j, hj, rfl⟩ := List.getElem_of_mem hx
    exact s1 j _ hj (List.getElem?_eq_getElem hj)
   ·rw [walkV_eq, List.length_cons]
    push_cast
    omega
end Go.Proofs.YtfaedhhjamaniaaGreatDoor
end
section
namespace Go.Proofs.YtfaedhhjamaniaaGreatDoor
open Go Go.Vc
theorem and_tab : ((List.range 256).all fun c => bAnd .i64 (c : Int) 31 == ((c % 32 : Nat) : Int) && (bAnd .i64 (c : Int) 15 == ((c % 16 : Nat) : Int) && bAnd .i64 (c : Int) 7 == ((c % 8 : Nat) : Int))) = true := by kernel_rfl
theorem and_low (c : UInt8) : bAnd .i64 (c.toNat : Int) 31 = ((c.toNat % 32 : Nat) : Int) ∧ bAnd .i64 (c.toNat : Int) 15 = ((c.toNat % 16 : Nat) : Int) ∧ bAnd .i64 (c.toNat : Int) 7 = ((c.toNat % 8 : Nat) : Int) := by
 have h := List.all_eq_true.1 and_tab c.toNat (List.mem_range.2 c.toNat_lt)
 simp only [Bool.and_eq_true, beq_iff_eq] at h
 exact h
theorem one_s1 {n : Nat} {s : List UInt8} {i k : Nat} {y : Int × Int × Int} {r w : Nat} (hy : y.1 = (w : Int)) (hk : k < w) (hi : i + w ≤ s.length) (hs : s.length < 1000000) (hr : r < 1000000000) :
  ref01_One_s1 n s i y ((r : Int), (k : Int)) = some (if (s.getD (i + k) 0).toNat / 64 = 2 then .nx (((64 * r + (s.getD (i + k) 0).toNat % 64 : Nat) : Int), ((k + 1 : Nat) : Int)) else .br (.inl ())) := by
 unfold ref01_One_s1
 dsimp only
 have e : (i : Int) + (k : Int) = ((i + k : Nat) : Int) := by omega
 rw [hy, decide_eq_true (by omega : (k : Int) < (w : Int)), cT, need_i (by omega) (by omega), e, getI_at 0 (by omega), bnd]
 have hb := (s.getD (i + k) 0).toNat_lt
 generalize (s.getD (i + k) 0) = b at hb ⊢
 by_cases h1 : b.toNat < 128
 ·rw [decide_eq_true (by omega : (b.toNat : Int) < 128), cT, bnd, cT, if_neg (by omega)]
 ·rw [decide_eq_false (by omega : ¬ (b.toNat : Int) < 128), cF, bnd]
  by_cases h2 : 191 < b.toNat
  ·rw [decide_eq_true (by omega : (191 : Int) < (b.toNat : Int)), cT, if_neg (by omega)]
  ·rw [decide_eq_false (by omega : ¬ (191 : Int) < (b.toNat : Int)), cF, if_pos (by omega), need_i (by omega) (by omega), need_i (by omega) (by omega), need_i (by omega) (by omega), need_i (by omega) (by omega)]
   congr 3
   ·omega
theorem one_s1e {n : Nat} {s : List UInt8} {i : Nat} {y : Int × Int × Int} {r : Int} {w : Nat} (hy : y.1 = (w : Int)) :
  ref01_One_s1 n s i y (r, (w : Int)) = some (.br (.inr r)) := by
 unfold ref01_One_s1
 dsimp only
 rw [hy, decide_eq_false (by omega : ¬ (w : Int) < (w : Int)), cF]
def contB (s : List UInt8) (i : Nat) : Bool := decide ((s.getD i 0).toNat / 64 = 2)
theorem one_l2 {n : Nat} {s : List UInt8} {i : Nat} {y : Int × Int × Int} {r : Nat} (hy : y.1 = 2) (hi : i + 2 ≤ s.length) (hs : s.length < 1000000) (hr : r < 100) (hn : 5 ≤ n) :
  loopF (ref01_One_s1 n s i y) n ((r : Int), (1 : Int)) = some (if contB s (i + 1) then .inr (((64 * r + (s.getD (i + 1) 0).toNat % 64 : Nat) : Int)) else .inl ()) := by
 obtain ⟨n, rfl⟩ : ∃ q, n = q + 5 := ⟨n - 5, by omega⟩
 have h1 := one_s1 (n := n + 5) (k := 1) (w := 2) hy (by omega) hi hs (by omega : r < 1000000000)
 rw [show ((1 : Nat) : Int) = 1 from rfl] at h1
 rw [loopF, h1, bnd]
 unfold contB
 by_cases h2 : (s.getD (i + 1) 0).toNat / 64 = 2
 ·rw [if_pos h2, if_pos (by simpa using h2)]
  show loopF _ (n + 4) _ = _
  rw [loopF, one_s1e (w := 2) hy, bnd]
 ·rw [if_neg h2, if_neg (by simpa using h2)]
theorem one_l3 {n : Nat} {s : List UInt8} {i : Nat} {y : Int × Int × Int} {r : Nat} (hy : y.1 = 3) (hi : i + 3 ≤ s.length) (hs : s.length < 1000000) (hr : r < 100) (hn : 5 ≤ n) :
  loopF (ref01_One_s1 n s i y) n ((r : Int), (1 : Int)) = some (if contB s (i + 1) && contB s (i + 2) then .inr (((64 * (64 * r + (s.getD (i + 1) 0).toNat % 64) + (s.getD (i + 2) 0).toNat % 64 : Nat) : Int)) else .inl ()) := by
 obtain ⟨n, rfl⟩ : ∃ q, n = q + 5 := ⟨n - 5, by omega⟩
 have h1 := one_s1 (n := n + 5) (k := 1) (w := 3) hy (by omega) hi hs (by omega : r < 1000000000)
 rw [show ((1 : Nat) : Int) = 1 from rfl] at h1
 rw [loopF, h1, bnd]
 unfold contB
 by_cases h2 : (s.getD (i + 1) 0).toNat / 64 = 2
 ·rw [if_pos h2]
  show loopF _ (n + 4) _ = _
  rw [loopF, one_s1 (n := n + 5) (k := 2) (w := 3) hy (by omega) hi hs (by omega), bnd]
  by_cases h3 : (s.getD (i + 2) 0).toNat / 64 = 2
  ·rw [if_pos h3, if_pos (by simp only [h2, h3]; rfl)]
   show loopF _ (n + 3) _ = _
   rw [loopF, one_s1e (w := 3) hy, bnd]
  ·rw [if_neg h3, if_neg (by simp only [h2, h3]; decide)]
 ·rw [if_neg h2, if_neg (by simp only [h2]; simp)]
theorem one_l4 {n : Nat} {s : List UInt8} {i : Nat} {y : Int × Int × Int} {r : Nat} (hy : y.1 = 4) (hi : i + 4 ≤ s.length) (hs : s.length < 1000000) (hr : r < 100) (hn : 5 ≤ n) :
  loopF (ref01_One_s1 n s i y) n ((r : Int), (1 : Int)) = some (if contB s (i + 1) && (contB s (i + 2) && contB s (i + 3)) then .inr (((64 * (64 * (64 * r + (s.getD (i + 1) 0).toNat % 64) + (s.getD (i + 2) 0).toNat % 64) + (s.getD (i + 3) 0).toNat % 64 : Nat) : Int)) else .inl ()) := by
 obtain ⟨n, rfl⟩ : ∃ q, n = q + 5 := ⟨n - 5, by omega⟩
 have h1 := one_s1 (n := n + 5) (k := 1) (w := 4) hy (by omega) hi hs (by omega : r < 1000000000)
 rw [show ((1 : Nat) : Int) = 1 from rfl] at h1
 rw [loopF, h1, bnd]
 unfold contB
 by_cases h2 : (s.getD (i + 1) 0).toNat / 64 = 2
 ·rw [if_pos h2]
  show loopF _ (n + 4) _ = _
  rw [loopF, one_s1 (n := n + 5) (k := 2) (w := 4) hy (by omega) hi hs (by omega), bnd]
  by_cases h3 : (s.getD (i + 2) 0).toNat / 64 = 2
  ·rw [if_pos h3]
   show loopF _ (n + 3) _ = _
   rw [loopF, one_s1 (n := n + 5) (k := 3) (w := 4) hy (by omega) hi hs (by omega), bnd]
   by_cases h4 : (s.getD (i + 3) 0).toNat / 64 = 2
   ·rw [if_pos h4, if_pos (by simp only [h2, h3, h4]; rfl)]
    show loopF _ (n + 2) _ = _
    rw [loopF, one_s1e (w := 4) hy, bnd]
   ·rw [if_neg h4, if_neg (by simp only [h2, h3, h4]; decide)]
  ·rw [if_neg h3, if_neg (by simp only [h2, h3]; simp)]
 ·rw [if_neg h2, if_neg (by simp only [h2]; simp)]
theorem one_ref {n : Nat} {s : List UInt8} {i : Nat} (hi : i < s.length) (hs : s.length < 1000000) (hn : 5 ≤ n) :
  ref01_One n s i = some (if (Lib.decodeL (s.drop i)).1 = 65533 ∧ (Lib.decodeL (s.drop i)).2 = 1 then (0, 0) else (((Lib.decodeL (s.drop i)).1 : Int), ((Lib.decodeL (s.drop i)).2 : Int))) := by
 rw [Lib.decodeL_N, List.length_drop, Lib.getD_dropU, Lib.getD_dropU, Lib.getD_dropU, Lib.getD_dropU, Nat.add_zero]
 unfold ref01_One
 rw [decide_eq_false (by omega : ¬ (i : Int) < 0), cF, decide_eq_false (by omega : ¬ (s.length : Int) ≤ (i : Int)), bnd, cF, getI_at 0 hi, bnd]
 have hb0 := (s.getD i 0).toNat_lt
 have hb1 := (s.getD (i + 1) 0).toNat_lt
 have hb2 := (s.getD (i + 2) 0).toNat_lt
 have hb3 := (s.getD (i + 3) 0).toNat_lt
 obtain ⟨a1, a2, a3⟩ := and_low (s.getD i 0)
 by_cases h0 : (s.getD i 0).toNat < 128
 ·rw [decide_eq_true (by omega : ((s.getD i 0).toNat : Int) < 128), cT, Lib.decodeN_ascii _ _ _ _ _ h0]
  rw [mpS, bnd, jB, if_neg (by dsimp only; omega)]
  rfl
 rw [decide_eq_false (by omega : ¬ ((s.getD i 0).toNat : Int) < 128), cF]
 generalize hD : Lib.decodeN (s.length - i) (s.getD i 0).toNat (s.getD (i + 1) 0).toNat (s.getD (i + 2) 0).toNat (s.getD (i + 3) 0).toNat = D
 have hB : D = (65533, 1) → some ((0 : Int), (0 : Int)) = some (if D.1 = 65533 ∧ D.2 = 1 then (0, 0) else ((D.1 : Int), (D.2 : Int))) := fun e => by rw [e]; rfl
 have hG : ∀ (R w : Nat), D = (R, w) → 1 < w → some ((R : Int), (w : Int)) = some (if D.1 = 65533 ∧ D.2 = 1 then (0, 0) else ((D.1 : Int), (D.2 : Int))) := fun R w e hw => by rw [e, if_neg (by dsimp only; omega)]
 have bad : (s.getD i 0).toNat < 192 ∨ 248 ≤ (s.getD i 0).toNat → D = (65533, 1) := fun hb => by
  rw [← hD]
  unfold Lib.decodeN
  rw [if_neg h0, if_neg (by omega), if_neg (by omega), if_neg (by omega)]
 by_cases h1 : 192 ≤ (s.getD i 0).toNat
 case neg =>
  rw [decide_eq_false (by omega : ¬ (192 : Int) ≤ ((s.getD i 0).toNat : Int)), cF, bnd, cF, decide_eq_false (by omega : ¬ (224 : Int) ≤ ((s.getD i 0).toNat : Int)), cF, bnd, cF, decide_eq_false (by omega : ¬ (240 : Int) ≤ ((s.getD i 0).toNat : Int)), cF, bnd, cF, mpS, bnd, jB]
  exact hB (bad (by omega))
 rw [decide_eq_true (by omega : (192 : Int) ≤ ((s.getD i 0).toNat : Int)), cT]
 by_cases h2 : (s.getD i 0).toNat < 224
 ·rw [decide_eq_true (by omega : ((s.getD i 0).toNat : Int) < 224), bnd, cT, a1, bnd]
  rw [jN]
  dsimp only
  rw [need_i (by omega) (by omega)]
  unfold Lib.decodeN at hD
  rw [if_neg h0] at hD
  by_cases hl : s.length < i + 2
  ·rw [decide_eq_true (by omega : (s.length : Int) < (i : Int) + 2), cT]
   exact hB (by rw [← hD, if_neg (by omega), if_neg (by omega), if_neg (by omega)])
  rw [decide_eq_false (by omega : ¬ (s.length : Int) < (i : Int) + 2), cF, one_l2 rfl (by omega) hs (by omega) hn, bnd]
  unfold contB
  by_cases hc : (s.getD (i + 1) 0).toNat / 64 = 2
  ·rw [if_pos (by simp only [hc]; rfl)]
   rw [if_pos ⟨by omega, by omega, hc⟩] at hD
   dsimp only
   generalize hR : (64 * ((s.getD i 0).toNat % 32) + (s.getD (i + 1) 0).toNat % 64) = R
   rw [show (s.getD i 0).toNat % 32 * 64 + (s.getD (i + 1) 0).toNat % 64 = R by omega] at hD
   have hR2 : R < 2048 := by omega
   by_cases hv : R ≥ 128
   ·rw [if_pos hv] at hD
    rw [decide_eq_false (by omega : ¬ (R : Int) < 128), cF, decide_eq_false (by omega : ¬ (1114111 : Int) < (R : Int)), cF, decide_eq_false (by omega : ¬ (55296 : Int) ≤ (R : Int)), cF, bnd, cF]
    exact hG R 2 hD.symm (by omega)
   ·rw [if_neg hv] at hD
    rw [decide_eq_true (by omega : (R : Int) < 128), cT, bnd, cT]
    exact hB hD.symm
  ·rw [if_neg (by simp only [hc]; decide)]
   exact hB (by rw [← hD, if_neg (by omega), if_neg (by omega), if_neg (by omega)])
 rw [decide_eq_false (by omega : ¬ ((s.getD i 0).toNat : Int) < 224), bnd, cF, decide_eq_true (by omega : (224 : Int) ≤ ((s.getD i 0).toNat : Int)), cT]
 by_cases h3 : (s.getD i 0).toNat < 240
 ·rw [decide_eq_true (by omega : ((s.getD i 0).toNat : Int) < 240), bnd, cT, a2, bnd]
  rw [jN]
  dsimp only
  rw [need_i (by omega) (by omega)]
  unfold Lib.decodeN at hD
  rw [if_neg h0, if_neg (by omega)] at hD
  by_cases hl : s.length < i + 3
  ·rw [decide_eq_true (by omega : (s.length : Int) < (i : Int) + 3), cT]
   exact hB (by rw [← hD, if_neg (by omega), if_neg (by omega)])
  rw [decide_eq_false (by omega : ¬ (s.length : Int) < (i : Int) + 3), cF, one_l3 rfl (by omega) hs (by omega) hn, bnd]
  unfold contB
  by_cases hc : (s.getD (i + 1) 0).toNat / 64 = 2 ∧ (s.getD (i + 2) 0).toNat / 64 = 2
  ·rw [if_pos (by simp only [hc]; rfl)]
   rw [if_pos ⟨by omega, ⟨by omega, hc.1⟩, by omega, hc.2⟩] at hD
   dsimp only
   generalize hR : (64 * (64 * ((s.getD i 0).toNat % 16) + (s.getD (i + 1) 0).toNat % 64) + (s.getD (i + 2) 0).toNat % 64) = R
   rw [show (s.getD i 0).toNat % 16 * 4096 + (s.getD (i + 1) 0).toNat % 64 * 64 + (s.getD (i + 2) 0).toNat % 64 = R by omega] at hD
   have hR2 : R < 65536 := by omega
   by_cases hv : R < 2048
   ·rw [decide_eq_true (by omega : (R : Int) < 2048), cT, bnd, cT]
    exact hB (by rw [← hD, if_neg (by omega)])
   rw [decide_eq_false (by omega : ¬ (R : Int) < 2048), cF, decide_eq_false (by omega : ¬ (1114111 : Int) < (R : Int)), cF]
   by_cases hv2 : 55296 ≤ R
   ·rw [decide_eq_true (by omega : (55296 : Int) ≤ (R : Int)), cT, bnd]
    by_cases hv3 : R ≤ 57343
    ·rw [decide_eq_true (by omega : (R : Int) ≤ 57343), cT]
     exact hB (by rw [← hD, if_neg (by omega)])
    ·rw [decide_eq_false (by omega : ¬ (R : Int) ≤ 57343), cF]
     exact hG R 3 (by rw [← hD, if_pos (by omega)]) (by omega)
   ·rw [decide_eq_false (by omega : ¬ (55296 : Int) ≤ (R : Int)), cF, bnd, cF]
    exact hG R 3 (by rw [← hD, if_pos (by omega)]) (by omega)
  ·rw [if_neg (by simp only [Bool.and_eq_true, decide_eq_true_eq]; exact hc)]
   exact hB (by rw [← hD, if_neg (by omega), if_neg (by omega)])
 rw [decide_eq_false (by omega : ¬ ((s.getD i 0).toNat : Int) < 240), bnd, cF, decide_eq_true (by omega : (240 : Int) ≤ ((s.getD i 0).toNat : Int)), cT]
 by_cases h4 : (s.getD i 0).toNat < 248
 ·rw [decide_eq_true (by omega : ((s.getD i 0).toNat : Int) < 248), bnd, cT, a3, bnd]
  rw [jN]
  dsimp only
  rw [need_i (by omega) (by omega)]
  unfold Lib.decodeN at hD
  rw [if_neg h0, if_neg (by omega), if_neg (by omega)] at hD
  by_cases hl : s.length < i + 4
  ·rw [decide_eq_true (by omega : (s.length : Int) < (i : Int) + 4), cT]
   exact hB (by rw [← hD, if_neg (by omega)])
  rw [decide_eq_false (by omega : ¬ (s.length : Int) < (i : Int) + 4), cF, one_l4 rfl (by omega) hs (by omega) hn, bnd]
  unfold contB
  by_cases hc : (s.getD (i + 1) 0).toNat / 64 = 2 ∧ (s.getD (i + 2) 0).toNat / 64 = 2 ∧ (s.getD (i + 3) 0).toNat / 64 = 2
  ·rw [if_pos (by simp only [hc]; rfl)]
   rw [if_pos ⟨by omega, ⟨by omega, hc.1⟩, ⟨by omega, hc.2.1⟩, by omega, hc.2.2⟩] at hD
   dsimp only
   generalize hR : (64 * (64 * (64 * ((s.getD i 0).toNat % 8) + (s.getD (i + 1) 0).toNat % 64) + (s.getD (i + 2) 0).toNat % 64) + (s.getD (i + 3) 0).toNat % 64) = R
   rw [show (s.getD i 0).toNat % 8 * 262144 + (s.getD (i + 1) 0).toNat % 64 * 4096 + (s.getD (i + 2) 0).toNat % 64 * 64 + (s.getD (i + 3) 0).toNat % 64 = R by omega] at hD
   have hR2 : R < 16777216 := by omega
   by_cases hv : R < 65536
   ·rw [decide_eq_true (by omega : (R : Int) < 65536), cT, bnd, cT]
    exact hB (by rw [← hD, if_neg (by omega)])
   rw [decide_eq_false (by omega : ¬ (R : Int) < 65536), cF]
   by_cases hv2 : 1114111 < R
   ·rw [decide_eq_true (by omega : (1114111 : Int) < (R : Int)), cT, bnd, cT]
    exact hB (by rw [← hD, if_neg (by omega)])
   ·rw [decide_eq_false (by omega : ¬ (1114111 : Int) < (R : Int)), cF, decide_eq_true (by omega : (55296 : Int) ≤ (R : Int)), cT, bnd, decide_eq_false (by omega : ¬ (R : Int) ≤ 57343), cF]
    exact hG R 4 (by rw [← hD, if_pos (by omega)]) (by omega)
  ·rw [if_neg (by simp only [Bool.and_eq_true, decide_eq_true_eq]; exact hc)]
   exact hB (by rw [← hD, if_neg (by omega)])
 rw [decide_eq_false (by omega : ¬ ((s.getD i 0).toNat : Int) < 248), bnd, cF, mpS, bnd, jB]
 exact hB (bad (by omega))
theorem valid_loop {n : Nat} {s : List UInt8} (hs : s.length < 1000000) (hn : 5 ≤ n) : ∀ (m i : Nat), s.length ≤ i + m → i ≤ s.length → ∀ q, m < q → loopF (ref01_Valid_s1 n s) q (i : Int) = some (if Lib.validD (s.drop i) then .inr () else .inl ())
 | 0, i, hm, hi, q, hq => by
  obtain ⟨q, rfl⟩ : ∃ r, q = r + 1 := ⟨q - 1, by omega⟩
  have e : s.drop i = [] := List.drop_eq_nil_of_le (by omega)
  rw [loopF, e]
  unfold ref01_Valid_s1
  rw [decide_eq_false (by omega), cF, bnd]
  rfl
 | m + 1, i, hm, hi, q, hq => by
  obtain ⟨q, rfl⟩ : ∃ r, q = r + 1 := ⟨q - 1, by omega⟩
  by_cases hlt : i < s.length
  ·have hne : s.drop i ≠ [] := fun e => by
    have := congrArg List.length e
    rw [List.length_drop] at this
    simp at this
    omega
   have hst : ref01_Valid_s1 n s (i : Int) = some (if (Lib.decodeL (s.drop i)).1 = 65533 ∧ (Lib.decodeL (s.drop i)).2 = 1 then .br (.inl ()) else .nx (((i + (Lib.decodeL (s.drop i)).2 : Nat) : Int))) := by
    unfold ref01_Valid_s1
    rw [decide_eq_true (by omega : (i : Int) < (s.length : Int)), cT, one_ref hlt hs hn, bnd]
    by_cases hb : (Lib.decodeL (s.drop i)).1 = 65533 ∧ (Lib.decodeL (s.drop i)).2 = 1
    ·rw [if_pos hb, if_pos hb]
     rfl
    ·rw [if_neg hb, if_neg hb]
     have hw := Lib.decodeL_width (s.drop i)
     have hw4 : (Lib.decodeL (s.drop i)).2 ≤ 4 := by
      rcases dec_cases (s.drop i) hne with ⟨e, _⟩ | ⟨r, w, e, h1, h2, h3, _⟩
      ·rw [e]; decide
      ·rw [e]; exact h3
     dsimp only
     rw [decide_eq_false (by omega), cF, need_i (by omega) (by omega)]
     rfl
   rw [loopF, hst, bnd, Lib.validD_step _ hne]
   by_cases hb : (Lib.decodeL (s.drop i)).1 = 65533 ∧ (Lib.decodeL (s.drop i)).2 = 1
   ·rw [if_pos hb, if_pos hb]
    rfl
   ·rw [if_neg hb, if_neg hb]
    have hw := Lib.decodeL_width (s.drop i)
    have hle : (Lib.decodeL (s.drop i)).2 ≤ s.length - i := by
     rcases dec_cases (s.drop i) hne with ⟨e, _⟩ | ⟨r, w, e, h1, _⟩
     ·rw [e] at hb; exact absurd ⟨rfl, rfl⟩ hb
     ·rw [e]; rw [List.length_drop] at h1; exact h1
    dsimp only
    rw [valid_loop hs hn m _ (by omega) (by omega) q (by omega), List.drop_drop]
  ·have e : s.drop i = [] := List.drop_eq_nil_of_le (by omega)
   rw [loopF, e]
   unfold ref01_Valid_s1
   rw [decide_eq_false (by omega), cF, bnd]
   rfl
theorem valid_ref {n : Nat} {s : List UInt8} (hs : s.length < 1000000) (hn : 5 ≤ n) (hl : s.length < n) : ref01_Valid n s = some (Lib.validD s) := by
 unfold ref01_Valid
 have h := valid_loop hs hn s.length 0 (by omega) (by omega) n hl
 rw [show ((0 : Nat) : Int) = 0 from rfl, List.drop_zero] at h
 rw [h, bnd]
 cases Lib.validD s <;> rfl
end Go.Proofs.YtfaedhhjamaniaaGreatDoor
end
section
namespace Go.Proofs.YtfaedhhjamaniaaGreatDoor
open Go Go.Vc Go.RowKit
theorem great_ok {n : Nat} (hn : 3000 < n) (v : TA0) : ∃ g, ref03_Great n v = some g ∧ (g = false → Small 30 v ∧ (walkV v).length ≤ 5000) := by
 obtain ⟨W, w1, w2, w3, w4⟩ := weight_ok hn n 30 v (by omega) (by omega)
 refine ⟨decide ((5000 : Int) < W), ?_, fun h => ?_⟩
 ·unfold ref03_Great ref03_weight
  have e : ((30 : Nat) : Int) = 30 := rfl
  rw [e] at w1
  rw [w1, bnd]
 ·have h' := of_decide_eq_false h
  obtain ⟨a, b⟩ := w4 (by omega)
  exact ⟨a, by omega⟩
theorem wvs_mem : ∀ {l : List TA0} {x : TA0}, x ∈ l → (walkV x).length ≤ (walkVs l).length
 | y :: r, x, h => by
  rw [walkVs, List.length_append]
  rcases List.mem_cons.1 h with rfl | h
  ·omega
  ·have := wvs_mem h
   omega
end Go.Proofs.YtfaedhhjamaniaaGreatDoor
end
section
namespace Go.Proofs.YtfaedhhjamaniaaGreatDoor
open Go Go.Vc Go.RowKit
def thenC (a b : Int) : Int := bif decide (a = 0) then b else a
theorem thenC0 (b : Int) : thenC 0 b = b := rfl
theorem thenCn {a : Int} (b : Int) (h : a ≠ 0) : thenC a b = a := by unfold thenC; rw [decide_eq_false h, cF]
def Tr (a b c : Int) : Prop := (a ≤ 0 → b ≤ 0 → c ≤ 0) ∧ (a ≤ 0 → b ≤ 0 → a < 0 ∨ b < 0 → c < 0) ∧ (a = 0 → b = 0 → c = 0)
theorem Tr.then {a b c a' b' c' : Int} (h : Tr a b c) (h' : a = 0 → b = 0 → Tr a' b' c') : Tr (thenC a a') (thenC b b') (thenC c c') := by
 obtain ⟨h1, h2, h3⟩ := h
 by_cases ha : a = 0
 ·by_cases hb : b = 0
  ·have hc := h3 ha hb
   subst ha hb hc
   rw [thenC0, thenC0, thenC0]
   exact h' rfl rfl
  ·subst ha
   rw [thenC0, thenCn b' hb]
   by_cases hc : c = 0
   ·exact ⟨fun x y => by have := h2 (by omega) y (.inr (by omega)); omega, fun x y _ => by have := h2 (by omega) y (.inr (by omega)); omega, fun _ y => absurd y hb⟩
   ·rw [thenCn c' hc]
    exact ⟨fun x y => by have := h2 (by omega) y (.inr (by omega)); omega, fun x y _ => by have := h2 (by omega) y (.inr (by omega)); omega, fun _ y => absurd y hb⟩
 ·rw [thenCn a' ha]
  have key : a ≤ 0 → thenC b b' ≤ 0 → c < 0 := fun x y => by
   by_cases hb : b = 0
   ·exact h2 x (by omega) (.inl (by omega))
   ·rw [thenCn b' hb] at y
    exact h2 x y (.inl (by omega))
  have key2 : a ≤ 0 → thenC b b' ≤ 0 → thenC c c' < 0 := fun x y => by
   have := key x y
   rw [thenCn c' (by omega)]
   exact this
  exact ⟨fun x y => Int.le_of_lt (key2 x y), fun x y _ => key2 x y, fun x _ => absurd x ha⟩
theorem cb_range : ∀ a b : List UInt8, -1 ≤ Lib.compareBytes a b ∧ Lib.compareBytes a b ≤ 1
 | [], [] => by simp [Lib.compareBytes]
 | [], _ :: _ => by simp [Lib.compareBytes]
 | _ :: _, [] => by simp [Lib.compareBytes]
 | x :: r, y :: s => by
  have := cb_range r s
  unfold Lib.compareBytes
  split
  ·omega
  ·split <;> omega
end Go.Proofs.YtfaedhhjamaniaaGreatDoor
end
section
namespace Go.Proofs.YtfaedhhjamaniaaGreatDoor
open Go Go.Vc Go.RowKit
def PlainV (v : TA0) : Prop := 0 ≤ v.fKind ∧ v.fKind ≤ 5 ∧ (v.fBool = true → v.fKind = 1) ∧ (v.fNum ≠ 0 → v.fKind = 2) ∧ (v.fText ≠ [] → v.fKind = 3) ∧ (v.fList.length ≠ 0 → v.fKind = 4 ∨ v.fKind = 5) ∧ (v.fKind = 5 → v.fKeys.length = v.fList.length) ∧ (v.fKind ≠ 5 → v.fKeys.length = 0)
instance (v : TA0) : Decidable (PlainV v) := by unfold PlainV; exact inferInstance
def aloneV (v : TA0) : Int :=
  if PlainV v then (if v.fNum < -9007199254740992 ∨ 9007199254740992 < v.fNum then 20 else if Lib.validD v.fText = true ∧ ∀ k ∈ v.fKeys, Lib.validD k = true then (if v.fKeys.Nodup then 0 else 41) else 10) else 2
def NumOut (v : TA0) : Prop := v.fNum < -9007199254740992 ∨ 9007199254740992 < v.fNum
def TextsOk (v : TA0) : Prop := Lib.validD v.fText = true ∧ ∀ k ∈ v.fKeys, Lib.validD k = true
theorem alone_2 {v : TA0} (h : ¬ PlainV v) : aloneV v = 2 := if_neg h
theorem alone_20 {v : TA0} (h : PlainV v) (hn : NumOut v) : aloneV v = 20 := (if_pos h).trans (if_pos hn)
theorem alone_10 {v : TA0} (h : PlainV v) (hn : ¬ NumOut v) (ht : ¬ TextsOk v) : aloneV v = 10 := ((if_pos h).trans (if_neg hn)).trans (if_neg ht)
theorem alone_41 {v : TA0} (h : PlainV v) (hn : ¬ NumOut v) (ht : TextsOk v) (hd : ¬ v.fKeys.Nodup) : aloneV v = 41 := (((if_pos h).trans (if_neg hn)).trans (if_pos ht)).trans (if_neg hd)
theorem alone_0 {v : TA0} (h : PlainV v) (hn : ¬ NumOut v) (ht : TextsOk v) (hd : v.fKeys.Nodup) : aloneV v = 0 := (((if_pos h).trans (if_neg hn)).trans (if_pos ht)).trans (if_pos hd)
theorem alone_ok {v : TA0} (h : aloneV v = 0) : PlainV v ∧ ¬ NumOut v ∧ TextsOk v ∧ v.fKeys.Nodup := by
 by_cases h1 : PlainV v
 ·by_cases h2 : NumOut v
  ·rw [alone_20 h1 h2] at h; omega
  ·by_cases h3 : TextsOk v
   ·by_cases h4 : v.fKeys.Nodup
    ·exact ⟨h1, h2, h3, h4⟩
    ·rw [alone_41 h1 h2 h3 h4] at h; omega
   ·rw [alone_10 h1 h2 h3] at h; omega
 ·rw [alone_2 h1] at h; omega
def Wide (v : TA0) : Prop := v.fList.length ≤ 3000 ∧ v.fKeys.length ≤ 3000 ∧ v.fText.length ≤ 5000 ∧ ∀ k ∈ v.fKeys, k.length ≤ 5000
theorem Small.wide : ∀ {d : Nat} {v : TA0}, Small d v → Wide v
 | _ + 1, _, h => ⟨h.1, h.2.1, h.2.2.1, h.2.2.2.1⟩
theorem plain_ref {n : Nat} (v : TA0) : ref03_plain n v = some (decide (PlainV v)) := by
  unfold ref03_plain
  by_cases h0 : v.fKind < 0
  · rw [decide_eq_true h0, cT, bnd, cT, decide_eq_false (fun h => by have := h.1; omega)]
  rw [decide_eq_false h0, cF, bnd]
  by_cases h5 : 5 < v.fKind
  · rw [decide_eq_true h5, cT, decide_eq_false (fun h => by have := h.2.1; omega)]
  rw [decide_eq_false h5, cF]
  have key : ((bif v.fBool then
        (bif (!(decide (v.fKind = 1))) then
          (some ((true)))
        else
          bif (!(decide (v.fNum = 0))) then
            (bif (!(decide (v.fKind = 2))) then
              (some ((true)))
            else
              bif (!(decide (v.fText = []))) then
                (some ((!(decide (v.fKind = 3)))))
              else
                some ((false)))
          else
            bif (!(decide (v.fText = []))) then
              (some ((!(decide (v.fKind = 3)))))
            else
              some ((false)))
      else
        bif (!(decide (v.fNum = 0))) then
          (bif (!(decide (v.fKind = 2))) then
            (some ((true)))
          else
            bif (!(decide (v.fText = []))) then
              (some ((!(decide (v.fKind = 3)))))
            else
              some ((false)))
        else
          bif (!(decide (v.fText = []))) then
            (some ((!(decide (v.fKind = 3)))))
          else
            some ((false)) : Option Bool)) = some (!decide ((v.fBool = true → v.fKind = 1) ∧ (v.fNum ≠ 0 → v.fKind = 2) ∧ (v.fText ≠ [] → v.fKind = 3))) := by
    cases v.fBool <;> by_cases h1 : v.fKind = 1 <;> by_cases h2 : v.fKind = 2 <;> by_cases h3 : v.fKind = 3 <;> by_cases hn : v.fNum = 0 <;> by_cases ht : v.fText = [] <;> simp [h1, h2, h3, hn, ht]
  rw [key, bnd]
  by_cases hk : (v.fBool = true → v.fKind = 1) ∧ (v.fNum ≠ 0 → v.fKind = 2) ∧ (v.fText ≠ [] → v.fKind = 3)
  · rw [decide_eq_true hk, Bool.not_true, cF]
    by_cases hl : v.fList.length = 0
    · rw [decide_eq_false (by omega), cF, bnd, cF]
      by_cases e5 : v.fKind = 5
      · rw [decide_eq_true e5, cT]
        refine congrArg some (decide_eq_decide.2 ?_)
        unfold PlainV
        constructor
        · intro h; exact ⟨by omega, by omega, hk.1, hk.2.1, hk.2.2, fun h => absurd hl h, fun _ => by omega, fun h => absurd e5 h⟩
        · intro h; have := h.2.2.2.2.2.2.1 e5; omega
      · rw [decide_eq_false e5, cF]
        refine congrArg some (decide_eq_decide.2 ?_)
        unfold PlainV
        constructor
        · intro h; exact ⟨by omega, by omega, hk.1, hk.2.1, hk.2.2, fun h => absurd hl h, fun h => absurd h e5, fun _ => by omega⟩
        · intro h; have := h.2.2.2.2.2.2.2 e5; omega
    · rw [decide_eq_true (by omega), cT]
      by_cases e4 : v.fKind = 4
      · rw [decide_eq_true e4, Bool.not_true, cF, bnd, cF, decide_eq_false (by omega), cF]
        refine congrArg some (decide_eq_decide.2 ?_)
        unfold PlainV
        constructor
        · intro h; exact ⟨by omega, by omega, hk.1, hk.2.1, hk.2.2, fun h => .inl e4, fun h => by omega, fun _ => by omega⟩
        · intro h; have := h.2.2.2.2.2.2.2 (by omega); omega
      · rw [decide_eq_false e4, Bool.not_false, cT]
        by_cases e5 : v.fKind = 5
        · rw [decide_eq_true e5, Bool.not_true, bnd, cF, cT]
          refine congrArg some (decide_eq_decide.2 ?_)
          unfold PlainV
          constructor
          · intro h; exact ⟨by omega, by omega, hk.1, hk.2.1, hk.2.2, fun h => .inr e5, fun _ => by omega, fun h => absurd e5 h⟩
          · intro h; have := h.2.2.2.2.2.2.1 e5; omega
        · rw [decide_eq_false e5, Bool.not_false, bnd, cT, decide_eq_false]
          intro h
          have := h.2.2.2.2.2.1 hl
          omega
  · rw [decide_eq_false hk, Bool.not_false, cT, decide_eq_false]
    intro h
    exact hk ⟨h.2.2.1, h.2.2.2.1, h.2.2.2.2.1⟩
theorem mem_take_succ {α : Type} {l : List α} {i : Nat} {x : α} (h : l[i]? = some x) (y : α) : y ∈ l.take (i + 1) ↔ y ∈ l.take i ∨ y = x := by
 rw [List.take_add_one, h, List.mem_append]
 simp
theorem nodup_take_succ {α : Type} {l : List α} {i : Nat} {x : α} (h : l[i]? = some x) : (l.take (i + 1)).Nodup ↔ (l.take i).Nodup ∧ x ∉ l.take i := by
 rw [List.take_add_one, h]
 simp only [Option.toList_some, List.nodup_append]
 constructor
 ·rintro ⟨h1, _, h3⟩
  exact ⟨h1, fun hx => h3 x hx x (by simp) rfl⟩
 ·rintro ⟨h1, h2⟩
  refine ⟨h1, by simp, fun a ha b hb => ?_⟩
  simp only [List.mem_singleton] at hb
  subst hb
  intro e
  exact h2 (e ▸ ha)
theorem nodup_of_take {α : Type} {l : List α} (i : Nat) (h : l.Nodup) : (l.take i).Nodup := (List.take_sublist i l).nodup h
theorem keys_ref {n : Nat} (hn : 6000 < n) {v : TA0} (hw : Wide v) : loopF (ref03_wrong_s1 n v) n (0 : Int) = some (bif v.fKeys.any (fun k => !Lib.validD k) then .inl () else .inr ()) := by
 rw [← any_range [] (fun k => !Lib.validD k) v.fKeys]
 refine loop_any (fun k => !Lib.validD (v.fKeys.getD k [])) v.fKeys.length _ _ (fun k hk => ?_) ?_ (by have := hw.2.1; omega)
 ·unfold ref03_wrong_s1
  have hm : v.fKeys.getD k [] ∈ v.fKeys := by simp [List.getD, hk]
  have hl := hw.2.2.2 _ hm
  rw [decide_eq_true (by omega), cT, getI_at [] hk, bnd, valid_ref (by omega) (by omega) (by omega), bnd]
  cases Lib.validD (v.fKeys.getD k []) with
  | true => rw [Bool.not_true, cF, need_i (by omega) (by have := hw.2.1; omega)]; simp
  | false => rw [Bool.not_false, cT]; simp
 ·unfold ref03_wrong_s1
  rw [decide_eq_false (by omega), cF]
theorem twice_in {n : Nat} (hn : 6000 < n) {v : TA0} (hw : Wide v) {i : Nat} (hi : i < v.fKeys.length) : loopF (ref03_wrong_s3 n v (i : Int)) n (0 : Int) = some (bif (List.range i).any (fun k => decide (v.fKeys.getD k [] = v.fKeys.getD i [])) then .inl () else .inr ()) := by
 refine loop_any (fun k => decide (v.fKeys.getD k [] = v.fKeys.getD i [])) i _ _ (fun k hk => ?_) ?_ (by have := hw.2.1; omega)
 ·unfold ref03_wrong_s3
  rw [decide_eq_true (by omega), cT, getI_at [] (by omega), bnd, getI_at [] hi, bnd]
  by_cases h : v.fKeys.getD k [] = v.fKeys.getD i []
  ·rw [decide_eq_true h, cT]; simp
  ·rw [decide_eq_false h, cF, need_i (by omega) (by have := hw.2.1; omega)]; simp
 ·unfold ref03_wrong_s3
  rw [decide_eq_false (by omega), cF]
theorem any_take {l : List (List UInt8)} {i : Nat} (hi : i < l.length) : (List.range i).any (fun k => decide (l.getD k [] = l.getD i [])) = decide (l[i] ∈ l.take i) := by
 rw [Bool.eq_iff_iff, List.any_eq_true, decide_eq_true_eq, List.mem_take_iff_getElem]
 constructor
 ·rintro ⟨k, hk, h⟩
  have hk' : k < i := by simpa using hk
  refine ⟨k, by omega, ?_⟩
  have := of_decide_eq_true h
  simpa [List.getD, hi, (by omega : k < l.length)] using this
 ·rintro ⟨k, hk, h⟩
  refine ⟨k, List.mem_range.2 (by omega), ?_⟩
  simpa [List.getD, hi, (by omega : k < l.length)] using h
theorem twice_ref {n : Nat} (hn : 6000 < n) {v : TA0} (hw : Wide v) : loopF (ref03_wrong_s2 n v) n (0 : Int) = some (bif decide v.fKeys.Nodup then .inr () else .inl ()) := by
 obtain ⟨b, hb, hp⟩ := loop_inv (step := ref03_wrong_s2 n v) (n := n) (s0 := (0 : Int)) (fun k s => s = (k : Int) ∧ (v.fKeys.take k).Nodup)
  (fun b => b = bif decide v.fKeys.Nodup then .inr () else .inl ()) v.fKeys.length ⟨rfl, by simp⟩
  (fun q s hq hI => by
   obtain ⟨rfl, hnd⟩ := hI
   unfold ref03_wrong_s2
   rw [decide_eq_true (by omega), cT, twice_in hn hw hq, bnd, any_take hq]
   have hx : v.fKeys[q]? = some v.fKeys[q] := List.getElem?_eq_getElem hq
   by_cases hm : v.fKeys[q] ∈ v.fKeys.take q
   ·rw [decide_eq_true hm, cT]
    refine .inr ⟨_, rfl, ?_⟩
    rw [decide_eq_false, cF]
    intro h
    exact ((nodup_take_succ hx).1 (nodup_of_take (q + 1) h)).2 hm
   ·rw [decide_eq_false hm, cF]
    dsimp only
    rw [need_i (by omega) (by have := hw.2.1; omega)]
    exact .inl ⟨_, rfl, by omega, (nodup_take_succ hx).2 ⟨hnd, hm⟩⟩)
  (fun s hI => by
   obtain ⟨rfl, hnd⟩ := hI
   rw [List.take_length] at hnd
   unfold ref03_wrong_s2
   rw [decide_eq_false (by omega), cF]
   exact ⟨_, rfl, by rw [decide_eq_true hnd, cT]⟩) (by have := hw.2.1; omega)
 rw [hb, hp]
def faultL : List TA0 → Int
  | [] => 0
  | x :: r => if aloneV x = 0 then faultL r else aloneV x
theorem faultL_app : ∀ l m : List TA0, faultL (l ++ m) = if faultL l = 0 then faultL m else faultL l
 | [], m => by simp [faultL]
 | x :: l, m => by
  rw [List.cons_append, faultL, faultL, faultL_app l m]
  by_cases h : aloneV x = 0
  ·rw [if_pos h, if_pos h]
  ·rw [if_neg h, if_neg h, if_neg h]
theorem faultL_cons_walk (v : TA0) : faultL (walkV v) = if aloneV v = 0 then faultL (walkVs v.fList) else aloneV v := by rw [walkV_eq, faultL]
theorem faultL_take {l : List TA0} {i : Nat} {x : TA0} (h : l[i]? = some x) : faultL (walkVs (l.take (i + 1))) = if faultL (walkVs (l.take i)) = 0 then faultL (walkV x) else faultL (walkVs (l.take i)) := by rw [walkVs_take h, faultL_app]
theorem wrong_ref {n : Nat} (hn : 6000 < n) : ∀ (k d : Nat) (v : TA0), d ≤ k → Small d v → ref03_wrong_k n k v = some (faultL (walkV v))
 | _, 0, v, _, h => h.elim
 | 0, d + 1, v, h, _ => absurd h (by omega)
 | k + 1, d + 1, v, hk, hs => by
  have hw := hs.wide
  obtain ⟨h1, h2, h3, h4, h5⟩ := hs
  show ref03_wrong_b n (ref03_wrong_k n k) v = _
  unfold ref03_wrong_b
  rw [faultL_cons_walk, plain_ref, bnd]
  by_cases hp : PlainV v
  ·rw [decide_eq_true hp, Bool.not_true, cF]
   by_cases hnum : NumOut v
   ·rw [alone_20 hp hnum, if_neg (by decide)]
    rcases hnum with hm | hm
    ·rw [decide_eq_true hm, cT, bnd, cT]
    ·by_cases hm' : v.fNum < -9007199254740992
     ·omega
     ·rw [decide_eq_false hm', cF, bnd, decide_eq_true hm, cT]
   ·have hnum' : ¬ (v.fNum < -9007199254740992 ∨ 9007199254740992 < v.fNum) := hnum
    rw [decide_eq_false (by omega), cF, bnd, decide_eq_false (by omega), cF, valid_ref (by omega) (by omega) (by omega), bnd, keys_ref hn hw, twice_ref hn hw]
    cases hv : Lib.validD v.fText with
    | false =>
     rw [Bool.not_false, cT, alone_10 hp hnum (fun h => by rw [h.1] at hv; cases hv), if_neg (by decide)]
    | true =>
     rw [Bool.not_true, cF, bnd]
     by_cases ha : ∀ k ∈ v.fKeys, Lib.validD k = true
     ·have : v.fKeys.any (fun k => !Lib.validD k) = false := by
       rw [List.any_eq_false]
       intro x hx
       simp [ha x hx]
      rw [this, cF]
      dsimp only
      rw [bnd]
      by_cases hd : v.fKeys.Nodup
      ·rw [decide_eq_true hd, cT, alone_0 hp hnum ⟨hv, ha⟩ hd, if_pos rfl]
       dsimp only
       obtain ⟨b, hb, hpost⟩ := loop_inv (step := ref03_wrong_s4 n (ref03_wrong_k n k) v) (n := n) (s0 := (0 : Int)) (fun q s => s = (q : Int) ∧ faultL (walkVs (v.fList.take q)) = 0)
        (fun b => match b with | .inl e => e = faultL (walkVs v.fList) | .inr () => faultL (walkVs v.fList) = 0) v.fList.length ⟨rfl, by simp [walkVs, faultL]⟩
        (fun q s hq hI => by
         obtain ⟨rfl, hf⟩ := hI
         have hx : v.fList[q]? = some v.fList[q] := List.getElem?_eq_getElem hq
         have hg : getI v.fList (q : Int) = some v.fList[q] := by simp [getI]
         have hft := faultL_take hx
         rw [if_pos hf] at hft
         unfold ref03_wrong_s4
         rw [decide_eq_true (by omega), cT, hg, bnd, wrong_ref hn k d _ (by omega) (h5 _ (List.getElem_mem hq)), bnd]
         by_cases he : faultL (walkV v.fList[q]) = 0
         ·rw [decide_eq_true he, Bool.not_true, cF, need_i (by omega) (by omega)]
          exact .inl ⟨_, rfl, by omega, by rw [hft]; exact he⟩
         ·rw [decide_eq_false he, Bool.not_false, cT]
          refine .inr ⟨_, rfl, ?_⟩
          have hsplit : walkVs v.fList = walkVs (v.fList.take (q + 1)) ++ walkVs (v.fList.drop (q + 1)) := by rw [← walkVs_app, List.take_append_drop]
          dsimp only
          rw [hsplit, faultL_app, hft, if_neg he])
        (fun s hI => by
         obtain ⟨rfl, hf⟩ := hI
         rw [List.take_length] at hf
         unfold ref03_wrong_s4
         rw [decide_eq_false (by omega), cF]
         exact ⟨_, rfl, hf⟩) (by omega)
       rw [hb, bnd]
       cases b with
       | inl e => dsimp only at hpost ⊢; rw [hpost]
       | inr u => dsimp only at hpost ⊢; rw [hpost]
      ·rw [decide_eq_false hd, cF, alone_41 hp hnum ⟨hv, ha⟩ hd, if_neg (by decide)]
     ·rw [alone_10 hp hnum (fun h => ha h.2), if_neg (by decide)]
      have : v.fKeys.any (fun k => !Lib.validD k) = true := by
       rw [List.any_eq_true]
       apply Classical.byContradiction
       intro h
       apply ha
       intro k hk
       cases hvk : Lib.validD k with
       | true => rfl
       | false => exact absurd ⟨k, hk, by simp [hvk]⟩ h
      rw [this, cT]
  ·rw [decide_eq_false hp, Bool.not_false, cT, alone_2 hp, if_neg (by decide)]
end Go.Proofs.YtfaedhhjamaniaaGreatDoor
end
section
namespace Go.Proofs.YtfaedhhjamaniaaGreatDoor
open Go Go.Vc Go.RowKit
theorem valid_run {n : Nat} {s : List UInt8} (h : s.length < 1000000) : runes_Valid n s = some (Lib.validD s) := by
 unfold runes_Valid h_ValidString
 rw [need_t (by omega), bnd]
theorem contains_run {n : Nat} (hn : 6000 < n) {v : TA0} (hw : Wide v) : slices_ContainsFuncstring_string n v.fKeys = some (v.fKeys.any (fun k => !Lib.validD k)) := by
 unfold slices_ContainsFuncstring_string slices_IndexFuncstring_string
 have hl := hw.2.1
 have hd : ∀ k : Nat, k < v.fKeys.length → slices_IndexFuncstring_string_s1 n v.fKeys (k : Int) = some (if !Lib.validD (v.fKeys.getD k []) then .br (.inl (k : Int)) else .nx ((k : Int) + 1)) := fun k hk => by
  unfold slices_IndexFuncstring_string_s1 tree_alone_1
  have hm : v.fKeys.getD k [] ∈ v.fKeys := by simp [List.getD, hk]
  have := hw.2.2.2 _ hm
  rw [decide_eq_true (by omega), cT, getI_at [] hk, bnd, valid_run (by omega), bnd, bnd]
  cases Lib.validD (v.fKeys.getD k []) with
  | true => rw [Bool.not_true, cF, need_i (by omega) (by omega)]; rfl
  | false => rw [Bool.not_false, cT]; rfl
 obtain ⟨b, hb, hp⟩ := loop_inv (step := slices_IndexFuncstring_string_s1 n v.fKeys) (n := n) (s0 := (0 : Int)) (fun q s => s = (q : Int) ∧ ∀ k ∈ v.fKeys.take q, Lib.validD k = true)
  (fun b => match b with | .inl i => 0 ≤ i ∧ v.fKeys.any (fun k => !Lib.validD k) = true | .inr () => v.fKeys.any (fun k => !Lib.validD k) = false) v.fKeys.length ⟨rfl, by simp⟩
  (fun q s hq hI => by
   obtain ⟨rfl, hf⟩ := hI
   have hx : v.fKeys[q]? = some v.fKeys[q] := List.getElem?_eq_getElem hq
   rw [hd q hq]
   have hg : v.fKeys.getD q [] = v.fKeys[q] := by simp [List.getD, hq]
   rw [hg]
   cases hv : Lib.validD v.fKeys[q] with
   | true =>
    refine .inl ⟨_, rfl, by omega, fun k hk => ?_⟩
    rcases (mem_take_succ hx k).1 hk with h | h
    ·exact hf k h
    ·rw [h]; exact hv
   | false =>
    refine .inr ⟨_, rfl, by omega, ?_⟩
    rw [List.any_eq_true]
    exact ⟨_, List.getElem_mem hq, by simp [hv]⟩)
  (fun s hI => by
   obtain ⟨rfl, hf⟩ := hI
   rw [List.take_length] at hf
   unfold slices_IndexFuncstring_string_s1
   rw [decide_eq_false (by omega), cF]
   refine ⟨_, rfl, ?_⟩
   dsimp only
   rw [List.any_eq_false]
   intro x hx
   simp [hf x hx]) (by omega)
 rw [hb, bnd]
 cases b with
 | inl i => dsimp only at hp ⊢; rw [bnd, hp.2, decide_eq_true hp.1]
 | inr u => dsimp only at hp ⊢; rw [bnd, hp]; rfl
theorem twice_run {n : Nat} (hn : 6000 < n) {v : TA0} (hw : Wide v) : ∃ b, loopF (tree_alone_s1 n v) n ((0 : Int), ([] : List ((List UInt8) × Bool))) = some b ∧ (match b with | .inl _ => ¬ v.fKeys.Nodup | .inr _ => v.fKeys.Nodup) := by
 have hl := hw.2.1
 refine loop_inv (step := tree_alone_s1 n v) (n := n) (fun q s => s.1 = (q : Int) ∧ (∀ x, (mget s.2 x).getD false = decide (x ∈ v.fKeys.take q)) ∧ (v.fKeys.take q).Nodup)
  (fun b => match b with | .inl _ => ¬ v.fKeys.Nodup | .inr _ => v.fKeys.Nodup) v.fKeys.length ⟨rfl, fun x => by simp [mget], by simp⟩
  (fun q s hq hI => ?_) (fun s hI => ?_) (by omega)
 ·obtain ⟨i, m⟩ := s
  obtain ⟨h1, h2, h3⟩ := hI
  have h1' : i = (q : Int) := h1
  subst h1'
  dsimp only at h2
  have hx : v.fKeys[q]? = some v.fKeys[q] := List.getElem?_eq_getElem hq
  have hg : getI v.fKeys (q : Int) = some v.fKeys[q] := by simp [getI]
  unfold tree_alone_s1
  dsimp only
  rw [decide_eq_true (by omega), cT, hg, bnd, h2]
  by_cases hm : v.fKeys[q] ∈ v.fKeys.take q
  ·rw [decide_eq_true hm, cT]
   exact .inr ⟨_, rfl, fun h => ((nodup_take_succ hx).1 (nodup_of_take (q + 1) h)).2 hm⟩
  ·rw [decide_eq_false hm, cF, need_i (by omega) (by omega)]
   refine .inl ⟨_, rfl, by dsimp only; omega, fun x => ?_, (nodup_take_succ hx).2 ⟨h3, hm⟩⟩
   dsimp only
   rw [mget_mput]
   by_cases hxe : v.fKeys[q] = x
   ·rw [if_pos hxe, decide_eq_true ((mem_take_succ hx x).2 (.inr hxe.symm))]; rfl
   ·rw [if_neg hxe, h2]
    refine decide_eq_decide.2 ?_
    rw [mem_take_succ hx]
    exact ⟨.inl, fun h => h.elim id fun h => absurd h.symm hxe⟩
 ·obtain ⟨i, m⟩ := s
  obtain ⟨h1, h2, h3⟩ := hI
  have h1' : i = (v.fKeys.length : Int) := h1
  subst h1'
  rw [List.take_length] at h3
  unfold tree_alone_s1
  dsimp only
  rw [decide_eq_false (by omega), cF]
  exact ⟨_, rfl, h3⟩
theorem alone_run {n : Nat} (hn : 6000 < n) {v : TA0} (hw : Wide v) : tree_alone n v = some (aloneV v) := by
 obtain ⟨hl, hk, ht, hkk⟩ := id hw
 unfold tree_alone
 -- the rest: either 2 at once, or what is left
 have tail : ∀ y : Bool × Int × List UInt8 × List TA0 × List (List UInt8), y.2.2.2.1.length ≤ 3000 → y.2.2.2.2.length ≤ 3000 → (PlainV v ↔ (y.1 = false ∧ y.2.1 = 0 ∧ y.2.2.1 = [] ∧ y.2.2.2.1.length = 0 ∧ y.2.2.2.2.length = 0)) →
   (((((bif y.1 then
    (some ((true)))
   else
    bif (!(decide (y.2.1 = 0))) then
     (some ((true)))
    else
     bif (!(decide (y.2.2.1 = []))) then
      (some ((true)))
     else
      need (inR .i64 (((y.2.2.2.1.length : Nat) : Int) + ((y.2.2.2.2.length : Nat) : Int))) <|
      some ((decide ((0 : Int) < (((y.2.2.2.1.length : Nat) : Int) + ((y.2.2.2.2.length : Nat) : Int))))) : Option Bool)).bind fun y_2 =>
  bif y_2 then
   (((some ((2 : Int)) : Option Int)).map Lp.br)
  else
   ((bif (decide (v.fNum < (-9007199254740992))) then
     (some ((true)))
    else
     some ((decide ((9007199254740992 : Int) < v.fNum))) : Option Bool)).bind fun y_3 =>
   bif y_3 then
    (((some ((20 : Int)) : Option Int)).map Lp.br)
   else
    (runes_Valid n v.fText).bind fun x_1 =>
    bif !x_1 then
     (((some ((10 : Int)) : Option Int)).map Lp.br)
    else
     (slices_ContainsFuncstring_string n v.fKeys).bind fun x_2 =>
     bif x_2 then
      (((some ((10 : Int)) : Option Int)).map Lp.br)
     else
      some (.nx ()) : Option (Lp Unit Int))).bind fun j => joinF j fun _ =>
 (loopF (tree_alone_s1 n v) n ((0 : Int), ([] : List ((List UInt8) × Bool)))).bind fun b_2 =>
 (match b_2 with 
 | .inl y_5 => some ((41 : Int)) 
 | .inr y_6 => some ((0 : Int)))) = some (aloneV v) := by
  intro y hy1 hy2 hy
  have e : (bif y.1 then
    (some ((true)))
   else
    bif (!(decide (y.2.1 = 0))) then
     (some ((true)))
    else
     bif (!(decide (y.2.2.1 = []))) then
      (some ((true)))
     else
      need (inR .i64 (((y.2.2.2.1.length : Nat) : Int) + ((y.2.2.2.2.length : Nat) : Int))) <|
      some ((decide ((0 : Int) < (((y.2.2.2.1.length : Nat) : Int) + ((y.2.2.2.2.length : Nat) : Int))))) : Option Bool) = some (!decide (PlainV v)) := by
   rw [need_i (by omega) (by omega)]
   by_cases hp : PlainV v
   ·obtain ⟨a1, a2, a3, a4, a5⟩ := hy.1 hp
    rw [a1, cF, decide_eq_true a2, Bool.not_true, cF, decide_eq_true a3, Bool.not_true, cF, decide_eq_false (by omega), decide_eq_true hp]; rfl
   ·rw [decide_eq_false hp, Bool.not_false]
    cases hb : y.1 with
    | true => rw [cT]
    | false =>
     rw [cF]
     by_cases h2 : y.2.1 = 0
     ·rw [decide_eq_true h2, Bool.not_true, cF]
      by_cases h3 : y.2.2.1 = []
      ·rw [decide_eq_true h3, Bool.not_true, cF, decide_eq_true]
       by_cases h4 : y.2.2.2.1.length = 0
       ·by_cases h5 : y.2.2.2.2.length = 0
        ·exact absurd (hy.2 ⟨hb, h2, h3, h4, h5⟩) hp
        ·omega
       ·omega
      ·rw [decide_eq_false h3, Bool.not_false, cT]
     ·rw [decide_eq_false h2, Bool.not_false, cT]
  rw [e, bnd]
  by_cases hp : PlainV v
  ·rw [decide_eq_true hp, Bool.not_true, cF]
   by_cases hnum : NumOut v
   ·rw [alone_20 hp hnum]
    rcases hnum with hm | hm
    ·rw [decide_eq_true hm, cT, bnd, cT, mpS, bnd, jB]
    ·by_cases hm' : v.fNum < -9007199254740992
     ·omega
     ·rw [decide_eq_false hm', cF, bnd, decide_eq_true hm, cT, mpS, bnd, jB]
   ·have hnum' : ¬ (v.fNum < -9007199254740992 ∨ 9007199254740992 < v.fNum) := hnum
    rw [decide_eq_false (by omega), cF, bnd, decide_eq_false (by omega), cF, valid_run (by omega), bnd, contains_run hn hw]
    cases hv : Lib.validD v.fText with
    | false => rw [Bool.not_false, cT, mpS, bnd, jB, alone_10 hp hnum (fun h => by rw [h.1] at hv; cases hv)]
    | true =>
     rw [Bool.not_true, cF, bnd]
     by_cases ha : ∀ k ∈ v.fKeys, Lib.validD k = true
     ·have : v.fKeys.any (fun k => !Lib.validD k) = false := by
       rw [List.any_eq_false]
       intro x hx
       simp [ha x hx]
      rw [this, cF, bnd, jN]
      obtain ⟨b, hb, hpost⟩ := twice_run hn hw
      rw [hb, bnd]
      cases b with
      | inl m => dsimp only at hpost ⊢; rw [alone_41 hp hnum ⟨hv, ha⟩ hpost]
      | inr m => dsimp only at hpost ⊢; rw [alone_0 hp hnum ⟨hv, ha⟩ hpost]
     ·have : v.fKeys.any (fun k => !Lib.validD k) = true := by
       rw [List.any_eq_true]
       apply Classical.byContradiction
       intro h
       apply ha
       intro k hk
       cases hvk : Lib.validD k with
       | true => rfl
       | false => exact absurd ⟨k, hk, by simp [hvk]⟩ h
      rw [this, cT, mpS, bnd, jB, alone_10 hp hnum (fun h => ha h.2)]
  ·rw [decide_eq_false hp, Bool.not_false, cT, mpS, bnd, jB, alone_2 hp]
 have len0 : ∀ {α : Type} {l : List α}, l = [] ↔ l.length = 0 := fun {α l} => by simp
 by_cases h0 : v.fKind = 0
 ·rw [decide_eq_true h0, cT, bnd, jN]
  refine tail _ hl hk ?_
  unfold PlainV
  dsimp only
  rw [h0]
  constructor
  ·rintro ⟨_, _, a, b, c, d, _, e⟩
   refine ⟨?_, ?_, ?_, ?_, e (by omega)⟩
   ·cases hb : v.fBool with
    | false => rfl
    | true => have := a hb; omega
   ·apply Classical.byContradiction; intro h; have := b h; omega
   ·apply Classical.byContradiction; intro h; have := c h; omega
   ·apply Classical.byContradiction; intro h; have := d h; omega
  ·rintro ⟨a, b, c, d, e⟩
   exact ⟨by omega, by omega, fun h => (by rw [a] at h; cases h), fun h => absurd b h, fun h => absurd c h, fun h => absurd d h, fun h => by omega, fun _ => e⟩
 rw [decide_eq_false h0, cF]
 by_cases h1 : v.fKind = 1
 ·rw [decide_eq_true h1, cT, bnd, jN]
  refine tail _ hl hk ?_
  unfold PlainV
  dsimp only
  rw [h1]
  constructor
  ·rintro ⟨_, _, a, b, c, d, _, e⟩
   refine ⟨rfl, ?_, ?_, ?_, e (by omega)⟩
   ·apply Classical.byContradiction; intro h; have := b h; omega
   ·apply Classical.byContradiction; intro h; have := c h; omega
   ·apply Classical.byContradiction; intro h; have := d h; omega
  ·rintro ⟨_, b, c, d, e⟩
   exact ⟨by omega, by omega, fun _ => rfl, fun h => absurd b h, fun h => absurd c h, fun h => absurd d h, fun h => by omega, fun _ => e⟩
 rw [decide_eq_false h1, cF]
 by_cases h2 : v.fKind = 2
 ·rw [decide_eq_true h2, cT, bnd, jN]
  refine tail _ hl hk ?_
  unfold PlainV
  dsimp only
  rw [h2]
  constructor
  ·rintro ⟨_, _, a, b, c, d, _, e⟩
   refine ⟨?_, rfl, ?_, ?_, e (by omega)⟩
   ·cases hb : v.fBool with
    | false => rfl
    | true => have := a hb; omega
   ·apply Classical.byContradiction; intro h; have := c h; omega
   ·apply Classical.byContradiction; intro h; have := d h; omega
  ·rintro ⟨a, _, c, d, e⟩
   exact ⟨by omega, by omega, fun h => (by rw [a] at h; cases h), fun _ => rfl, fun h => absurd c h, fun h => absurd d h, fun h => by omega, fun _ => e⟩
 rw [decide_eq_false h2, cF]
 by_cases h3 : v.fKind = 3
 ·rw [decide_eq_true h3, cT, bnd, jN]
  refine tail _ hl hk ?_
  unfold PlainV
  dsimp only
  rw [h3]
  constructor
  ·rintro ⟨_, _, a, b, c, d, _, e⟩
   refine ⟨?_, ?_, rfl, ?_, e (by omega)⟩
   ·cases hb : v.fBool with
    | false => rfl
    | true => have := a hb; omega
   ·apply Classical.byContradiction; intro h; have := b h; omega
   ·apply Classical.byContradiction; intro h; have := d h; omega
  ·rintro ⟨a, b, _, d, e⟩
   exact ⟨by omega, by omega, fun h => (by rw [a] at h; cases h), fun h => absurd b h, fun _ => rfl, fun h => absurd d h, fun h => by omega, fun _ => e⟩
 rw [decide_eq_false h3, cF]
 by_cases h4 : v.fKind = 4
 ·rw [decide_eq_true h4, cT, bnd, jN]
  refine tail _ (by simp) hk ?_
  unfold PlainV
  dsimp only
  rw [h4]
  constructor
  ·rintro ⟨_, _, a, b, c, d, _, e⟩
   refine ⟨?_, ?_, ?_, rfl, e (by omega)⟩
   ·cases hb : v.fBool with
    | false => rfl
    | true => have := a hb; omega
   ·apply Classical.byContradiction; intro h; have := b h; omega
   ·apply Classical.byContradiction; intro h; have := c h; omega
  ·rintro ⟨a, b, c, _, e⟩
   exact ⟨by omega, by omega, fun h => (by rw [a] at h; cases h), fun h => absurd b h, fun h => absurd c h, fun _ => .inl rfl, fun h => by omega, fun _ => e⟩
 rw [decide_eq_false h4, cF]
 by_cases h5 : v.fKind = 5
 ·rw [decide_eq_true h5, cT]
  by_cases hkl : v.fKeys.length = v.fList.length
  ·rw [decide_eq_true (by omega), Bool.not_true, cF, bnd, jN]
   refine tail _ (by simp) (by simp) ?_
   unfold PlainV
   dsimp only
   rw [h5]
   constructor
   ·rintro ⟨_, _, a, b, c, d, _, e⟩
    refine ⟨?_, ?_, ?_, rfl, rfl⟩
    ·cases hb : v.fBool with
     | false => rfl
     | true => have := a hb; omega
    ·apply Classical.byContradiction; intro h; have := b h; omega
    ·apply Classical.byContradiction; intro h; have := c h; omega
   ·rintro ⟨a, b, c, _, _⟩
    exact ⟨by omega, by omega, fun h => (by rw [a] at h; cases h), fun h => absurd b h, fun h => absurd c h, fun _ => .inr rfl, fun _ => hkl, fun h => absurd rfl h⟩
  ·rw [decide_eq_false (by omega), Bool.not_false, cT, mpS, bnd, jB, alone_2 (fun h => hkl (h.2.2.2.2.2.2.1 h5))]
 ·rw [decide_eq_false h5, cF, mpS, bnd, jB, alone_2]
  intro h
  have a := h.1
  have b := h.2.1
  omega
end Go.Proofs.YtfaedhhjamaniaaGreatDoor
end
section
namespace Go.Proofs.YtfaedhhjamaniaaGreatDoor
open Go Go.Vc Go.RowKit
mutual
def depthV : TA0 → Nat
  | ⟨_, _, _, _, l, _⟩ => depthVs l + 1
def depthVs : List TA0 → Nat
  | [] => 0
  | x :: r => max (depthV x) (depthVs r)
end
theorem depthV_eq (v : TA0) : depthV v = depthVs v.fList + 1 := by cases v; rw [depthV]
theorem depthVs_app : ∀ l m : List TA0, depthVs (l ++ m) = max (depthVs l) (depthVs m)
 | [], m => by simp [depthVs]
 | x :: l, m => by rw [List.cons_append, depthVs, depthVs, depthVs_app l m]; omega
theorem depthVs_take {l : List TA0} {i : Nat} {x : TA0} (h : l[i]? = some x) : depthVs (l.take (i + 1)) = max (depthVs (l.take i)) (depthV x) := by
 rw [List.take_add_one, h, depthVs_app]
 simp [depthVs]
theorem depthVs_mem : ∀ {l : List TA0} {x : TA0}, x ∈ l → depthV x ≤ depthVs l
 | y :: r, x, h => by
  rw [depthVs]
  rcases List.mem_cons.1 h with rfl | h
  ·omega
  ·have := depthVs_mem h
   omega
theorem depthV_pos (v : TA0) : 1 ≤ depthV v := by rw [depthV_eq]; omega
theorem depth_run {n : Nat} (hn : 6000 < n) : ∀ (k d : Nat) (v : TA0) (left : Nat), d ≤ k → Small d v → left ≤ 1000 → tree_depth_k n k v (left : Int) = some ((min (depthV v) (left + 1) : Nat) : Int)
 | _, 0, v, _, _, h, _ => h.elim
 | 0, d + 1, v, _, h, _, _ => absurd h (by omega)
 | k + 1, d + 1, v, left, hk, hs, hle => by
  obtain ⟨h1, h2, h3, h4, h5⟩ := hs
  show tree_depth_b n (tree_depth_k n k) v left = _
  unfold tree_depth_b
  have := loop_all (step := tree_depth_s1 n (tree_depth_k n k) v (left : Int)) (n := n) (fun q => (((min (depthVs (v.fList.take q)) left : Nat) : Int), (q : Int))) v.fList.length ((min (depthVs v.fList) left : Nat) : Int) (fun q hq => by
   have hx : v.fList[q]? = some v.fList[q] := List.getElem?_eq_getElem hq
   have hg : getI v.fList (q : Int) = some v.fList[q] := by simp [getI]
   unfold tree_depth_s1
   dsimp only
   rw [decide_eq_true (by omega), cT]
   by_cases hl : left = 0
   ·subst hl
    rw [decide_eq_false (by omega), cF, need_i (by omega) (by omega)]
    simp
   ·have hl1 : ((left : Nat) : Int) - 1 = ((left - 1 : Nat) : Int) := by omega
    rw [decide_eq_true (by omega), cT, hg, bnd, need_i (by omega) (by omega), hl1, depth_run hn k d _ (left - 1) (by omega) (h5 _ (List.getElem_mem hq)) (by omega), bnd, need_i (by omega) (by omega), depthVs_take hx]
    congr 3
    omega) (by
   unfold tree_depth_s1
   dsimp only
   rw [decide_eq_false (by omega), cF, List.take_length]) (by omega)
  have e0 : ((0 : Nat) : Int) = 0 := rfl
  simp only [List.take_zero, depthVs, Nat.zero_min, e0] at this
  rw [this, bnd, need_i (by omega) (by omega), depthV_eq]
  congr 1
  omega
theorem deeper_ref {n : Nat} (hn : 6000 < n) : ∀ (k d : Nat) (v : TA0) (left : Nat), d ≤ k → Small d v → left ≤ 1000 → ref03_deeper_k n k v (left : Int) = some (decide (left < depthV v))
 | _, 0, v, _, _, h, _ => h.elim
 | 0, d + 1, v, _, h, _, _ => absurd h (by omega)
 | k + 1, d + 1, v, left, hk, hs, hle => by
  obtain ⟨h1, h2, h3, h4, h5⟩ := hs
  show ref03_deeper_b n (ref03_deeper_k n k) v left = _
  unfold ref03_deeper_b
  by_cases hl : left = 0
  ·subst hl
   have := depthV_pos v
   rw [decide_eq_true (by omega), cT, decide_eq_true (by omega)]
  rw [decide_eq_false (by omega), cF]
  obtain ⟨b, hb, hp⟩ := loop_inv (step := ref03_deeper_s1 n (ref03_deeper_k n k) v (left : Int)) (n := n) (s0 := (0 : Int)) (fun q s => s = (q : Int) ∧ depthVs (v.fList.take q) < left) (fun b => match b with | .inl _ => left ≤ depthVs v.fList | .inr _ => depthVs v.fList < left) v.fList.length ⟨rfl, by simp [depthVs]; omega⟩ (fun q s hq hI => by
   obtain ⟨rfl, hI⟩ := hI
   have hx : v.fList[q]? = some v.fList[q] := List.getElem?_eq_getElem hq
   have hg : getI v.fList (q : Int) = some v.fList[q] := by simp [getI]
   have hm : v.fList[q] ∈ v.fList := List.getElem_mem hq
   have hdm := depthVs_mem hm
   unfold ref03_deeper_s1
   have hl1 : ((left : Nat) : Int) - 1 = ((left - 1 : Nat) : Int) := by omega
   rw [decide_eq_true (by omega), cT, hg, bnd, need_i (by omega) (by omega), hl1, deeper_ref hn k d _ (left - 1) (by omega) (h5 _ hm) (by omega), bnd]
   by_cases hd : left - 1 < depthV v.fList[q]
   ·rw [decide_eq_true hd, cT]
    refine .inr ⟨_, rfl, ?_⟩
    dsimp only
    omega
   ·rw [decide_eq_false hd, cF, need_i (by omega) (by omega)]
    refine .inl ⟨_, rfl, by omega, ?_⟩
    rw [depthVs_take hx]
    omega) (fun s hI => by
   obtain ⟨rfl, hI⟩ := hI
   rw [List.take_length] at hI
   unfold ref03_deeper_s1
   rw [decide_eq_false (by omega), cF]
   exact ⟨_, rfl, hI⟩) (by omega)
  rw [hb, bnd]
  have := depthV_eq v
  cases b with
  | inl u => dsimp only at hp ⊢; rw [decide_eq_true (by omega)]
  | inr u => dsimp only at hp ⊢; rw [decide_eq_false (by omega)]
theorem count_ref {n : Nat} (hn : 6000 < n) : ∀ (k d : Nat) (v : TA0), d ≤ k → Small d v → (walkV v).length ≤ 5900 → ref03_Count_k n k v = some ((walkV v).length : Int)
 | _, 0, v, _, h, _ => h.elim
 | 0, d + 1, v, h, _, _ => absurd h (by omega)
 | k + 1, d + 1, v, hk, hs, hlen => by
  obtain ⟨h1, h2, h3, h4, h5⟩ := hs
  show ref03_Count_b n (ref03_Count_k n k) v = _
  unfold ref03_Count_b
  have hwl : (walkV v).length = (walkVs v.fList).length + 1 := by rw [walkV_eq, List.length_cons]
  have := loop_all (step := ref03_Count_s1 n (ref03_Count_k n k) v) (n := n) (fun q => (((walkVs (v.fList.take q)).length : Int) + 1, (q : Int))) v.fList.length ((walkVs v.fList).length + 1 : Int) (fun q hq => by
   have hx : v.fList[q]? = some v.fList[q] := List.getElem?_eq_getElem hq
   have hg : getI v.fList (q : Int) = some v.fList[q] := by simp [getI]
   have hm : v.fList[q] ∈ v.fList := List.getElem_mem hq
   have hw1 := walkVs_mem hm
   have hw2 : (walkVs (v.fList.take q)).length ≤ (walkVs v.fList).length := by
    have := congrArg List.length (walkVs_app (v.fList.take q) (v.fList.drop q))
    rw [List.take_append_drop, List.length_append] at this
    omega
   unfold ref03_Count_s1
   dsimp only
   rw [decide_eq_true (by omega), cT, hg, bnd, count_ref hn k d _ (by omega) (h5 _ hm) (by omega), bnd, need_i (by omega) (by omega), need_i (by omega) (by omega), walkVs_take hx, List.length_append]
   congr 3
   push_cast
   omega) (by
   unfold ref03_Count_s1
   dsimp only
   rw [decide_eq_false (by omega), cF, List.take_length]) (by omega)
  have e0 : ((0 : Nat) : Int) = 0 := rfl
  have e1 : (0 : Int) + 1 = 1 := rfl
  simp only [List.take_zero, walkVs, List.length_nil, e0, e1] at this
  rw [this, bnd, hwl]
  rfl
structure Fine (v : TA0) : Prop where
  small : Small 60 v
  few : (walkV v).length ≤ 5900
theorem Small.le : ∀ {d e : Nat} {v : TA0}, d ≤ e → Small d v → Small e v
 | 0, _, _, _, h => h.elim
 | d + 1, 0, _, hde, _ => absurd hde (by omega)
 | d + 1, e + 1, _, hde, h => ⟨h.1, h.2.1, h.2.2.1, h.2.2.2.1, fun x hx => Small.le (by omega) (h.2.2.2.2 x hx)⟩
theorem small_walk : ∀ {d : Nat} {v x : TA0}, Small d v → x ∈ walkV v → Small d x
 | d + 1, v, x, h, hx => by
  rw [walkV_eq] at hx
  rcases List.mem_cons.1 hx with rfl | hx
  ·exact h
  ·have key : ∀ l : List TA0, (∀ y ∈ l, Small d y) → x ∈ walkVs l → Small d x := by
    intro l
    induction l with
    | nil => intro _ hx; simp [walkVs] at hx
    | cons y r ih =>
     intro hl hx
     rw [walkVs, List.mem_append] at hx
     rcases hx with hx | hx
     ·exact small_walk (hl y List.mem_cons_self) hx
     ·exact ih (fun z hz => hl z (List.mem_cons_of_mem _ hz)) hx
   exact Small.le (by omega) (key _ h.2.2.2.2 hx)
def checkV (v : TA0) : Int := if 24 < depthV v then 30 else if faultL (walkV v) = 0 then (if 4096 < (walkV v).length then 3 else 0) else faultL (walkV v)
theorem check_ref {n : Nat} (hn : 6000 < n) {v : TA0} (h : Fine v) : ref03_Check n v = some (checkV v) := by
 unfold ref03_Check ref03_deeper ref03_wrong ref03_Count checkV
 have e : ((24 : Nat) : Int) = 24 := rfl
 have := deeper_ref hn n 60 v 24 (by omega) h.small (by omega)
 rw [e] at this
 rw [this, bnd]
 by_cases hd : 24 < depthV v
 ·rw [decide_eq_true hd, cT, if_pos hd]
 ·rw [decide_eq_false hd, cF, if_neg hd, wrong_ref hn n 60 v (by omega) h.small, bnd]
  by_cases hf : faultL (walkV v) = 0
  ·rw [if_pos hf, decide_eq_true hf, Bool.not_true, cF, count_ref hn n 60 v (by omega) h.small h.few, bnd]
   by_cases hc : 4096 < (walkV v).length
   ·rw [if_pos hc, decide_eq_true (by omega), cT]
   ·rw [if_neg hc, decide_eq_false (by omega), cF]
  ·rw [if_neg hf, decide_eq_false hf, Bool.not_false, cT]
theorem check_fold {n : Nat} (hn : 6000 < n) : ∀ (l : List TA0) (s : Nat), (∀ x ∈ l, Wide x) → s + l.length ≤ 6000 → ∃ j, foldY (tree_Check_s1 n) l (s : Int) = some j ∧ (match j with | .nx t => faultL l = 0 ∧ t = ((s + l.length : Nat) : Int) | .br b => faultL l ≠ 0 ∧ b.2 = faultL l)
 | [], s, _, _ => ⟨_, rfl, rfl, by simp⟩
 | x :: r, s, hw, hl => by
  rw [List.length_cons] at hl
  unfold foldY faultL
  have e : tree_Check_s1 n (s : Int) x = if aloneV x = 0 then some (.nx ((s + 1 : Nat) : Int)) else some (.br ((s : Int), aloneV x)) := by
   unfold tree_Check_s1
   have ex : (⟨x.fKind, (x.fBool), x.fNum, x.fText, x.fList, x.fKeys⟩ : TA0) = x := by cases x; rfl
   try rw [ex]
   rw [alone_run hn (hw x List.mem_cons_self), bnd]
   by_cases h : aloneV x = 0
   ·rw [if_pos h, decide_eq_true h, Bool.not_true, cF, need_i (by omega) (by omega)]
    congr 2
   ·rw [if_neg h, decide_eq_false h, Bool.not_false, cT]
  rw [e]
  by_cases h : aloneV x = 0
  ·rw [if_pos h, if_pos h, bnd]
   obtain ⟨j, hj, hp⟩ := check_fold hn r (s + 1) (fun y hy => hw y (List.mem_cons_of_mem _ hy)) (by omega)
   refine ⟨j, hj, ?_⟩
   cases j with
   | nx t => dsimp only at hp ⊢; exact ⟨hp.1, by rw [hp.2, List.length_cons]; omega⟩
   | br b => exact hp
  ·rw [if_neg h, if_neg h, bnd]
   exact ⟨_, rfl, h, rfl⟩
theorem check_run {n : Nat} (hn : 6000 < n) {v : TA0} (h : Fine v) : tree_Check n v = some (checkV v) := by
 unfold tree_Check tree_depth checkV
 have e : ((24 : Nat) : Int) = 24 := rfl
 have hd0 := depth_run hn n 60 v 24 (by omega) h.small (by omega)
 rw [e] at hd0
 rw [hd0, bnd]
 by_cases hd : 24 < depthV v
 ·rw [decide_eq_true (by omega), cT, if_pos hd]
 ·rw [decide_eq_false (by omega), cF, if_neg hd, need_t (by have := h.few; omega)]
  obtain ⟨j, hj, hp⟩ := check_fold hn (walkV v) 0 (fun x hx => (small_walk h.small hx).wide) (by have := h.few; omega)
  have e0 : ((0 : Nat) : Int) = 0 := rfl
  rw [e0] at hj
  rw [hj, bnd]
  cases j with
  | nx t =>
   dsimp only at hp ⊢
   rw [if_pos hp.1]
   by_cases hc : 4096 < (walkV v).length
   ·rw [if_pos hc, decide_eq_true (by omega), cT]
   ·rw [if_neg hc, decide_eq_false (by omega), cF]
  | br b =>
   dsimp only at hp ⊢
   rw [if_neg hp.1, hp.2]
end Go.Proofs.YtfaedhhjamaniaaGreatDoor
end
section
namespace Go.Proofs.YtfaedhhjamaniaaGreatDoor
open Go Go.Vc Go.RowKit
theorem less_cb : ∀ a b : List UInt8, Op.bytesLess a b = decide (Lib.compareBytes a b < 0)
 | [], [] => by simp [Op.bytesLess, Lib.compareBytes]
 | [], _ :: _ => by simp [Op.bytesLess, Lib.compareBytes]
 | _ :: _, [] => by simp [Op.bytesLess, Lib.compareBytes]
 | x :: r, y :: s => by
  unfold Op.bytesLess Lib.compareBytes
  rw [less_cb r s]
  by_cases h1 : x < y
  ·simp [h1]
  ·by_cases h2 : y < x
   ·have hne : (x == y) = false := by
     rw [beq_eq_false_iff_ne]
     intro e
     rw [e, UInt8.lt_iff_toNat_lt] at h2
     omega
    simp [h1, h2, hne]
   ·have hxy : x = y := UInt8.toNat_inj.1 (by rw [UInt8.lt_iff_toNat_lt] at h1 h2; omega)
    simp [h1, h2, hxy]
abbrev KV := List UInt8 × TA0
def leK (p q : KV) : Bool := !(decide (Lib.compareBytes q.1 p.1 < 0))
def insP (p : KV) : List KV → List KV
  | [] => [p]
  | q :: r => bif leK p q then p :: q :: r else q :: insP p r
def isortP : List KV → List KV
  | [] => []
  | p :: r => insP p (isortP r)
theorem insP_perm (p : KV) : ∀ l, (insP p l).Perm (p :: l)
 | [] => List.Perm.refl _
 | q :: r => by
  unfold insP
  cases leK p q with
  | true => exact List.Perm.refl _
  | false => exact ((insP_perm p r).cons q).trans (List.Perm.swap p q r)
theorem isortP_perm : ∀ l, (isortP l).Perm l
 | [] => List.Perm.refl _
 | p :: r => (insP_perm p _).trans ((isortP_perm r).cons p)
theorem leK_iff {p q : KV} : leK p q = true ↔ Lib.compareBytes p.1 q.1 ≤ 0 := by
 have := cb_anti p.1 q.1
 simp only [leK, Bool.not_eq_true', decide_eq_false_iff_not]
 omega
theorem leK_trans {a b c : KV} (h1 : leK a b = true) (h2 : leK b c = true) : leK a c = true := leK_iff.2 (cb_trans _ _ _ (leK_iff.1 h1) (leK_iff.1 h2)).1
theorem leK_total (a b : KV) : leK a b = true ∨ leK b a = true := by
 rw [leK_iff, leK_iff]
 have := cb_anti a.1 b.1
 omega
theorem insP_sorted (x : KV) : ∀ l, l.Pairwise (fun a b => leK a b = true) → (insP x l).Pairwise (fun a b => leK a b = true)
 | [], _ => by simp [insP]
 | y :: r, h => by
  obtain ⟨h1, h2⟩ := List.pairwise_cons.1 h
  unfold insP
  cases hxy : leK x y with
  | true => exact List.pairwise_cons.2 ⟨fun z hz => by
    rcases List.mem_cons.1 hz with rfl | hz
    ·exact hxy
    ·exact leK_trans hxy (h1 z hz), h⟩
  | false =>
   refine List.pairwise_cons.2 ⟨fun z hz => ?_, insP_sorted x r h2⟩
   rcases List.mem_cons.1 ((insP_perm x r).mem_iff.1 hz) with rfl | hz
   ·exact (leK_total z y).resolve_left (by simp [hxy])
   ·exact h1 z hz
theorem isortP_sorted : ∀ l, (isortP l).Pairwise (fun a b => leK a b = true)
 | [] => List.Pairwise.nil
 | x :: r => insP_sorted x _ (isortP_sorted r)
theorem nodup_key : ∀ {l : List KV} {p q : KV}, (l.map (·.1)).Nodup → p ∈ l → q ∈ l → p.1 = q.1 → p = q
 | x :: r, p, q, h, hp, hq, e => by
  rw [List.map_cons, List.nodup_cons] at h
  rcases List.mem_cons.1 hp with hp | hp <;> rcases List.mem_cons.1 hq with hq | hq
  ·rw [hp, hq]
  ·have : x.1 ∈ r.map (·.1) := by rw [← hp, e]; exact List.mem_map_of_mem hq
   exact absurd this h.1
  ·have : x.1 ∈ r.map (·.1) := by rw [← hq, ← e]; exact List.mem_map_of_mem hp
   exact absurd this h.1
  ·exact nodup_key h.2 hp hq e
theorem sorted_one {l m : List KV} (hn : (m.map (·.1)).Nodup) (hp : l.Perm m) (hl : l.Pairwise (fun a b => leK a b = true)) : l = isortP m := by
 refine List.Perm.eq_of_pairwise (le := fun a b => leK a b = true) (fun a b ha hb h1 h2 => ?_) hl (isortP_sorted m) (hp.trans (isortP_perm m).symm)
 have ia := hp.mem_iff.1 ha
 have ib := (isortP_perm m).mem_iff.1 hb
 have e1 := leK_iff.1 h1
 have e2 := leK_iff.1 h2
 have e3 := cb_anti a.1 b.1
 exact nodup_key hn ia ib (cb_eq _ _ (by omega))
theorem ins_map (keys : List (List UInt8)) (f : Int → KV) (hf : ∀ i, (f i).1 = keys.getD i.toNat []) (x : Int) : ∀ l, (ins (keyLe keys) x l).map f = insP (f x) (l.map f)
 | [] => rfl
 | y :: r => by
  have e : leK (f x) (f y) = keyLe keys x y := by unfold leK keyLe; rw [hf, hf]
  unfold ins
  rw [List.map_cons, insP, e]
  cases keyLe keys x y with
  | true => rfl
  | false => rw [cF, cF, List.map_cons, ins_map keys f hf x r]
theorem isort_map (keys : List (List UInt8)) (f : Int → KV) (hf : ∀ i, (f i).1 = keys.getD i.toNat []) : ∀ l, (isort (keyLe keys) l).map f = isortP (l.map f)
 | [] => rfl
 | x :: r => by
  unfold isort
  rw [ins_map keys f hf, isort_map keys f hf r, List.map_cons, isortP]
mutual
def sortV : TA0 → TA0
  | ⟨k, b, n, t, l, ks⟩ => bif decide (k = 5) then ⟨k, b, n, t, (isortP (ks.zip (sortVs l))).map (·.2), (isortP (ks.zip (sortVs l))).map (·.1)⟩ else ⟨k, b, n, t, sortVs l, []⟩
def sortVs : List TA0 → List TA0
  | [] => []
  | x :: r => sortV x :: sortVs r
end
theorem sortVs_map : ∀ l, sortVs l = l.map sortV
 | [] => rfl
 | x :: r => by rw [sortVs, sortVs_map r, List.map_cons]
def pairsV (v : TA0) : List KV := isortP (v.fKeys.zip (v.fList.map sortV))
theorem sortV_5 {v : TA0} (h : v.fKind = 5) : sortV v = ⟨v.fKind, v.fBool, v.fNum, v.fText, (pairsV v).map (·.2), (pairsV v).map (·.1)⟩ := by
 cases v with
 | mk k b n t l ks =>
  dsimp only at h
  rw [sortV, sortVs_map, decide_eq_true h, cT]
  rfl
theorem sortV_n {v : TA0} (h : v.fKind ≠ 5) : sortV v = ⟨v.fKind, v.fBool, v.fNum, v.fText, v.fList.map sortV, []⟩ := by
 cases v with
 | mk k b n t l ks =>
  dsimp only at h
  rw [sortV, sortVs_map, decide_eq_false h, cF]
def OkV (v : TA0) : Prop := faultL (walkV v) = 0
theorem faultL_zero : ∀ {l : List TA0}, faultL l = 0 ↔ ∀ x ∈ l, aloneV x = 0
 | [] => by simp [faultL]
 | x :: r => by
  rw [faultL]
  by_cases h : aloneV x = 0
  ·rw [if_pos h, faultL_zero (l := r)]
   simp [h]
  ·rw [if_neg h]
   constructor
   ·intro e; exact absurd e h
   ·intro e; exact absurd (e x List.mem_cons_self) h
theorem mem_walkVs {x : TA0} : ∀ {l : List TA0}, x ∈ walkVs l ↔ ∃ y ∈ l, x ∈ walkV y
 | [] => by simp [walkVs]
 | y :: r => by
  rw [walkVs, List.mem_append, mem_walkVs (l := r)]
  simp
theorem OkV_iff {v : TA0} : OkV v ↔ aloneV v = 0 ∧ ∀ x ∈ v.fList, OkV x := by
 unfold OkV
 rw [faultL_zero, walkV_eq]
 constructor
 ·intro h
  refine ⟨h v List.mem_cons_self, fun x hx => ?_⟩
  rw [faultL_zero]
  intro y hy
  exact h y (List.mem_cons_of_mem _ (mem_walkVs.2 ⟨x, hx, hy⟩))
 ·rintro ⟨h1, h2⟩ x hx
  rcases List.mem_cons.1 hx with rfl | hx
  ·exact h1
  ·obtain ⟨y, hy, hxy⟩ := mem_walkVs.1 hx
   exact faultL_zero.1 (h2 y hy) x hxy
theorem checkV_ok {v : TA0} (h : checkV v = 0) : OkV v ∧ depthV v ≤ 24 ∧ (walkV v).length ≤ 4096 := by
 unfold checkV at h
 by_cases h1 : 24 < depthV v
 ·rw [if_pos h1] at h; omega
 ·rw [if_neg h1] at h
  by_cases h2 : faultL (walkV v) = 0
  ·rw [if_pos h2] at h
   by_cases h3 : 4096 < (walkV v).length
   ·rw [if_pos h3] at h; omega
   ·exact ⟨h2, by omega, by omega⟩
  ·rw [if_neg h2] at h; exact absurd h h2
def upto (n : Nat) : List Int := (List.range n).map Int.ofNat
theorem upto_succ (q : Nat) : upto (q + 1) = upto q ++ [(q : Int)] := by unfold upto; rw [List.range_succ, List.map_append]; rfl
theorem upto_len (q : Nat) : (upto q).length = q := by simp [upto]
theorem order_run {n : Nat} (hn : 6000 < n) {v : TA0} (hw : v.fKeys.length ≤ 3000) (hd : v.fKeys.Nodup) : tree_order n v = some (isort (keyLe v.fKeys) (upto v.fKeys.length)) := by
 unfold tree_order
 rw [need_t ⟨by omega, by omega, by omega⟩]
 have := loop_all (step := tree_order_s1 n v) (n := n) (fun q => (upto q ++ List.replicate (v.fKeys.length - q) (0 : Int), (q : Int))) v.fKeys.length (upto v.fKeys.length) (fun q hq => by
  unfold tree_order_s1
  dsimp only
  have hll : (List.replicate ((v.fKeys.length : Nat) : Int).toNat (0 : Int)).length = v.fKeys.length := by simp
  have hg : getI (upto q ++ List.replicate (v.fKeys.length - q) (0 : Int)) (q : Int) = some 0 := by
   rw [getI_at (k := q) 0 (by simp [upto_len]; omega)]
   rw [List.getD_eq_getElem?_getD, List.getElem?_append_right (by rw [upto_len]; omega), upto_len]
   simp [(by omega : 0 < v.fKeys.length - q)]
  rw [hll, decide_eq_true (by omega), cT, hg, bnd, need_i (by omega) (by omega)]
  congr 3
  have e : v.fKeys.length - q = (v.fKeys.length - (q + 1)) + 1 := by omega
  rw [Int.toNat_natCast, e, List.replicate_succ, List.set_append_right _ _ (by rw [upto_len]; omega), upto_len, Nat.sub_self, List.set_cons_zero, upto_succ, List.append_assoc]
  rfl) (by
  unfold tree_order_s1
  dsimp only
  have hll : (List.replicate ((v.fKeys.length : Nat) : Int).toNat (0 : Int)).length = v.fKeys.length := by simp
  rw [hll, decide_eq_false (by omega), cF, Nat.sub_self, List.replicate_zero, List.append_nil]) (by omega)
 have e0 : ((0 : Nat) : Int) = 0 := rfl
 have e1 : upto 0 = [] := rfl
 simp only [e1, e0, Nat.sub_zero, List.nil_append] at this
 rw [Int.toNat_natCast, this, bnd]
 unfold h_sortKeys
 rw [need_t, need_t (by rw [upto_len]; omega), bnd]
 refine ⟨hd, fun i hi => ?_⟩
 simp only [upto, List.mem_map, List.mem_range] at hi
 obtain ⟨j, hj, rfl⟩ := hi
 have : Int.ofNat j = (j : Int) := rfl
 omega
theorem map_take_succ {α β : Type} (f : α → β) {l : List α} {i : Nat} {x : α} (h : l[i]? = some x) : (l.take (i + 1)).map f = (l.take i).map f ++ [f x] := by
 rw [List.take_add_one, h]
 simp
theorem zip_upto (ks : List (List UInt8)) (l : List TA0) (hl : ks.length = l.length) (g : TA0 → TA0) (z : TA0) : (upto ks.length).map (fun i => (ks.getD i.toNat [], g (l.getD i.toNat z))) = ks.zip (l.map g) := by
 apply List.ext_getElem
 ·simp [upto, hl]
 ·intro i h1 h2
  simp [upto_len] at h1
  have h3 : i < l.length := by omega
  simp [upto, List.getD, h1, h3]
theorem sorted_run {n : Nat} (hn : 6000 < n) : ∀ (k d : Nat) (v : TA0), d ≤ k → Small d v → OkV v → tree_sorted_k n k v = some (sortV v)
 | _, 0, v, _, h, _ => h.elim
 | 0, d + 1, v, h, _, _ => absurd h (by omega)
 | k + 1, d + 1, v, hk, hs, hok => by
  obtain ⟨h1, h2, h3, h4, h5⟩ := hs
  obtain ⟨ha, hl⟩ := OkV_iff.1 hok
  obtain ⟨hp, _, _, hnd⟩ := alone_ok ha
  show tree_sorted_b n (tree_sorted_k n k) v = _
  unfold tree_sorted_b
  have ih : ∀ x ∈ v.fList, tree_sorted_k n k x = some (sortV x) := fun x hx => sorted_run hn k d x (by omega) (h5 x hx) (hl x hx)
  by_cases hkind : v.fKind = 5
  ·have hkl : v.fKeys.length = v.fList.length := hp.2.2.2.2.2.2.1 hkind
   rw [decide_eq_true hkind, cT, order_run hn h2 hnd, bnd]
   obtain ⟨idx, hidx⟩ : ∃ idx, idx = isort (keyLe v.fKeys) (upto v.fKeys.length) := ⟨_, rfl⟩
   rw [← hidx]
   have hperm : idx.Perm (upto v.fKeys.length) := hidx ▸ isort_perm _ _
   have hlen : idx.length = v.fKeys.length := by rw [hperm.length_eq, upto_len]
   have hin : ∀ i ∈ idx, ∃ j : Nat, i = (j : Int) ∧ j < v.fKeys.length := fun i hi => by
    have := hperm.mem_iff.1 hi
    simp only [upto, List.mem_map, List.mem_range] at this
    obtain ⟨j, hj, rfl⟩ := this
    exact ⟨j, rfl, hj⟩
   obtain ⟨f, hf⟩ : ∃ f : Int → KV, f = fun i => (v.fKeys.getD i.toNat [], sortV (v.fList.getD i.toNat v)) := ⟨_, rfl⟩
   have := loop_all (step := tree_sorted_s1 n (tree_sorted_k n k) v idx) (n := n) (fun q => ((q : Int), ((idx.take q).map f).map (·.2), ((idx.take q).map f).map (·.1))) idx.length ((idx.map f).map (·.2), (idx.map f).map (·.1)) (fun q hq => by
    have hx : idx[q]? = some idx[q] := List.getElem?_eq_getElem hq
    obtain ⟨j, hj, hjl⟩ := hin _ (List.getElem_mem hq)
    rw [hj] at hx
    have hg : getI idx (q : Int) = some (j : Int) := by simp [getI, hx]
    have hgk : getI v.fKeys (j : Int) = some (f j).1 := by rw [getI_at [] hjl, hf]; rfl
    have hgl : getI v.fList (j : Int) = some (v.fList.getD j v) := getI_at v (by omega)
    have hm : v.fList.getD j v ∈ v.fList := by simp [List.getD, (by omega : j < v.fList.length)]
    have ef : sortV (v.fList.getD j v) = (f j).2 := by rw [hf]; rfl
    unfold tree_sorted_s1
    dsimp only
    have ev : ∀ x : TA0, (⟨x.fKind, (x.fBool), x.fNum, x.fText, x.fList, x.fKeys⟩ : TA0) = x := fun x => by cases x; rfl
    have hlq : ((idx.take q).map f).length ≤ 3000 := by simp; omega
    rw [decide_eq_true (by omega), cT, hg, bnd, hgk, bnd, need_t (by rw [List.length_map]; omega), bnd, hgl, bnd, ih _ hm, bnd, need_t (by rw [List.length_map]; omega), bnd, need_i (by omega) (by omega), ev, ef, map_take_succ f hx, List.map_append, List.map_append]
    rfl) (by
    unfold tree_sorted_s1
    dsimp only
    rw [decide_eq_false (by omega), cF, List.take_length]) (by omega)
   have e0 : ((0 : Nat) : Int) = 0 := rfl
   simp only [List.take_zero, List.map_nil, e0] at this
   rw [this, bnd, sortV_5 hkind]
   have e : idx.map f = pairsV v := by
    rw [hidx, isort_map v.fKeys f (fun i => by rw [hf]), hf]
    unfold pairsV
    rw [zip_upto v.fKeys v.fList hkl sortV v]
   rw [e]
  ·rw [decide_eq_false hkind, cF]
   have := loop_all (step := tree_sorted_s2 n (tree_sorted_k n k) v) (n := n) (fun q => ((q : Int), (v.fList.take q).map sortV)) v.fList.length (v.fList.map sortV) (fun q hq => by
    have hx : v.fList[q]? = some v.fList[q] := List.getElem?_eq_getElem hq
    have hg : getI v.fList (q : Int) = some v.fList[q] := by simp [getI]
    unfold tree_sorted_s2
    dsimp only
    have ev : ∀ x : TA0, (⟨x.fKind, (x.fBool), x.fNum, x.fText, x.fList, x.fKeys⟩ : TA0) = x := fun x => by cases x; rfl
    rw [decide_eq_true (by omega), cT, hg, bnd, ih _ (List.getElem_mem hq), bnd, need_t (by simp; omega), bnd, need_i (by omega) (by omega), ev, map_take_succ sortV hx]
    rfl) (by
    unfold tree_sorted_s2
    dsimp only
    rw [decide_eq_false (by omega), cF, List.take_length]) (by omega)
   have e0 : ((0 : Nat) : Int) = 0 := rfl
   simp only [List.take_zero, List.map_nil, e0] at this
   rw [this, bnd, sortV_n hkind]
end Go.Proofs.YtfaedhhjamaniaaGreatDoor
end
section
namespace Go.Proofs.YtfaedhhjamaniaaGreatDoor
open Go Go.Vc Go.RowKit
theorem pairs_perm (v : TA0) : (pairsV v).Perm (v.fKeys.zip (v.fList.map sortV)) := isortP_perm _
theorem pairs_snd {v : TA0} (h : v.fKeys.length = v.fList.length) : ((pairsV v).map (·.2)).Perm (v.fList.map sortV) := by
 have := (pairs_perm v).map (·.2)
 rwa [List.map_snd_zip (by simp [h])] at this
theorem pairs_fst {v : TA0} (h : v.fKeys.length = v.fList.length) : ((pairsV v).map (·.1)).Perm v.fKeys := by
 have := (pairs_perm v).map (·.1)
 rwa [List.map_fst_zip (by simp [h])] at this
theorem plain_len {v : TA0} (h : PlainV v) (hk : v.fKind = 5) : v.fKeys.length = v.fList.length := h.2.2.2.2.2.2.1 hk
theorem sort_perm {v : TA0} (h : PlainV v) : (sortV v).fList.Perm (v.fList.map sortV) := by
 by_cases hk : v.fKind = 5
 ·rw [sortV_5 hk]; exact pairs_snd (plain_len h hk)
 ·rw [sortV_n hk]
theorem sort_keys {v : TA0} (h : PlainV v) : (sortV v).fKeys.Perm v.fKeys := by
 by_cases hk : v.fKind = 5
 ·rw [sortV_5 hk]; exact pairs_fst (plain_len h hk)
 ·rw [sortV_n hk]
  have := h.2.2.2.2.2.2.2 hk
  have e : v.fKeys = [] := by simpa using this
  rw [e]
theorem sort_kind (v : TA0) : (sortV v).fKind = v.fKind := by
 by_cases hk : v.fKind = 5
 ·rw [sortV_5 hk]
 ·rw [sortV_n hk]
theorem sort_bool (v : TA0) : (sortV v).fBool = v.fBool := by
 by_cases hk : v.fKind = 5
 ·rw [sortV_5 hk]
 ·rw [sortV_n hk]
theorem sort_num (v : TA0) : (sortV v).fNum = v.fNum := by
 by_cases hk : v.fKind = 5
 ·rw [sortV_5 hk]
 ·rw [sortV_n hk]
theorem sort_text (v : TA0) : (sortV v).fText = v.fText := by
 by_cases hk : v.fKind = 5
 ·rw [sortV_5 hk]
 ·rw [sortV_n hk]
theorem OkV.plain {v : TA0} (h : OkV v) : PlainV v := (alone_ok (OkV_iff.1 h).1).1
theorem OkV.part {v x : TA0} (h : OkV v) (hx : x ∈ v.fList) : OkV x := (OkV_iff.1 h).2 x hx
theorem sort_small : ∀ {d : Nat} {v : TA0}, Small d v → OkV v → Small d (sortV v)
 | d + 1, v, h, hok => by
  have hp := hok.plain
  have h1 := sort_perm hp
  have h2 := sort_keys hp
  refine ⟨by rw [h1.length_eq, List.length_map]; exact h.1, by rw [h2.length_eq]; exact h.2.1, by rw [sort_text]; exact h.2.2.1, fun k hk => h.2.2.2.1 k (h2.mem_iff.1 hk), fun x hx => ?_⟩
  obtain ⟨y, hy, rfl⟩ := List.mem_map.1 (h1.mem_iff.1 hx)
  exact sort_small (h.2.2.2.2 y hy) (hok.part hy)
theorem sort_ok : ∀ (m : Nat) {v : TA0}, SizeOf.sizeOf v < m → OkV v → OkV (sortV v)
 | 0, v, hm, _ => absurd hm (by omega)
 | m + 1, v, hm, hok => by
  have hp := hok.plain
  obtain ⟨_, hn, ht, hd⟩ := alone_ok (OkV_iff.1 hok).1
  have h1 := sort_perm hp
  have h2 := sort_keys hp
  rw [OkV_iff]
  constructor
  ·refine alone_0 ?_ ?_ ?_ ?_
   ·obtain ⟨a, b, c, d, e, f, g, i⟩ := hp
    refine ⟨by rw [sort_kind]; exact a, by rw [sort_kind]; exact b, by rw [sort_kind, sort_bool]; exact c, by rw [sort_kind, sort_num]; exact d, by rw [sort_kind, sort_text]; exact e, ?_, ?_, ?_⟩
    ·rw [sort_kind, h1.length_eq, List.length_map]; exact f
    ·rw [sort_kind, h1.length_eq, List.length_map, h2.length_eq]; exact g
    ·rw [sort_kind, h2.length_eq]; exact i
   ·unfold NumOut; rw [sort_num]; exact hn
   ·unfold TextsOk; rw [sort_text]; exact ⟨ht.1, fun k hk => ht.2 k (h2.mem_iff.1 hk)⟩
   ·exact h2.nodup_iff.2 hd
  ·intro x hx
   obtain ⟨y, hy, rfl⟩ := List.mem_map.1 (h1.mem_iff.1 hx)
   exact sort_ok m (by have := part_small hy; omega) (hok.part hy)
theorem OkV.sort {v : TA0} (h : OkV v) : OkV (sortV v) := sort_ok _ (Nat.lt_succ_self _) h
def lenW (l : List TA0) : List Nat := l.map fun x => (walkV x).length
theorem walkVs_sum : ∀ l : List TA0, (walkVs l).length = (lenW l).sum
 | [] => rfl
 | x :: r => by rw [walkVs, List.length_append, walkVs_sum r]; rfl
theorem sort_count : ∀ (m : Nat) {v : TA0}, SizeOf.sizeOf v < m → OkV v → (walkV (sortV v)).length = (walkV v).length
 | 0, v, hm, _ => absurd hm (by omega)
 | m + 1, v, hm, hok => by
  rw [walkV_eq, walkV_eq v, List.length_cons, List.length_cons, walkVs_sum, walkVs_sum]
  have h1 := (sort_perm hok.plain).map fun x => (walkV x).length
  have e : (lenW (sortV v).fList).sum = (lenW (v.fList.map sortV)).sum := h1.sum_nat
  rw [e]
  unfold lenW
  rw [List.map_map]
  congr 2
  refine List.map_congr_left fun x hx => ?_
  exact sort_count m (by have := part_small hx; omega) (hok.part hx)
theorem Fine.sort {v : TA0} (h : Fine v) (hok : OkV v) : Fine (sortV v) := ⟨sort_small h.small hok, by rw [sort_count _ (Nat.lt_succ_self _) hok]; exact h.few⟩
end Go.Proofs.YtfaedhhjamaniaaGreatDoor
end
section
namespace Go.Proofs.YtfaedhhjamaniaaGreatDoor
open Go Go.Vc Go.RowKit
theorem great_fine {n : Nat} (hn : 6000 < n) (v : TA0) : ∃ g, ref03_Great n v = some g ∧ (g = false → Fine v ∧ Small 30 v ∧ (walkV v).length ≤ 5000) := by
 obtain ⟨g, h1, h2⟩ := great_ok (n := n) (by omega) v
 exact ⟨g, h1, fun h => ⟨⟨Small.le (by omega) (h2 h).1, by have := (h2 h).2; omega⟩, h2 h⟩⟩
def sortedV (a : TA0) : TA0 := if checkV a = 0 then sortV a else a
theorem sortedT_run {n : Nat} (hn : 6000 < n) {v : TA0} (h : Fine v) (hok : OkV v) : tree_sorted n v = some (sortV v) := sorted_run hn n 60 v (by omega) h.small hok
theorem Sorted_run {n : Nat} (hn : 6000 < n) {v : TA0} (h : Fine v) : tree_Sorted n v = some (sortedV v) := by
 unfold tree_Sorted sortedV
 rw [check_run hn h, bnd]
 by_cases a : checkV v = 0
 ·rw [decide_eq_true a, Bool.not_true, cF, if_pos a, sortedT_run hn h (checkV_ok a).1, bnd]
 ·rw [decide_eq_false a, Bool.not_false, cT, if_neg a]
end Go.Proofs.YtfaedhhjamaniaaGreatDoor
end
end

section
namespace Go.Num
def dig (c : UInt8) : Bool := 48 ≤ c && c ≤ 57
def nd : List UInt8 → Nat → Nat
  | [], k => k
  | c :: r, k => if dig c then nd r (k + 1) else k
def vl : List UInt8 → Nat → Nat
  | [], v => v
  | c :: r, v => if dig c then vl r (10 * v + (c.toNat - 48)) else v
def neg (l : List UInt8) : Bool := decide (l.getD 0 0 = 45)
def fst (l : List UInt8) : Nat := if neg l then 1 else 0
def big : Nat := 9007199254740992
def scanL (l : List UInt8) (at_ : Int) : Int × Int × Int :=
  let f := fst l
  let k := nd (l.drop f) f
  let v := vl (l.drop f) 0
  if l.getD f 0 = 48 ∧ f + 2 ≤ k then (0, at_ + (f + 1), 20)
  else if k = f ∨ l.getD k 0 = 46 ∨ l.getD k 0 = 101 ∨ l.getD k 0 = 69 then (0, at_ + k, 20)
  else if big < v ∨ (neg l = true ∧ v = 0) then (0, at_, 20)
  else (if neg l then -(v : Int) else v, at_ + k, 0)
theorem drop_cons (l : List UInt8) (k : Nat) (h : k < l.length) : l.drop k = l.getD k 0 :: l.drop (k + 1) := by
 rw [List.drop_eq_getElem_cons h]; simp [List.getD, h]
theorem nd_stop (l : List UInt8) (k : Nat) (hd : dig (l.getD k 0) = false) : nd (l.drop k) k = k := by
 by_cases h : k < l.length
 ·rw [drop_cons l k h]; simp only [nd, hd]; rfl
 ·rw [List.drop_eq_nil_of_le (by omega)]; rfl
theorem vl_stop (l : List UInt8) (k v : Nat) (hd : dig (l.getD k 0) = false) : vl (l.drop k) v = v := by
 by_cases h : k < l.length
 ·rw [drop_cons l k h]; simp only [vl, hd]; rfl
 ·rw [List.drop_eq_nil_of_le (by omega)]; rfl
structure ScanI (l : List UInt8) (k : Nat) (v : Nat) : Prop where
  ge : fst l ≤ k
  le : k ≤ l.length
  nd : nd (l.drop k) k = nd (l.drop (fst l)) (fst l)
  vl : vl (l.drop k) v = vl (l.drop (fst l)) 0
  zero : fst l + 2 ≤ k → l.getD (fst l) 0 ≠ 48
  one : fst l + 1 ≤ k → dig (l.getD (fst l) 0) = true
theorem ScanI.lt {l : List UInt8} {k v : Nat} (_ : ScanI l k v) (hd : dig (l.getD k 0) = true) : k < l.length := by
 rcases Nat.lt_or_ge k l.length with h | h
 ·exact h
 ·have : l.getD k 0 = 0 := by simp [List.getD, List.getElem?_eq_none h]
  rw [this] at hd; simp [dig] at hd
theorem ScanI.stop {l : List UInt8} {k v : Nat} (h : ScanI l k v) (at_ : Int) (hd : dig (l.getD k 0) = false) :
  scanL l at_ = if k = fst l ∨ l.getD k 0 = 46 ∨ l.getD k 0 = 101 ∨ l.getD k 0 = 69 then (0, at_ + k, 20)
   else if big < v ∨ (neg l = true ∧ v = 0) then (0, at_, 20)
   else (if neg l then -(v : Int) else v, at_ + k, 0) := by
 have h1 := h.nd
 rw [nd_stop l k hd] at h1
 have h2 := h.vl
 rw [vl_stop l k v hd] at h2
 unfold scanL
 simp only []
 rw [← h1, ← h2, if_neg]
 rintro ⟨h3, h4⟩
 exact h.zero h4 h3
theorem byte_of {c : UInt8} {n : Int} (d : UInt8) (h : ((c.toNat : Nat) : Int) = n) (hd : (d.toNat : Int) = n) : c = d := UInt8.toNat_inj.1 (by omega)
def fitsB (n : Int) : Bool := decide (-9007199254740992 ≤ n ∧ n ≤ 9007199254740992)
theorem fits_eq (n : Int) : (decide ((-9007199254740992 : Int) ≤ n) && decide (n ≤ 9007199254740992)) = fitsB n := by simp [fitsB]
section
variable {l : List UInt8} {k v : Nat} {n at_ sl : Int} (I : ScanI l k v) (hd : dig (l.getD k 0) = false)
include I hd
theorem ScanI.e1 (h : (k : Int) = (fst l : Int) ∨ (at_ + (k : Int) < sl ∧ (((l.getD k 0).toNat : Int) = 46 ∨ (((l.getD k 0).toNat : Int) = 101 ∨ ((l.getD k 0).toNat : Int) = 69)))) : scanL l at_ = (0, at_ + k, 20) := by
 rw [I.stop at_ hd, if_pos]
 rcases h with h | ⟨_, h | h | h⟩
 ·exact .inl (by omega)
 ·exact .inr (.inl (byte_of 46 h rfl))
 ·exact .inr (.inr (.inl (byte_of 101 h rfl)))
 ·exact .inr (.inr (.inr (byte_of 69 h rfl)))
theorem ScanI.e2 (hno : ¬ (k = fst l ∨ l.getD k 0 = 46 ∨ l.getD k 0 = 101 ∨ l.getD k 0 = 69)) (h : 9007199254740992 < v ∨ (neg l = true ∧ v = 0)) : scanL l at_ = (0, at_, 20) := by
 rw [I.stop at_ hd, if_neg hno, if_pos (by unfold big; exact h)]
theorem ScanI.e3 (hno : ¬ (k = fst l ∨ l.getD k 0 = 46 ∨ l.getD k 0 = 101 ∨ l.getD k 0 = 69)) (h : ¬ (9007199254740992 < v ∨ (neg l = true ∧ v = 0))) : scanL l at_ = (if neg l then -(v : Int) else v, at_ + k, 0) := by
 rw [I.stop at_ hd, if_neg hno, if_neg (by unfold big; exact h)]
end
def dch (n : Nat) : UInt8 := UInt8.ofNat (48 + n % 10)
def digsF : Nat → Nat → List UInt8
  | 0, _ => []
  | f + 1, n => if n < 10 then [dch n] else digsF f (n / 10) ++ [dch n]
def digs (n : Nat) : List UInt8 := digsF (n + 1) n
theorem digsF_more : ∀ (f g n : Nat), n < f → n < g → digsF f n = digsF g n
 | 0, _, n, h, _ => by omega
 | f + 1, 0, n, _, h => by omega
 | f + 1, g + 1, n, h1, h2 => by
  simp only [digsF]
  split
  ·rfl
  ·rw [digsF_more f g (n / 10) (by omega) (by omega)]
theorem digs_lt {n : Nat} (h : n < 10) : digs n = [dch n] := by unfold digs; simp only [digsF]; rw [if_pos h]
theorem digs_ge {n : Nat} (h : ¬ n < 10) : digs n = digs (n / 10) ++ [dch n] := by
 unfold digs
 rw [digsF, if_neg h, digsF_more n (n / 10 + 1) (n / 10) (by omega) (by omega)]
theorem dch_toNat (n : Nat) : (dch n).toNat = 48 + n % 10 := by
 unfold dch; rw [UInt8.toNat_ofNat']; omega
theorem dch_int (n : Nat) : (48 + (n : Int) % 10) % 256 = ((dch n).toNat : Int) := by rw [dch_toNat]; omega
theorem digs_len : ∀ (k n : Nat), n < 10 ^ (k + 1) → (digs n).length ≤ k + 1
 | 0, n, h => by rw [digs_lt (by omega)]; simp
 | k + 1, n, h => by
  by_cases h10 : n < 10
  ·rw [digs_lt h10]; simp
  ·rw [digs_ge h10]
   have := digs_len k (n / 10) (by rw [Nat.pow_succ] at h; omega)
   simp; omega
theorem digs_len16 {n : Nat} (h : n ≤ 9007199254740992) : (digs n).length ≤ 16 := digs_len 15 n (by omega)
def text (n : Int) : List UInt8 × Int := if fitsB n then (if n < 0 then 45 :: digs (-n).toNat else digs n.toNat, 0) else ([], 20)
theorem fitsB_iff {n : Int} : fitsB n = true ↔ -9007199254740992 ≤ n ∧ n ≤ 9007199254740992 := by simp [fitsB]
theorem text_no {n : Int} (h : fitsB n = false) : text n = ([], 20) := by simp [text, h]
theorem text_neg {n : Int} (h : fitsB n = true) (h0 : n < 0) : text n = (45 :: digs (-n).toNat, 0) := by simp [text, h, h0]
theorem text_pos {n : Int} (h : fitsB n = true) (h0 : ¬ n < 0) : text n = (digs n.toNat, 0) := by simp [text, h, h0]
end Go.Num
end

section
namespace Go.Num
open Go
end Go.Num
namespace Go.Num
open Go
theorem text_len {n : Int} (h : fitsB n = true) : (text n).1.length ≤ 17 := by
 have h2 := fitsB_iff.1 h
 by_cases h0 : n < 0
 ·rw [text_neg h h0]; have := digs_len16 (n := (-n).toNat) (by omega); simp; omega
 ·rw [text_pos h h0]; have := digs_len16 (n := n.toNat) (by omega); dsimp only; omega
end Go.Num
end

section
namespace Go.Proofs.YtfaedhhjamaniaaGreatDoor
open Go Go.Vc
def hexB (n : Nat) : UInt8 := UInt8.ofNat (if n < 10 then 48 + n else 87 + n)
def qb (c : UInt8) : List UInt8 :=
  if c = 34 then [92, 34] else if c = 92 then [92, 92] else if c = 8 then [92, 98] else if c = 9 then [92, 116] else if c = 10 then [92, 110] else if c = 12 then [92, 102] else if c = 13 then [92, 114]
  else if c < 32 then [92, 117, 48, 48, UInt8.ofNat (48 + c.toNat / 16), hexB (c.toNat % 16)] else [c]
def quoteV (s : List UInt8) : List UInt8 := 34 :: (s.flatMap qb ++ [34])
def numB (x : Int) : List UInt8 := (Go.Num.text x).1
def lineV (br : Bool) (d : Nat) : List UInt8 := if br = true then 10 :: List.replicate (2 * d) 32 else []
def headV (br o : Bool) (k : List UInt8) : List UInt8 := if o = true then quoteV k ++ (58 :: (if br = true then [32] else [])) else []
mutual
def textV (br : Bool) (d : Nat) : TA0 → List UInt8
  | ⟨k, b, m, t, l, ks⟩ =>
    if k = 1 then (if b = true then [116, 114, 117, 101] else [102, 97, 108, 115, 101])
    else if k = 2 then numB m
    else if k = 3 then quoteV t
    else if k = 4 then 91 :: (partsV br (d + 1) false true ks l ++ (if l.length = 0 then [] else lineV br d) ++ [93])
    else if k = 5 then 123 :: (partsV br (d + 1) true true ks l ++ (if l.length = 0 then [] else lineV br d) ++ [125])
    else [110, 117, 108, 108]
def partsV (br : Bool) (d : Nat) (o first : Bool) (ks : List (List UInt8)) : List TA0 → List UInt8
  | [] => []
  | x :: r => (if first = true then [] else [44]) ++ lineV br d ++ headV br o (ks.headD []) ++ textV br d x ++ partsV br d o false ks.tail r
end
theorem textV_eq (br : Bool) (d : Nat) (v : TA0) : textV br d v =
  if v.fKind = 1 then (if v.fBool = true then [116, 114, 117, 101] else [102, 97, 108, 115, 101])
  else if v.fKind = 2 then numB v.fNum
  else if v.fKind = 3 then quoteV v.fText
  else if v.fKind = 4 then 91 :: (partsV br (d + 1) false true v.fKeys v.fList ++ (if v.fList.length = 0 then [] else lineV br d) ++ [93])
  else if v.fKind = 5 then 123 :: (partsV br (d + 1) true true v.fKeys v.fList ++ (if v.fList.length = 0 then [] else lineV br d) ++ [125])
  else [110, 117, 108, 108] := by cases v; rw [textV]
def leadV (br : Bool) (d : Nat) (o first : Bool) (k : List UInt8) : List UInt8 := (if first = true then [] else [44]) ++ lineV br d ++ headV br o k
theorem partsV_cons (br : Bool) (d : Nat) (o first : Bool) (ks : List (List UInt8)) (x : TA0) (r : List TA0) : partsV br d o first ks (x :: r) = leadV br d o first (ks.headD []) ++ (textV br d x ++ partsV br d o false ks.tail r) := by
 rw [partsV]
 unfold leadV
 simp only [List.append_assoc]
theorem partsV_nil (br : Bool) (d : Nat) (o first : Bool) (ks : List (List UInt8)) : partsV br d o first ks [] = [] := by rw [partsV]
theorem partsV_snoc (br : Bool) (d : Nat) (o : Bool) : ∀ (l : List TA0) (ks : List (List UInt8)) (first : Bool) (x : TA0), partsV br d o first ks (l ++ [x]) = partsV br d o first ks l ++ (leadV br d o (first && decide (l.length = 0)) (ks.getD l.length []) ++ textV br d x)
 | [], ks, first, x => by
  rw [List.nil_append, partsV_cons, partsV_nil, partsV_nil, List.append_nil, List.nil_append]
  cases ks <;> simp
 | y :: l, ks, first, x => by
  rw [List.cons_append, partsV_cons, partsV_cons, partsV_snoc br d o l ks.tail false x]
  have e1 : ks.tail.getD l.length [] = ks.getD (y :: l).length [] := by cases ks <;> simp
  have e2 : (first && decide ((y :: l).length = 0)) = false := by simp
  rw [e1, e2, Bool.false_and]
  simp only [List.append_assoc]
theorem partsV_take (br : Bool) (d : Nat) (o : Bool) {l : List TA0} (ks : List (List UInt8)) {i : Nat} {x : TA0} (h : l[i]? = some x) : partsV br d o true ks (l.take (i + 1)) = partsV br d o true ks (l.take i) ++ (leadV br d o (decide (i = 0)) (ks.getD i []) ++ textV br d x) := by
 have hi : i < l.length := (List.getElem?_eq_some_iff.1 h).1
 have hl : (l.take i).length = i := by rw [List.length_take]; omega
 rw [List.take_add_one, h]
 show partsV br d o true ks (l.take i ++ [x]) = _
 rw [partsV_snoc, hl, Bool.true_and]
theorem qb_len (c : UInt8) : (qb c).length ≤ 6 := by
 unfold qb
 repeat (first | split | simp)
theorem flat_len : ∀ s : List UInt8, (s.flatMap qb).length ≤ 6 * s.length
 | [] => by simp
 | c :: r => by
  have h1 := qb_len c
  have h2 := flat_len r
  rw [List.flatMap_cons, List.length_append, List.length_cons]
  omega
theorem quote_len (s : List UInt8) : (quoteV s).length ≤ 6 * s.length + 2 := by
 have := flat_len s
 unfold quoteV
 simp only [List.length_cons, List.length_append, List.length_nil]
 omega
theorem num_len (x : Int) : (numB x).length ≤ 17 := by
 unfold numB
 cases h : Go.Num.fitsB x with
 | true => exact Go.Num.text_len h
 | false => rw [Go.Num.text_no h]; simp
theorem line_len (br : Bool) (d : Nat) : (lineV br d).length ≤ 2 * d + 1 := by
 unfold lineV
 split
 ·simp
 ·simp
theorem lead_len (br : Bool) (d : Nat) (o first : Bool) {k : List UInt8} (hk : k.length ≤ 5000) (hd : d ≤ 100) : (leadV br d o first k).length ≤ 31000 := by
 have h1 := line_len br d
 have h2 := quote_len k
 unfold leadV headV
 simp only [List.length_append]
 have h3 : (if first = true then ([] : List UInt8) else [44]).length ≤ 1 := by split <;> simp
 have h4 : (if o = true then quoteV k ++ (58 :: (if br = true then [32] else [])) else []).length ≤ 30010 := by
  split
  ·simp only [List.length_append, List.length_cons]
   split
   ·simp only [List.length_cons, List.length_nil]; omega
   ·simp only [List.length_nil]; omega
  ·simp
 omega
theorem text_len_gen (br : Bool) : ∀ (m d : Nat) (v : TA0), Small m v → d + m ≤ 100 → (textV br d v).length ≤ 100000000 * (walkV v).length
 | 0, _, _, h, _ => h.elim
 | m + 1, d, v, h, hd => by
  have hw := h.wide
  have hl := line_len br d
  have hwv : (walkV v).length = (walkVs v.fList).length + 1 := by rw [walkV_eq, List.length_cons]
  have parts : ∀ (o : Bool) (l : List TA0) (ks : List (List UInt8)) (first : Bool), (∀ x ∈ l, Small m x) → (∀ k ∈ ks, k.length ≤ 5000) → (partsV br (d + 1) o first ks l).length ≤ 31000 * l.length + 100000000 * (walkVs l).length := by
   intro o l
   induction l with
   | nil => intro ks first _ _; rw [partsV_nil]; simp
   | cons x r ih =>
    intro ks first hs hk
    have h1 := text_len_gen br m (d + 1) x (hs x List.mem_cons_self) (by omega)
    have h2 := ih ks.tail false (fun y hy => hs y (List.mem_cons_of_mem _ hy)) (fun k hk' => hk k (List.mem_of_mem_tail hk'))
    have h3 : (ks.headD []).length ≤ 5000 := by
     cases ks with
     | nil => simp
     | cons k r => exact hk k List.mem_cons_self
    have h4 := lead_len br (d + 1) o first h3 (by omega)
    rw [partsV_cons, List.length_append, List.length_append, List.length_cons]
    have h5 : (walkVs (x :: r)).length = (walkV x).length + (walkVs r).length := by rw [walkVs, List.length_append]
    rw [h5]
    omega
  have p4 := parts false v.fList v.fKeys true h.2.2.2.2 hw.2.2.2
  have p5 := parts true v.fList v.fKeys true h.2.2.2.2 hw.2.2.2
  have hll := hw.1
  have hlast : (if v.fList.length = 0 then ([] : List UInt8) else lineV br d).length ≤ 2 * d + 1 := by
   split
   ·simp
   ·exact hl
  have hnum := num_len v.fNum
  have hq := quote_len v.fText
  have ht := hw.2.2.1
  rw [textV_eq, hwv]
  split
  ·split <;> simp <;> omega
  ·split
   ·omega
   ·split
    ·omega
    ·split
     ·simp only [List.length_cons, List.length_append, List.length_nil]; omega
     ·split
      ·simp only [List.length_cons, List.length_append, List.length_nil]; omega
      ·simp; omega
def Stop (r : List UInt8) : Prop := r = [] ∨ ∃ c t, r = c :: t ∧ (c = 44 ∨ c = 93 ∨ c = 125 ∨ c = 10)
end Go.Proofs.YtfaedhhjamaniaaGreatDoor
end

section
namespace Go.Vc
open Go Go.RowKit
variable {dd : List Deferred}
def RepMap {κ δ : Type} (M : Mem) (emb : δ → Dat) : List (κ × δ) → List (κ × Value) → Prop
  | [], m => m = []
  | p :: r, m => ∃ cs m', m = (p.1, Value.agg cs.toArray) :: m' ∧ Rep M (emb p.2) cs ∧ RepMap M emb r m'
section
variable {κ δ : Type} {M M' : Mem} {emb : δ → Dat}
theorem RepMap.mono (h : M.le M') : ∀ {d : List (κ × δ)} {m : List (κ × Value)}, RepMap M emb d m → RepMap M' emb d m
 | [], _, hr => hr
 | p :: r, m, ⟨cs, m', h1, h2, h3⟩ => ⟨cs, m', h1, Rep.mono h _ _ h2, RepMap.mono h h3⟩
theorem RepMap.nil : RepMap M emb ([] : List (κ × δ)) [] := rfl
variable [DecidableEq κ]
theorem RepMap.put {k : κ} {x : δ} {cs : List Value} (hx : Rep M (emb x) cs) : ∀ {d : List (κ × δ)} {m : List (κ × Value)}, RepMap M emb d m → RepMap M emb (mput d k x) (mput m k (.agg cs.toArray))
 | [], m, h => by
  have : m = [] := h
  subst this
  exact ⟨cs, [], rfl, hx, rfl⟩
 | p :: r, m, ⟨c, m', h1, h2, h3⟩ => by
  subst h1
  unfold mput
  by_cases hk : p.1 = k
  ·rw [if_pos hk, if_pos hk]
   exact ⟨cs, m', rfl, hx, h3⟩
  ·rw [if_neg hk, if_neg hk]
   exact ⟨c, _, rfl, h2, RepMap.put hx h3⟩
end
theorem Hp.fzObj {w0 w : World} {M : Mem} {H : List Ent} {b : Nat} {o : Obj} (h : Hp w0 M (.obj b o :: H) w) : ∃ M', M.le M' ∧ Hp w0 M' H w ∧ M' b = some o :=
 ⟨_, h.freeze.1, h.freeze.2, by simp [Mem.add]⟩
section
variable {κ : Type} [DecidableEq κ] {P : Program} {ek : κ → Value} {w : World}
end
section
variable {α : Type}
end
section
variable {π σ β : Type}
variable {E : σ → Option (Lp σ β)} {Y : π → σ → Option (Lp σ β)} {m : List π} {seen : Array Nat} {s : σ} {b : β}
end
section
variable {κ V : Type} {ek : κ → Value} {ev : V → Value} {P : Program} {ops : Array Oper} {n : Nat} {Q : Exit → Act → World → Prop} {L : Fr} {a : Act} {w0 w : World} {M : Mem} {H : List Ent}
def KMapAt (M : Mem) (o : Option Nat) (ek : κ → Value) (ev : V → Value) (m : List (κ × V)) : Prop := (∃ b, o = some b ∧ M b = some (mapO ek ev m)) ∨ (o = none ∧ m = [])
theorem KMapAt.mono {M M' : Mem} (h : M.le M') {o : Option Nat} {m : List (κ × V)} : KMapAt M o ek ev m → KMapAt M' o ek ev m
 | .inl ⟨b, h1, h2⟩ => .inl ⟨b, h1, h _ _ h2⟩
 | .inr h1 => .inr h1
end
section
variable {P : Program} {w : World} {ρ : Operand → Value} {o : Oper}
end
section
variable {α : Type} {M : Mem} {sz : Nat} {f : α → Dat} {A : Option Addr} {cap : Nat} {xs : List α}
end
section
variable {α : Type} {P : Program} {ops : Array Oper} {n : Nat} {Q : Exit → Act → World → Prop} {L : Fr} {a : Act} {w0 w : World} {M : Mem} {H : List Ent} {sz : Nat} {f : α → Dat} {dd : List Deferred}
end
section
variable {P : Program} {w : World} {d : Nat} {xs ys : Array Value}
end
section
variable {κ V : Type} {P : Program} {w : World} {ek : κ → Value} {ev : V → Value}
end
section
variable {α : Type} {P : Program} {ops : Array Oper} {n : Nat} {Q : Exit → Act → World → Prop} {L : Fr} {a : Act} {w0 w : World} {M : Mem} {H : List Ent} {sz : Nat} {f : α → Dat} {dd : List Deferred}
end
end Go.Vc
end

section
namespace Go.Proofs.YtfaedhhjamaniaaGreatDoor
open Go Go.Vc Go.RowKit
def runes_short (n : Nat) : Option (List (Int × Int)) :=
  some (mput (mput (mput (mput (mput (mput (mput ([] : List (Int × Int)) (34 : Int) (34 : Int)) (92 : Int) (92 : Int)) (8 : Int) (98 : Int)) (9 : Int) (116 : Int)) (10 : Int) (110 : Int)) (12 : Int) (102 : Int)) (13 : Int) (114 : Int))
theorem runes_short_ok (n : Nat) (M : Mem) (hG : GL M) (r : (List (Int × Int))) (hF : runes_short n = some r) : Ok Tryz.prog M 76 [] (fun M' v => ∃ (b0 : Nat), v = .map (some b0) ∧ M' b0 = some (mapO (Value.int .u8) (Value.int .u8) r)) := by
 unfold runes_short at hF
 intro M1 hM0 w0 H w p0
 replace hG := GL.mono hM0 hG
 refine R_enter 3 Tryz.func76 rfl rfl (by simp) fun a0 f0 => RR (Y f0 1 fun _ f => eT (RR (W_newmap (Value.int .u8) (Value.int .u8) f p0 (by kernel_rfl) (by kernel_rfl) rfl rfl rfl fun bm_1 w_1 p_1 _ f => Y24 (ek := (Value.int .u8)) (ev := (Value.int .u8)) (m := ([] : List (Int × Int))) (k := (34 : Int)) (v := (34 : Int)) (kt := 5) (et := 5) f p_1 rfl (.inr rfl) (intKey (by kernel_rfl)) fun w_2 p_2 _ f => Y24 (ek := (Value.int .u8)) (ev := (Value.int .u8)) (m := mput ([] : List (Int × Int)) (34 : Int) (34 : Int)) (k := (92 : Int)) (v := (92 : Int)) (kt := 5) (et := 5) f p_2 rfl (.inr rfl) (intKey (by kernel_rfl)) fun w_3 p_3 _ f => Y24 (ek := (Value.int .u8)) (ev := (Value.int .u8)) (m := mput (mput ([] : List (Int × Int)) (34 : Int) (34 : Int)) (92 : Int) (92 : Int)) (k := (8 : Int)) (v := (98 : Int)) (kt := 5) (et := 5) f p_3 rfl (.inr rfl) (intKey (by kernel_rfl)) fun w_4 p_4 _ f => Y24 (ek := (Value.int .u8)) (ev := (Value.int .u8)) (m := mput (mput (mput ([] : List (Int × Int)) (34 : Int) (34 : Int)) (92 : Int) (92 : Int)) (8 : Int) (98 : Int)) (k := (9 : Int)) (v := (116 : Int)) (kt := 5) (et := 5) f p_4 rfl (.inr rfl) (intKey (by kernel_rfl)) fun w_5 p_5 _ f => Y24 (ek := (Value.int .u8)) (ev := (Value.int .u8)) (m := mput (mput (mput (mput ([] : List (Int × Int)) (34 : Int) (34 : Int)) (92 : Int) (92 : Int)) (8 : Int) (98 : Int)) (9 : Int) (116 : Int)) (k := (10 : Int)) (v := (110 : Int)) (kt := 5) (et := 5) f p_5 rfl (.inr rfl) (intKey (by kernel_rfl)) fun w_6 p_6 _ f => Y24 (ek := (Value.int .u8)) (ev := (Value.int .u8)) (m := mput (mput (mput (mput (mput ([] : List (Int × Int)) (34 : Int) (34 : Int)) (92 : Int) (92 : Int)) (8 : Int) (98 : Int)) (9 : Int) (116 : Int)) (10 : Int) (110 : Int)) (k := (12 : Int)) (v := (102 : Int)) (kt := 5) (et := 5) f p_6 rfl (.inr rfl) (intKey (by kernel_rfl)) fun w_7 p_7 _ f => ?_)))
 refine Y24 (ek := (Value.int .u8)) (ev := (Value.int .u8)) (m := mput (mput (mput (mput (mput (mput ([] : List (Int × Int)) (34 : Int) (34 : Int)) (92 : Int) (92 : Int)) (8 : Int) (98 : Int)) (9 : Int) (116 : Int)) (10 : Int) (110 : Int)) (12 : Int) (102 : Int)) (k := (13 : Int)) (v := (114 : Int)) (kt := 5) (et := 5) f p_7 rfl (.inr rfl) (intKey (by kernel_rfl)) fun w_8 p_8 _ f => Y f 2 fun _ f => eT (wp_ret ?_)
 obtain ⟨M_1, hM_1, p_9, h_1⟩ := p_8.fzObj
 refine E_ret1 f rfl (by kernel_rfl : Vc.look _ 0 = some (.map (some bm_1))) ?_
 obtain rfl := sI hF
 exact ⟨_, rfl, M_1, hM_1, p_9, ⟨bm_1, rfl, h_1⟩⟩
def strings_Builder_copyCheck (n : Nat) (d0_1 : List UInt8) : Option (List UInt8) :=
  some (d0_1)
theorem strings_Builder_copyCheck_ok (n : Nat) (M : Mem) (hG : GL M) (b0 : Nat) (d0_1 : List UInt8) (A_1 : Option Addr) (cap_1 : Nat) (cs_1 : List Value) (hr_1 : RepSeq M (d0_1.map embB) cs_1) (r : List UInt8) (hF : strings_Builder_copyCheck n d0_1 = some r) : OkH Tryz.prog M [Ent.obj b0 (.cells #[.pointer none, .slice A_1 d0_1.length cap_1] 46 (0, 0)), Ent.row 5 1 (.slice A_1 d0_1.length cap_1) d0_1.length cs_1] 67 [.pointer (some (⟨b0, 0, none⟩))] (fun M' E' v => ∃ (A_2 : Option Addr) (A_3 : Option Addr) (cap_2 : Nat) (cs_2 : List Value), v = .tuple #[] ∧ E' = [Ent.obj b0 (.cells #[.pointer A_2, .slice A_3 r.length cap_2] 46 (0, 0)), Ent.row 5 1 (.slice A_3 r.length cap_2) r.length cs_2] ∧ (A_2 = none ∨ A_2 = some ⟨b0, 0, none⟩) ∧ RepSeq M' (r.map embB) cs_2) := by
 unfold strings_Builder_copyCheck at hF
 intro M1 hM0 w0 H w p0
 replace hG := GL.mono hM0 hG
 replace hr_1 := RepSeq.mono hM0 _ _ hr_1
 refine R_enter 20 Tryz.func67 rfl rfl (by simp) fun a0 f0 => RR (Y f0 3 fun _ f => Z f (Y31 (v := .pointer none) rfl (ad := ⟨b0, 0, none⟩) (p0.ownCell 0 rfl 0)) fun _ f => Z (v := .bool true) f (X_ptrNil (q := none) (e := 46) rfl (by kernel_rfl) (by kernel_rfl) (by kernel_rfl) _) fun _ f => eT (Y8 f (R_reg (Y f 2 fun _ f => Z (v := .pointer (some (⟨b0, 0, none⟩))) f (X_toUnsafe rfl (by kernel_rfl) (t := 46) (by kernel_rfl) (by kernel_rfl) (by kernel_rfl) p0 (i := 0) rfl (by simp)) fun _ f => Z (v := .pointer (some (⟨b0, 0, none⟩))) f (X_here (by kernel_rfl)) fun _ f => ?_))))
 refine Z (v := .pointer (some (⟨b0, 0, none⟩))) f (X_fromUnsafe rfl (by kernel_rfl) (u := 46) (by kernel_rfl) (by kernel_rfl) (by kernel_rfl) p0 (i := 0) rfl (by kernel_rfl)) fun _ f => Y f 2 fun _ f => Y26 f p0 0 rfl rfl (b := b0) (j := 0) (v := .pointer (some (⟨b0, 0, none⟩))) rfl (by exact rfl) (by simp) (by simp) ((Ent.obj b0 (.cells #[.pointer (some (⟨b0, 0, none⟩)), .slice A_1 d0_1.length cap_1] 46 (0, 0))) :: (Ent.row 5 1 (.slice A_1 d0_1.length cap_1) d0_1.length cs_1) :: H) rfl fun w_1 p_1 _ f => W_end rfl (E_end0 f rfl  ?_)
 obtain rfl := sI hF
 exact ⟨_, rfl, M1, _, (mR _), p_1, ⟨(some ⟨b0, 0, none⟩), A_1, cap_1, cs_1, rfl, rfl, (.inr rfl), hr_1⟩⟩
def strings_Builder_copyCheck_2 (n : Nat) (d0_1 : List UInt8) : Option (List UInt8) :=
  some (d0_1)
theorem strings_Builder_copyCheck_2_ok (n : Nat) (M : Mem) (hG : GL M) (b0 : Nat) (d0_1 : List UInt8) (A_1 : Option Addr) (cap_1 : Nat) (cs_1 : List Value) (hr_1 : RepSeq M (d0_1.map embB) cs_1) (r : List UInt8) (hF : strings_Builder_copyCheck_2 n d0_1 = some r) : OkH Tryz.prog M [Ent.obj b0 (.cells #[.pointer (some (⟨b0, 0, none⟩)), .slice A_1 d0_1.length cap_1] 46 (0, 0)), Ent.row 5 1 (.slice A_1 d0_1.length cap_1) d0_1.length cs_1] 67 [.pointer (some (⟨b0, 0, none⟩))] (fun M' E' v => ∃ (A_2 : Option Addr) (A_3 : Option Addr) (cap_2 : Nat) (cs_2 : List Value), v = .tuple #[] ∧ E' = [Ent.obj b0 (.cells #[.pointer A_2, .slice A_3 r.length cap_2] 46 (0, 0)), Ent.row 5 1 (.slice A_3 r.length cap_2) r.length cs_2] ∧ (A_2 = none ∨ A_2 = some ⟨b0, 0, none⟩) ∧ RepSeq M' (r.map embB) cs_2) := by
 unfold strings_Builder_copyCheck_2 at hF
 intro M1 hM0 w0 H w p0
 replace hG := GL.mono hM0 hG
 replace hr_1 := RepSeq.mono hM0 _ _ hr_1
 refine R_enter 20 Tryz.func67 rfl rfl (by simp) fun a0 f0 => RR (Y f0 3 fun _ f => Z f (Y31 (v := .pointer (some (⟨b0, 0, none⟩))) rfl (ad := ⟨b0, 0, none⟩) (p0.ownCell 0 rfl 0)) fun _ f => Z (v := .bool false) f (X_ptrNil (q := some (⟨b0, 0, none⟩)) (e := 46) rfl (by kernel_rfl) (by kernel_rfl) (by kernel_rfl) _) fun _ f => eT (Y7 f (RR (Y f 3 fun _ f => Z f (Y31 (v := .pointer (some (⟨b0, 0, none⟩))) rfl (ad := ⟨b0, 0, none⟩) (p0.ownCell 0 rfl 0)) fun _ f => Y f 1 fun _ f => ?_))))
 refine Z (v := .bool false) f (X_ptrNeSame (a := ⟨b0, 0, none⟩) (e := 46) rfl (by kernel_rfl) (by kernel_rfl) (by kernel_rfl) (by kernel_rfl) _) fun _ f => eT (Y7 f (wp_skip (E_end0 f rfl  ?_)))
 obtain rfl := sI hF
 exact ⟨_, rfl, M1, _, (mR _), p0, ⟨(some ⟨b0, 0, none⟩), A_1, cap_1, cs_1, rfl, rfl, (.inr rfl), hr_1⟩⟩
def strings_Builder_copyCheck_3 (n : Nat) (d0_1 : List UInt8) : Option (List UInt8) := strings_Builder_copyCheck n d0_1
theorem strings_Builder_copyCheck_3_ok (n : Nat) (M : Mem) (hG : GL M) (b0 : Nat) (A_1 : Option Addr) (hb_1 : (A_1 = none ∨ A_1 = some ⟨b0, 0, none⟩)) (d0_1 : List UInt8) (A_2 : Option Addr) (cap_1 : Nat) (cs_1 : List Value) (hr_1 : RepSeq M (d0_1.map embB) cs_1) (r : List UInt8) (hF : strings_Builder_copyCheck_3 n d0_1 = some r) : OkH Tryz.prog M [Ent.obj b0 (.cells #[.pointer A_1, .slice A_2 d0_1.length cap_1] 46 (0, 0)), Ent.row 5 1 (.slice A_2 d0_1.length cap_1) d0_1.length cs_1] 67 [.pointer (some (⟨b0, 0, none⟩))] (fun M' E' v => ∃ (A_3 : Option Addr) (A_4 : Option Addr) (cap_2 : Nat) (cs_2 : List Value), v = .tuple #[] ∧ E' = [Ent.obj b0 (.cells #[.pointer A_3, .slice A_4 r.length cap_2] 46 (0, 0)), Ent.row 5 1 (.slice A_4 r.length cap_2) r.length cs_2] ∧ (A_3 = none ∨ A_3 = some ⟨b0, 0, none⟩) ∧ RepSeq M' (r.map embB) cs_2) := by
 rcases hb_1 with rfl | rfl
 ·exact strings_Builder_copyCheck_ok n M hG b0 d0_1 A_2 cap_1 cs_1 hr_1 r hF
 ·exact strings_Builder_copyCheck_2_ok n M hG b0 d0_1 A_2 cap_1 cs_1 hr_1 r hF
def strings_Builder_WriteByte (n : Nat) (d0_1 : List UInt8) (d1 : Int) : Option (Unit × List UInt8) :=
  (strings_Builder_copyCheck_3 n d0_1).bind fun x_1 =>
  need (0 ≤ d1 ∧ d1 < 256) <|
  need ((x_1.length + 1) * 1 ≤ 140737488355328) <|
  some (((), x_1 ++ [UInt8.ofNat (d1).toNat]))
theorem strings_Builder_WriteByte_ok (n : Nat) (M : Mem) (hG : GL M) (b0 : Nat) (A_1 : Option Addr) (hb_1 : (A_1 = none ∨ A_1 = some ⟨b0, 0, none⟩)) (d0_1 : List UInt8) (A_2 : Option Addr) (cap_1 : Nat) (cs_1 : List Value) (hr_1 : RepSeq M (d0_1.map embB) cs_1) (d1 : Int) (r : Unit × List UInt8) (hF : strings_Builder_WriteByte n d0_1 d1 = some r) : OkH Tryz.prog M [Ent.obj b0 (.cells #[.pointer A_1, .slice A_2 d0_1.length cap_1] 46 (0, 0)), Ent.row 5 1 (.slice A_2 d0_1.length cap_1) d0_1.length cs_1] 61 [.pointer (some (⟨b0, 0, none⟩)), .int .u8 d1] (fun M' E' v => ∃ (A_6 : Option Addr) (A_7 : Option Addr) (cap_4 : Nat) (cs_4 : List Value), v = .nilIface ∧ E' = [Ent.obj b0 (.cells #[.pointer A_6, .slice A_7 r.2.length cap_4] 46 (0, 0)), Ent.row 5 1 (.slice A_7 r.2.length cap_4) r.2.length cs_4] ∧ (A_6 = none ∨ A_6 = some ⟨b0, 0, none⟩) ∧ RepSeq M' (r.2.map embB) cs_4) := by
 unfold strings_Builder_WriteByte at hF
 intro M1 hM0 w0 H w p0
 replace hG := GL.mono hM0 hG
 replace hr_1 := RepSeq.mono hM0 _ _ hr_1
 refine R_enter 17 Tryz.func61 rfl rfl (by simp) fun a0 f0 => RR (Y f0 1 fun _ f => eT (RR (Y f 1 fun _ f => ?_)))
 obtain ⟨x_1, hx_1, hF_1⟩ := bS hF
 refine Y16 (E := [Ent.obj b0 (.cells #[.pointer A_1, .slice A_2 d0_1.length cap_1] 46 (0, 0)), Ent.row 5 1 (.slice A_2 d0_1.length cap_1) d0_1.length cs_1]) (H := (H)) f p0 (strings_Builder_copyCheck_3_ok n _ hG b0 A_1 hb_1 d0_1 A_2 cap_1 cs_1 hr_1 x_1 hx_1) fun _ M_1 E_1 w_1 hM_1 p_1 q_1 _ f => ?_
 obtain ⟨A_3, A_4, cap_2, cs_2, rfl, rfl, hb_2, hr_2⟩ := q_1
 refine eT (RR (Y f 4 fun _ f => Z f (Y31 (v := .slice A_4 x_1.length cap_2) rfl (ad := ⟨b0, 1, none⟩) (p_1.ownCell 0 rfl 1)) fun _ f => Y f 1 fun _ f => V_allocS (k := 1) (c := 1) f p_1 (.cells #[.int .u8 d1] 5 (0, 0)) (by kernel_rfl) (fun _ => by kernel_rfl) fun b_1 w_2 p_2 _ f => ?_))
 obtain ⟨g_1, hF_2⟩ := nS hF_1
 have p_3 := p_2.pl [2]
 obtain ⟨g_2, hF_3⟩ := nS hF_2
 refine Y19 (z := .int .u8 0) (f := embB) (xs := x_1) (ys := [UInt8.ofNat (d1).toNat]) (news := [.int .u8 d1]) (ad := ⟨b_1, 0, none⟩) (m := 1) (c := 1) f p_3 hr_2 (by exact ⟨_, _, rfl, (embB_of (by omega)), rfl⟩) rfl rfl rfl rfl (own_cells (p_3.ownCell 1 rfl) 0 rfl) (by exact g_2) (by have hg_ := g_2; first | omega | (simp only [List.length_cons, List.length_nil] at *; omega)) fun A_5 cap_3 cs_3 w_3 p_4 hr_3 _ f => ?_
 have p_5 := p_4.pl [1]
 have p_6 := p_5.drop
 refine Y f 2 fun _ f => Y26 f p_6 1 rfl rfl (b := b0) (j := 1) (v := .slice A_5 (x_1 ++ [UInt8.ofNat (d1).toNat]).length cap_3) rfl (by exact rfl) (by simp) (by simp) ((Ent.row 5 1 (.slice A_5 (x_1 ++ [UInt8.ofNat (d1).toNat]).length cap_3) (x_1 ++ [UInt8.ofNat (d1).toNat]).length cs_3) :: (Ent.obj b0 (.cells #[.pointer A_3, .slice A_5 (x_1 ++ [UInt8.ofNat (d1).toNat]).length cap_3] 46 (0, 0))) :: H) rfl fun w_4 p_7 _ f => eT (RR (Y f 1 fun _ f => eT (wp_ret (E_ret1 f rfl (by kernel_rfl : Vc.look _ 4 = some (.nilIface)) ?_))))
 obtain rfl := sI hF_3
 have p_8 := p_7.pl [1]
 exact ⟨_, rfl, M_1, _, hM_1, p_8, ⟨A_3, A_5, cap_3, cs_3, rfl, rfl, hb_2, hr_3⟩⟩
def strings_Builder_WriteString (n : Nat) (d0_1 : List UInt8) (d1 : List UInt8) : Option (Int × Unit × List UInt8) :=
  (strings_Builder_copyCheck_3 n d0_1).bind fun x_1 =>
  need ((x_1.length + d1.length) * 1 ≤ 140737488355328) <|
  some (((d1.length : Int), (), x_1 ++ d1))
theorem strings_Builder_WriteString_ok (n : Nat) (M : Mem) (hG : GL M) (b0 : Nat) (A_1 : Option Addr) (hb_1 : (A_1 = none ∨ A_1 = some ⟨b0, 0, none⟩)) (d0_1 : List UInt8) (A_2 : Option Addr) (cap_1 : Nat) (cs_1 : List Value) (hr_1 : RepSeq M (d0_1.map embB) cs_1) (d1 : List UInt8) (r : Int × Unit × List UInt8) (hF : strings_Builder_WriteString n d0_1 d1 = some r) : OkH Tryz.prog M [Ent.obj b0 (.cells #[.pointer A_1, .slice A_2 d0_1.length cap_1] 46 (0, 0)), Ent.row 5 1 (.slice A_2 d0_1.length cap_1) d0_1.length cs_1] 55 [.pointer (some (⟨b0, 0, none⟩)), S d1] (fun M' E' v => ∃ (A_6 : Option Addr) (A_7 : Option Addr) (cap_4 : Nat) (cs_4 : List Value), v = .tuple #[.int .i64 r.1, .nilIface] ∧ E' = [Ent.obj b0 (.cells #[.pointer A_6, .slice A_7 r.2.2.length cap_4] 46 (0, 0)), Ent.row 5 1 (.slice A_7 r.2.2.length cap_4) r.2.2.length cs_4] ∧ (A_6 = none ∨ A_6 = some ⟨b0, 0, none⟩) ∧ RepSeq M' (r.2.2.map embB) cs_4) := by
 unfold strings_Builder_WriteString at hF
 intro M1 hM0 w0 H w p0
 replace hG := GL.mono hM0 hG
 replace hr_1 := RepSeq.mono hM0 _ _ hr_1
 refine R_enter 19 Tryz.func55 rfl rfl (by simp) fun a0 f0 => RR (Y f0 2 fun _ f => eT (RR (Y f 1 fun _ f => ?_)))
 obtain ⟨x_1, hx_1, hF_1⟩ := bS hF
 refine Y16 (E := [Ent.obj b0 (.cells #[.pointer A_1, .slice A_2 d0_1.length cap_1] 46 (0, 0)), Ent.row 5 1 (.slice A_2 d0_1.length cap_1) d0_1.length cs_1]) (H := (H)) f p0 (strings_Builder_copyCheck_3_ok n _ hG b0 A_1 hb_1 d0_1 A_2 cap_1 cs_1 hr_1 x_1 hx_1) fun _ M_1 E_1 w_1 hM_1 p_1 q_1 _ f => ?_
 obtain ⟨A_3, A_4, cap_2, cs_2, rfl, rfl, hb_2, hr_2⟩ := q_1
 refine eT (RR (Y f 4 fun _ f => Z f (Y31 (v := .slice A_4 x_1.length cap_2) rfl (ad := ⟨b0, 1, none⟩) (p_1.ownCell 0 rfl 1)) fun _ f => Y f 1 fun _ f => ?_))
 have p_2 := p_1.pl [1]
 obtain ⟨g_1, hF_2⟩ := nS hF_1
 refine Y22 (z := .int .u8 0) (xs := x_1) (l := d1) f p_2 hr_2 rfl rfl rfl g_1 (by omega) fun A_5 cap_3 cs_3 w_2 p_3 hr_3 _ f => Y f 2 fun _ f => Y26 f p_3 1 rfl rfl (b := b0) (j := 1) (v := .slice A_5 (x_1 ++ d1).length cap_3) rfl (by exact rfl) (by simp) (by simp) ((Ent.row 5 1 (.slice A_5 (x_1 ++ d1).length cap_3) (x_1 ++ d1).length cs_3) :: (Ent.obj b0 (.cells #[.pointer A_3, .slice A_5 (x_1 ++ d1).length cap_3] 46 (0, 0))) :: H) rfl fun w_3 p_4 _ f => eT (RR (Y f 4 fun _ f => eT (wp_ret (E_ret2 f rfl (by kernel_rfl : Vc.look _ 4 = some (.int .i64 (d1.length : Int))) (by kernel_rfl : Vc.look _ 5 = some (.nilIface)) ?_))))
 obtain rfl := sI hF_2
 have p_5 := p_4.pl [1]
 exact ⟨_, rfl, M_1, _, hM_1, p_5, ⟨A_3, A_5, cap_3, cs_3, rfl, rfl, hb_2, hr_3⟩⟩
def strings_Builder_String (n : Nat) (d0_1 : List UInt8) : Option (List UInt8 × List UInt8) :=
  some ((d0_1, d0_1))
theorem strings_Builder_String_ok (n : Nat) (M : Mem) (hG : GL M) (b0 : Nat) (A_1 : Option Addr) (hb_1 : (A_1 = none ∨ A_1 = some ⟨b0, 0, none⟩)) (d0_1 : List UInt8) (A_2 : Option Addr) (cap_1 : Nat) (cs_1 : List Value) (hr_1 : RepSeq M (d0_1.map embB) cs_1) (r : List UInt8 × List UInt8) (hF : strings_Builder_String n d0_1 = some r) : OkH Tryz.prog M [Ent.obj b0 (.cells #[.pointer A_1, .slice A_2 d0_1.length cap_1] 46 (0, 0)), Ent.row 5 1 (.slice A_2 d0_1.length cap_1) d0_1.length cs_1] 27 [.pointer (some (⟨b0, 0, none⟩))] (fun M' E' v => ∃ (A_3 : Option Addr) (A_4 : Option Addr) (cap_2 : Nat), v = S r.1 ∧ E' = [Ent.obj b0 (.cells #[.pointer A_3, .slice A_4 r.2.length cap_2] 46 (0, 0))] ∧ (A_3 = none ∨ A_3 = some ⟨b0, 0, none⟩) ∧ Sli M' 1 embB A_4 cap_2 r.2) := by
 unfold strings_Builder_String at hF
 intro M1 hM0 w0 H w p0
 replace hG := GL.mono hM0 hG
 replace hr_1 := RepSeq.mono hM0 _ _ hr_1
 refine R_enter 14 Tryz.func27 rfl rfl (by simp) fun a0 f0 => RR (Y f0 1 fun _ f => eT (R_seq ?_))
 have p_1 := p0.pl [1]
 refine R_mix (E := [Ent.row 5 1 (.slice A_2 d0_1.length cap_1) d0_1.length cs_1]) (Hr := ((Ent.obj b0 (.cells #[.pointer A_1, .slice A_2 d0_1.length cap_1] 46 (0, 0))) :: H)) [(0, true), (1, true), (2, true), (3, true), (5, true), (6, true), (7, true), (8, true), (9, true), (4, false), (10, false), (11, true)] p_1 (by kernel_rfl) (by kernel_rfl) rfl (by kernel_rfl) (Y0 default f 3 fun _ f => M_eq (v := .slice A_2 d0_1.length cap_1) f (by kernel_rfl) (by kernel_rfl) rfl rfl (fun _ pq => Y31 (v := .slice A_2 d0_1.length cap_1) rfl (ad := ⟨b0, 1, none⟩) (pq.ownCell 0 rfl 1)) fun _ f => Y0 default f 3 fun _ f => M_eq (v := .slice A_2 d0_1.length cap_1) f (by kernel_rfl) (by kernel_rfl) rfl rfl (fun _ pq => Y31 (v := .slice A_2 d0_1.length cap_1) rfl (ad := ⟨b0, 1, none⟩) (pq.ownCell 0 rfl 1)) fun _ f => Y0 default f 1 fun _ f => M_fix (E := [Ent.row 5 1 (.slice A_2 d0_1.length cap_1) d0_1.length cs_1]) fun w_1 p_2 => W_sliceData (v := .slice A_2 d0_1.length cap_1) f p_2 (by kernel_rfl) (by kernel_rfl) rfl rfl rfl (by kernel_rfl) (by kernel_rfl) fun q_1 w_2 p_3 hd_1 _ f => W_end rfl (M_go (M1 := M1) (E := [Ent.row 5 1 (.slice A_2 d0_1.length cap_1) d0_1.length cs_1]) (mR _) p_3 (M_fix (E := [Ent.row 5 1 (.slice A_2 d0_1.length cap_1) d0_1.length cs_1]) fun w_3 p_4 => ?_)))
 refine W_unsafeString (q := q_1) (v := .slice A_2 d0_1.length cap_1) (l := d0_1) (A := A_2) (cap := cap_1) rfl f p_4 hr_1 hd_1 (by kernel_rfl) (by kernel_rfl) rfl rfl rfl (by kernel_rfl) (by kernel_rfl) (by kernel_rfl) (by kernel_rfl) fun M_1 w_4 hM_1 p_5 h_1 _ f => W_end rfl (M_go (M1 := M_1) (E := []) hM_1 p_5 (Y0 default f 1 fun _ f => M_end rfl fun w_5 p_6 => T_n (wp_ret (E_ret1 f rfl (by kernel_rfl : Vc.look _ 2 = some (S d0_1)) ?_))))
 obtain rfl := sI hF
 exact ⟨_, rfl, M_1, _, hM_1, p_6, ⟨A_1, A_2, cap_1, rfl, rfl, hb_1, h_1⟩⟩
def runes_Quote_s1 (n : Nat) (d0 : List UInt8) (x_2 : (List (Int × Int))) (s_1 : Int × List UInt8) : Option (Lp (Int × List UInt8) (List UInt8)) :=
    bif (decide (s_1.1 < (d0.length : Int))) then
      ((getI d0 s_1.1).bind fun c_1 =>
      bif (mget x_2 ((c_1).toNat : Int)).isSome then
        ((strings_Builder_WriteByte n s_1.2 (92 : Int)).bind fun x_4 =>
        (strings_Builder_WriteByte n x_4.2 ((mget x_2 ((c_1).toNat : Int)).getD (0 : Int))).bind fun x_5 =>
        need (inR .i64 (s_1.1 + 1)) <|
        some (.nx (s_1.1 + 1, x_5.2)))
      else
        bif (decide (((c_1).toNat : Int) < 32)) then
          ((strings_Builder_WriteString n s_1.2 [92, 117, 48, 48]).bind fun x_6 =>
          need (inR .u8 ((48 : Int) + (bShr .u8 ((c_1).toNat : Int) (4 : Int)))) <|
          (strings_Builder_WriteByte n x_6.2.2 ((48 : Int) + (bShr .u8 ((c_1).toNat : Int) (4 : Int)))).bind fun x_7 =>
          (getI ([48, 49, 50, 51, 52, 53, 54, 55, 56, 57, 97, 98, 99, 100, 101, 102] : List UInt8) (bAnd .u8 ((c_1).toNat : Int) (15 : Int))).bind fun c_2 =>
          (strings_Builder_WriteByte n x_7.2 ((c_2).toNat : Int)).bind fun x_8 =>
          need (inR .i64 (s_1.1 + 1)) <|
          some (.nx (s_1.1 + 1, x_8.2)))
        else
          (strings_Builder_WriteByte n s_1.2 ((c_1).toNat : Int)).bind fun x_9 =>
          need (inR .i64 (s_1.1 + 1)) <|
          some (.nx (s_1.1 + 1, x_9.2)))
    else
      some (.br s_1.2)
def runes_Quote (n : Nat) (d0 : List UInt8) : Option (List UInt8 × Int) :=
  (runes_Valid n d0).bind fun x_1 =>
  bif !x_1 then
    (some ((([] : List UInt8), (10 : Int))))
  else
    (runes_short n).bind fun x_2 =>
    (strings_Builder_WriteByte n ([] : List UInt8) (34 : Int)).bind fun x_3 =>
    (loopF (runes_Quote_s1 n d0 x_2) n ((0 : Int), x_3.2)).bind fun y_1 =>
    (strings_Builder_WriteByte n y_1 (34 : Int)).bind fun x_10 =>
    (strings_Builder_String n x_10.2).bind fun x_11 =>
    some ((x_11.1, (0 : Int)))
set_option maxRecDepth 20000 in
theorem runes_Quote_ok (n : Nat) (M : Mem) (hG : GL M) (d0 : List UInt8) (r : List UInt8 × Int) (hF : runes_Quote n d0 = some r) : Ok Tryz.prog M 70 [S d0] (fun _ v => v = .tuple #[S r.1, .int .i64 r.2]) := by
 unfold runes_Quote at hF
 intro M1 hM0 w0 H w p0
 replace hG := GL.mono hM0 hG
 refine R_enter 49 Tryz.func70 rfl rfl (by simp) fun a0 f0 => RR (Y f0 2 fun _ f => eT (R_seq (RR (Y f 1 fun _ f => ?_))))
 obtain ⟨x_1, hx_1, hF_1⟩ := bS hF
 refine Y17 f p0 (runes_Valid_ok n _ hG d0 x_1 hx_1) fun w_1 p_1 _ f => Y f 1 fun _ f => eT (RcF f hF_1 (fun h_1 hF_2 => ?_) fun h_1 hF_3 => ?_)
 ·have k_1 : (x_1) = false := by simpa using h_1
  refine RR (Y f 2 fun _ f => eT (wp_ret (T_r (E_ret2 f rfl (by kernel_rfl : Vc.look _ 2 = some (S [])) (by kernel_rfl : Vc.look _ 3 = some (.int .i64 10)) ?_))))
  obtain rfl := sI hF_2
  exact ⟨_, rfl, M1, (mR _), p_1, rfl⟩
 ·have k_2 : (x_1) = true := by simpa using h_1
  refine wp_skip (T_n (RR ?_))
  obtain ⟨x_2, hx_2, hF_4⟩ := bS hF_3
  refine Y15 f p_1 (runes_short_ok n _ hG x_2 hx_2) fun _ M_1 w_2 hM_1 p_2 q_1 _ f => ?_
  obtain ⟨bk_1, rfl, h0_1⟩ := q_1
  refine Y f 1 fun _ f => eT (RR (Y11 f p_2 (.cells #[.pointer none, .slice none 0 0] 46 (0, 0)) fun b_1 w_3 p_3 _ f => eT (RR ?_)))
  obtain ⟨A_1, cap_1, hv_1⟩ : ∃ A cap, Value.slice none 0 0 = .slice A ([] : List UInt8).length cap := ⟨none, 0, rfl⟩
  have p_4 : Hp w0 M_1 ((Ent.row 5 1 (.slice A_1 ([] : List UInt8).length cap_1) ([] : List UInt8).length []) :: (Ent.obj b_1 (.cells #[.pointer none, .slice A_1 ([] : List UInt8).length cap_1] 46 (0, 0))) :: H) w_3 := by rw [← hv_1]; exact p_3.nilRow 5 1
  have hr_1 : RepSeq M_1 (([] : List UInt8).map embB) [] := rfl
  obtain ⟨x_3, hx_3, hF_5⟩ := bS hF_4
  have p_6 := p_4.pl [1]
  refine Y16 (E := [Ent.obj b_1 (.cells #[.pointer none, .slice A_1 ([] : List UInt8).length cap_1] 46 (0, 0)), Ent.row 5 1 (.slice A_1 ([] : List UInt8).length cap_1) ([] : List UInt8).length []]) (H := (H)) f p_6 (strings_Builder_WriteByte_ok n _ (GL.mono hM_1 hG) b_1 none (.inl rfl) ([] : List UInt8) A_1 cap_1 [] hr_1 (34 : Int) x_3 hx_3) fun _ M_2 E_1 w_4 hM_2 p_5 q_2 _ f => ?_
  obtain ⟨A_2, A_3, cap_2, cs_1, rfl, rfl, hb_1, hr_2⟩ := q_2
  refine eT (R_seq (RR (Y f 3 fun _ f => eT (wp_block ?_))))
  have p_7 := p_5.pl [1]
  obtain ⟨b_2, hL_1, hF_6⟩ := bS hF_5
  refine wp_mono (Q := fun e a w => (e = .exit 0 ∧ (∃ y_1 : List UInt8, b_2 = y_1 ∧ ∃ M_10 : Mem, M_2.le M_10 ∧ ∃ (A_18 : Option Addr), ∃ (A_19 : Option Addr), ∃ (cap_10 : Nat), ∃ (cs_9 : List Value), (A_18 = none ∨ A_18 = some ⟨b_1, 0, none⟩) ∧ RepSeq M_10 (y_1.map embB) cs_9 ∧ Frm 49 [(5, .pointer (some (⟨b_1, 0, none⟩)))] a ∧ Hp w0 M_10 ((Ent.row 5 1 (.slice A_19 y_1.length cap_10) y_1.length cs_9) :: (Ent.obj b_1 (.cells #[.pointer A_18, .slice A_19 y_1.length cap_10] 46 (0, 0))) :: H) w))) (R_loop (n := 49) (w0 := w0) (M := M_2) (fun (x : Nat × (Int × List UInt8) × (Option Addr) × (Option Addr) × Nat × (List Value)) => match x with | (m_2, s_1, A_4, A_5, cap_3, cs_2) => [(0, S d0), (4, .map (some bk_1)), (5, .pointer (some (⟨b_1, 0, none⟩))), (16, .int .i64 (d0.length : Int)), (17, .int .i64 s_1.1)]) (fun (x : Nat × (Int × List UInt8) × (Option Addr) × (Option Addr) × Nat × (List Value)) => match x with | (m_2, s_1, A_4, A_5, cap_3, cs_2) => ((Ent.row 5 1 (.slice A_5 s_1.2.length cap_3) s_1.2.length cs_2) :: (Ent.obj b_1 (.cells #[.pointer A_4, .slice A_5 s_1.2.length cap_3] 46 (0, 0))) :: H)) (fun (x : Nat × (Int × List UInt8) × (Option Addr) × (Option Addr) × Nat × (List Value)) (MM : Mem) => match x with | (m_2, s_1, A_4, A_5, cap_3, cs_2) => loopF (runes_Quote_s1 n d0 x_2) m_2 s_1 = some b_2 ∧ (A_4 = none ∨ A_4 = some ⟨b_1, 0, none⟩) ∧ RepSeq MM (s_1.2.map embB) cs_2) (fun (x : Nat × (Int × List UInt8) × (Option Addr) × (Option Addr) × Nat × (List Value)) => match x with | (m_2, s_1, A_4, A_5, cap_3, cs_2) => m_2) (n, ((0 : Int), x_3.2), A_2, A_3, cap_2, cs_1) (f.kp) p_7 ⟨hL_1, hb_1, hr_2⟩ ?_) ?_
  ·rintro ⟨m_2, s_1, A_4, A_5, cap_3, cs_2⟩ M_3 _ w_5 hM_3 I_1 f p_8
   obtain ⟨I_1L, hb_2, hr_3⟩ := I_1
   obtain ⟨m_3, r_1, rfl, hs_1, hn_1⟩ := loop_step I_1L
   unfold runes_Quote_s1 at hs_1
   refine RR (Y f 1 fun _ f => eT (R_seq (RcF f hs_1 (fun h_2 hF_7 => ?_) fun h_2 hF_24 => ?_)))
   ·have k_3 := dI.1 h_2
    refine wp_skip (T_n (R_seq (wp_block (RR (Y f 2 fun _ f => eT (RR (Y f 2 fun _ f => ?_)))))))
    obtain ⟨c_1, hx_4, hF_8⟩ := bS hF_7
    refine Z f (Y37 rfl (l := d0) (k := .i64) (i := s_1.1) (getI_nn hx_4) (getI_lt hx_4)) fun _ f => ?_
    have f := Frm.set f 22 (v := .int .u8 ((d0.getD s_1.1.toNat 0).toNat : Int)) (v' := .int .u8 ((c_1).toNat : Int)) (by kernel_rfl) (congrArg (fun c : UInt8 => Value.int .u8 ((c.toNat : Nat) : Int)) (getI_getD hx_4))
    refine Y f 1 fun _ f => eT (RR (Y f 2 fun _ f => Z (v := .tuple #[.int .u8 ((mget x_2 ((c_1).toNat : Int)).getD (0 : Int)), .bool (mget x_2 ((c_1).toNat : Int)).isSome]) f (Y34 (ek := (Value.int .u8)) (ev := (Value.int .u8)) (m := x_2) (k := ((c_1).toNat : Int)) (z := (0 : Int)) (kt := 5) (et := 5) rfl (intKey (by kernel_rfl)) (p_8.mem _ _ ((hM_2.trans hM_3) _ _ h0_1))) fun _ f => Y f 5 fun _ f => eT (RR (Y f 1 fun _ f => eT (RcF f hF_8 (fun h_3 hF_9 => ?_) fun h_3 hF_13 => ?_)))))
    ·refine RR ?_
     obtain ⟨x_4, hx_5, hF_10⟩ := bS hF_9
     have p_10 := p_8.pl [1]
     refine Y16 (E := [Ent.obj b_1 (.cells #[.pointer A_4, .slice A_5 s_1.2.length cap_3] 46 (0, 0)), Ent.row 5 1 (.slice A_5 s_1.2.length cap_3) s_1.2.length cs_2]) (H := (H)) f p_10 (strings_Builder_WriteByte_ok n _ (GL.mono ((hM_1.trans hM_2).trans hM_3) hG) b_1 A_4 hb_2 s_1.2 A_5 cap_3 cs_2 hr_3 (92 : Int) x_4 hx_5) fun _ M_4 E_2 w_6 hM_4 p_9 q_3 _ f => ?_
     obtain ⟨A_6, A_7, cap_4, cs_3, rfl, rfl, hb_3, hr_4⟩ := q_3
     refine eT (R_reg (Y f 1 fun _ f => ?_))
     obtain ⟨x_5, hx_6, hF_11⟩ := bS hF_10
     refine Y16 (E := [Ent.obj b_1 (.cells #[.pointer A_6, .slice A_7 x_4.2.length cap_4] 46 (0, 0)), Ent.row 5 1 (.slice A_7 x_4.2.length cap_4) x_4.2.length cs_3]) (H := (H)) f p_9 (strings_Builder_WriteByte_ok n _ (GL.mono (((hM_1.trans hM_2).trans hM_3).trans hM_4) hG) b_1 A_6 hb_3 x_4.2 A_7 cap_4 cs_3 hr_4 ((mget x_2 ((c_1).toNat : Int)).getD (0 : Int)) x_5 hx_6) fun _ M_5 E_3 w_7 hM_5 p_11 q_4 _ f => ?_
     obtain ⟨A_8, A_9, cap_5, cs_4, rfl, rfl, hb_4, hr_5⟩ := q_4
     refine W_end rfl (B_n (T_n (R_reg ?_)))
     obtain ⟨g_1, hF_12⟩ := nS hF_11
     refine Y f 1 fun _ f => ?_
     have f := f.st 46 (congrArg (Value.int .i64) (inR_wrap g_1))
     refine Y f 1 fun _ f => W_end rfl ?_
     have p_19 := p_11.pl [1]
     refine T_n ?_
     obtain rfl := sI hF_12
     exact ⟨⟨m_3, (s_1.1 + 1, x_5.2), A_8, A_9, cap_5, cs_4⟩, Nat.lt_succ_self _, M_5, ((hM_3.trans hM_4).trans hM_5), ⟨hn_1, hb_4, hr_5⟩, f.kp, p_19⟩
    ·refine RR (Y f 2 fun _ f => eT (RcF f hF_13 (fun h_4 hF_14 => ?_) fun h_4 hF_21 => ?_))
     ·have k_6 := dI.1 h_4
      refine RR ?_
      obtain ⟨x_6, hx_7, hF_15⟩ := bS hF_14
      have p_13 := p_8.pl [1]
      refine Y16 (E := [Ent.obj b_1 (.cells #[.pointer A_4, .slice A_5 s_1.2.length cap_3] 46 (0, 0)), Ent.row 5 1 (.slice A_5 s_1.2.length cap_3) s_1.2.length cs_2]) (H := (H)) f p_13 (strings_Builder_WriteString_ok n _ (GL.mono ((hM_1.trans hM_2).trans hM_3) hG) b_1 A_4 hb_2 s_1.2 A_5 cap_3 cs_2 hr_3 [92, 117, 48, 48] x_6 hx_7) fun _ M_6 E_4 w_8 hM_6 p_12 q_5 _ f => ?_
      obtain ⟨A_10, A_11, cap_6, cs_5, rfl, rfl, hb_5, hr_6⟩ := q_5
      refine eT (RR (Y f 2 fun _ f => ?_))
      obtain ⟨g_2, hF_16⟩ := nS hF_15
      refine Y f 1 fun _ f => ?_
      have f := f.st 38 (congrArg (Value.int .u8) (inR_wrap g_2))
      obtain ⟨x_7, hx_8, hF_17⟩ := bS hF_16
      refine Y16 (E := [Ent.obj b_1 (.cells #[.pointer A_10, .slice A_11 x_6.2.2.length cap_6] 46 (0, 0)), Ent.row 5 1 (.slice A_11 x_6.2.2.length cap_6) x_6.2.2.length cs_5]) (H := (H)) f p_12 (strings_Builder_WriteByte_ok n _ (GL.mono (((hM_1.trans hM_2).trans hM_3).trans hM_6) hG) b_1 A_10 hb_5 x_6.2.2 A_11 cap_6 cs_5 hr_6 ((48 : Int) + (bShr .u8 ((c_1).toNat : Int) (4 : Int))) x_7 hx_8) fun _ M_7 E_5 w_9 hM_7 p_14 q_6 _ f => ?_
      obtain ⟨A_12, A_13, cap_7, cs_6, rfl, rfl, hb_6, hr_7⟩ := q_6
      refine eT (R_reg (Y f 2 fun _ f => ?_))
      obtain ⟨c_2, hx_9, hF_18⟩ := bS hF_17
      refine Z f (Y37 rfl (l := [48, 49, 50, 51, 52, 53, 54, 55, 56, 57, 97, 98, 99, 100, 101, 102]) (k := .u8) (i := bAnd .u8 ((c_1).toNat : Int) (15 : Int)) (getI_nn hx_9) (getI_lt hx_9)) fun _ f => ?_
      have f := Frm.set f 42 (v := .int .u8 ((([48, 49, 50, 51, 52, 53, 54, 55, 56, 57, 97, 98, 99, 100, 101, 102] : List UInt8).getD (bAnd .u8 ((c_1).toNat : Int) (15 : Int)).toNat 0).toNat : Int)) (v' := .int .u8 ((c_2).toNat : Int)) (by kernel_rfl) (congrArg (fun c : UInt8 => Value.int .u8 ((c.toNat : Nat) : Int)) (getI_getD hx_9))
      obtain ⟨x_8, hx_10, hF_19⟩ := bS hF_18
      refine Y16 (E := [Ent.obj b_1 (.cells #[.pointer A_12, .slice A_13 x_7.2.length cap_7] 46 (0, 0)), Ent.row 5 1 (.slice A_13 x_7.2.length cap_7) x_7.2.length cs_6]) (H := (H)) f p_14 (strings_Builder_WriteByte_ok n _ (GL.mono ((((hM_1.trans hM_2).trans hM_3).trans hM_6).trans hM_7) hG) b_1 A_12 hb_6 x_7.2 A_13 cap_7 cs_6 hr_7 ((c_2).toNat : Int) x_8 hx_10) fun _ M_8 E_6 w_10 hM_8 p_15 q_7 _ f => ?_
      obtain ⟨A_14, A_15, cap_8, cs_7, rfl, rfl, hb_7, hr_8⟩ := q_7
      refine W_end rfl (B_n (T_n (R_reg ?_)))
      obtain ⟨g_3, hF_20⟩ := nS hF_19
      refine Y f 1 fun _ f => ?_
      have f := f.st 46 (congrArg (Value.int .i64) (inR_wrap g_3))
      refine Y f 1 fun _ f => W_end rfl ?_
      have p_20 := p_15.pl [1]
      refine T_n ?_
      obtain rfl := sI hF_20
      exact ⟨⟨m_3, (s_1.1 + 1, x_8.2), A_14, A_15, cap_8, cs_7⟩, Nat.lt_succ_self _, M_8, (((hM_3.trans hM_6).trans hM_7).trans hM_8), ⟨hn_1, hb_7, hr_8⟩, f.kp, p_20⟩
     ·have k_7 := iff_f dI h_4
      refine R_reg (Y f 1 fun _ f => ?_)
      obtain ⟨x_9, hx_11, hF_22⟩ := bS hF_21
      have p_17 := p_8.pl [1]
      refine Y16 (E := [Ent.obj b_1 (.cells #[.pointer A_4, .slice A_5 s_1.2.length cap_3] 46 (0, 0)), Ent.row 5 1 (.slice A_5 s_1.2.length cap_3) s_1.2.length cs_2]) (H := (H)) f p_17 (strings_Builder_WriteByte_ok n _ (GL.mono ((hM_1.trans hM_2).trans hM_3) hG) b_1 A_4 hb_2 s_1.2 A_5 cap_3 cs_2 hr_3 ((c_1).toNat : Int) x_9 hx_11) fun _ M_9 E_7 w_11 hM_9 p_16 q_8 _ f => ?_
      obtain ⟨A_16, A_17, cap_9, cs_8, rfl, rfl, hb_8, hr_9⟩ := q_8
      refine W_end rfl (B_n (T_n (R_reg ?_)))
      obtain ⟨g_4, hF_23⟩ := nS hF_22
      refine Y f 1 fun _ f => ?_
      have f := f.st 46 (congrArg (Value.int .i64) (inR_wrap g_4))
      refine Y f 1 fun _ f => W_end rfl ?_
      have p_21 := p_16.pl [1]
      refine T_n ?_
      obtain rfl := sI hF_23
      exact ⟨⟨m_3, (s_1.1 + 1, x_9.2), A_16, A_17, cap_9, cs_8⟩, Nat.lt_succ_self _, M_9, (hM_3.trans hM_9), ⟨hn_1, hb_8, hr_9⟩, f.kp, p_21⟩
   ·have k_8 := iff_f dI h_2
    refine wp_exit (T_x (T_x ?_))
    obtain rfl := sI hF_24
    exact ⟨rfl, s_1.2, (sI hn_1).symm, M_3, hM_3, A_4, A_5, cap_3, cs_2, hb_2, hr_3, f.kp, p_8⟩
  ·rintro _ _ w_13 ⟨rfl, y_1, hq_, M_10, hM_10, A_18, A_19, cap_10, cs_9, hb_9, hr_10, f, p_18⟩
   subst b_2
   refine B_x (T_n (RR ?_))
   obtain ⟨x_10, hx_12, hF_25⟩ := bS hF_6
   have p_23 := p_18.pl [1]
   refine Y16 (E := [Ent.obj b_1 (.cells #[.pointer A_18, .slice A_19 y_1.length cap_10] 46 (0, 0)), Ent.row 5 1 (.slice A_19 y_1.length cap_10) y_1.length cs_9]) (H := (H)) f p_23 (strings_Builder_WriteByte_ok n _ (GL.mono ((hM_1.trans hM_2).trans hM_10) hG) b_1 A_18 hb_9 y_1 A_19 cap_10 cs_9 hr_10 (34 : Int) x_10 hx_12) fun _ M_11 E_8 w_14 hM_11 p_22 q_9 _ f => ?_
   obtain ⟨A_20, A_21, cap_11, cs_10, rfl, rfl, hb_10, hr_11⟩ := q_9
   refine eT (RR ?_)
   obtain ⟨x_11, hx_13, hF_26⟩ := bS hF_25
   refine Y16 (E := [Ent.obj b_1 (.cells #[.pointer A_20, .slice A_21 x_10.2.length cap_11] 46 (0, 0)), Ent.row 5 1 (.slice A_21 x_10.2.length cap_11) x_10.2.length cs_10]) (H := (H)) f p_22 (strings_Builder_String_ok n _ (GL.mono (((hM_1.trans hM_2).trans hM_10).trans hM_11) hG) b_1 A_20 hb_10 x_10.2 A_21 cap_11 cs_10 hr_11 x_11 hx_13) fun _ M_12 E_9 w_15 hM_12 p_24 q_10 _ f => ?_
   obtain ⟨A_22, A_23, cap_12, rfl, rfl, hb_11, h_5⟩ := q_10
   refine Y f 2 fun _ f => eT (wp_ret (E_ret2 f rfl (by kernel_rfl : Vc.look _ 2 = some (S x_11.1)) (by kernel_rfl : Vc.look _ 3 = some (.int .i64 0)) ?_))
   obtain rfl := sI hF_26
   exact ⟨_, rfl, M_12, ((((hM_1.trans hM_2).trans hM_10).trans hM_11).trans hM_12), (p_24.dropN 1), rfl⟩
end Go.Proofs.YtfaedhhjamaniaaGreatDoor
end

section
namespace Go.Proofs.YtfaedhhjamaniaaGreatDoor
open Go Go.Vc Go.RowKit Go.Num
theorem fits_ok (M : Mem) (n : Int) : Ok Tryz.prog M 68 [.int .i64 n] (fun _ v => v = .bool (fitsB n)) := by
 intro M hM0 w0 H w p0
 refine R_enter 9 Tryz.func68 rfl rfl (by simp) fun a0 f0 => RR (Y f0 1 fun _ f => eT (R_seq (R_mid (fun a_2 w_1 => Frm 9 [(2, .bool ((decide ((-9007199254740992 : Int) ≤ n)) && (decide (n ≤ 9007199254740992))))] a_2 ∧ Hp w0 M (H) w_1) ?_ ?_)))
 ·refine R_reg (Y f 3 fun _ f => ?_)
  rcases bE (decide ((-9007199254740992 : Int) ≤ n)) with h_1 | h_1
  ·have k_1 := dI.1 h_1
   have f := f.st 5 (cB h_1)
   refine Y f 4 fun _ f => eT ?_
   have f := Frm.set f 2 (v := .bool (decide (n ≤ 9007199254740992))) (v' := .bool ((decide ((-9007199254740992 : Int) ≤ n)) && (decide (n ≤ 9007199254740992)))) (by kernel_rfl) (by simp only [h_1, Bool.and_true, Bool.true_and, Bool.false_and, Bool.and_false, Bool.or_true, Bool.true_or, Bool.or_false, Bool.false_or, Bool.not_true, Bool.not_false, cond_true, cond_false])
   exact ⟨f.kp, p0⟩
  ·have k_2 := iff_f dI h_1
   have f := f.st 5 (cB h_1)
   refine Y f 4 fun _ f => eT ?_
   have f := Frm.set f 2 (v := .bool false) (v' := .bool ((decide ((-9007199254740992 : Int) ≤ n)) && (decide (n ≤ 9007199254740992)))) (by kernel_rfl) (by simp only [h_1, Bool.and_true, Bool.true_and, Bool.false_and, Bool.and_false, Bool.or_true, Bool.true_or, Bool.or_false, Bool.false_or, Bool.not_true, Bool.not_false, cond_true, cond_false])
   exact ⟨f.kp, p0⟩
 ·rintro a_2 w_1 ⟨f, p_1⟩
  refine T_n (wp_ret (E_ret1 f rfl (by kernel_rfl : Vc.look _ 2 = some (.bool ((decide ((-9007199254740992 : Int) ≤ n)) && (decide (n ≤ 9007199254740992))))) (⟨_, rfl, M, (mR _), p_1, ?_⟩)))
  exact cB (fits_eq _)
theorem textIn_ok (M : Mem) (bp bo n : Nat) : ∀ (hn : n ≤ 9007199254740992) (v : Value) (k : Nat) (xs : List Value) (hk : k ≤ 1000), OkH Tryz.prog M [Ent.obj bp (.cells #[.func (.func 69) #[] #[.pointer (some (⟨bp, 0, none⟩)), .pointer (some (⟨bo, 0, none⟩))]] 85 (0, 0)), Ent.obj bo (.cells #[v] 44 (0, 0)), Ent.row 5 1 v k xs] 69 [.int .i64 (n : Int), .pointer (some (⟨bp, 0, none⟩)), .pointer (some (⟨bo, 0, none⟩))] (fun _ E2 r => r = .tuple #[] ∧ ∃ v2, E2 = [Ent.obj bp (.cells #[.func (.func 69) #[] #[.pointer (some (⟨bp, 0, none⟩)), .pointer (some (⟨bo, 0, none⟩))]] 85 (0, 0)), Ent.obj bo (.cells #[v2] 44 (0, 0)), Ent.row 5 1 v2 (k + (digs n).length) (xs ++ byteCs (digs n))]) := by
 induction n using Nat.strongRecOn generalizing M
 rename_i n ih
 intro hn v k xs hk
 have hl1 := digs_len16 hn
 have hl2 := digs_len16 (n := n / 10) (by omega)
 intro M hM0 w0 H w p0
 refine R_enter 17 Tryz.func69 rfl rfl (by simp) fun a0 f0 => R_seq (RR (Y f0 2 fun _ f => eT (Y6 f (b := decide ((9 : Int) < (n : Int))) (fun h_1 => ?_) fun h_1 => ?_)))
 ·have k_1 := dI.1 h_1
  refine R_reg (Z f (Y31 (v := .func (.func 69) #[] #[.pointer (some (⟨bp, 0, none⟩)), .pointer (some (⟨bo, 0, none⟩))]) rfl (ad := ⟨bp, 0, none⟩) (p0.ownCell 0 rfl 0)) fun _ f => Y f 1 fun _ f => Y f 1 fun _ f => ?_)
  have f := Frm.set f 8 (v := .int .i64 (IntKind.wrap .i64 ((n : Int).tdiv 10))) (v' := .int .i64 ((n : Int) / 10)) (by kernel_rfl) (congrArg (Value.int .i64) (quo_i64 (by omega) (by decide) (by omega)))
  have f := Frm.set f 8 (v := .int .i64 ((n : Int) / 10)) (v' := .int .i64 ((n / 10 : Nat) : Int)) (by kernel_rfl) (congrArg (Value.int .i64) (by omega))
  refine Y16 (E := [Ent.obj bp (.cells #[.func (.func 69) #[] #[.pointer (some (⟨bp, 0, none⟩)), .pointer (some (⟨bo, 0, none⟩))]] 85 (0, 0)), Ent.obj bo (.cells #[v] 44 (0, 0)), Ent.row 5 1 v k xs]) (H := (H)) f p0 (ih (n / 10) (by omega) _ (by omega) v k xs hk) fun v_1 M_1 E_1 w_1 hM_1 p_1 q_1 _ f => ?_
  obtain ⟨rfl, v2, rfl⟩ := q_1
  have p_2 : Hp w0 M ((Ent.obj bp (.cells #[.func (.func 69) #[] #[.pointer (some (⟨bp, 0, none⟩)), .pointer (some (⟨bo, 0, none⟩))]] 85 (0, 0))) :: (Ent.obj bo (.cells #[v2] 44 (0, 0))) :: (Ent.row 5 1 v2 (k + (digs (n / 10)).length) (xs ++ byteCs (digs (n / 10)))) :: H) w_1 := p_1.less hM_1
  refine eT (R_reg (Z f (Y31 (v := v2) rfl (ad := ⟨bo, 0, none⟩) (p_2.ownCell 1 rfl 0)) fun _ f => Y f 1 fun _ f => Y f 1 fun _ f => ?_))
  have f := Frm.set f 12 (v := .int .i64 ((n : Int).tmod 10)) (v' := .int .i64 ((n : Int) % 10)) (by kernel_rfl) (congrArg (Value.int .i64) (rem_nn (by omega)))
  refine Y f 1 fun _ f => ?_
  have f := Frm.set f 13 (v := .int .i64 (IntKind.wrap .i64 ((48 : Int) + ((n : Int) % 10)))) (v' := .int .i64 ((48 : Int) + ((n : Int) % 10))) (by kernel_rfl) (congrArg (Value.int .i64) (IntWalk.i64_in _ (by omega)))
  refine Y f 1 fun _ f => ?_
  have f := Frm.set f 14 (v := .int .u8 (IntKind.wrap .u8 ((48 : Int) + ((n : Int) % 10)))) (v' := .int .u8 (((48 : Int) + ((n : Int) % 10)) % 256)) (by kernel_rfl) (congrArg (Value.int .u8) (IntKind.wrap_u8 _))
  have f := Frm.set f 14 (v := .int .u8 (((48 : Int) + ((n : Int) % 10)) % 256)) (v' := .int .u8 ((dch n).toNat : Int)) (by kernel_rfl) (congrArg (Value.int .u8) (dch_int n))
  refine V_allocS (k := 1) (c := 1) f p_2 (.cells #[.int .u8 ((dch n).toNat : Int)] 5 (0, 0)) (by kernel_rfl) (fun _ => by kernel_rfl) fun b_1 w_2 p_3 _ f => ?_
  have p_4 := p_3.pl [3]
  refine W_append (d := 16) (t := 44) (e := 5) (z := .int .u8 0) (v := v2) (size := 1) (bytes := 1) (k := k + (digs (n / 10)).length) (m := 1) (c := 1) (xs := xs ++ byteCs (digs (n / 10))) (news := [.int .u8 ((dch n).toNat : Int)]) (ad := ⟨b_1, 0, none⟩) f p_4 (by kernel_rfl) (by kernel_rfl) rfl rfl rfl (by kernel_rfl) (by kernel_rfl) (by kernel_rfl) (by kernel_rfl) (rfl) (own_cells (p_4.ownCell 1 rfl) 0 rfl) (all_one (by kernel_rfl)) (by omega) (by omega) fun v_2 w_3 p_5 _ f => ?_
  have p_6 := p_5.pl [1]
  have p_7 := p_6.drop
  refine Y26 f p_7 2 rfl rfl (b := bo) (j := 0) (v := v_2) (row_one (p_7.rowAt 0 rfl)) (by exact rfl) (by simp) (by simp) ((Ent.row 5 1 v_2 ((k + (digs (n / 10)).length) + 1) ((xs ++ byteCs (digs (n / 10))) ++ [.int .u8 ((dch n).toNat : Int)])) :: (Ent.obj bp (.cells #[.func (.func 69) #[] #[.pointer (some (⟨bp, 0, none⟩)), .pointer (some (⟨bo, 0, none⟩))]] 85 (0, 0))) :: (Ent.obj bo (.cells #[v_2] 44 (0, 0))) :: H) rfl fun w_4 p_8 _ f => W_end rfl (E_end0 f rfl  ?_)
  have p_9 : Hp w0 M ((Ent.row 5 1 v_2 (k + (digs n).length) (xs ++ byteCs (digs n))) :: (Ent.obj bp (.cells #[.func (.func 69) #[] #[.pointer (some (⟨bp, 0, none⟩)), .pointer (some (⟨bo, 0, none⟩))]] 85 (0, 0))) :: (Ent.obj bo (.cells #[v_2] 44 (0, 0))) :: H) w_4 := p_8.rowEq (by rw [digs_ge (n := n) (by omega)]; simp; omega) (by rw [digs_ge (n := n) (by omega), byteCs_append, List.append_assoc]; rfl)
  have p_11 := p_9.pl [2, 2]
  exact ⟨_, rfl, M, [Ent.obj bp (.cells #[.func (.func 69) #[] #[.pointer (some (⟨bp, 0, none⟩)), .pointer (some (⟨bo, 0, none⟩))]] 85 (0, 0)), Ent.obj bo (.cells #[v_2] 44 (0, 0)), Ent.row 5 1 v_2 (k + (digs n).length) (xs ++ byteCs (digs n))], mR _, p_11, rfl, v_2, rfl⟩
 ·have k_2 := iff_f dI h_1
  refine wp_skip (T_n (R_reg (Z f (Y31 (v := v) rfl (ad := ⟨bo, 0, none⟩) (p0.ownCell 1 rfl 0)) fun _ f => Y f 1 fun _ f => Y f 1 fun _ f => ?_)))
  have f := Frm.set f 12 (v := .int .i64 ((n : Int).tmod 10)) (v' := .int .i64 ((n : Int) % 10)) (by kernel_rfl) (congrArg (Value.int .i64) (rem_nn (by omega)))
  refine Y f 1 fun _ f => ?_
  have f := Frm.set f 13 (v := .int .i64 (IntKind.wrap .i64 ((48 : Int) + ((n : Int) % 10)))) (v' := .int .i64 ((48 : Int) + ((n : Int) % 10))) (by kernel_rfl) (congrArg (Value.int .i64) (IntWalk.i64_in _ (by omega)))
  refine Y f 1 fun _ f => ?_
  have f := Frm.set f 14 (v := .int .u8 (IntKind.wrap .u8 ((48 : Int) + ((n : Int) % 10)))) (v' := .int .u8 (((48 : Int) + ((n : Int) % 10)) % 256)) (by kernel_rfl) (congrArg (Value.int .u8) (IntKind.wrap_u8 _))
  have f := Frm.set f 14 (v := .int .u8 (((48 : Int) + ((n : Int) % 10)) % 256)) (v' := .int .u8 ((dch n).toNat : Int)) (by kernel_rfl) (congrArg (Value.int .u8) (dch_int n))
  refine V_allocS (k := 1) (c := 1) f p0 (.cells #[.int .u8 ((dch n).toNat : Int)] 5 (0, 0)) (by kernel_rfl) (fun _ => by kernel_rfl) fun b_2 w_5 p_12 _ f => ?_
  have p_13 := p_12.pl [3]
  refine W_append (d := 16) (t := 44) (e := 5) (z := .int .u8 0) (v := v) (size := 1) (bytes := 1) (k := k) (m := 1) (c := 1) (xs := xs) (news := [.int .u8 ((dch n).toNat : Int)]) (ad := ⟨b_2, 0, none⟩) f p_13 (by kernel_rfl) (by kernel_rfl) rfl rfl rfl (by kernel_rfl) (by kernel_rfl) (by kernel_rfl) (by kernel_rfl) (rfl) (own_cells (p_13.ownCell 1 rfl) 0 rfl) (all_one (by kernel_rfl)) (by omega) (by omega) fun v_3 w_6 p_14 _ f => ?_
  have p_15 := p_14.pl [1]
  have p_16 := p_15.drop
  refine Y26 f p_16 2 rfl rfl (b := bo) (j := 0) (v := v_3) (row_one (p_16.rowAt 0 rfl)) (by exact rfl) (by simp) (by simp) ((Ent.row 5 1 v_3 (k + 1) (xs ++ [.int .u8 ((dch n).toNat : Int)])) :: (Ent.obj bp (.cells #[.func (.func 69) #[] #[.pointer (some (⟨bp, 0, none⟩)), .pointer (some (⟨bo, 0, none⟩))]] 85 (0, 0))) :: (Ent.obj bo (.cells #[v_3] 44 (0, 0))) :: H) rfl fun w_7 p_17 _ f => W_end rfl (E_end0 f rfl  ?_)
  have p_18 : Hp w0 M ((Ent.row 5 1 v_3 (k + (digs n).length) (xs ++ byteCs (digs n))) :: (Ent.obj bp (.cells #[.func (.func 69) #[] #[.pointer (some (⟨bp, 0, none⟩)), .pointer (some (⟨bo, 0, none⟩))]] 85 (0, 0))) :: (Ent.obj bo (.cells #[v_3] 44 (0, 0))) :: H) w_7 := p_17.rowEq (by rw [digs_lt (n := n) (by omega)]; rfl) (by rw [digs_lt (n := n) (by omega)]; rfl)
  have p_20 := p_18.pl [2, 2]
  exact ⟨_, rfl, M, [Ent.obj bp (.cells #[.func (.func 69) #[] #[.pointer (some (⟨bp, 0, none⟩)), .pointer (some (⟨bo, 0, none⟩))]] 85 (0, 0)), Ent.obj bo (.cells #[v_3] 44 (0, 0)), Ent.row 5 1 v_3 (k + (digs n).length) (xs ++ byteCs (digs n))], mR _, p_20, rfl, v_3, rfl⟩
theorem textP_ok (M : Mem) (n : Int) : Ok Tryz.prog M 56 [.int .i64 n] (fun _ v => v = .tuple #[S (text n).1, .int .i64 (text n).2]) := by
 intro M hM0 w0 H w p0
 refine R_enter 25 Tryz.func56 rfl rfl (by simp) fun a0 f0 => RR (Y f0 2 fun _ f => eT (R_seq (RR (Y f 1 fun _ f => Y17 f p0 (fits_ok _ (n)) fun w_1 p_1 _ f => ?_))))
 refine Y f 1 fun _ f => eT (Y6 f (b := !(fitsB n)) (fun h_1 => ?_) fun h_1 => ?_)
 ·have k_1 : (fitsB n) = false := by simpa using h_1
  refine RR (Y f 2 fun _ f => eT (wp_ret (T_r (E_ret2 f rfl (by kernel_rfl : Vc.look _ 2 = some (S [])) (by kernel_rfl : Vc.look _ 3 = some (.int .i64 20)) (⟨_, rfl, M, (mR _), (p_1.dropN 0), ?_⟩)))))
  rw [text_no k_1]
 ·have k_2 : (fitsB n) = true := by simpa using h_1
  refine wp_skip (T_n (R_seq ?_))
  have hfit := k_2
  have hfit2 := fitsB_iff.1 hfit
  refine R_reg (Y11 f p_1 (.cells #[.slice none 0 0] 44 (0, 0)) fun b_1 w_2 p_2 _ f => eT (RR (Y11 f p_2 (.cells #[.nilFunc] 85 (0, 0)) fun b_2 w_3 p_3 _ f => eT (RR ?_))))
  refine Y f 1 fun _ f => Y26 f p_3 0 rfl rfl (b := b_2) (j := 0) (v := .func (.func 69) #[] #[.pointer (some (⟨b_2, 0, none⟩)), .pointer (some (⟨b_1, 0, none⟩))]) rfl (by exact rfl) (by simp) (by simp) ((Ent.obj b_2 (.cells #[.func (.func 69) #[] #[.pointer (some (⟨b_2, 0, none⟩)), .pointer (some (⟨b_1, 0, none⟩))]] 85 (0, 0))) :: (Ent.obj b_1 (.cells #[.slice none 0 0] 44 (0, 0))) :: H) rfl fun w_4 p_4 _ f => eT (R_seq (wp_block (RR (Y f 1 fun _ f => ?_))))
  have p_5 := p_4.nilRow 5 1
  refine Y f 2 fun _ f => eT (Y6 f (b := decide (n < 0)) (fun h_2 => ?_) fun h_2 => ?_)
  ·have k_3 := dI.1 h_2
   refine RR (Z f (Y31 (v := .slice none 0 0) rfl (ad := ⟨b_1, 0, none⟩) (p_5.ownCell 2 rfl 0)) fun _ f => V_allocS (k := 1) (c := 1) f p_5 (.cells #[.int .u8 45] 5 (0, 0)) (by kernel_rfl) (fun _ => by kernel_rfl) fun b_3 w_5 p_6 _ f => ?_)
   have p_7 := p_6.pl [1]
   refine W_append (d := 18) (t := 44) (e := 5) (z := .int .u8 0) (v := .slice none 0 0) (size := 1) (bytes := 1) (k := 0) (m := 1) (c := 1) (xs := []) (news := [.int .u8 45]) (ad := ⟨b_3, 0, none⟩) f p_7 (by kernel_rfl) (by kernel_rfl) rfl rfl rfl (by kernel_rfl) (by kernel_rfl) (by kernel_rfl) (by kernel_rfl) (rfl) (own_cells (p_7.ownCell 1 rfl) 0 rfl) (all_one (by kernel_rfl)) (by omega) (by omega) fun v_1 w_6 p_8 _ f => ?_
   have p_9 := p_8.pl [1]
   have p_10 := p_9.drop
   refine Y26 f p_10 2 rfl rfl (b := b_1) (j := 0) (v := v_1) (row_one (p_10.rowAt 0 rfl)) (by exact rfl) (by simp) (by simp) ((Ent.row 5 1 v_1 (0 + 1) ([] ++ [.int .u8 45])) :: (Ent.obj b_2 (.cells #[.func (.func 69) #[] #[.pointer (some (⟨b_2, 0, none⟩)), .pointer (some (⟨b_1, 0, none⟩))]] 85 (0, 0))) :: (Ent.obj b_1 (.cells #[v_1] 44 (0, 0))) :: H) rfl fun w_7 p_11 _ f => eT (R_reg (Z f (Y31 (v := .func (.func 69) #[] #[.pointer (some (⟨b_2, 0, none⟩)), .pointer (some (⟨b_1, 0, none⟩))]) rfl (ad := ⟨b_2, 0, none⟩) (p_11.ownCell 1 rfl 0)) fun _ f => Y f 1 fun _ f => Y f 1 fun _ f => ?_))
   have f := Frm.set f 21 (v := .int .i64 (IntKind.wrap .i64 (0 - n))) (v' := .int .i64 (-n)) (by kernel_rfl) (congrArg (Value.int .i64) ((IntWalk.i64_in _ (by omega)).trans (Int.zero_sub _)))
   have f := Frm.set f 21 (v := .int .i64 (-n)) (v' := .int .i64 ((-n).toNat : Int)) (by kernel_rfl) (congrArg (Value.int .i64) (by omega))
   have p_13 := p_11.pl [2, 2]
   refine Y16 (E := [Ent.obj b_2 (.cells #[.func (.func 69) #[] #[.pointer (some (⟨b_2, 0, none⟩)), .pointer (some (⟨b_1, 0, none⟩))]] 85 (0, 0)), Ent.obj b_1 (.cells #[v_1] 44 (0, 0)), Ent.row 5 1 v_1 (0 + 1) ([] ++ [.int .u8 45])]) (H := (H)) f p_13 (textIn_ok _ b_2 b_1 ((-n).toNat) (by omega) (v_1) (0 + 1) ([] ++ [.int .u8 45]) (by omega)) fun v_2 M_1 E_1 w_8 hM_1 p_14 q_1 _ f => ?_
   obtain ⟨rfl, v3, rfl⟩ := q_1
   have p_15 : Hp w0 M ((Ent.obj b_2 (.cells #[.func (.func 69) #[] #[.pointer (some (⟨b_2, 0, none⟩)), .pointer (some (⟨b_1, 0, none⟩))]] 85 (0, 0))) :: (Ent.obj b_1 (.cells #[v3] 44 (0, 0))) :: (Ent.row 5 1 v3 ((0 + 1) + (digs (-n).toNat).length) (([] ++ [.int .u8 45]) ++ byteCs (digs (-n).toNat))) :: H) w_8 := p_14.less hM_1
   refine W_end rfl (B_n (T_n (RR (Z f (Y31 (v := v3) rfl (ad := ⟨b_1, 0, none⟩) (p_15.ownCell 1 rfl 0)) fun _ f => ?_))))
   have p_16 := p_15.pl [2]
   have p_17 : Hp w0 M ((Ent.row 5 1 v3 (45 :: digs (-n).toNat).length (byteCs (45 :: digs (-n).toNat))) :: (Ent.obj b_2 (.cells #[.func (.func 69) #[] #[.pointer (some (⟨b_2, 0, none⟩)), .pointer (some (⟨b_1, 0, none⟩))]] 85 (0, 0))) :: (Ent.obj b_1 (.cells #[v3] 44 (0, 0))) :: H) w_8 := p_16.rowEq (by simp <;> omega) (by simp [byteCs])
   refine Z (v := S (45 :: digs (-n).toNat)) f (X_string_row rfl (l := 45 :: digs (-n).toNat) (v := v3) (by kernel_rfl) (e := 5) (by kernel_rfl) (by kernel_rfl) (by kernel_rfl) (p_17.rowAt 0 rfl)) fun _ f => Y f 2 fun _ f => eT (wp_ret (E_ret2 f rfl (by kernel_rfl : Vc.look _ 2 = some (S (45 :: digs (-n).toNat))) (by kernel_rfl : Vc.look _ 3 = some (.int .i64 0)) (⟨_, rfl, M, (mR _), (p_17.dropN 3), ?_⟩)))
   rw [text_neg hfit k_3]
  ·have k_4 := iff_f dI h_2
   refine R_reg (Z f (Y31 (v := .func (.func 69) #[] #[.pointer (some (⟨b_2, 0, none⟩)), .pointer (some (⟨b_1, 0, none⟩))]) rfl (ad := ⟨b_2, 0, none⟩) (p_5.ownCell 1 rfl 0)) fun _ f => Y f 1 fun _ f => ?_)
   have f := Frm.set f 11 (v := .int .i64 n) (v' := .int .i64 (n.toNat : Int)) (by kernel_rfl) (congrArg (Value.int .i64) (by omega))
   have p_19 := p_5.pl [2, 2]
   refine Y16 (E := [Ent.obj b_2 (.cells #[.func (.func 69) #[] #[.pointer (some (⟨b_2, 0, none⟩)), .pointer (some (⟨b_1, 0, none⟩))]] 85 (0, 0)), Ent.obj b_1 (.cells #[.slice none 0 0] 44 (0, 0)), Ent.row 5 1 (.slice none 0 0) 0 []]) (H := (H)) f p_19 (textIn_ok _ b_2 b_1 (n.toNat) (by omega) (.slice none 0 0) (0) ([]) (by omega)) fun v_3 M_2 E_2 w_9 hM_2 p_20 q_2 _ f => ?_
   obtain ⟨rfl, v3, rfl⟩ := q_2
   have p_21 : Hp w0 M ((Ent.obj b_2 (.cells #[.func (.func 69) #[] #[.pointer (some (⟨b_2, 0, none⟩)), .pointer (some (⟨b_1, 0, none⟩))]] 85 (0, 0))) :: (Ent.obj b_1 (.cells #[v3] 44 (0, 0))) :: (Ent.row 5 1 v3 (0 + (digs n.toNat).length) ([] ++ byteCs (digs n.toNat))) :: H) w_9 := p_20.less hM_2
   refine W_end rfl (B_n (T_n (RR (Z f (Y31 (v := v3) rfl (ad := ⟨b_1, 0, none⟩) (p_21.ownCell 1 rfl 0)) fun _ f => ?_))))
   have p_22 := p_21.pl [2]
   have p_23 : Hp w0 M ((Ent.row 5 1 v3 (digs n.toNat).length (byteCs (digs n.toNat))) :: (Ent.obj b_2 (.cells #[.func (.func 69) #[] #[.pointer (some (⟨b_2, 0, none⟩)), .pointer (some (⟨b_1, 0, none⟩))]] 85 (0, 0))) :: (Ent.obj b_1 (.cells #[v3] 44 (0, 0))) :: H) w_9 := p_22.rowEq (by simp) (by simp)
   refine Z (v := S (digs n.toNat)) f (X_string_row rfl (l := digs n.toNat) (v := v3) (by kernel_rfl) (e := 5) (by kernel_rfl) (by kernel_rfl) (by kernel_rfl) (p_23.rowAt 0 rfl)) fun _ f => Y f 2 fun _ f => eT (wp_ret (E_ret2 f rfl (by kernel_rfl : Vc.look _ 2 = some (S (digs n.toNat))) (by kernel_rfl : Vc.look _ 3 = some (.int .i64 0)) (⟨_, rfl, M, (mR _), (p_23.dropN 3), ?_⟩)))
   rw [text_pos hfit k_4]
def h_numText (_ : Nat) (x : Int) : Option (List UInt8 × Int) := some (Go.Num.text x)
theorem h_numText_ok (n : Nat) (M : Mem) (x : Int) (r : List UInt8 × Int) (hF : h_numText n x = some r) : Ok Tryz.prog M 56 [.int .i64 x] (fun _ v => v = .tuple #[S r.1, .int .i64 r.2]) := by
 obtain rfl := Option.some.inj hF
 exact textP_ok M x
end Go.Proofs.YtfaedhhjamaniaaGreatDoor
end

section
namespace Go.Proofs.YtfaedhhjamaniaaGreatDoor
open Go Go.Vc Go.RowKit
def h_Repeat (_ : Nat) (d0 : List UInt8) (d1 : Int) : Option (List UInt8) := need (0 ≤ d1 ∧ d1 ≤ 1000000 ∧ d0.length ≤ 1000000) (some (Lib.repeatL d0 d1.toNat))
theorem h_Repeat_ok (n : Nat) (M : Mem) (d0 : List UInt8) (d1 : Int) (r : List UInt8) (hF : h_Repeat n d0 d1 = some r) : Ok Tryz.prog M 77 [S d0, .int .i64 d1] (fun _ v => v = S r) := by
 unfold h_Repeat at hF
 obtain ⟨⟨g0, g1, g2⟩, hF⟩ := need_some hF
 obtain rfl := Option.some.inj hF
 obtain ⟨c, rfl⟩ := Int.eq_ofNat_of_zero_le g0
 refine Ok.ofBelow fun M2 w0 H w hM hp => ?_
 have hs : (mkS d0).size = d0.length := rfl
 have hc : c ≤ 1000000 := by omega
 have hm : d0.length * c ≤ 1000000 * 1000000 := Nat.mul_le_mul g2 hc
 exact Tryz.strings_Repeat (mkS d0) c w (by omega) (by rw [hs]; omega)
def strings_Builder_copyCheck_4 (n : Nat) (d0_1 : List UInt8) (d0_2 : Bool) (d0_3 : Int) : Option (List UInt8 × Bool × Int) :=
  some ((d0_1, (d0_2), d0_3))
theorem strings_Builder_copyCheck_4_ok (n : Nat) (M : Mem) (hG : GL M) (b0 : Nat) (d0_1 : List UInt8) (A_1 : Option Addr) (cap_1 : Nat) (cs_1 : List Value) (hr_1 : RepSeq M (d0_1.map embB) cs_1) (d0_2 : Bool) (d0_3 : Int) (r : List UInt8 × Bool × Int) (hF : strings_Builder_copyCheck_4 n d0_1 d0_2 d0_3 = some r) : OkH Tryz.prog M [Ent.obj b0 (.cells #[.pointer none, .slice A_1 d0_1.length cap_1, .bool d0_2, .int .i64 d0_3] 48 (0, 0)), Ent.row 5 1 (.slice A_1 d0_1.length cap_1) d0_1.length cs_1] 67 [.pointer (some (⟨b0, 0, none⟩))] (fun M' E' v => ∃ (A_2 : Option Addr) (A_3 : Option Addr) (cap_2 : Nat) (cs_2 : List Value), v = .tuple #[] ∧ E' = [Ent.obj b0 (.cells #[.pointer A_2, .slice A_3 r.1.length cap_2, .bool r.2.1, .int .i64 r.2.2] 48 (0, 0)), Ent.row 5 1 (.slice A_3 r.1.length cap_2) r.1.length cs_2] ∧ (A_2 = none ∨ A_2 = some ⟨b0, 0, none⟩) ∧ RepSeq M' (r.1.map embB) cs_2) := by
 unfold strings_Builder_copyCheck_4 at hF
 intro M1 hM0 w0 H w p0
 replace hG := GL.mono hM0 hG
 replace hr_1 := RepSeq.mono hM0 _ _ hr_1
 refine R_enter 20 Tryz.func67 rfl rfl (by simp) fun a0 f0 => RR (Y f0 3 fun _ f => Z f (Y31 (v := .pointer none) rfl (ad := ⟨b0, 0, none⟩) (p0.ownCell 0 rfl 0)) fun _ f => Z (v := .bool true) f (X_ptrNil (q := none) (e := 46) rfl (by kernel_rfl) (by kernel_rfl) (by kernel_rfl) _) fun _ f => eT (Y8 f (R_reg (Y f 2 fun _ f => Z (v := .pointer (some (⟨b0, 0, none⟩))) f (X_toUnsafe rfl (by kernel_rfl) (t := 46) (by kernel_rfl) (by kernel_rfl) (by kernel_rfl) p0 (i := 0) rfl (by simp)) fun _ f => Z (v := .pointer (some (⟨b0, 0, none⟩))) f (X_here (by kernel_rfl)) fun _ f => ?_))))
 refine Z (v := .pointer (some (⟨b0, 0, none⟩))) f (X_fromUnsafe rfl (by kernel_rfl) (u := 46) (by kernel_rfl) (by kernel_rfl) (by kernel_rfl) p0 (i := 0) rfl (by kernel_rfl)) fun _ f => Y f 2 fun _ f => Y26 f p0 0 rfl rfl (b := b0) (j := 0) (v := .pointer (some (⟨b0, 0, none⟩))) rfl (by exact rfl) (by simp) (by simp) ((Ent.obj b0 (.cells #[.pointer (some (⟨b0, 0, none⟩)), .slice A_1 d0_1.length cap_1, .bool d0_2, .int .i64 d0_3] 48 (0, 0))) :: (Ent.row 5 1 (.slice A_1 d0_1.length cap_1) d0_1.length cs_1) :: H) rfl fun w_1 p_1 _ f => W_end rfl (E_end0 f rfl  ?_)
 obtain rfl := sI hF
 exact ⟨_, rfl, M1, _, (mR _), p_1, ⟨(some ⟨b0, 0, none⟩), A_1, cap_1, cs_1, rfl, rfl, (.inr rfl), hr_1⟩⟩
def strings_Builder_copyCheck_5 (n : Nat) (d0_1 : List UInt8) (d0_2 : Bool) (d0_3 : Int) : Option (List UInt8 × Bool × Int) :=
  some ((d0_1, (d0_2), d0_3))
theorem strings_Builder_copyCheck_5_ok (n : Nat) (M : Mem) (hG : GL M) (b0 : Nat) (d0_1 : List UInt8) (A_1 : Option Addr) (cap_1 : Nat) (cs_1 : List Value) (hr_1 : RepSeq M (d0_1.map embB) cs_1) (d0_2 : Bool) (d0_3 : Int) (r : List UInt8 × Bool × Int) (hF : strings_Builder_copyCheck_5 n d0_1 d0_2 d0_3 = some r) : OkH Tryz.prog M [Ent.obj b0 (.cells #[.pointer (some (⟨b0, 0, none⟩)), .slice A_1 d0_1.length cap_1, .bool d0_2, .int .i64 d0_3] 48 (0, 0)), Ent.row 5 1 (.slice A_1 d0_1.length cap_1) d0_1.length cs_1] 67 [.pointer (some (⟨b0, 0, none⟩))] (fun M' E' v => ∃ (A_2 : Option Addr) (A_3 : Option Addr) (cap_2 : Nat) (cs_2 : List Value), v = .tuple #[] ∧ E' = [Ent.obj b0 (.cells #[.pointer A_2, .slice A_3 r.1.length cap_2, .bool r.2.1, .int .i64 r.2.2] 48 (0, 0)), Ent.row 5 1 (.slice A_3 r.1.length cap_2) r.1.length cs_2] ∧ (A_2 = none ∨ A_2 = some ⟨b0, 0, none⟩) ∧ RepSeq M' (r.1.map embB) cs_2) := by
 unfold strings_Builder_copyCheck_5 at hF
 intro M1 hM0 w0 H w p0
 replace hG := GL.mono hM0 hG
 replace hr_1 := RepSeq.mono hM0 _ _ hr_1
 refine R_enter 20 Tryz.func67 rfl rfl (by simp) fun a0 f0 => RR (Y f0 3 fun _ f => Z f (Y31 (v := .pointer (some (⟨b0, 0, none⟩))) rfl (ad := ⟨b0, 0, none⟩) (p0.ownCell 0 rfl 0)) fun _ f => Z (v := .bool false) f (X_ptrNil (q := some (⟨b0, 0, none⟩)) (e := 46) rfl (by kernel_rfl) (by kernel_rfl) (by kernel_rfl) _) fun _ f => eT (Y7 f (RR (Y f 3 fun _ f => Z f (Y31 (v := .pointer (some (⟨b0, 0, none⟩))) rfl (ad := ⟨b0, 0, none⟩) (p0.ownCell 0 rfl 0)) fun _ f => Y f 1 fun _ f => ?_))))
 refine Z (v := .bool false) f (X_ptrNeSame (a := ⟨b0, 0, none⟩) (e := 46) rfl (by kernel_rfl) (by kernel_rfl) (by kernel_rfl) (by kernel_rfl) _) fun _ f => eT (Y7 f (wp_skip (E_end0 f rfl  ?_)))
 obtain rfl := sI hF
 exact ⟨_, rfl, M1, _, (mR _), p0, ⟨(some ⟨b0, 0, none⟩), A_1, cap_1, cs_1, rfl, rfl, (.inr rfl), hr_1⟩⟩
def strings_Builder_copyCheck_6 (n : Nat) (d0_1 : List UInt8) (d0_2 : Bool) (d0_3 : Int) : Option (List UInt8 × Bool × Int) := strings_Builder_copyCheck_4 n d0_1 d0_2 d0_3
theorem strings_Builder_copyCheck_6_ok (n : Nat) (M : Mem) (hG : GL M) (b0 : Nat) (A_1 : Option Addr) (hb_1 : (A_1 = none ∨ A_1 = some ⟨b0, 0, none⟩)) (d0_1 : List UInt8) (A_2 : Option Addr) (cap_1 : Nat) (cs_1 : List Value) (hr_1 : RepSeq M (d0_1.map embB) cs_1) (d0_2 : Bool) (d0_3 : Int) (r : List UInt8 × Bool × Int) (hF : strings_Builder_copyCheck_6 n d0_1 d0_2 d0_3 = some r) : OkH Tryz.prog M [Ent.obj b0 (.cells #[.pointer A_1, .slice A_2 d0_1.length cap_1, .bool d0_2, .int .i64 d0_3] 48 (0, 0)), Ent.row 5 1 (.slice A_2 d0_1.length cap_1) d0_1.length cs_1] 67 [.pointer (some (⟨b0, 0, none⟩))] (fun M' E' v => ∃ (A_3 : Option Addr) (A_4 : Option Addr) (cap_2 : Nat) (cs_2 : List Value), v = .tuple #[] ∧ E' = [Ent.obj b0 (.cells #[.pointer A_3, .slice A_4 r.1.length cap_2, .bool r.2.1, .int .i64 r.2.2] 48 (0, 0)), Ent.row 5 1 (.slice A_4 r.1.length cap_2) r.1.length cs_2] ∧ (A_3 = none ∨ A_3 = some ⟨b0, 0, none⟩) ∧ RepSeq M' (r.1.map embB) cs_2) := by
 rcases hb_1 with rfl | rfl
 ·exact strings_Builder_copyCheck_4_ok n M hG b0 d0_1 A_2 cap_1 cs_1 hr_1 d0_2 d0_3 r hF
 ·exact strings_Builder_copyCheck_5_ok n M hG b0 d0_1 A_2 cap_1 cs_1 hr_1 d0_2 d0_3 r hF
def strings_Builder_WriteString_2 (n : Nat) (d0_1 : List UInt8) (d0_2 : Bool) (d0_3 : Int) (d1 : List UInt8) : Option (Int × Unit × List UInt8 × Bool × Int) :=
  (strings_Builder_copyCheck_6 n d0_1 (d0_2) d0_3).bind fun x_1 =>
  need ((x_1.1.length + d1.length) * 1 ≤ 140737488355328) <|
  some (((d1.length : Int), (), x_1.1 ++ d1, (x_1.2.1), x_1.2.2))
theorem strings_Builder_WriteString_2_ok (n : Nat) (M : Mem) (hG : GL M) (b0 : Nat) (A_1 : Option Addr) (hb_1 : (A_1 = none ∨ A_1 = some ⟨b0, 0, none⟩)) (d0_1 : List UInt8) (A_2 : Option Addr) (cap_1 : Nat) (cs_1 : List Value) (hr_1 : RepSeq M (d0_1.map embB) cs_1) (d0_2 : Bool) (d0_3 : Int) (d1 : List UInt8) (r : Int × Unit × List UInt8 × Bool × Int) (hF : strings_Builder_WriteString_2 n d0_1 d0_2 d0_3 d1 = some r) : OkH Tryz.prog M [Ent.obj b0 (.cells #[.pointer A_1, .slice A_2 d0_1.length cap_1, .bool d0_2, .int .i64 d0_3] 48 (0, 0)), Ent.row 5 1 (.slice A_2 d0_1.length cap_1) d0_1.length cs_1] 55 [.pointer (some (⟨b0, 0, none⟩)), S d1] (fun M' E' v => ∃ (A_6 : Option Addr) (A_7 : Option Addr) (cap_4 : Nat) (cs_4 : List Value), v = .tuple #[.int .i64 r.1, .nilIface] ∧ E' = [Ent.obj b0 (.cells #[.pointer A_6, .slice A_7 r.2.2.1.length cap_4, .bool r.2.2.2.1, .int .i64 r.2.2.2.2] 48 (0, 0)), Ent.row 5 1 (.slice A_7 r.2.2.1.length cap_4) r.2.2.1.length cs_4] ∧ (A_6 = none ∨ A_6 = some ⟨b0, 0, none⟩) ∧ RepSeq M' (r.2.2.1.map embB) cs_4) := by
 unfold strings_Builder_WriteString_2 at hF
 intro M1 hM0 w0 H w p0
 replace hG := GL.mono hM0 hG
 replace hr_1 := RepSeq.mono hM0 _ _ hr_1
 refine R_enter 19 Tryz.func55 rfl rfl (by simp) fun a0 f0 => RR (Y f0 2 fun _ f => eT (RR (Y f 1 fun _ f => ?_)))
 obtain ⟨x_1, hx_1, hF_1⟩ := bS hF
 refine Y16 (E := [Ent.obj b0 (.cells #[.pointer A_1, .slice A_2 d0_1.length cap_1, .bool d0_2, .int .i64 d0_3] 48 (0, 0)), Ent.row 5 1 (.slice A_2 d0_1.length cap_1) d0_1.length cs_1]) (H := (H)) f p0 (strings_Builder_copyCheck_6_ok n _ hG b0 A_1 hb_1 d0_1 A_2 cap_1 cs_1 hr_1 (d0_2) d0_3 x_1 hx_1) fun _ M_1 E_1 w_1 hM_1 p_1 q_1 _ f => ?_
 obtain ⟨A_3, A_4, cap_2, cs_2, rfl, rfl, hb_2, hr_2⟩ := q_1
 refine eT (RR (Y f 4 fun _ f => Z f (Y31 (v := .slice A_4 x_1.1.length cap_2) rfl (ad := ⟨b0, 1, none⟩) (p_1.ownCell 0 rfl 1)) fun _ f => Y f 1 fun _ f => ?_))
 have p_2 := p_1.pl [1]
 obtain ⟨g_1, hF_2⟩ := nS hF_1
 refine Y22 (z := .int .u8 0) (xs := x_1.1) (l := d1) f p_2 hr_2 rfl rfl rfl g_1 (by omega) fun A_5 cap_3 cs_3 w_2 p_3 hr_3 _ f => Y f 2 fun _ f => Y26 f p_3 1 rfl rfl (b := b0) (j := 1) (v := .slice A_5 (x_1.1 ++ d1).length cap_3) rfl (by exact rfl) (by simp) (by simp) ((Ent.row 5 1 (.slice A_5 (x_1.1 ++ d1).length cap_3) (x_1.1 ++ d1).length cs_3) :: (Ent.obj b0 (.cells #[.pointer A_3, .slice A_5 (x_1.1 ++ d1).length cap_3, .bool x_1.2.1, .int .i64 x_1.2.2] 48 (0, 0))) :: H) rfl fun w_3 p_4 _ f => eT (RR (Y f 4 fun _ f => eT (wp_ret (E_ret2 f rfl (by kernel_rfl : Vc.look _ 4 = some (.int .i64 (d1.length : Int))) (by kernel_rfl : Vc.look _ 5 = some (.nilIface)) ?_))))
 obtain rfl := sI hF_2
 have p_5 := p_4.pl [1]
 exact ⟨_, rfl, M_1, _, hM_1, p_5, ⟨A_3, A_5, cap_3, cs_3, rfl, rfl, hb_2, hr_3⟩⟩
def print_writer_null (n : Nat) (d0_1 : List UInt8) (d0_2 : Bool) (d0_3 : Int) (d1 : TA0) : Option (List UInt8 × Bool × Int) :=
  (strings_Builder_WriteString_2 n d0_1 (d0_2) d0_3 [110, 117, 108, 108]).bind fun x_1 =>
  some ((x_1.2.2.1, (x_1.2.2.2.1), x_1.2.2.2.2))
theorem print_writer_null_ok (n : Nat) (M : Mem) (hG : GL M) (b0 : Nat) (A_1 : Option Addr) (hb_1 : (A_1 = none ∨ A_1 = some ⟨b0, 0, none⟩)) (d0_1 : List UInt8) (A_2 : Option Addr) (cap_1 : Nat) (cs_1 : List Value) (hr_1 : RepSeq M (d0_1.map embB) cs_1) (d0_2 : Bool) (d0_3 : Int) (ad1 : Addr) (c1 : List Value) (d1 : TA0) (h1 : Rep M (emb_TA0 d1) c1) (q1 : ∀ j v, c1[j]? = some v → M.cell? (ad1.add j) = some v) (r : List UInt8 × Bool × Int) (hF : print_writer_null n d0_1 d0_2 d0_3 d1 = some r) : OkH Tryz.prog M [Ent.obj b0 (.cells #[.pointer A_1, .slice A_2 d0_1.length cap_1, .bool d0_2, .int .i64 d0_3] 48 (0, 0)), Ent.row 5 1 (.slice A_2 d0_1.length cap_1) d0_1.length cs_1] 40 [.pointer (some (⟨b0, 0, none⟩)), .pointer (some ad1)] (fun M' E' v => ∃ (A_7 : Option Addr) (A_8 : Option Addr) (cap_5 : Nat) (cs_3 : List Value), v = .tuple #[] ∧ E' = [Ent.obj b0 (.cells #[.pointer A_7, .slice A_8 r.1.length cap_5, .bool r.2.1, .int .i64 r.2.2] 48 (0, 0)), Ent.row 5 1 (.slice A_8 r.1.length cap_5) r.1.length cs_3] ∧ (A_7 = none ∨ A_7 = some ⟨b0, 0, none⟩) ∧ RepSeq M' (r.1.map embB) cs_3) := by
 unfold print_writer_null at hF
 intro M1 hM0 w0 H w p0
 replace hG := GL.mono hM0 hG
 replace hr_1 := RepSeq.mono hM0 _ _ hr_1
 replace h1 := Rep.mono hM0 _ _ h1
 replace q1 := fun j v h => hM0.cell (q1 j v h)
 obtain ⟨A_3, cap_2, A_4, cap_3, rfl, h_1, h_2⟩ := TA0.opn h1
 refine R_enter 8 Tryz.func40 rfl rfl (by simp) fun a0 f0 => R_reg (Y f0 3 fun _ f => ?_)
 obtain ⟨x_1, hx_1, hF_1⟩ := bS hF
 refine Y16 (E := [Ent.obj b0 (.cells #[.pointer A_1, .slice A_2 d0_1.length cap_1, .bool d0_2, .int .i64 d0_3] 48 (0, 0)), Ent.row 5 1 (.slice A_2 d0_1.length cap_1) d0_1.length cs_1]) (H := (H)) f p0 (strings_Builder_WriteString_2_ok n _ hG b0 A_1 hb_1 d0_1 A_2 cap_1 cs_1 hr_1 (d0_2) d0_3 [110, 117, 108, 108] x_1 hx_1) fun _ M_1 E_1 w_1 hM_1 p_1 q_1 _ f => ?_
 obtain ⟨A_5, A_6, cap_4, cs_2, rfl, rfl, hb_2, hr_2⟩ := q_1
 refine W_end rfl (E_end0 f rfl  ?_)
 obtain rfl := sI hF_1
 exact ⟨_, rfl, M_1, _, hM_1, p_1, ⟨A_5, A_6, cap_4, cs_2, rfl, rfl, hb_2, hr_2⟩⟩
def print_writer_bool (n : Nat) (d0_1 : List UInt8) (d0_2 : Bool) (d0_3 : Int) (d1 : TA0) : Option (List UInt8 × Bool × Int) :=
  bif d1.fBool then
    ((strings_Builder_WriteString_2 n d0_1 (d0_2) d0_3 [116, 114, 117, 101]).bind fun x_1 =>
    some ((x_1.2.2.1, (x_1.2.2.2.1), x_1.2.2.2.2)))
  else
    (strings_Builder_WriteString_2 n d0_1 (d0_2) d0_3 [102, 97, 108, 115, 101]).bind fun x_2 =>
    some ((x_2.2.2.1, (x_2.2.2.2.1), x_2.2.2.2.2))
theorem print_writer_bool_ok (n : Nat) (M : Mem) (hG : GL M) (b0 : Nat) (A_1 : Option Addr) (hb_1 : (A_1 = none ∨ A_1 = some ⟨b0, 0, none⟩)) (d0_1 : List UInt8) (A_2 : Option Addr) (cap_1 : Nat) (cs_1 : List Value) (hr_1 : RepSeq M (d0_1.map embB) cs_1) (d0_2 : Bool) (d0_3 : Int) (ad1 : Addr) (c1 : List Value) (d1 : TA0) (h1 : Rep M (emb_TA0 d1) c1) (q1 : ∀ j v, c1[j]? = some v → M.cell? (ad1.add j) = some v) (r : List UInt8 × Bool × Int) (hF : print_writer_bool n d0_1 d0_2 d0_3 d1 = some r) : OkH Tryz.prog M [Ent.obj b0 (.cells #[.pointer A_1, .slice A_2 d0_1.length cap_1, .bool d0_2, .int .i64 d0_3] 48 (0, 0)), Ent.row 5 1 (.slice A_2 d0_1.length cap_1) d0_1.length cs_1] 41 [.pointer (some (⟨b0, 0, none⟩)), .pointer (some ad1)] (fun M' E' v => ∃ (A_9 : Option Addr) (A_10 : Option Addr) (cap_6 : Nat) (cs_4 : List Value), v = .tuple #[] ∧ E' = [Ent.obj b0 (.cells #[.pointer A_9, .slice A_10 r.1.length cap_6, .bool r.2.1, .int .i64 r.2.2] 48 (0, 0)), Ent.row 5 1 (.slice A_10 r.1.length cap_6) r.1.length cs_4] ∧ (A_9 = none ∨ A_9 = some ⟨b0, 0, none⟩) ∧ RepSeq M' (r.1.map embB) cs_4) := by
 unfold print_writer_bool at hF
 intro M1 hM0 w0 H w p0
 replace hG := GL.mono hM0 hG
 replace hr_1 := RepSeq.mono hM0 _ _ hr_1
 replace h1 := Rep.mono hM0 _ _ h1
 replace q1 := fun j v h => hM0.cell (q1 j v h)
 obtain ⟨A_3, cap_2, A_4, cap_3, rfl, h_1, h_2⟩ := TA0.opn h1
 refine R_enter 16 Tryz.func41 rfl rfl (by simp) fun a0 f0 => RR (Y f0 3 fun _ f => Y14 f p0 q1 1 rfl fun _ f => eT (RcF f hF (fun h_3 hF_1 => ?_) fun h_3 hF_3 => ?_))
 ·refine R_reg (Y f 3 fun _ f => ?_)
  obtain ⟨x_1, hx_1, hF_2⟩ := bS hF_1
  refine Y16 (E := [Ent.obj b0 (.cells #[.pointer A_1, .slice A_2 d0_1.length cap_1, .bool d0_2, .int .i64 d0_3] 48 (0, 0)), Ent.row 5 1 (.slice A_2 d0_1.length cap_1) d0_1.length cs_1]) (H := (H)) f p0 (strings_Builder_WriteString_2_ok n _ hG b0 A_1 hb_1 d0_1 A_2 cap_1 cs_1 hr_1 (d0_2) d0_3 [116, 114, 117, 101] x_1 hx_1) fun _ M_1 E_1 w_1 hM_1 p_1 q_1 _ f => ?_
  obtain ⟨A_5, A_6, cap_4, cs_2, rfl, rfl, hb_2, hr_2⟩ := q_1
  refine W_end rfl (E_end0 f rfl  ?_)
  obtain rfl := sI hF_2
  exact ⟨_, rfl, M_1, _, hM_1, p_1, ⟨A_5, A_6, cap_4, cs_2, rfl, rfl, hb_2, hr_2⟩⟩
 ·refine R_reg (Y f 3 fun _ f => ?_)
  obtain ⟨x_2, hx_2, hF_4⟩ := bS hF_3
  refine Y16 (E := [Ent.obj b0 (.cells #[.pointer A_1, .slice A_2 d0_1.length cap_1, .bool d0_2, .int .i64 d0_3] 48 (0, 0)), Ent.row 5 1 (.slice A_2 d0_1.length cap_1) d0_1.length cs_1]) (H := (H)) f p0 (strings_Builder_WriteString_2_ok n _ hG b0 A_1 hb_1 d0_1 A_2 cap_1 cs_1 hr_1 (d0_2) d0_3 [102, 97, 108, 115, 101] x_2 hx_2) fun _ M_2 E_2 w_2 hM_2 p_2 q_2 _ f => ?_
  obtain ⟨A_7, A_8, cap_5, cs_3, rfl, rfl, hb_3, hr_3⟩ := q_2
  refine W_end rfl (E_end0 f rfl  ?_)
  obtain rfl := sI hF_4
  exact ⟨_, rfl, M_2, _, hM_2, p_2, ⟨A_7, A_8, cap_5, cs_3, rfl, rfl, hb_3, hr_3⟩⟩
def print_writer_number (n : Nat) (d0_1 : List UInt8) (d0_2 : Bool) (d0_3 : Int) (d1 : TA0) : Option (List UInt8 × Bool × Int) :=
  (h_numText n d1.fNum).bind fun x_1 =>
  (strings_Builder_WriteString_2 n d0_1 (d0_2) d0_3 x_1.1).bind fun x_2 =>
  some ((x_2.2.2.1, (x_2.2.2.2.1), x_2.2.2.2.2))
theorem print_writer_number_ok (n : Nat) (M : Mem) (hG : GL M) (b0 : Nat) (A_1 : Option Addr) (hb_1 : (A_1 = none ∨ A_1 = some ⟨b0, 0, none⟩)) (d0_1 : List UInt8) (A_2 : Option Addr) (cap_1 : Nat) (cs_1 : List Value) (hr_1 : RepSeq M (d0_1.map embB) cs_1) (d0_2 : Bool) (d0_3 : Int) (ad1 : Addr) (c1 : List Value) (d1 : TA0) (h1 : Rep M (emb_TA0 d1) c1) (q1 : ∀ j v, c1[j]? = some v → M.cell? (ad1.add j) = some v) (r : List UInt8 × Bool × Int) (hF : print_writer_number n d0_1 d0_2 d0_3 d1 = some r) : OkH Tryz.prog M [Ent.obj b0 (.cells #[.pointer A_1, .slice A_2 d0_1.length cap_1, .bool d0_2, .int .i64 d0_3] 48 (0, 0)), Ent.row 5 1 (.slice A_2 d0_1.length cap_1) d0_1.length cs_1] 42 [.pointer (some (⟨b0, 0, none⟩)), .pointer (some ad1)] (fun M' E' v => ∃ (A_7 : Option Addr) (A_8 : Option Addr) (cap_5 : Nat) (cs_3 : List Value), v = .tuple #[] ∧ E' = [Ent.obj b0 (.cells #[.pointer A_7, .slice A_8 r.1.length cap_5, .bool r.2.1, .int .i64 r.2.2] 48 (0, 0)), Ent.row 5 1 (.slice A_8 r.1.length cap_5) r.1.length cs_3] ∧ (A_7 = none ∨ A_7 = some ⟨b0, 0, none⟩) ∧ RepSeq M' (r.1.map embB) cs_3) := by
 unfold print_writer_number at hF
 intro M1 hM0 w0 H w p0
 replace hG := GL.mono hM0 hG
 replace hr_1 := RepSeq.mono hM0 _ _ hr_1
 replace h1 := Rep.mono hM0 _ _ h1
 replace q1 := fun j v h => hM0.cell (q1 j v h)
 obtain ⟨A_3, cap_2, A_4, cap_3, rfl, h_1, h_2⟩ := TA0.opn h1
 refine R_enter 19 Tryz.func42 rfl rfl (by simp) fun a0 f0 => RR (Y f0 3 fun _ f => Y14 f p0 q1 2 rfl fun _ f => ?_)
 obtain ⟨x_1, hx_1, hF_1⟩ := bS hF
 refine Y17 f p0 (h_numText_ok n _ d1.fNum x_1 hx_1) fun w_1 p_1 _ f => Y f 5 fun _ f => eT (R_reg (Y f 4 fun _ f => ?_))
 obtain ⟨x_2, hx_2, hF_2⟩ := bS hF_1
 refine Y16 (E := [Ent.obj b0 (.cells #[.pointer A_1, .slice A_2 d0_1.length cap_1, .bool d0_2, .int .i64 d0_3] 48 (0, 0)), Ent.row 5 1 (.slice A_2 d0_1.length cap_1) d0_1.length cs_1]) (H := (H)) f p_1 (strings_Builder_WriteString_2_ok n _ hG b0 A_1 hb_1 d0_1 A_2 cap_1 cs_1 hr_1 (d0_2) d0_3 x_1.1 x_2 hx_2) fun _ M_1 E_1 w_2 hM_1 p_2 q_1 _ f => ?_
 obtain ⟨A_5, A_6, cap_4, cs_2, rfl, rfl, hb_2, hr_2⟩ := q_1
 refine W_end rfl (E_end0 f rfl  ?_)
 obtain rfl := sI hF_2
 exact ⟨_, rfl, M_1, _, hM_1, p_2, ⟨A_5, A_6, cap_4, cs_2, rfl, rfl, hb_2, hr_2⟩⟩
def print_writer_quote (n : Nat) (d0_1 : List UInt8) (d0_2 : Bool) (d0_3 : Int) (d1 : List UInt8) : Option (List UInt8 × Bool × Int) :=
  (runes_Quote n d1).bind fun x_1 =>
  (strings_Builder_WriteString_2 n d0_1 (d0_2) d0_3 x_1.1).bind fun x_2 =>
  some ((x_2.2.2.1, (x_2.2.2.2.1), x_2.2.2.2.2))
theorem print_writer_quote_ok (n : Nat) (M : Mem) (hG : GL M) (b0 : Nat) (A_1 : Option Addr) (hb_1 : (A_1 = none ∨ A_1 = some ⟨b0, 0, none⟩)) (d0_1 : List UInt8) (A_2 : Option Addr) (cap_1 : Nat) (cs_1 : List Value) (hr_1 : RepSeq M (d0_1.map embB) cs_1) (d0_2 : Bool) (d0_3 : Int) (d1 : List UInt8) (r : List UInt8 × Bool × Int) (hF : print_writer_quote n d0_1 d0_2 d0_3 d1 = some r) : OkH Tryz.prog M [Ent.obj b0 (.cells #[.pointer A_1, .slice A_2 d0_1.length cap_1, .bool d0_2, .int .i64 d0_3] 48 (0, 0)), Ent.row 5 1 (.slice A_2 d0_1.length cap_1) d0_1.length cs_1] 57 [.pointer (some (⟨b0, 0, none⟩)), S d1] (fun M' E' v => ∃ (A_5 : Option Addr) (A_6 : Option Addr) (cap_3 : Nat) (cs_3 : List Value), v = .tuple #[] ∧ E' = [Ent.obj b0 (.cells #[.pointer A_5, .slice A_6 r.1.length cap_3, .bool r.2.1, .int .i64 r.2.2] 48 (0, 0)), Ent.row 5 1 (.slice A_6 r.1.length cap_3) r.1.length cs_3] ∧ (A_5 = none ∨ A_5 = some ⟨b0, 0, none⟩) ∧ RepSeq M' (r.1.map embB) cs_3) := by
 unfold print_writer_quote at hF
 intro M1 hM0 w0 H w p0
 replace hG := GL.mono hM0 hG
 replace hr_1 := RepSeq.mono hM0 _ _ hr_1
 refine R_enter 16 Tryz.func57 rfl rfl (by simp) fun a0 f0 => RR (Y f0 1 fun _ f => ?_)
 obtain ⟨x_1, hx_1, hF_1⟩ := bS hF
 refine Y17 f p0 (runes_Quote_ok n _ hG d1 x_1 hx_1) fun w_1 p_1 _ f => Y f 5 fun _ f => eT (R_reg (Y f 4 fun _ f => ?_))
 obtain ⟨x_2, hx_2, hF_2⟩ := bS hF_1
 refine Y16 (E := [Ent.obj b0 (.cells #[.pointer A_1, .slice A_2 d0_1.length cap_1, .bool d0_2, .int .i64 d0_3] 48 (0, 0)), Ent.row 5 1 (.slice A_2 d0_1.length cap_1) d0_1.length cs_1]) (H := (H)) f p_1 (strings_Builder_WriteString_2_ok n _ hG b0 A_1 hb_1 d0_1 A_2 cap_1 cs_1 hr_1 (d0_2) d0_3 x_1.1 x_2 hx_2) fun _ M_1 E_1 w_2 hM_1 p_2 q_1 _ f => ?_
 obtain ⟨A_3, A_4, cap_2, cs_2, rfl, rfl, hb_2, hr_2⟩ := q_1
 refine W_end rfl (E_end0 f rfl  ?_)
 obtain rfl := sI hF_2
 exact ⟨_, rfl, M_1, _, hM_1, p_2, ⟨A_3, A_4, cap_2, cs_2, rfl, rfl, hb_2, hr_2⟩⟩
def print_writer_text (n : Nat) (d0_1 : List UInt8) (d0_2 : Bool) (d0_3 : Int) (d1 : TA0) : Option (List UInt8 × Bool × Int) :=
  (print_writer_quote n d0_1 (d0_2) d0_3 d1.fText).bind fun x_1 =>
  some ((x_1.1, (x_1.2.1), x_1.2.2))
theorem print_writer_text_ok (n : Nat) (M : Mem) (hG : GL M) (b0 : Nat) (A_1 : Option Addr) (hb_1 : (A_1 = none ∨ A_1 = some ⟨b0, 0, none⟩)) (d0_1 : List UInt8) (A_2 : Option Addr) (cap_1 : Nat) (cs_1 : List Value) (hr_1 : RepSeq M (d0_1.map embB) cs_1) (d0_2 : Bool) (d0_3 : Int) (ad1 : Addr) (c1 : List Value) (d1 : TA0) (h1 : Rep M (emb_TA0 d1) c1) (q1 : ∀ j v, c1[j]? = some v → M.cell? (ad1.add j) = some v) (r : List UInt8 × Bool × Int) (hF : print_writer_text n d0_1 d0_2 d0_3 d1 = some r) : OkH Tryz.prog M [Ent.obj b0 (.cells #[.pointer A_1, .slice A_2 d0_1.length cap_1, .bool d0_2, .int .i64 d0_3] 48 (0, 0)), Ent.row 5 1 (.slice A_2 d0_1.length cap_1) d0_1.length cs_1] 43 [.pointer (some (⟨b0, 0, none⟩)), .pointer (some ad1)] (fun M' E' v => ∃ (A_7 : Option Addr) (A_8 : Option Addr) (cap_5 : Nat) (cs_3 : List Value), v = .tuple #[] ∧ E' = [Ent.obj b0 (.cells #[.pointer A_7, .slice A_8 r.1.length cap_5, .bool r.2.1, .int .i64 r.2.2] 48 (0, 0)), Ent.row 5 1 (.slice A_8 r.1.length cap_5) r.1.length cs_3] ∧ (A_7 = none ∨ A_7 = some ⟨b0, 0, none⟩) ∧ RepSeq M' (r.1.map embB) cs_3) := by
 unfold print_writer_text at hF
 intro M1 hM0 w0 H w p0
 replace hG := GL.mono hM0 hG
 replace hr_1 := RepSeq.mono hM0 _ _ hr_1
 replace h1 := Rep.mono hM0 _ _ h1
 replace q1 := fun j v h => hM0.cell (q1 j v h)
 obtain ⟨A_3, cap_2, A_4, cap_3, rfl, h_1, h_2⟩ := TA0.opn h1
 refine R_enter 10 Tryz.func43 rfl rfl (by simp) fun a0 f0 => R_reg (Y f0 4 fun _ f => Y14 f p0 q1 3 rfl fun _ f => ?_)
 obtain ⟨x_1, hx_1, hF_1⟩ := bS hF
 refine Y16 (E := [Ent.obj b0 (.cells #[.pointer A_1, .slice A_2 d0_1.length cap_1, .bool d0_2, .int .i64 d0_3] 48 (0, 0)), Ent.row 5 1 (.slice A_2 d0_1.length cap_1) d0_1.length cs_1]) (H := (H)) f p0 (print_writer_quote_ok n _ hG b0 A_1 hb_1 d0_1 A_2 cap_1 cs_1 hr_1 (d0_2) d0_3 d1.fText x_1 hx_1) fun _ M_1 E_1 w_1 hM_1 p_1 q_1 _ f => ?_
 obtain ⟨A_5, A_6, cap_4, cs_2, rfl, rfl, hb_2, hr_2⟩ := q_1
 refine W_end rfl (E_end0 f rfl  ?_)
 obtain rfl := sI hF_1
 exact ⟨_, rfl, M_1, _, hM_1, p_1, ⟨A_5, A_6, cap_4, cs_2, rfl, rfl, hb_2, hr_2⟩⟩
def strings_Builder_WriteByte_2 (n : Nat) (d0_1 : List UInt8) (d0_2 : Bool) (d0_3 : Int) (d1 : Int) : Option (Unit × List UInt8 × Bool × Int) :=
  (strings_Builder_copyCheck_6 n d0_1 (d0_2) d0_3).bind fun x_1 =>
  need (0 ≤ d1 ∧ d1 < 256) <|
  need ((x_1.1.length + 1) * 1 ≤ 140737488355328) <|
  some (((), x_1.1 ++ [UInt8.ofNat (d1).toNat], (x_1.2.1), x_1.2.2))
theorem strings_Builder_WriteByte_2_ok (n : Nat) (M : Mem) (hG : GL M) (b0 : Nat) (A_1 : Option Addr) (hb_1 : (A_1 = none ∨ A_1 = some ⟨b0, 0, none⟩)) (d0_1 : List UInt8) (A_2 : Option Addr) (cap_1 : Nat) (cs_1 : List Value) (hr_1 : RepSeq M (d0_1.map embB) cs_1) (d0_2 : Bool) (d0_3 : Int) (d1 : Int) (r : Unit × List UInt8 × Bool × Int) (hF : strings_Builder_WriteByte_2 n d0_1 d0_2 d0_3 d1 = some r) : OkH Tryz.prog M [Ent.obj b0 (.cells #[.pointer A_1, .slice A_2 d0_1.length cap_1, .bool d0_2, .int .i64 d0_3] 48 (0, 0)), Ent.row 5 1 (.slice A_2 d0_1.length cap_1) d0_1.length cs_1] 61 [.pointer (some (⟨b0, 0, none⟩)), .int .u8 d1] (fun M' E' v => ∃ (A_6 : Option Addr) (A_7 : Option Addr) (cap_4 : Nat) (cs_4 : List Value), v = .nilIface ∧ E' = [Ent.obj b0 (.cells #[.pointer A_6, .slice A_7 r.2.1.length cap_4, .bool r.2.2.1, .int .i64 r.2.2.2] 48 (0, 0)), Ent.row 5 1 (.slice A_7 r.2.1.length cap_4) r.2.1.length cs_4] ∧ (A_6 = none ∨ A_6 = some ⟨b0, 0, none⟩) ∧ RepSeq M' (r.2.1.map embB) cs_4) := by
 unfold strings_Builder_WriteByte_2 at hF
 intro M1 hM0 w0 H w p0
 replace hG := GL.mono hM0 hG
 replace hr_1 := RepSeq.mono hM0 _ _ hr_1
 refine R_enter 17 Tryz.func61 rfl rfl (by simp) fun a0 f0 => RR (Y f0 1 fun _ f => eT (RR (Y f 1 fun _ f => ?_)))
 obtain ⟨x_1, hx_1, hF_1⟩ := bS hF
 refine Y16 (E := [Ent.obj b0 (.cells #[.pointer A_1, .slice A_2 d0_1.length cap_1, .bool d0_2, .int .i64 d0_3] 48 (0, 0)), Ent.row 5 1 (.slice A_2 d0_1.length cap_1) d0_1.length cs_1]) (H := (H)) f p0 (strings_Builder_copyCheck_6_ok n _ hG b0 A_1 hb_1 d0_1 A_2 cap_1 cs_1 hr_1 (d0_2) d0_3 x_1 hx_1) fun _ M_1 E_1 w_1 hM_1 p_1 q_1 _ f => ?_
 obtain ⟨A_3, A_4, cap_2, cs_2, rfl, rfl, hb_2, hr_2⟩ := q_1
 refine eT (RR (Y f 4 fun _ f => Z f (Y31 (v := .slice A_4 x_1.1.length cap_2) rfl (ad := ⟨b0, 1, none⟩) (p_1.ownCell 0 rfl 1)) fun _ f => Y f 1 fun _ f => V_allocS (k := 1) (c := 1) f p_1 (.cells #[.int .u8 d1] 5 (0, 0)) (by kernel_rfl) (fun _ => by kernel_rfl) fun b_1 w_2 p_2 _ f => ?_))
 obtain ⟨g_1, hF_2⟩ := nS hF_1
 have p_3 := p_2.pl [2]
 obtain ⟨g_2, hF_3⟩ := nS hF_2
 refine Y19 (z := .int .u8 0) (f := embB) (xs := x_1.1) (ys := [UInt8.ofNat (d1).toNat]) (news := [.int .u8 d1]) (ad := ⟨b_1, 0, none⟩) (m := 1) (c := 1) f p_3 hr_2 (by exact ⟨_, _, rfl, (embB_of (by omega)), rfl⟩) rfl rfl rfl rfl (own_cells (p_3.ownCell 1 rfl) 0 rfl) (by exact g_2) (by have hg_ := g_2; first | omega | (simp only [List.length_cons, List.length_nil] at *; omega)) fun A_5 cap_3 cs_3 w_3 p_4 hr_3 _ f => ?_
 have p_5 := p_4.pl [1]
 have p_6 := p_5.drop
 refine Y f 2 fun _ f => Y26 f p_6 1 rfl rfl (b := b0) (j := 1) (v := .slice A_5 (x_1.1 ++ [UInt8.ofNat (d1).toNat]).length cap_3) rfl (by exact rfl) (by simp) (by simp) ((Ent.row 5 1 (.slice A_5 (x_1.1 ++ [UInt8.ofNat (d1).toNat]).length cap_3) (x_1.1 ++ [UInt8.ofNat (d1).toNat]).length cs_3) :: (Ent.obj b0 (.cells #[.pointer A_3, .slice A_5 (x_1.1 ++ [UInt8.ofNat (d1).toNat]).length cap_3, .bool x_1.2.1, .int .i64 x_1.2.2] 48 (0, 0))) :: H) rfl fun w_4 p_7 _ f => eT (RR (Y f 1 fun _ f => eT (wp_ret (E_ret1 f rfl (by kernel_rfl : Vc.look _ 4 = some (.nilIface)) ?_))))
 obtain rfl := sI hF_3
 have p_8 := p_7.pl [1]
 exact ⟨_, rfl, M_1, _, hM_1, p_8, ⟨A_3, A_5, cap_3, cs_3, rfl, rfl, hb_2, hr_3⟩⟩
def print_writer_line (n : Nat) (d0_1 : List UInt8) (d0_2 : Bool) (d0_3 : Int) : Option (List UInt8 × Bool × Int) :=
  bif d0_2 then
    ((strings_Builder_WriteByte_2 n d0_1 (d0_2) d0_3 (10 : Int)).bind fun x_1 =>
    (h_Repeat n [32, 32] x_1.2.2.2).bind fun x_2 =>
    (strings_Builder_WriteString_2 n x_1.2.1 (x_1.2.2.1) x_1.2.2.2 x_2).bind fun x_3 =>
    some ((x_3.2.2.1, (x_3.2.2.2.1), x_3.2.2.2.2)))
  else
    some ((d0_1, (d0_2), d0_3))
theorem print_writer_line_ok (n : Nat) (M : Mem) (hG : GL M) (b0 : Nat) (A_1 : Option Addr) (hb_1 : (A_1 = none ∨ A_1 = some ⟨b0, 0, none⟩)) (d0_1 : List UInt8) (A_2 : Option Addr) (cap_1 : Nat) (cs_1 : List Value) (hr_1 : RepSeq M (d0_1.map embB) cs_1) (d0_2 : Bool) (d0_3 : Int) (r : List UInt8 × Bool × Int) (hF : print_writer_line n d0_1 d0_2 d0_3 = some r) : OkH Tryz.prog M [Ent.obj b0 (.cells #[.pointer A_1, .slice A_2 d0_1.length cap_1, .bool d0_2, .int .i64 d0_3] 48 (0, 0)), Ent.row 5 1 (.slice A_2 d0_1.length cap_1) d0_1.length cs_1] 71 [.pointer (some (⟨b0, 0, none⟩))] (fun M' E' v => ∃ (A_7 : Option Addr) (A_8 : Option Addr) (cap_4 : Nat) (cs_4 : List Value), v = .tuple #[] ∧ E' = [Ent.obj b0 (.cells #[.pointer A_7, .slice A_8 r.1.length cap_4, .bool r.2.1, .int .i64 r.2.2] 48 (0, 0)), Ent.row 5 1 (.slice A_8 r.1.length cap_4) r.1.length cs_4] ∧ (A_7 = none ∨ A_7 = some ⟨b0, 0, none⟩) ∧ RepSeq M' (r.1.map embB) cs_4) := by
 unfold print_writer_line at hF
 intro M1 hM0 w0 H w p0
 replace hG := GL.mono hM0 hG
 replace hr_1 := RepSeq.mono hM0 _ _ hr_1
 refine R_enter 19 Tryz.func71 rfl rfl (by simp) fun a0 f0 => RR (Y f0 3 fun _ f => Z f (Y31 (v := .bool d0_2) rfl (ad := ⟨b0, 2, none⟩) (p0.ownCell 0 rfl 2)) fun _ f => eT (RcF f hF (fun h_1 hF_1 => ?_) fun h_1 hF_5 => ?_))
 ·refine RR (Y f 3 fun _ f => ?_)
  obtain ⟨x_1, hx_1, hF_2⟩ := bS hF_1
  refine Y16 (E := [Ent.obj b0 (.cells #[.pointer A_1, .slice A_2 d0_1.length cap_1, .bool d0_2, .int .i64 d0_3] 48 (0, 0)), Ent.row 5 1 (.slice A_2 d0_1.length cap_1) d0_1.length cs_1]) (H := (H)) f p0 (strings_Builder_WriteByte_2_ok n _ hG b0 A_1 hb_1 d0_1 A_2 cap_1 cs_1 hr_1 (d0_2) d0_3 (10 : Int) x_1 hx_1) fun _ M_1 E_1 w_1 hM_1 p_1 q_1 _ f => ?_
  obtain ⟨A_3, A_4, cap_2, cs_2, rfl, rfl, hb_2, hr_2⟩ := q_1
  refine eT (R_mix (E := [Ent.obj b0 (.cells #[.pointer A_3, .slice A_4 x_1.2.1.length cap_2, .bool x_1.2.2.1, .int .i64 x_1.2.2.2] 48 (0, 0)), Ent.row 5 1 (.slice A_4 x_1.2.1.length cap_2) x_1.2.1.length cs_2]) (Hr := (H)) [(0, true), (1, true), (2, true), (3, true), (4, true), (5, true), (6, false), (7, false), (8, false)] p_1 (by kernel_rfl) (by kernel_rfl) rfl (by kernel_rfl) (Y0 default f 6 fun _ f => M_fix (E := [Ent.obj b0 (.cells #[.pointer A_3, .slice A_4 x_1.2.1.length cap_2, .bool x_1.2.2.1, .int .i64 x_1.2.2.2] 48 (0, 0)), Ent.row 5 1 (.slice A_4 x_1.2.1.length cap_2) x_1.2.1.length cs_2]) fun w_2 p_2 => Z f (Y31 (v := .int .i64 x_1.2.2.2) rfl (ad := ⟨b0, 3, none⟩) (p_2.ownCell 0 rfl 3)) fun _ f => W_end rfl (M_go (M1 := M_1) (E := [Ent.obj b0 (.cells #[.pointer A_3, .slice A_4 x_1.2.1.length cap_2, .bool x_1.2.2.1, .int .i64 x_1.2.2.2] 48 (0, 0)), Ent.row 5 1 (.slice A_4 x_1.2.1.length cap_2) x_1.2.1.length cs_2]) (mR _) p_2 (M_fix (E := [Ent.obj b0 (.cells #[.pointer A_3, .slice A_4 x_1.2.1.length cap_2, .bool x_1.2.2.1, .int .i64 x_1.2.2.2] 48 (0, 0)), Ent.row 5 1 (.slice A_4 x_1.2.1.length cap_2) x_1.2.1.length cs_2]) fun w_3 p_3 => ?_))))
  obtain ⟨x_2, hx_2, hF_3⟩ := bS hF_2
  refine Y17 f p_3 (h_Repeat_ok n _ [32, 32] x_1.2.2.2 x_2 hx_2) fun w_4 p_4 _ f => W_end rfl (M_go (M1 := M_1) (E := [Ent.obj b0 (.cells #[.pointer A_3, .slice A_4 x_1.2.1.length cap_2, .bool x_1.2.2.1, .int .i64 x_1.2.2.2] 48 (0, 0)), Ent.row 5 1 (.slice A_4 x_1.2.1.length cap_2) x_1.2.1.length cs_2]) (mR _) p_4 (M_fix (E := [Ent.obj b0 (.cells #[.pointer A_3, .slice A_4 x_1.2.1.length cap_2, .bool x_1.2.2.1, .int .i64 x_1.2.2.2] 48 (0, 0)), Ent.row 5 1 (.slice A_4 x_1.2.1.length cap_2) x_1.2.1.length cs_2]) fun w_5 p_5 => ?_))
  obtain ⟨x_3, hx_3, hF_4⟩ := bS hF_3
  refine Y16 (E := [Ent.obj b0 (.cells #[.pointer A_3, .slice A_4 x_1.2.1.length cap_2, .bool x_1.2.2.1, .int .i64 x_1.2.2.2] 48 (0, 0)), Ent.row 5 1 (.slice A_4 x_1.2.1.length cap_2) x_1.2.1.length cs_2]) (H := (H)) f p_5 (strings_Builder_WriteString_2_ok n _ (GL.mono hM_1 hG) b0 A_3 hb_2 x_1.2.1 A_4 cap_2 cs_2 hr_2 (x_1.2.2.1) x_1.2.2.2 x_2 x_3 hx_3) fun _ M_2 E_2 w_6 hM_2 p_6 q_2 _ f => ?_
  obtain ⟨A_5, A_6, cap_3, cs_3, rfl, rfl, hb_3, hr_3⟩ := q_2
  refine W_end rfl (M_go (M1 := M_2) (E := [Ent.obj b0 (.cells #[.pointer A_5, .slice A_6 x_3.2.2.1.length cap_3, .bool x_3.2.2.2.1, .int .i64 x_3.2.2.2.2] 48 (0, 0)), Ent.row 5 1 (.slice A_6 x_3.2.2.1.length cap_3) x_3.2.2.1.length cs_3]) hM_2 p_6 (M_end rfl fun w_7 p_7 => E_end0 f rfl  ?_))
  obtain rfl := sI hF_4
  exact ⟨_, rfl, M_2, _, (hM_1.trans hM_2), p_7, ⟨A_5, A_6, cap_3, cs_3, rfl, rfl, hb_3, hr_3⟩⟩
 ·refine wp_skip (E_end0 f rfl  ?_)
  obtain rfl := sI hF_5
  exact ⟨_, rfl, M1, _, (mR _), p0, ⟨A_1, A_2, cap_1, cs_1, rfl, rfl, hb_1, hr_1⟩⟩
def print_writer_list_1 (n : Nat) (d0 : Int) : Option Unit :=
  some (())
theorem print_writer_list_1_ok (n : Nat) (M : Mem) (hG : GL M) (d0 : Int) (r : Unit) (hF : print_writer_list_1 n d0 = some r) : Ok Tryz.prog M 59 [.int .i64 d0] (fun _ v => v = .tuple #[]) := by
 unfold print_writer_list_1 at hF
 intro M1 hM0 w0 H w p0
 replace hG := GL.mono hM0 hG
 refine R_enter 2 Tryz.func59 rfl rfl (by simp) fun a0 f0 => wp_skip (E_end0 f0 rfl  ?_)
 obtain rfl := sI hF
 exact ⟨_, rfl, M1, (mR _), p0, rfl⟩
def print_writer_parts_2_s1 (n : Nat) (rec_print_writer_value : (List UInt8) → Bool → Int → TA0 → Option (List UInt8 × Bool × Int)) (d1 : TA0) (s_1 : Int × List UInt8 × Bool × Int) : Option (Lp (Int × List UInt8 × Bool × Int) (List UInt8 × Bool × Int)) :=
    bif (decide (s_1.1 < ((d1.fList.length : Nat) : Int))) then
      (((bif (decide ((0 : Int) < s_1.1)) then
          ((strings_Builder_WriteByte_2 n s_1.2.1 (s_1.2.2.1) s_1.2.2.2 (44 : Int)).bind fun x_2 =>
          some ((x_2.2.1, (x_2.2.2.1), x_2.2.2.2)))
        else
          some ((s_1.2.1, (s_1.2.2.1), s_1.2.2.2)) : Option (List UInt8 × Bool × Int))).bind fun y_1 =>
      (print_writer_line n y_1.1 (y_1.2.1) y_1.2.2).bind fun x_3 =>
      (print_writer_list_1 n s_1.1).bind fun x_4 =>
      (getI d1.fList s_1.1).bind fun x_5 =>
      (rec_print_writer_value x_3.1 (x_3.2.1) x_3.2.2 x_5).bind fun x_6 =>
      need (inR .i64 (s_1.1 + 1)) <|
      some (.nx (s_1.1 + 1, x_6.1, (x_6.2.1), x_6.2.2)))
    else
      some (.br (s_1.2.1, (s_1.2.2.1), s_1.2.2.2))
def print_writer_parts_2 (n : Nat) (rec_print_writer_value : (List UInt8) → Bool → Int → TA0 → Option (List UInt8 × Bool × Int)) (d0_1 : List UInt8) (d0_2 : Bool) (d0_3 : Int) (d1 : TA0) (d2 : Int) (d3 : Int) : Option (List UInt8 × Bool × Int) :=
  (strings_Builder_WriteByte_2 n d0_1 (d0_2) d0_3 d2).bind fun x_1 =>
  need (inR .i64 (x_1.2.2.2 + 1)) <|
  (loopF (print_writer_parts_2_s1 n rec_print_writer_value d1) n ((0 : Int), x_1.2.1, (x_1.2.2.1), x_1.2.2.2 + 1)).bind fun y_2 =>
  need (inR .i64 (y_2.2.2 - 1)) <|
  ((bif (decide ((0 : Int) < ((d1.fList.length : Nat) : Int))) then
      ((print_writer_line n y_2.1 (y_2.2.1) (y_2.2.2 - 1)).bind fun x_7 =>
      some ((x_7.1, (x_7.2.1), x_7.2.2)))
    else
      some ((y_2.1, (y_2.2.1), y_2.2.2 - 1)) : Option (List UInt8 × Bool × Int))).bind fun y_3 =>
  (strings_Builder_WriteByte_2 n y_3.1 (y_3.2.1) y_3.2.2 d3).bind fun x_8 =>
  some ((x_8.2.1, (x_8.2.2.1), x_8.2.2.2))
set_option maxRecDepth 20000 in
theorem print_writer_parts_2_ok (n : Nat) (rec_print_writer_value : (List UInt8) → Bool → Int → TA0 → Option (List UInt8 × Bool × Int)) (hrec_print_writer_value : ∀ (M : Mem) (hG : GL M) (b0 : Nat) (A_1 : Option Addr) (hb_1 : (A_1 = none ∨ A_1 = some ⟨b0, 0, none⟩)) (d0_1 : List UInt8) (A_2 : Option Addr) (cap_1 : Nat) (cs_1 : List Value) (hr_1 : RepSeq M (d0_1.map embB) cs_1) (d0_2 : Bool) (d0_3 : Int) (ad1 : Addr) (c1 : List Value) (d1 : TA0) (h1 : Rep M (emb_TA0 d1) c1) (q1 : ∀ j v, c1[j]? = some v → M.cell? (ad1.add j) = some v) (r : List UInt8 × Bool × Int) (hF : rec_print_writer_value d0_1 d0_2 d0_3 d1 = some r), OkH Tryz.prog M [Ent.obj b0 (.cells #[.pointer A_1, .slice A_2 d0_1.length cap_1, .bool d0_2, .int .i64 d0_3] 48 (0, 0)), Ent.row 5 1 (.slice A_2 d0_1.length cap_1) d0_1.length cs_1] 25 [.pointer (some (⟨b0, 0, none⟩)), .pointer (some ad1)] (fun M' E' v => ∃ (A_3 : Option Addr) (A_4 : Option Addr) (cap_2 : Nat) (cs_2 : List Value), v = .tuple #[] ∧ E' = [Ent.obj b0 (.cells #[.pointer A_3, .slice A_4 r.1.length cap_2, .bool r.2.1, .int .i64 r.2.2] 48 (0, 0)), Ent.row 5 1 (.slice A_4 r.1.length cap_2) r.1.length cs_2] ∧ (A_3 = none ∨ A_3 = some ⟨b0, 0, none⟩) ∧ RepSeq M' (r.1.map embB) cs_2)) (M : Mem) (hG : GL M) (b0 : Nat) (A_1 : Option Addr) (hb_1 : (A_1 = none ∨ A_1 = some ⟨b0, 0, none⟩)) (d0_1 : List UInt8) (A_2 : Option Addr) (cap_1 : Nat) (cs_1 : List Value) (hr_1 : RepSeq M (d0_1.map embB) cs_1) (d0_2 : Bool) (d0_3 : Int) (ad1 : Addr) (c1 : List Value) (d1 : TA0) (h1 : Rep M (emb_TA0 d1) c1) (q1 : ∀ j v, c1[j]? = some v → M.cell? (ad1.add j) = some v) (d2 : Int) (d3 : Int) (r : List UInt8 × Bool × Int) (hF : print_writer_parts_2 n rec_print_writer_value d0_1 d0_2 d0_3 d1 d2 d3 = some r) : OkH Tryz.prog M [Ent.obj b0 (.cells #[.pointer A_1, .slice A_2 d0_1.length cap_1, .bool d0_2, .int .i64 d0_3] 48 (0, 0)), Ent.row 5 1 (.slice A_2 d0_1.length cap_1) d0_1.length cs_1] 58 [.pointer (some (⟨b0, 0, none⟩)), .pointer (some ad1), .int .u8 d2, .int .u8 d3, .func (.func 59) #[] #[]] (fun M' E' v => ∃ (A_27 : Option Addr) (A_28 : Option Addr) (cap_16 : Nat) (cs_12 : List Value), v = .tuple #[] ∧ E' = [Ent.obj b0 (.cells #[.pointer A_27, .slice A_28 r.1.length cap_16, .bool r.2.1, .int .i64 r.2.2] 48 (0, 0)), Ent.row 5 1 (.slice A_28 r.1.length cap_16) r.1.length cs_12] ∧ (A_27 = none ∨ A_27 = some ⟨b0, 0, none⟩) ∧ RepSeq M' (r.1.map embB) cs_12) := by
 unfold print_writer_parts_2 at hF
 intro M1 hM0 w0 H w p0
 replace hG := GL.mono hM0 hG
 replace hr_1 := RepSeq.mono hM0 _ _ hr_1
 replace h1 := Rep.mono hM0 _ _ h1
 replace q1 := fun j v h => hM0.cell (q1 j v h)
 obtain ⟨A_3, cap_2, A_4, cap_3, rfl, h_1, h_2⟩ := TA0.opn h1
 refine R_enter 71 Tryz.func58 rfl rfl (by simp) fun a0 f0 => RR (Y f0 4 fun _ f => ?_)
 obtain ⟨x_1, hx_1, hF_1⟩ := bS hF
 refine Y16 (E := [Ent.obj b0 (.cells #[.pointer A_1, .slice A_2 d0_1.length cap_1, .bool d0_2, .int .i64 d0_3] 48 (0, 0)), Ent.row 5 1 (.slice A_2 d0_1.length cap_1) d0_1.length cs_1]) (H := (H)) f p0 (strings_Builder_WriteByte_2_ok n _ hG b0 A_1 hb_1 d0_1 A_2 cap_1 cs_1 hr_1 (d0_2) d0_3 d2 x_1 hx_1) fun _ M_1 E_1 w_1 hM_1 p_1 q_1 _ f => ?_
 obtain ⟨A_5, A_6, cap_4, cs_2, rfl, rfl, hb_2, hr_2⟩ := q_1
 refine eT (RR (Y f 3 fun _ f => Z f (Y31 (v := .int .i64 x_1.2.2.2) rfl (ad := ⟨b0, 3, none⟩) (p_1.ownCell 0 rfl 3)) fun _ f => ?_))
 obtain ⟨g_1, hF_2⟩ := nS hF_1
 refine Y f 1 fun _ f => ?_
 have f := f.st 20 (congrArg (Value.int .i64) (inR_wrap g_1))
 refine Y f 2 fun _ f => Y26 f p_1 0 rfl rfl (b := b0) (j := 3) (v := .int .i64 (x_1.2.2.2 + 1)) rfl (by exact rfl) (by simp) (by simp) ((Ent.obj b0 (.cells #[.pointer A_5, .slice A_6 x_1.2.1.length cap_4, .bool x_1.2.2.1, .int .i64 (x_1.2.2.2 + 1)] 48 (0, 0))) :: (Ent.row 5 1 (.slice A_6 x_1.2.1.length cap_4) x_1.2.1.length cs_2) :: H) rfl fun w_2 p_2 _ f => eT (R_seq (RR (Y f 3 fun _ f => Y14 f p_2 (fzu hM_1 q1) 4 rfl fun _ f => Y f 2 fun _ f => eT (wp_block ?_))))
 have p_3 := p_2.pl [1]
 obtain ⟨b_1, hL_1, hF_3⟩ := bS hF_2
 refine wp_mono (Q := fun e a w => (e = .exit 0 ∧ (∃ y_2 : List UInt8 × Bool × Int, b_1 = y_2 ∧ ∃ M_7 : Mem, M_1.le M_7 ∧ ∃ (A_19 : Option Addr), ∃ (A_20 : Option Addr), ∃ (cap_12 : Nat), ∃ (cs_8 : List Value), (A_19 = none ∨ A_19 = some ⟨b0, 0, none⟩) ∧ RepSeq M_7 (y_2.1.map embB) cs_8 ∧ Frm 71 [(0, .pointer (some (⟨b0, 0, none⟩))), (1, .pointer (some ad1)), (3, .int .u8 d3)] a ∧ Hp w0 M_7 ((Ent.row 5 1 (.slice A_20 y_2.1.length cap_12) y_2.1.length cs_8) :: (Ent.obj b0 (.cells #[.pointer A_19, .slice A_20 y_2.1.length cap_12, .bool y_2.2.1, .int .i64 y_2.2.2] 48 (0, 0))) :: H) w))) (R_loop (n := 71) (w0 := w0) (M := M_1) (fun (x : Nat × (Int × List UInt8 × Bool × Int) × (Option Addr) × (Option Addr) × Nat × (List Value)) => match x with | (m_1, s_1, A_7, A_8, cap_5, cs_3) => [(0, .pointer (some (⟨b0, 0, none⟩))), (1, .pointer (some ad1)), (3, .int .u8 d3), (4, .func (.func 59) #[] #[]), (27, .int .i64 ((d1.fList.length : Nat) : Int)), (28, .int .i64 s_1.1)]) (fun (x : Nat × (Int × List UInt8 × Bool × Int) × (Option Addr) × (Option Addr) × Nat × (List Value)) => match x with | (m_1, s_1, A_7, A_8, cap_5, cs_3) => ((Ent.row 5 1 (.slice A_8 s_1.2.1.length cap_5) s_1.2.1.length cs_3) :: (Ent.obj b0 (.cells #[.pointer A_7, .slice A_8 s_1.2.1.length cap_5, .bool s_1.2.2.1, .int .i64 s_1.2.2.2] 48 (0, 0))) :: H)) (fun (x : Nat × (Int × List UInt8 × Bool × Int) × (Option Addr) × (Option Addr) × Nat × (List Value)) (MM : Mem) => match x with | (m_1, s_1, A_7, A_8, cap_5, cs_3) => loopF (print_writer_parts_2_s1 n rec_print_writer_value d1) m_1 s_1 = some b_1 ∧ (A_7 = none ∨ A_7 = some ⟨b0, 0, none⟩) ∧ RepSeq MM (s_1.2.1.map embB) cs_3) (fun (x : Nat × (Int × List UInt8 × Bool × Int) × (Option Addr) × (Option Addr) × Nat × (List Value)) => match x with | (m_1, s_1, A_7, A_8, cap_5, cs_3) => m_1) (n, ((0 : Int), x_1.2.1, (x_1.2.2.1), x_1.2.2.2 + 1), A_5, A_6, cap_4, cs_2) (f.kp) p_3 ⟨hL_1, hb_2, hr_2⟩ ?_) ?_
 ·rintro ⟨m_1, s_1, A_7, A_8, cap_5, cs_3⟩ M_2 _ w_3 hM_2 I_1 f p_4
  obtain ⟨I_1L, hb_3, hr_3⟩ := I_1
  obtain ⟨m_2, r_1, rfl, hs_1, hn_1⟩ := loop_step I_1L
  unfold print_writer_parts_2_s1 at hs_1
  refine RR (Y f 1 fun _ f => eT (R_seq (RcF f hs_1 (fun h_3 hF_4 => ?_) fun h_3 hF_14 => ?_)))
  ·have k_1 := dI.1 h_3
   refine wp_skip (T_n (R_seq (wp_block (RR (Y f 2 fun _ f => eT (R_seq (RR (Y f 2 fun _ f => eT ?_))))))))
   obtain ⟨j_1, hj_1, hF_5⟩ := bS hF_4
   refine R_mid (fun a_17 w_5 => ∃ y_1 : List UInt8 × Bool × Int, j_1 = y_1 ∧ ∃ M_4 : Mem, M_2.le M_4 ∧ ∃ (A_11 : Option Addr), ∃ (A_12 : Option Addr), ∃ (cap_7 : Nat), ∃ (cs_5 : List Value), (A_11 = none ∨ A_11 = some ⟨b0, 0, none⟩) ∧ RepSeq M_4 (y_1.1.map embB) cs_5 ∧ Frm 71 [(0, .pointer (some (⟨b0, 0, none⟩))), (1, .pointer (some ad1)), (3, .int .u8 d3), (4, .func (.func 59) #[] #[]), (10, .int .i64 s_1.1), (27, .int .i64 ((d1.fList.length : Nat) : Int)), (28, .int .i64 s_1.1)] a_17 ∧ Hp w0 M_4 ((Ent.row 5 1 (.slice A_12 y_1.1.length cap_7) y_1.1.length cs_5) :: (Ent.obj b0 (.cells #[.pointer A_11, .slice A_12 y_1.1.length cap_7, .bool y_1.2.1, .int .i64 y_1.2.2] 48 (0, 0))) :: H) w_5) ?_ ?_
   ·refine RcF f hj_1 (fun h_4 hF_6 => ?_) fun h_4 hF_8 => ?_
    ·have k_2 := dI.1 h_4
     refine R_reg (Y f 3 fun _ f => ?_)
     obtain ⟨x_2, hx_2, hF_7⟩ := bS hF_6
     have p_6 := p_4.pl [1]
     refine Y16 (E := [Ent.obj b0 (.cells #[.pointer A_7, .slice A_8 s_1.2.1.length cap_5, .bool s_1.2.2.1, .int .i64 s_1.2.2.2] 48 (0, 0)), Ent.row 5 1 (.slice A_8 s_1.2.1.length cap_5) s_1.2.1.length cs_3]) (H := (H)) f p_6 (strings_Builder_WriteByte_2_ok n _ (GL.mono (hM_1.trans hM_2) hG) b0 A_7 hb_3 s_1.2.1 A_8 cap_5 cs_3 hr_3 (s_1.2.2.1) s_1.2.2.2 (44 : Int) x_2 hx_2) fun _ M_3 E_2 w_4 hM_3 p_5 q_2 _ f => ?_
     obtain ⟨A_9, A_10, cap_6, cs_4, rfl, rfl, hb_4, hr_4⟩ := q_2
     refine W_end rfl ?_
     have p_8 := p_5.pl [1]
     refine T_n ?_
     exact ⟨(x_2.2.1, (x_2.2.2.1), x_2.2.2.2), (sI hF_7).symm, M_3, hM_3, A_9, A_10, cap_6, cs_4, hb_4, hr_4, f.kp, p_8⟩
    ·have k_3 := iff_f dI h_4
     refine wp_skip (T_n ?_)
     exact ⟨(s_1.2.1, (s_1.2.2.1), s_1.2.2.2), (sI hF_8).symm, M_2, (mR _), A_7, A_8, cap_5, cs_3, hb_3, hr_3, f.kp, p_4⟩
   ·rintro a_17 w_5 ⟨y_1, hq_1, M_4, hM_4, A_11, A_12, cap_7, cs_5, hb_5, hr_5, f, p_7⟩
    subst j_1
    refine T_n (RR (Y f 1 fun _ f => ?_))
    obtain ⟨x_3, hx_3, hF_9⟩ := bS hF_5
    have p_10 := p_7.pl [1]
    refine Y16 (E := [Ent.obj b0 (.cells #[.pointer A_11, .slice A_12 y_1.1.length cap_7, .bool y_1.2.1, .int .i64 y_1.2.2] 48 (0, 0)), Ent.row 5 1 (.slice A_12 y_1.1.length cap_7) y_1.1.length cs_5]) (H := (H)) f p_10 (print_writer_line_ok n _ (GL.mono ((hM_1.trans hM_2).trans hM_4) hG) b0 A_11 hb_5 y_1.1 A_12 cap_7 cs_5 hr_5 (y_1.2.1) y_1.2.2 x_3 hx_3) fun _ M_5 E_3 w_6 hM_5 p_9 q_3 _ f => ?_
    obtain ⟨A_13, A_14, cap_8, cs_6, rfl, rfl, hb_6, hr_6⟩ := q_3
    refine eT (RR (Y f 2 fun _ f => ?_))
    obtain ⟨x_4, hx_4, hF_10⟩ := bS hF_9
    refine Y17 f p_9 (print_writer_list_1_ok n _ (GL.mono (((hM_1.trans hM_2).trans hM_4).trans hM_5) hG) s_1.1 x_4 hx_4) fun w_7 p_11 _ f => eT (R_reg (Y f 4 fun _ f => Y14 f p_11 (fzu (((hM_1.trans hM_2).trans hM_4).trans hM_5) q1) 4 rfl fun _ f => Y f 1 fun _ f => ?_))
    obtain ⟨x_5, hx_5, hF_11⟩ := bS hF_10
    obtain ⟨ad_1, c_1, e_1, -, hr_7, hc_1⟩ := Sli.at_ (h_1.mono (((hM_1.trans hM_2).trans hM_4).trans hM_5)) hx_5
    obtain ⟨A_15, cap_9, A_16, cap_10, rfl, h_5, h_6⟩ := TA0.opn hr_7
    refine Z f (Y30 e_1 rfl (len := d1.fList.length) (cap := cap_2) (k := .i64) (i := s_1.1) (e := 26) (sz := 6) (getI_nn hx_5) (getI_lt hx_5)) fun _ f => ?_
    obtain ⟨x_6, hx_6, hF_12⟩ := bS hF_11
    refine Y16 (E := [Ent.obj b0 (.cells #[.pointer A_13, .slice A_14 x_3.1.length cap_8, .bool x_3.2.1, .int .i64 x_3.2.2] 48 (0, 0)), Ent.row 5 1 (.slice A_14 x_3.1.length cap_8) x_3.1.length cs_6]) (H := (H)) f p_11 (hrec_print_writer_value _ (GL.mono (((hM_1.trans hM_2).trans hM_4).trans hM_5) hG) b0 A_13 hb_6 x_3.1 A_14 cap_8 cs_6 hr_6 (x_3.2.1) x_3.2.2 (ad_1.add (s_1.1.toNat * 6)) [.int .i8 x_5.fKind, .bool x_5.fBool, .int .i64 x_5.fNum, S x_5.fText, .slice A_15 x_5.fList.length cap_9, .slice A_16 x_5.fKeys.length cap_10] x_5 (TA0.shutx (x := x_5) h_5 h_6) (fz_at (hc_1) 0 rfl) x_6 hx_6) fun _ M_6 E_4 w_8 hM_6 p_12 q_4 _ f => ?_
    obtain ⟨A_17, A_18, cap_11, cs_7, rfl, rfl, hb_7, hr_8⟩ := q_4
    refine W_end rfl (B_n (T_n (R_reg ?_)))
    obtain ⟨g_2, hF_13⟩ := nS hF_12
    refine Y f 1 fun _ f => ?_
    have f := f.st 50 (congrArg (Value.int .i64) (inR_wrap g_2))
    refine Y f 1 fun _ f => W_end rfl ?_
    have p_14 := p_12.pl [1]
    refine T_n ?_
    obtain rfl := sI hF_13
    exact ⟨⟨m_2, (s_1.1 + 1, x_6.1, (x_6.2.1), x_6.2.2), A_17, A_18, cap_11, cs_7⟩, Nat.lt_succ_self _, M_6, (((hM_2.trans hM_4).trans hM_5).trans hM_6), ⟨hn_1, hb_7, hr_8⟩, f.kp, p_14⟩
  ·have k_4 := iff_f dI h_3
   refine wp_exit (T_x (T_x ?_))
   obtain rfl := sI hF_14
   exact ⟨rfl, (s_1.2.1, (s_1.2.2.1), s_1.2.2.2), (sI hn_1).symm, M_2, hM_2, A_7, A_8, cap_5, cs_3, hb_3, hr_3, f.kp, p_4⟩
 ·rintro _ _ w_10 ⟨rfl, y_2, hq_, M_7, hM_7, A_19, A_20, cap_12, cs_8, hb_8, hr_9, f, p_13⟩
  subst b_1
  refine B_x (T_n (RR (Y f 3 fun _ f => Z f (Y31 (v := .int .i64 y_2.2.2) rfl (ad := ⟨b0, 3, none⟩) (p_13.ownCell 1 rfl 3)) fun _ f => ?_)))
  obtain ⟨g_3, hF_15⟩ := nS hF_3
  refine Y f 1 fun _ f => ?_
  have f := f.st 55 (congrArg (Value.int .i64) (inR_wrap g_3))
  refine Y f 2 fun _ f => Y26 f p_13 1 rfl rfl (b := b0) (j := 3) (v := .int .i64 (y_2.2.2 - 1)) rfl (by exact rfl) (by simp) (by simp) ((Ent.row 5 1 (.slice A_20 y_2.1.length cap_12) y_2.1.length cs_8) :: (Ent.obj b0 (.cells #[.pointer A_19, .slice A_20 y_2.1.length cap_12, .bool y_2.2.1, .int .i64 (y_2.2.2 - 1)] 48 (0, 0))) :: H) rfl fun w_11 p_15 _ f => eT (R_seq (RR (Y f 3 fun _ f => Y14 f p_15 (fzu (hM_1.trans hM_7) q1) 4 rfl fun _ f => Y f 2 fun _ f => eT ?_)))
  obtain ⟨j_2, hj_2, hF_16⟩ := bS hF_15
  refine R_mid (fun a_41 w_13 => ∃ y_3 : List UInt8 × Bool × Int, j_2 = y_3 ∧ ∃ M_9 : Mem, M_7.le M_9 ∧ ∃ (A_23 : Option Addr), ∃ (A_24 : Option Addr), ∃ (cap_14 : Nat), ∃ (cs_10 : List Value), (A_23 = none ∨ A_23 = some ⟨b0, 0, none⟩) ∧ RepSeq M_9 (y_3.1.map embB) cs_10 ∧ Frm 71 [(0, .pointer (some (⟨b0, 0, none⟩))), (3, .int .u8 d3)] a_41 ∧ Hp w0 M_9 ((Ent.row 5 1 (.slice A_24 y_3.1.length cap_14) y_3.1.length cs_10) :: (Ent.obj b0 (.cells #[.pointer A_23, .slice A_24 y_3.1.length cap_14, .bool y_3.2.1, .int .i64 y_3.2.2] 48 (0, 0))) :: H) w_13) ?_ ?_
  ·refine RcF f hj_2 (fun h_7 hF_17 => ?_) fun h_7 hF_19 => ?_
   ·have k_5 := dI.1 h_7
    refine R_reg (Y f 1 fun _ f => ?_)
    obtain ⟨x_7, hx_7, hF_18⟩ := bS hF_17
    have p_17 := p_15.pl [1]
    refine Y16 (E := [Ent.obj b0 (.cells #[.pointer A_19, .slice A_20 y_2.1.length cap_12, .bool y_2.2.1, .int .i64 (y_2.2.2 - 1)] 48 (0, 0)), Ent.row 5 1 (.slice A_20 y_2.1.length cap_12) y_2.1.length cs_8]) (H := (H)) f p_17 (print_writer_line_ok n _ (GL.mono (hM_1.trans hM_7) hG) b0 A_19 hb_8 y_2.1 A_20 cap_12 cs_8 hr_9 (y_2.2.1) (y_2.2.2 - 1) x_7 hx_7) fun _ M_8 E_5 w_12 hM_8 p_16 q_5 _ f => ?_
    obtain ⟨A_21, A_22, cap_13, cs_9, rfl, rfl, hb_9, hr_10⟩ := q_5
    refine W_end rfl ?_
    have p_19 := p_16.pl [1]
    refine T_n ?_
    exact ⟨(x_7.1, (x_7.2.1), x_7.2.2), (sI hF_18).symm, M_8, hM_8, A_21, A_22, cap_13, cs_9, hb_9, hr_10, f.kp, p_19⟩
   ·have k_6 := iff_f dI h_7
    refine wp_skip (T_n ?_)
    exact ⟨(y_2.1, (y_2.2.1), y_2.2.2 - 1), (sI hF_19).symm, M_7, (mR _), A_19, A_20, cap_12, cs_8, hb_8, hr_9, f.kp, p_15⟩
  ·rintro a_41 w_13 ⟨y_3, hq_2, M_9, hM_9, A_23, A_24, cap_14, cs_10, hb_10, hr_11, f, p_18⟩
   subst j_2
   refine T_n (R_reg (Y f 4 fun _ f => ?_))
   obtain ⟨x_8, hx_8, hF_20⟩ := bS hF_16
   have p_21 := p_18.pl [1]
   refine Y16 (E := [Ent.obj b0 (.cells #[.pointer A_23, .slice A_24 y_3.1.length cap_14, .bool y_3.2.1, .int .i64 y_3.2.2] 48 (0, 0)), Ent.row 5 1 (.slice A_24 y_3.1.length cap_14) y_3.1.length cs_10]) (H := (H)) f p_21 (strings_Builder_WriteByte_2_ok n _ (GL.mono ((hM_1.trans hM_7).trans hM_9) hG) b0 A_23 hb_10 y_3.1 A_24 cap_14 cs_10 hr_11 (y_3.2.1) y_3.2.2 d3 x_8 hx_8) fun _ M_10 E_6 w_14 hM_10 p_20 q_6 _ f => ?_
   obtain ⟨A_25, A_26, cap_15, cs_11, rfl, rfl, hb_11, hr_12⟩ := q_6
   refine W_end rfl (E_end0 f rfl  ?_)
   obtain rfl := sI hF_20
   exact ⟨_, rfl, M_10, _, (((hM_1.trans hM_7).trans hM_9).trans hM_10), p_20, ⟨A_25, A_26, cap_15, cs_11, rfl, rfl, hb_11, hr_12⟩⟩
def print_writer_list_2 (n : Nat) (rec_print_writer_value : (List UInt8) → Bool → Int → TA0 → Option (List UInt8 × Bool × Int)) (d0_1 : List UInt8) (d0_2 : Bool) (d0_3 : Int) (d1 : TA0) : Option (List UInt8 × Bool × Int) :=
  (print_writer_parts_2 n rec_print_writer_value d0_1 (d0_2) d0_3 d1 (91 : Int) (93 : Int)).bind fun x_1 =>
  some ((x_1.1, (x_1.2.1), x_1.2.2))
theorem print_writer_list_2_ok (n : Nat) (rec_print_writer_value : (List UInt8) → Bool → Int → TA0 → Option (List UInt8 × Bool × Int)) (hrec_print_writer_value : ∀ (M : Mem) (hG : GL M) (b0 : Nat) (A_1 : Option Addr) (hb_1 : (A_1 = none ∨ A_1 = some ⟨b0, 0, none⟩)) (d0_1 : List UInt8) (A_2 : Option Addr) (cap_1 : Nat) (cs_1 : List Value) (hr_1 : RepSeq M (d0_1.map embB) cs_1) (d0_2 : Bool) (d0_3 : Int) (ad1 : Addr) (c1 : List Value) (d1 : TA0) (h1 : Rep M (emb_TA0 d1) c1) (q1 : ∀ j v, c1[j]? = some v → M.cell? (ad1.add j) = some v) (r : List UInt8 × Bool × Int) (hF : rec_print_writer_value d0_1 d0_2 d0_3 d1 = some r), OkH Tryz.prog M [Ent.obj b0 (.cells #[.pointer A_1, .slice A_2 d0_1.length cap_1, .bool d0_2, .int .i64 d0_3] 48 (0, 0)), Ent.row 5 1 (.slice A_2 d0_1.length cap_1) d0_1.length cs_1] 25 [.pointer (some (⟨b0, 0, none⟩)), .pointer (some ad1)] (fun M' E' v => ∃ (A_3 : Option Addr) (A_4 : Option Addr) (cap_2 : Nat) (cs_2 : List Value), v = .tuple #[] ∧ E' = [Ent.obj b0 (.cells #[.pointer A_3, .slice A_4 r.1.length cap_2, .bool r.2.1, .int .i64 r.2.2] 48 (0, 0)), Ent.row 5 1 (.slice A_4 r.1.length cap_2) r.1.length cs_2] ∧ (A_3 = none ∨ A_3 = some ⟨b0, 0, none⟩) ∧ RepSeq M' (r.1.map embB) cs_2)) (M : Mem) (hG : GL M) (b0 : Nat) (A_1 : Option Addr) (hb_1 : (A_1 = none ∨ A_1 = some ⟨b0, 0, none⟩)) (d0_1 : List UInt8) (A_2 : Option Addr) (cap_1 : Nat) (cs_1 : List Value) (hr_1 : RepSeq M (d0_1.map embB) cs_1) (d0_2 : Bool) (d0_3 : Int) (ad1 : Addr) (c1 : List Value) (d1 : TA0) (h1 : Rep M (emb_TA0 d1) c1) (q1 : ∀ j v, c1[j]? = some v → M.cell? (ad1.add j) = some v) (r : List UInt8 × Bool × Int) (hF : print_writer_list_2 n rec_print_writer_value d0_1 d0_2 d0_3 d1 = some r) : OkH Tryz.prog M [Ent.obj b0 (.cells #[.pointer A_1, .slice A_2 d0_1.length cap_1, .bool d0_2, .int .i64 d0_3] 48 (0, 0)), Ent.row 5 1 (.slice A_2 d0_1.length cap_1) d0_1.length cs_1] 44 [.pointer (some (⟨b0, 0, none⟩)), .pointer (some ad1)] (fun M' E' v => ∃ (A_7 : Option Addr) (A_8 : Option Addr) (cap_5 : Nat) (cs_3 : List Value), v = .tuple #[] ∧ E' = [Ent.obj b0 (.cells #[.pointer A_7, .slice A_8 r.1.length cap_5, .bool r.2.1, .int .i64 r.2.2] 48 (0, 0)), Ent.row 5 1 (.slice A_8 r.1.length cap_5) r.1.length cs_3] ∧ (A_7 = none ∨ A_7 = some ⟨b0, 0, none⟩) ∧ RepSeq M' (r.1.map embB) cs_3) := by
 unfold print_writer_list_2 at hF
 intro M1 hM0 w0 H w p0
 replace hG := GL.mono hM0 hG
 replace hr_1 := RepSeq.mono hM0 _ _ hr_1
 replace h1 := Rep.mono hM0 _ _ h1
 replace q1 := fun j v h => hM0.cell (q1 j v h)
 obtain ⟨A_3, cap_2, A_4, cap_3, rfl, h_1, h_2⟩ := TA0.opn h1
 refine R_enter 7 Tryz.func44 rfl rfl (by simp) fun a0 f0 => R_reg (Y f0 2 fun _ f => ?_)
 obtain ⟨x_1, hx_1, hF_1⟩ := bS hF
 refine Y16 (E := [Ent.obj b0 (.cells #[.pointer A_1, .slice A_2 d0_1.length cap_1, .bool d0_2, .int .i64 d0_3] 48 (0, 0)), Ent.row 5 1 (.slice A_2 d0_1.length cap_1) d0_1.length cs_1]) (H := (H)) f p0 (print_writer_parts_2_ok n rec_print_writer_value hrec_print_writer_value _ hG b0 A_1 hb_1 d0_1 A_2 cap_1 cs_1 hr_1 (d0_2) d0_3 ad1 [.int .i8 d1.fKind, .bool d1.fBool, .int .i64 d1.fNum, S d1.fText, .slice A_3 d1.fList.length cap_2, .slice A_4 d1.fKeys.length cap_3] d1 (TA0.shutx (x := d1) h_1 h_2) (fz_at (q1) 0 rfl) (91 : Int) (93 : Int) x_1 hx_1) fun _ M_1 E_1 w_1 hM_1 p_1 q_1 _ f => ?_
 obtain ⟨A_5, A_6, cap_4, cs_2, rfl, rfl, hb_2, hr_2⟩ := q_1
 refine W_end rfl (E_end0 f rfl  ?_)
 obtain rfl := sI hF_1
 exact ⟨_, rfl, M_1, _, hM_1, p_1, ⟨A_5, A_6, cap_4, cs_2, rfl, rfl, hb_2, hr_2⟩⟩
def print_writer_object_1 (n : Nat) (d0 : Int) (d1_f_1 : List UInt8) (d1_f_2 : Bool) (d1_f_3 : Int) (d2_f : TA0) : Option (List UInt8 × Bool × Int) :=
  (getI d2_f.fKeys d0).bind fun x_1 =>
  (print_writer_quote n d1_f_1 (d1_f_2) d1_f_3 x_1).bind fun x_2 =>
  (strings_Builder_WriteByte_2 n x_2.1 (x_2.2.1) x_2.2.2 (58 : Int)).bind fun x_3 =>
  bif x_3.2.2.1 then
    ((strings_Builder_WriteByte_2 n x_3.2.1 (x_3.2.2.1) x_3.2.2.2 (32 : Int)).bind fun x_4 =>
    some ((x_4.2.1, (x_4.2.2.1), x_4.2.2.2)))
  else
    some ((x_3.2.1, (x_3.2.2.1), x_3.2.2.2))
theorem print_writer_object_1_ok (n : Nat) (M : Mem) (hG : GL M) (d0 : Int) (b1_f : Nat) (A_1 : Option Addr) (hb_1 : (A_1 = none ∨ A_1 = some ⟨b1_f, 0, none⟩)) (d1_f_1 : List UInt8) (A_2 : Option Addr) (cap_1 : Nat) (cs_1 : List Value) (hr_1 : RepSeq M (d1_f_1.map embB) cs_1) (d1_f_2 : Bool) (d1_f_3 : Int) (ad1 : Addr) (q1 : ∀ j v, [(.pointer (some (⟨b1_f, 0, none⟩)) : Value)][j]? = some v → M.cell? (ad1.add j) = some v) (ad2_f : Addr) (c2_f : List Value) (d2_f : TA0) (h2_f : Rep M (emb_TA0 d2_f) c2_f) (q2_f : ∀ j v, c2_f[j]? = some v → M.cell? (ad2_f.add j) = some v) (ad2 : Addr) (q2 : ∀ j v, [(.pointer (some ad2_f) : Value)][j]? = some v → M.cell? (ad2.add j) = some v) (r : List UInt8 × Bool × Int) (hF : print_writer_object_1 n d0 d1_f_1 d1_f_2 d1_f_3 d2_f = some r) : OkH Tryz.prog M [Ent.obj b1_f (.cells #[.pointer A_1, .slice A_2 d1_f_1.length cap_1, .bool d1_f_2, .int .i64 d1_f_3] 48 (0, 0)), Ent.row 5 1 (.slice A_2 d1_f_1.length cap_1) d1_f_1.length cs_1] 60 [.int .i64 d0, .pointer (some ad1), .pointer (some ad2)] (fun M' E' v => ∃ (A_11 : Option Addr) (A_12 : Option Addr) (cap_7 : Nat) (cs_5 : List Value), v = .tuple #[] ∧ E' = [Ent.obj b1_f (.cells #[.pointer A_11, .slice A_12 r.1.length cap_7, .bool r.2.1, .int .i64 r.2.2] 48 (0, 0)), Ent.row 5 1 (.slice A_12 r.1.length cap_7) r.1.length cs_5] ∧ (A_11 = none ∨ A_11 = some ⟨b1_f, 0, none⟩) ∧ RepSeq M' (r.1.map embB) cs_5) := by
 unfold print_writer_object_1 at hF
 intro M1 hM0 w0 H w p0
 replace hG := GL.mono hM0 hG
 replace hr_1 := RepSeq.mono hM0 _ _ hr_1
 replace q1 := fun j v h => hM0.cell (q1 j v h)
 replace h2_f := Rep.mono hM0 _ _ h2_f
 replace q2_f := fun j v h => hM0.cell (q2_f j v h)
 replace q2 := fun j v h => hM0.cell (q2 j v h)
 obtain ⟨A_3, cap_2, A_4, cap_3, rfl, h_1, h_2⟩ := TA0.opn h2_f
 refine R_enter 25 Tryz.func60 rfl rfl (by simp) fun a0 f0 => R_seq (R_mix (E := [Ent.obj b1_f (.cells #[.pointer A_1, .slice A_2 d1_f_1.length cap_1, .bool d1_f_2, .int .i64 d1_f_3] 48 (0, 0)), Ent.row 5 1 (.slice A_2 d1_f_1.length cap_1) d1_f_1.length cs_1]) (Hr := (H)) [(0, true), (1, true), (2, true), (3, true), (4, true), (5, true), (6, true), (7, true), (8, false)] p0 (by kernel_rfl) (by kernel_rfl) rfl (by kernel_rfl) (M_eq (v := .pointer (some (⟨b1_f, 0, none⟩))) f0 (by kernel_rfl) (by kernel_rfl) rfl rfl (fun _ pq => Y31 (v := .pointer (some (⟨b1_f, 0, none⟩))) rfl (ad := ad1) (pq.cell (q1 0 _ rfl))) fun _ f => M_eq (v := .pointer (some ad2_f)) f (by kernel_rfl) (by kernel_rfl) rfl rfl (fun _ pq => Y31 (v := .pointer (some ad2_f)) rfl (ad := ad2) (pq.cell (q2 0 _ rfl))) fun _ f => Y0 default f 2 fun _ f => M_eq (v := .slice A_4 d2_f.fKeys.length cap_3) f (by kernel_rfl) (by kernel_rfl) rfl rfl (fun _ pq => Y31 (v := .slice A_4 d2_f.fKeys.length cap_3) rfl (ad := ad2_f.add 5) (pq.cell (q2_f 5 _ rfl))) fun _ f => Y0 default f 1 fun _ f => ?_))
 obtain ⟨x_1, hx_1, hF_1⟩ := bS hF
 obtain ⟨ad_1, c_1, e_1, -, hr_2, hc_1⟩ := Sli.at_ h_2 hx_1
 obtain rfl : c_1 = [S x_1] := hr_2
 refine M_eq (v := .pointer (some (ad_1.add (d0.toNat * 1)))) f (by kernel_rfl) (by kernel_rfl) rfl rfl (fun _ pq => Y30 e_1 rfl (len := d2_f.fKeys.length) (cap := cap_3) (k := .i64) (i := d0) (e := 9) (sz := 1) (getI_nn hx_1) (getI_lt hx_1)) fun _ f => M_eq (v := S x_1) f (by kernel_rfl) (by kernel_rfl) rfl rfl (fun _ pq => Y31 (v := S x_1) rfl (ad := ad_1.add (d0.toNat * 1)) (pq.cell (hc_1 0 _ rfl))) fun _ f => M_fix (E := [Ent.obj b1_f (.cells #[.pointer A_1, .slice A_2 d1_f_1.length cap_1, .bool d1_f_2, .int .i64 d1_f_3] 48 (0, 0)), Ent.row 5 1 (.slice A_2 d1_f_1.length cap_1) d1_f_1.length cs_1]) fun w_1 p_1 => ?_
 obtain ⟨x_2, hx_2, hF_2⟩ := bS hF_1
 refine Y16 (E := [Ent.obj b1_f (.cells #[.pointer A_1, .slice A_2 d1_f_1.length cap_1, .bool d1_f_2, .int .i64 d1_f_3] 48 (0, 0)), Ent.row 5 1 (.slice A_2 d1_f_1.length cap_1) d1_f_1.length cs_1]) (H := (H)) f p_1 (print_writer_quote_ok n _ hG b1_f A_1 hb_1 d1_f_1 A_2 cap_1 cs_1 hr_1 (d1_f_2) d1_f_3 x_1 x_2 hx_2) fun _ M_1 E_1 w_2 hM_1 p_2 q_1 _ f => ?_
 obtain ⟨A_5, A_6, cap_4, cs_2, rfl, rfl, hb_2, hr_3⟩ := q_1
 refine W_end rfl (M_go (M1 := M_1) (E := [Ent.obj b1_f (.cells #[.pointer A_5, .slice A_6 x_2.1.length cap_4, .bool x_2.2.1, .int .i64 x_2.2.2] 48 (0, 0)), Ent.row 5 1 (.slice A_6 x_2.1.length cap_4) x_2.1.length cs_2]) hM_1 p_2 (M_end rfl fun w_3 p_3 => T_n (RR (Y14 f p_3 (fzu hM_1 q1) 0 rfl fun _ f => Y f 2 fun _ f => ?_))))
 obtain ⟨x_3, hx_3, hF_3⟩ := bS hF_2
 refine Y16 (E := [Ent.obj b1_f (.cells #[.pointer A_5, .slice A_6 x_2.1.length cap_4, .bool x_2.2.1, .int .i64 x_2.2.2] 48 (0, 0)), Ent.row 5 1 (.slice A_6 x_2.1.length cap_4) x_2.1.length cs_2]) (H := (H)) f p_3 (strings_Builder_WriteByte_2_ok n _ (GL.mono hM_1 hG) b1_f A_5 hb_2 x_2.1 A_6 cap_4 cs_2 hr_3 (x_2.2.1) x_2.2.2 (58 : Int) x_3 hx_3) fun _ M_2 E_2 w_4 hM_2 p_4 q_2 _ f => ?_
 obtain ⟨A_7, A_8, cap_5, cs_3, rfl, rfl, hb_3, hr_4⟩ := q_2
 refine eT (RR (Y14 f p_4 (fzu (hM_1.trans hM_2) q1) 0 rfl fun _ f => Y f 2 fun _ f => Z f (Y31 (v := .bool x_3.2.2.1) rfl (ad := ⟨b1_f, 2, none⟩) (p_4.ownCell 0 rfl 2)) fun _ f => eT (RcF f hF_3 (fun h_3 hF_4 => ?_) fun h_3 hF_6 => ?_)))
 ·refine R_reg (Y14 f p_4 (fzu (hM_1.trans hM_2) q1) 0 rfl fun _ f => Y f 2 fun _ f => ?_)
  obtain ⟨x_4, hx_4, hF_5⟩ := bS hF_4
  refine Y16 (E := [Ent.obj b1_f (.cells #[.pointer A_7, .slice A_8 x_3.2.1.length cap_5, .bool x_3.2.2.1, .int .i64 x_3.2.2.2] 48 (0, 0)), Ent.row 5 1 (.slice A_8 x_3.2.1.length cap_5) x_3.2.1.length cs_3]) (H := (H)) f p_4 (strings_Builder_WriteByte_2_ok n _ (GL.mono (hM_1.trans hM_2) hG) b1_f A_7 hb_3 x_3.2.1 A_8 cap_5 cs_3 hr_4 (x_3.2.2.1) x_3.2.2.2 (32 : Int) x_4 hx_4) fun _ M_3 E_3 w_5 hM_3 p_5 q_3 _ f => ?_
  obtain ⟨A_9, A_10, cap_6, cs_4, rfl, rfl, hb_4, hr_5⟩ := q_3
  refine W_end rfl (E_end0 f rfl  ?_)
  obtain rfl := sI hF_5
  exact ⟨_, rfl, M_3, _, ((hM_1.trans hM_2).trans hM_3), p_5, ⟨A_9, A_10, cap_6, cs_4, rfl, rfl, hb_4, hr_5⟩⟩
 ·refine wp_skip (E_end0 f rfl  ?_)
  obtain rfl := sI hF_6
  exact ⟨_, rfl, M_2, _, (hM_1.trans hM_2), p_4, ⟨A_7, A_8, cap_5, cs_3, rfl, rfl, hb_3, hr_4⟩⟩
def print_writer_parts_s1 (n : Nat) (rec_print_writer_value : (List UInt8) → Bool → Int → TA0 → Option (List UInt8 × Bool × Int)) (d1 : TA0) (d4_1_f : TA0) (s_1 : Int × List UInt8 × Bool × Int) : Option (Lp (Int × List UInt8 × Bool × Int) (List UInt8 × Bool × Int)) :=
    bif (decide (s_1.1 < ((d1.fList.length : Nat) : Int))) then
      (((bif (decide ((0 : Int) < s_1.1)) then
          ((strings_Builder_WriteByte_2 n s_1.2.1 (s_1.2.2.1) s_1.2.2.2 (44 : Int)).bind fun x_2 =>
          some ((x_2.2.1, (x_2.2.2.1), x_2.2.2.2)))
        else
          some ((s_1.2.1, (s_1.2.2.1), s_1.2.2.2)) : Option (List UInt8 × Bool × Int))).bind fun y_1 =>
      (print_writer_line n y_1.1 (y_1.2.1) y_1.2.2).bind fun x_3 =>
      (print_writer_object_1 n s_1.1 x_3.1 (x_3.2.1) x_3.2.2 d4_1_f).bind fun x_4 =>
      (getI d1.fList s_1.1).bind fun x_5 =>
      (rec_print_writer_value x_4.1 (x_4.2.1) x_4.2.2 x_5).bind fun x_6 =>
      need (inR .i64 (s_1.1 + 1)) <|
      some (.nx (s_1.1 + 1, x_6.1, (x_6.2.1), x_6.2.2)))
    else
      some (.br (s_1.2.1, (s_1.2.2.1), s_1.2.2.2))
def print_writer_parts (n : Nat) (rec_print_writer_value : (List UInt8) → Bool → Int → TA0 → Option (List UInt8 × Bool × Int)) (d0_1 : List UInt8) (d0_2 : Bool) (d0_3 : Int) (d1 : TA0) (d2 : Int) (d3 : Int) (d4_1_f : TA0) : Option (List UInt8 × Bool × Int) :=
  (strings_Builder_WriteByte_2 n d0_1 (d0_2) d0_3 d2).bind fun x_1 =>
  need (inR .i64 (x_1.2.2.2 + 1)) <|
  (loopF (print_writer_parts_s1 n rec_print_writer_value d1 d4_1_f) n ((0 : Int), x_1.2.1, (x_1.2.2.1), x_1.2.2.2 + 1)).bind fun y_2 =>
  need (inR .i64 (y_2.2.2 - 1)) <|
  ((bif (decide ((0 : Int) < ((d1.fList.length : Nat) : Int))) then
      ((print_writer_line n y_2.1 (y_2.2.1) (y_2.2.2 - 1)).bind fun x_7 =>
      some ((x_7.1, (x_7.2.1), x_7.2.2)))
    else
      some ((y_2.1, (y_2.2.1), y_2.2.2 - 1)) : Option (List UInt8 × Bool × Int))).bind fun y_3 =>
  (strings_Builder_WriteByte_2 n y_3.1 (y_3.2.1) y_3.2.2 d3).bind fun x_8 =>
  some ((x_8.2.1, (x_8.2.2.1), x_8.2.2.2))
set_option maxRecDepth 20000 in
theorem print_writer_parts_ok (n : Nat) (rec_print_writer_value : (List UInt8) → Bool → Int → TA0 → Option (List UInt8 × Bool × Int)) (hrec_print_writer_value : ∀ (M : Mem) (hG : GL M) (b0 : Nat) (A_1 : Option Addr) (hb_1 : (A_1 = none ∨ A_1 = some ⟨b0, 0, none⟩)) (d0_1 : List UInt8) (A_2 : Option Addr) (cap_1 : Nat) (cs_1 : List Value) (hr_1 : RepSeq M (d0_1.map embB) cs_1) (d0_2 : Bool) (d0_3 : Int) (ad1 : Addr) (c1 : List Value) (d1 : TA0) (h1 : Rep M (emb_TA0 d1) c1) (q1 : ∀ j v, c1[j]? = some v → M.cell? (ad1.add j) = some v) (r : List UInt8 × Bool × Int) (hF : rec_print_writer_value d0_1 d0_2 d0_3 d1 = some r), OkH Tryz.prog M [Ent.obj b0 (.cells #[.pointer A_1, .slice A_2 d0_1.length cap_1, .bool d0_2, .int .i64 d0_3] 48 (0, 0)), Ent.row 5 1 (.slice A_2 d0_1.length cap_1) d0_1.length cs_1] 25 [.pointer (some (⟨b0, 0, none⟩)), .pointer (some ad1)] (fun M' E' v => ∃ (A_3 : Option Addr) (A_4 : Option Addr) (cap_2 : Nat) (cs_2 : List Value), v = .tuple #[] ∧ E' = [Ent.obj b0 (.cells #[.pointer A_3, .slice A_4 r.1.length cap_2, .bool r.2.1, .int .i64 r.2.2] 48 (0, 0)), Ent.row 5 1 (.slice A_4 r.1.length cap_2) r.1.length cs_2] ∧ (A_3 = none ∨ A_3 = some ⟨b0, 0, none⟩) ∧ RepSeq M' (r.1.map embB) cs_2)) (M : Mem) (hG : GL M) (b0 : Nat) (A_1 : Option Addr) (hb_1 : (A_1 = none ∨ A_1 = some ⟨b0, 0, none⟩)) (d0_1 : List UInt8) (A_2 : Option Addr) (cap_1 : Nat) (cs_1 : List Value) (hr_1 : RepSeq M (d0_1.map embB) cs_1) (d0_2 : Bool) (d0_3 : Int) (ad1 : Addr) (c1 : List Value) (d1 : TA0) (h1 : Rep M (emb_TA0 d1) c1) (q1 : ∀ j v, c1[j]? = some v → M.cell? (ad1.add j) = some v) (d2 : Int) (d3 : Int) (ad4_0 : Addr) (q4_0 : ∀ j v, [(.pointer (some (⟨b0, 0, none⟩)) : Value)][j]? = some v → M.cell? (ad4_0.add j) = some v) (ad4_1_f : Addr) (c4_1_f : List Value) (d4_1_f : TA0) (h4_1_f : Rep M (emb_TA0 d4_1_f) c4_1_f) (q4_1_f : ∀ j v, c4_1_f[j]? = some v → M.cell? (ad4_1_f.add j) = some v) (ad4_1 : Addr) (q4_1 : ∀ j v, [(.pointer (some ad4_1_f) : Value)][j]? = some v → M.cell? (ad4_1.add j) = some v) (r : List UInt8 × Bool × Int) (hF : print_writer_parts n rec_print_writer_value d0_1 d0_2 d0_3 d1 d2 d3 d4_1_f = some r) : OkH Tryz.prog M [Ent.obj b0 (.cells #[.pointer A_1, .slice A_2 d0_1.length cap_1, .bool d0_2, .int .i64 d0_3] 48 (0, 0)), Ent.row 5 1 (.slice A_2 d0_1.length cap_1) d0_1.length cs_1] 58 [.pointer (some (⟨b0, 0, none⟩)), .pointer (some ad1), .int .u8 d2, .int .u8 d3, .func (.func 60) #[] #[.pointer (some ad4_0), .pointer (some ad4_1)]] (fun M' E' v => ∃ (A_31 : Option Addr) (A_32 : Option Addr) (cap_19 : Nat) (cs_13 : List Value), v = .tuple #[] ∧ E' = [Ent.obj b0 (.cells #[.pointer A_31, .slice A_32 r.1.length cap_19, .bool r.2.1, .int .i64 r.2.2] 48 (0, 0)), Ent.row 5 1 (.slice A_32 r.1.length cap_19) r.1.length cs_13] ∧ (A_31 = none ∨ A_31 = some ⟨b0, 0, none⟩) ∧ RepSeq M' (r.1.map embB) cs_13) := by
 unfold print_writer_parts at hF
 intro M1 hM0 w0 H w p0
 replace hG := GL.mono hM0 hG
 replace hr_1 := RepSeq.mono hM0 _ _ hr_1
 replace h1 := Rep.mono hM0 _ _ h1
 replace q1 := fun j v h => hM0.cell (q1 j v h)
 replace q4_0 := fun j v h => hM0.cell (q4_0 j v h)
 replace h4_1_f := Rep.mono hM0 _ _ h4_1_f
 replace q4_1_f := fun j v h => hM0.cell (q4_1_f j v h)
 replace q4_1 := fun j v h => hM0.cell (q4_1 j v h)
 obtain ⟨A_3, cap_2, A_4, cap_3, rfl, h_1, h_2⟩ := TA0.opn h1
 obtain ⟨A_5, cap_4, A_6, cap_5, rfl, h_3, h_4⟩ := TA0.opn h4_1_f
 refine R_enter 71 Tryz.func58 rfl rfl (by simp) fun a0 f0 => RR (Y f0 4 fun _ f => ?_)
 obtain ⟨x_1, hx_1, hF_1⟩ := bS hF
 refine Y16 (E := [Ent.obj b0 (.cells #[.pointer A_1, .slice A_2 d0_1.length cap_1, .bool d0_2, .int .i64 d0_3] 48 (0, 0)), Ent.row 5 1 (.slice A_2 d0_1.length cap_1) d0_1.length cs_1]) (H := (H)) f p0 (strings_Builder_WriteByte_2_ok n _ hG b0 A_1 hb_1 d0_1 A_2 cap_1 cs_1 hr_1 (d0_2) d0_3 d2 x_1 hx_1) fun _ M_1 E_1 w_1 hM_1 p_1 q_1 _ f => ?_
 obtain ⟨A_7, A_8, cap_6, cs_2, rfl, rfl, hb_2, hr_2⟩ := q_1
 refine eT (RR (Y f 3 fun _ f => Z f (Y31 (v := .int .i64 x_1.2.2.2) rfl (ad := ⟨b0, 3, none⟩) (p_1.ownCell 0 rfl 3)) fun _ f => ?_))
 obtain ⟨g_1, hF_2⟩ := nS hF_1
 refine Y f 1 fun _ f => ?_
 have f := f.st 20 (congrArg (Value.int .i64) (inR_wrap g_1))
 refine Y f 2 fun _ f => Y26 f p_1 0 rfl rfl (b := b0) (j := 3) (v := .int .i64 (x_1.2.2.2 + 1)) rfl (by exact rfl) (by simp) (by simp) ((Ent.obj b0 (.cells #[.pointer A_7, .slice A_8 x_1.2.1.length cap_6, .bool x_1.2.2.1, .int .i64 (x_1.2.2.2 + 1)] 48 (0, 0))) :: (Ent.row 5 1 (.slice A_8 x_1.2.1.length cap_6) x_1.2.1.length cs_2) :: H) rfl fun w_2 p_2 _ f => eT (R_seq (RR (Y f 3 fun _ f => Y14 f p_2 (fzu hM_1 q1) 4 rfl fun _ f => Y f 2 fun _ f => eT (wp_block ?_))))
 have p_3 := p_2.pl [1]
 obtain ⟨b_1, hL_1, hF_3⟩ := bS hF_2
 refine wp_mono (Q := fun e a w => (e = .exit 0 ∧ (∃ y_2 : List UInt8 × Bool × Int, b_1 = y_2 ∧ ∃ M_8 : Mem, M_1.le M_8 ∧ ∃ (A_23 : Option Addr), ∃ (A_24 : Option Addr), ∃ (cap_15 : Nat), ∃ (cs_9 : List Value), (A_23 = none ∨ A_23 = some ⟨b0, 0, none⟩) ∧ RepSeq M_8 (y_2.1.map embB) cs_9 ∧ Frm 71 [(0, .pointer (some (⟨b0, 0, none⟩))), (1, .pointer (some ad1)), (3, .int .u8 d3)] a ∧ Hp w0 M_8 ((Ent.row 5 1 (.slice A_24 y_2.1.length cap_15) y_2.1.length cs_9) :: (Ent.obj b0 (.cells #[.pointer A_23, .slice A_24 y_2.1.length cap_15, .bool y_2.2.1, .int .i64 y_2.2.2] 48 (0, 0))) :: H) w))) (R_loop (n := 71) (w0 := w0) (M := M_1) (fun (x : Nat × (Int × List UInt8 × Bool × Int) × (Option Addr) × (Option Addr) × Nat × (List Value)) => match x with | (m_1, s_1, A_9, A_10, cap_7, cs_3) => [(0, .pointer (some (⟨b0, 0, none⟩))), (1, .pointer (some ad1)), (3, .int .u8 d3), (4, .func (.func 60) #[] #[.pointer (some ad4_0), .pointer (some ad4_1)]), (27, .int .i64 ((d1.fList.length : Nat) : Int)), (28, .int .i64 s_1.1)]) (fun (x : Nat × (Int × List UInt8 × Bool × Int) × (Option Addr) × (Option Addr) × Nat × (List Value)) => match x with | (m_1, s_1, A_9, A_10, cap_7, cs_3) => ((Ent.row 5 1 (.slice A_10 s_1.2.1.length cap_7) s_1.2.1.length cs_3) :: (Ent.obj b0 (.cells #[.pointer A_9, .slice A_10 s_1.2.1.length cap_7, .bool s_1.2.2.1, .int .i64 s_1.2.2.2] 48 (0, 0))) :: H)) (fun (x : Nat × (Int × List UInt8 × Bool × Int) × (Option Addr) × (Option Addr) × Nat × (List Value)) (MM : Mem) => match x with | (m_1, s_1, A_9, A_10, cap_7, cs_3) => loopF (print_writer_parts_s1 n rec_print_writer_value d1 d4_1_f) m_1 s_1 = some b_1 ∧ (A_9 = none ∨ A_9 = some ⟨b0, 0, none⟩) ∧ RepSeq MM (s_1.2.1.map embB) cs_3) (fun (x : Nat × (Int × List UInt8 × Bool × Int) × (Option Addr) × (Option Addr) × Nat × (List Value)) => match x with | (m_1, s_1, A_9, A_10, cap_7, cs_3) => m_1) (n, ((0 : Int), x_1.2.1, (x_1.2.2.1), x_1.2.2.2 + 1), A_7, A_8, cap_6, cs_2) (f.kp) p_3 ⟨hL_1, hb_2, hr_2⟩ ?_) ?_
 ·rintro ⟨m_1, s_1, A_9, A_10, cap_7, cs_3⟩ M_2 _ w_3 hM_2 I_1 f p_4
  obtain ⟨I_1L, hb_3, hr_3⟩ := I_1
  obtain ⟨m_2, r_1, rfl, hs_1, hn_1⟩ := loop_step I_1L
  unfold print_writer_parts_s1 at hs_1
  refine RR (Y f 1 fun _ f => eT (R_seq (RcF f hs_1 (fun h_5 hF_4 => ?_) fun h_5 hF_14 => ?_)))
  ·have k_1 := dI.1 h_5
   refine wp_skip (T_n (R_seq (wp_block (RR (Y f 2 fun _ f => eT (R_seq (RR (Y f 2 fun _ f => eT ?_))))))))
   obtain ⟨j_1, hj_1, hF_5⟩ := bS hF_4
   refine R_mid (fun a_17 w_5 => ∃ y_1 : List UInt8 × Bool × Int, j_1 = y_1 ∧ ∃ M_4 : Mem, M_2.le M_4 ∧ ∃ (A_13 : Option Addr), ∃ (A_14 : Option Addr), ∃ (cap_9 : Nat), ∃ (cs_5 : List Value), (A_13 = none ∨ A_13 = some ⟨b0, 0, none⟩) ∧ RepSeq M_4 (y_1.1.map embB) cs_5 ∧ Frm 71 [(0, .pointer (some (⟨b0, 0, none⟩))), (1, .pointer (some ad1)), (3, .int .u8 d3), (4, .func (.func 60) #[] #[.pointer (some ad4_0), .pointer (some ad4_1)]), (10, .int .i64 s_1.1), (27, .int .i64 ((d1.fList.length : Nat) : Int)), (28, .int .i64 s_1.1)] a_17 ∧ Hp w0 M_4 ((Ent.row 5 1 (.slice A_14 y_1.1.length cap_9) y_1.1.length cs_5) :: (Ent.obj b0 (.cells #[.pointer A_13, .slice A_14 y_1.1.length cap_9, .bool y_1.2.1, .int .i64 y_1.2.2] 48 (0, 0))) :: H) w_5) ?_ ?_
   ·refine RcF f hj_1 (fun h_6 hF_6 => ?_) fun h_6 hF_8 => ?_
    ·have k_2 := dI.1 h_6
     refine R_reg (Y f 3 fun _ f => ?_)
     obtain ⟨x_2, hx_2, hF_7⟩ := bS hF_6
     have p_6 := p_4.pl [1]
     refine Y16 (E := [Ent.obj b0 (.cells #[.pointer A_9, .slice A_10 s_1.2.1.length cap_7, .bool s_1.2.2.1, .int .i64 s_1.2.2.2] 48 (0, 0)), Ent.row 5 1 (.slice A_10 s_1.2.1.length cap_7) s_1.2.1.length cs_3]) (H := (H)) f p_6 (strings_Builder_WriteByte_2_ok n _ (GL.mono (hM_1.trans hM_2) hG) b0 A_9 hb_3 s_1.2.1 A_10 cap_7 cs_3 hr_3 (s_1.2.2.1) s_1.2.2.2 (44 : Int) x_2 hx_2) fun _ M_3 E_2 w_4 hM_3 p_5 q_2 _ f => ?_
     obtain ⟨A_11, A_12, cap_8, cs_4, rfl, rfl, hb_4, hr_4⟩ := q_2
     refine W_end rfl ?_
     have p_8 := p_5.pl [1]
     refine T_n ?_
     exact ⟨(x_2.2.1, (x_2.2.2.1), x_2.2.2.2), (sI hF_7).symm, M_3, hM_3, A_11, A_12, cap_8, cs_4, hb_4, hr_4, f.kp, p_8⟩
    ·have k_3 := iff_f dI h_6
     refine wp_skip (T_n ?_)
     exact ⟨(s_1.2.1, (s_1.2.2.1), s_1.2.2.2), (sI hF_8).symm, M_2, (mR _), A_9, A_10, cap_7, cs_3, hb_3, hr_3, f.kp, p_4⟩
   ·rintro a_17 w_5 ⟨y_1, hq_1, M_4, hM_4, A_13, A_14, cap_9, cs_5, hb_5, hr_5, f, p_7⟩
    subst j_1
    refine T_n (RR (Y f 1 fun _ f => ?_))
    obtain ⟨x_3, hx_3, hF_9⟩ := bS hF_5
    have p_10 := p_7.pl [1]
    refine Y16 (E := [Ent.obj b0 (.cells #[.pointer A_13, .slice A_14 y_1.1.length cap_9, .bool y_1.2.1, .int .i64 y_1.2.2] 48 (0, 0)), Ent.row 5 1 (.slice A_14 y_1.1.length cap_9) y_1.1.length cs_5]) (H := (H)) f p_10 (print_writer_line_ok n _ (GL.mono ((hM_1.trans hM_2).trans hM_4) hG) b0 A_13 hb_5 y_1.1 A_14 cap_9 cs_5 hr_5 (y_1.2.1) y_1.2.2 x_3 hx_3) fun _ M_5 E_3 w_6 hM_5 p_9 q_3 _ f => ?_
    obtain ⟨A_15, A_16, cap_10, cs_6, rfl, rfl, hb_6, hr_6⟩ := q_3
    refine eT (RR (Y f 2 fun _ f => ?_))
    obtain ⟨x_4, hx_4, hF_10⟩ := bS hF_9
    refine Y16 (E := [Ent.obj b0 (.cells #[.pointer A_15, .slice A_16 x_3.1.length cap_10, .bool x_3.2.1, .int .i64 x_3.2.2] 48 (0, 0)), Ent.row 5 1 (.slice A_16 x_3.1.length cap_10) x_3.1.length cs_6]) (H := (H)) f p_9 (print_writer_object_1_ok n _ (GL.mono (((hM_1.trans hM_2).trans hM_4).trans hM_5) hG) s_1.1 b0 A_15 hb_6 x_3.1 A_16 cap_10 cs_6 hr_6 (x_3.2.1) x_3.2.2 ad4_0 ((fzu (((hM_1.trans hM_2).trans hM_4).trans hM_5) q4_0)) ad4_1_f [.int .i8 d4_1_f.fKind, .bool d4_1_f.fBool, .int .i64 d4_1_f.fNum, S d4_1_f.fText, .slice A_5 d4_1_f.fList.length cap_4, .slice A_6 d4_1_f.fKeys.length cap_5] d4_1_f (TA0.shutx (x := d4_1_f) (h_3.mono (((hM_1.trans hM_2).trans hM_4).trans hM_5)) (h_4.mono (((hM_1.trans hM_2).trans hM_4).trans hM_5))) (fz_at ((fzu (((hM_1.trans hM_2).trans hM_4).trans hM_5) q4_1_f)) 0 rfl) ad4_1 ((fzu (((hM_1.trans hM_2).trans hM_4).trans hM_5) q4_1)) x_4 hx_4) fun _ M_6 E_4 w_7 hM_6 p_11 q_4 _ f => ?_
    obtain ⟨A_17, A_18, cap_11, cs_7, rfl, rfl, hb_7, hr_7⟩ := q_4
    refine eT (R_reg (Y f 4 fun _ f => Y14 f p_11 (fzu ((((hM_1.trans hM_2).trans hM_4).trans hM_5).trans hM_6) q1) 4 rfl fun _ f => Y f 1 fun _ f => ?_))
    obtain ⟨x_5, hx_5, hF_11⟩ := bS hF_10
    obtain ⟨ad_1, c_1, e_1, -, hr_8, hc_1⟩ := Sli.at_ (h_1.mono ((((hM_1.trans hM_2).trans hM_4).trans hM_5).trans hM_6)) hx_5
    obtain ⟨A_19, cap_12, A_20, cap_13, rfl, h_7, h_8⟩ := TA0.opn hr_8
    refine Z f (Y30 e_1 rfl (len := d1.fList.length) (cap := cap_2) (k := .i64) (i := s_1.1) (e := 26) (sz := 6) (getI_nn hx_5) (getI_lt hx_5)) fun _ f => ?_
    obtain ⟨x_6, hx_6, hF_12⟩ := bS hF_11
    refine Y16 (E := [Ent.obj b0 (.cells #[.pointer A_17, .slice A_18 x_4.1.length cap_11, .bool x_4.2.1, .int .i64 x_4.2.2] 48 (0, 0)), Ent.row 5 1 (.slice A_18 x_4.1.length cap_11) x_4.1.length cs_7]) (H := (H)) f p_11 (hrec_print_writer_value _ (GL.mono ((((hM_1.trans hM_2).trans hM_4).trans hM_5).trans hM_6) hG) b0 A_17 hb_7 x_4.1 A_18 cap_11 cs_7 hr_7 (x_4.2.1) x_4.2.2 (ad_1.add (s_1.1.toNat * 6)) [.int .i8 x_5.fKind, .bool x_5.fBool, .int .i64 x_5.fNum, S x_5.fText, .slice A_19 x_5.fList.length cap_12, .slice A_20 x_5.fKeys.length cap_13] x_5 (TA0.shutx (x := x_5) h_7 h_8) (fz_at (hc_1) 0 rfl) x_6 hx_6) fun _ M_7 E_5 w_8 hM_7 p_12 q_5 _ f => ?_
    obtain ⟨A_21, A_22, cap_14, cs_8, rfl, rfl, hb_8, hr_9⟩ := q_5
    refine W_end rfl (B_n (T_n (R_reg ?_)))
    obtain ⟨g_2, hF_13⟩ := nS hF_12
    refine Y f 1 fun _ f => ?_
    have f := f.st 50 (congrArg (Value.int .i64) (inR_wrap g_2))
    refine Y f 1 fun _ f => W_end rfl ?_
    have p_14 := p_12.pl [1]
    refine T_n ?_
    obtain rfl := sI hF_13
    exact ⟨⟨m_2, (s_1.1 + 1, x_6.1, (x_6.2.1), x_6.2.2), A_21, A_22, cap_14, cs_8⟩, Nat.lt_succ_self _, M_7, ((((hM_2.trans hM_4).trans hM_5).trans hM_6).trans hM_7), ⟨hn_1, hb_8, hr_9⟩, f.kp, p_14⟩
  ·have k_4 := iff_f dI h_5
   refine wp_exit (T_x (T_x ?_))
   obtain rfl := sI hF_14
   exact ⟨rfl, (s_1.2.1, (s_1.2.2.1), s_1.2.2.2), (sI hn_1).symm, M_2, hM_2, A_9, A_10, cap_7, cs_3, hb_3, hr_3, f.kp, p_4⟩
 ·rintro _ _ w_10 ⟨rfl, y_2, hq_, M_8, hM_8, A_23, A_24, cap_15, cs_9, hb_9, hr_10, f, p_13⟩
  subst b_1
  refine B_x (T_n (RR (Y f 3 fun _ f => Z f (Y31 (v := .int .i64 y_2.2.2) rfl (ad := ⟨b0, 3, none⟩) (p_13.ownCell 1 rfl 3)) fun _ f => ?_)))
  obtain ⟨g_3, hF_15⟩ := nS hF_3
  refine Y f 1 fun _ f => ?_
  have f := f.st 55 (congrArg (Value.int .i64) (inR_wrap g_3))
  refine Y f 2 fun _ f => Y26 f p_13 1 rfl rfl (b := b0) (j := 3) (v := .int .i64 (y_2.2.2 - 1)) rfl (by exact rfl) (by simp) (by simp) ((Ent.row 5 1 (.slice A_24 y_2.1.length cap_15) y_2.1.length cs_9) :: (Ent.obj b0 (.cells #[.pointer A_23, .slice A_24 y_2.1.length cap_15, .bool y_2.2.1, .int .i64 (y_2.2.2 - 1)] 48 (0, 0))) :: H) rfl fun w_11 p_15 _ f => eT (R_seq (RR (Y f 3 fun _ f => Y14 f p_15 (fzu (hM_1.trans hM_8) q1) 4 rfl fun _ f => Y f 2 fun _ f => eT ?_)))
  obtain ⟨j_2, hj_2, hF_16⟩ := bS hF_15
  refine R_mid (fun a_41 w_13 => ∃ y_3 : List UInt8 × Bool × Int, j_2 = y_3 ∧ ∃ M_10 : Mem, M_8.le M_10 ∧ ∃ (A_27 : Option Addr), ∃ (A_28 : Option Addr), ∃ (cap_17 : Nat), ∃ (cs_11 : List Value), (A_27 = none ∨ A_27 = some ⟨b0, 0, none⟩) ∧ RepSeq M_10 (y_3.1.map embB) cs_11 ∧ Frm 71 [(0, .pointer (some (⟨b0, 0, none⟩))), (3, .int .u8 d3)] a_41 ∧ Hp w0 M_10 ((Ent.row 5 1 (.slice A_28 y_3.1.length cap_17) y_3.1.length cs_11) :: (Ent.obj b0 (.cells #[.pointer A_27, .slice A_28 y_3.1.length cap_17, .bool y_3.2.1, .int .i64 y_3.2.2] 48 (0, 0))) :: H) w_13) ?_ ?_
  ·refine RcF f hj_2 (fun h_9 hF_17 => ?_) fun h_9 hF_19 => ?_
   ·have k_5 := dI.1 h_9
    refine R_reg (Y f 1 fun _ f => ?_)
    obtain ⟨x_7, hx_7, hF_18⟩ := bS hF_17
    have p_17 := p_15.pl [1]
    refine Y16 (E := [Ent.obj b0 (.cells #[.pointer A_23, .slice A_24 y_2.1.length cap_15, .bool y_2.2.1, .int .i64 (y_2.2.2 - 1)] 48 (0, 0)), Ent.row 5 1 (.slice A_24 y_2.1.length cap_15) y_2.1.length cs_9]) (H := (H)) f p_17 (print_writer_line_ok n _ (GL.mono (hM_1.trans hM_8) hG) b0 A_23 hb_9 y_2.1 A_24 cap_15 cs_9 hr_10 (y_2.2.1) (y_2.2.2 - 1) x_7 hx_7) fun _ M_9 E_6 w_12 hM_9 p_16 q_6 _ f => ?_
    obtain ⟨A_25, A_26, cap_16, cs_10, rfl, rfl, hb_10, hr_11⟩ := q_6
    refine W_end rfl ?_
    have p_19 := p_16.pl [1]
    refine T_n ?_
    exact ⟨(x_7.1, (x_7.2.1), x_7.2.2), (sI hF_18).symm, M_9, hM_9, A_25, A_26, cap_16, cs_10, hb_10, hr_11, f.kp, p_19⟩
   ·have k_6 := iff_f dI h_9
    refine wp_skip (T_n ?_)
    exact ⟨(y_2.1, (y_2.2.1), y_2.2.2 - 1), (sI hF_19).symm, M_8, (mR _), A_23, A_24, cap_15, cs_9, hb_9, hr_10, f.kp, p_15⟩
  ·rintro a_41 w_13 ⟨y_3, hq_2, M_10, hM_10, A_27, A_28, cap_17, cs_11, hb_11, hr_12, f, p_18⟩
   subst j_2
   refine T_n (R_reg (Y f 4 fun _ f => ?_))
   obtain ⟨x_8, hx_8, hF_20⟩ := bS hF_16
   have p_21 := p_18.pl [1]
   refine Y16 (E := [Ent.obj b0 (.cells #[.pointer A_27, .slice A_28 y_3.1.length cap_17, .bool y_3.2.1, .int .i64 y_3.2.2] 48 (0, 0)), Ent.row 5 1 (.slice A_28 y_3.1.length cap_17) y_3.1.length cs_11]) (H := (H)) f p_21 (strings_Builder_WriteByte_2_ok n _ (GL.mono ((hM_1.trans hM_8).trans hM_10) hG) b0 A_27 hb_11 y_3.1 A_28 cap_17 cs_11 hr_12 (y_3.2.1) y_3.2.2 d3 x_8 hx_8) fun _ M_11 E_7 w_14 hM_11 p_20 q_7 _ f => ?_
   obtain ⟨A_29, A_30, cap_18, cs_12, rfl, rfl, hb_12, hr_13⟩ := q_7
   refine W_end rfl (E_end0 f rfl  ?_)
   obtain rfl := sI hF_20
   exact ⟨_, rfl, M_11, _, (((hM_1.trans hM_8).trans hM_10).trans hM_11), p_20, ⟨A_29, A_30, cap_18, cs_12, rfl, rfl, hb_12, hr_13⟩⟩
def print_writer_object (n : Nat) (rec_print_writer_value : (List UInt8) → Bool → Int → TA0 → Option (List UInt8 × Bool × Int)) (d0_1 : List UInt8) (d0_2 : Bool) (d0_3 : Int) (d1 : TA0) : Option (List UInt8 × Bool × Int) :=
  (print_writer_parts n rec_print_writer_value d0_1 (d0_2) d0_3 d1 (123 : Int) (125 : Int) d1).bind fun x_1 =>
  some ((x_1.1, (x_1.2.1), x_1.2.2))
theorem print_writer_object_ok (n : Nat) (rec_print_writer_value : (List UInt8) → Bool → Int → TA0 → Option (List UInt8 × Bool × Int)) (hrec_print_writer_value : ∀ (M : Mem) (hG : GL M) (b0 : Nat) (A_1 : Option Addr) (hb_1 : (A_1 = none ∨ A_1 = some ⟨b0, 0, none⟩)) (d0_1 : List UInt8) (A_2 : Option Addr) (cap_1 : Nat) (cs_1 : List Value) (hr_1 : RepSeq M (d0_1.map embB) cs_1) (d0_2 : Bool) (d0_3 : Int) (ad1 : Addr) (c1 : List Value) (d1 : TA0) (h1 : Rep M (emb_TA0 d1) c1) (q1 : ∀ j v, c1[j]? = some v → M.cell? (ad1.add j) = some v) (r : List UInt8 × Bool × Int) (hF : rec_print_writer_value d0_1 d0_2 d0_3 d1 = some r), OkH Tryz.prog M [Ent.obj b0 (.cells #[.pointer A_1, .slice A_2 d0_1.length cap_1, .bool d0_2, .int .i64 d0_3] 48 (0, 0)), Ent.row 5 1 (.slice A_2 d0_1.length cap_1) d0_1.length cs_1] 25 [.pointer (some (⟨b0, 0, none⟩)), .pointer (some ad1)] (fun M' E' v => ∃ (A_3 : Option Addr) (A_4 : Option Addr) (cap_2 : Nat) (cs_2 : List Value), v = .tuple #[] ∧ E' = [Ent.obj b0 (.cells #[.pointer A_3, .slice A_4 r.1.length cap_2, .bool r.2.1, .int .i64 r.2.2] 48 (0, 0)), Ent.row 5 1 (.slice A_4 r.1.length cap_2) r.1.length cs_2] ∧ (A_3 = none ∨ A_3 = some ⟨b0, 0, none⟩) ∧ RepSeq M' (r.1.map embB) cs_2)) (M : Mem) (hG : GL M) (b0 : Nat) (A_1 : Option Addr) (hb_1 : (A_1 = none ∨ A_1 = some ⟨b0, 0, none⟩)) (d0_1 : List UInt8) (A_2 : Option Addr) (cap_1 : Nat) (cs_1 : List Value) (hr_1 : RepSeq M (d0_1.map embB) cs_1) (d0_2 : Bool) (d0_3 : Int) (ad1 : Addr) (c1 : List Value) (d1 : TA0) (h1 : Rep M (emb_TA0 d1) c1) (q1 : ∀ j v, c1[j]? = some v → M.cell? (ad1.add j) = some v) (r : List UInt8 × Bool × Int) (hF : print_writer_object n rec_print_writer_value d0_1 d0_2 d0_3 d1 = some r) : OkH Tryz.prog M [Ent.obj b0 (.cells #[.pointer A_1, .slice A_2 d0_1.length cap_1, .bool d0_2, .int .i64 d0_3] 48 (0, 0)), Ent.row 5 1 (.slice A_2 d0_1.length cap_1) d0_1.length cs_1] 45 [.pointer (some (⟨b0, 0, none⟩)), .pointer (some ad1)] (fun M' E' v => ∃ (A_7 : Option Addr) (A_8 : Option Addr) (cap_5 : Nat) (cs_3 : List Value), v = .tuple #[] ∧ E' = [Ent.obj b0 (.cells #[.pointer A_7, .slice A_8 r.1.length cap_5, .bool r.2.1, .int .i64 r.2.2] 48 (0, 0)), Ent.row 5 1 (.slice A_8 r.1.length cap_5) r.1.length cs_3] ∧ (A_7 = none ∨ A_7 = some ⟨b0, 0, none⟩) ∧ RepSeq M' (r.1.map embB) cs_3) := by
 unfold print_writer_object at hF
 intro M1 hM0 w0 H w p0
 replace hG := GL.mono hM0 hG
 replace hr_1 := RepSeq.mono hM0 _ _ hr_1
 replace h1 := Rep.mono hM0 _ _ h1
 replace q1 := fun j v h => hM0.cell (q1 j v h)
 obtain ⟨A_3, cap_2, A_4, cap_3, rfl, h_1, h_2⟩ := TA0.opn h1
 refine R_enter 8 Tryz.func45 rfl rfl (by simp) fun a0 f0 => RR (Y12 (cs := #[.pointer (some (⟨b0, 0, none⟩))]) (T := 42) f0 p0 fun b_1 M_1 w_1 hM_1 hc_1 p_1 _ f => ?_)
 have hc_2 := fz_box hc_1
 refine Y12 (cs := #[.pointer (some ad1)]) (T := 50) f p_1 fun b_2 M_2 w_2 hM_2 hc_3 p_2 _ f => ?_
 have hc_4 := fz_box hc_3
 refine eT (R_reg (Y14 f p_2 (fzu hM_2 hc_2) 0 rfl fun _ f => Y14 f p_2 hc_4 0 rfl fun _ f => Y f 1 fun _ f => ?_))
 obtain ⟨x_1, hx_1, hF_1⟩ := bS hF
 refine Y16 (E := [Ent.obj b0 (.cells #[.pointer A_1, .slice A_2 d0_1.length cap_1, .bool d0_2, .int .i64 d0_3] 48 (0, 0)), Ent.row 5 1 (.slice A_2 d0_1.length cap_1) d0_1.length cs_1]) (H := (H)) f p_2 (print_writer_parts_ok n rec_print_writer_value hrec_print_writer_value _ (GL.mono (hM_1.trans hM_2) hG) b0 A_1 hb_1 d0_1 A_2 cap_1 cs_1 (RepSeq.mono (hM_1.trans hM_2) _ _ hr_1) (d0_2) d0_3 ad1 [.int .i8 d1.fKind, .bool d1.fBool, .int .i64 d1.fNum, S d1.fText, .slice A_3 d1.fList.length cap_2, .slice A_4 d1.fKeys.length cap_3] d1 (TA0.shutx (x := d1) (h_1.mono (hM_1.trans hM_2)) (h_2.mono (hM_1.trans hM_2))) (fz_at ((fzu (hM_1.trans hM_2) q1)) 0 rfl) (123 : Int) (125 : Int) (⟨b_1, 0, none⟩) ((fzu hM_2 hc_2)) ad1 [.int .i8 d1.fKind, .bool d1.fBool, .int .i64 d1.fNum, S d1.fText, .slice A_3 d1.fList.length cap_2, .slice A_4 d1.fKeys.length cap_3] d1 (TA0.shutx (x := d1) (h_1.mono (hM_1.trans hM_2)) (h_2.mono (hM_1.trans hM_2))) (fz_at ((fzu (hM_1.trans hM_2) q1)) 0 rfl) (⟨b_2, 0, none⟩) (hc_4) x_1 hx_1) fun _ M_3 E_1 w_3 hM_3 p_3 q_1 _ f => ?_
 obtain ⟨A_5, A_6, cap_4, cs_2, rfl, rfl, hb_2, hr_2⟩ := q_1
 refine W_end rfl (E_end0 f rfl  ?_)
 obtain rfl := sI hF_1
 exact ⟨_, rfl, M_3, _, ((hM_1.trans hM_2).trans hM_3), p_3, ⟨A_5, A_6, cap_4, cs_2, rfl, rfl, hb_2, hr_2⟩⟩
def print_writer_value_b (n : Nat) (rec_print_writer_value : (List UInt8) → Bool → Int → TA0 → Option (List UInt8 × Bool × Int)) (d0_1 : List UInt8) (d0_2 : Bool) (d0_3 : Int) (d1 : TA0) : Option (List UInt8 × Bool × Int) :=
  need (0 ≤ d1.fKind ∧ d1.fKind < 6) <|
  bif (decide (d1.fKind = 0)) then
    ((print_writer_null n d0_1 (d0_2) d0_3 d1).bind fun x_1 =>
    some ((x_1.1, (x_1.2.1), x_1.2.2)))
  else
    bif (decide (d1.fKind = 1)) then
      ((print_writer_bool n d0_1 (d0_2) d0_3 d1).bind fun x_2 =>
      some ((x_2.1, (x_2.2.1), x_2.2.2)))
    else
      bif (decide (d1.fKind = 2)) then
        ((print_writer_number n d0_1 (d0_2) d0_3 d1).bind fun x_3 =>
        some ((x_3.1, (x_3.2.1), x_3.2.2)))
      else
        bif (decide (d1.fKind = 3)) then
          ((print_writer_text n d0_1 (d0_2) d0_3 d1).bind fun x_4 =>
          some ((x_4.1, (x_4.2.1), x_4.2.2)))
        else
          bif (decide (d1.fKind = 4)) then
            ((print_writer_list_2 n rec_print_writer_value d0_1 (d0_2) d0_3 d1).bind fun x_5 =>
            some ((x_5.1, (x_5.2.1), x_5.2.2)))
          else
            (print_writer_object n rec_print_writer_value d0_1 (d0_2) d0_3 d1).bind fun x_6 =>
            some ((x_6.1, (x_6.2.1), x_6.2.2))
theorem print_writer_value_b_ok (n : Nat) (rec_print_writer_value : (List UInt8) → Bool → Int → TA0 → Option (List UInt8 × Bool × Int)) (hrec_print_writer_value : ∀ (M : Mem) (hG : GL M) (b0 : Nat) (A_1 : Option Addr) (hb_1 : (A_1 = none ∨ A_1 = some ⟨b0, 0, none⟩)) (d0_1 : List UInt8) (A_2 : Option Addr) (cap_1 : Nat) (cs_1 : List Value) (hr_1 : RepSeq M (d0_1.map embB) cs_1) (d0_2 : Bool) (d0_3 : Int) (ad1 : Addr) (c1 : List Value) (d1 : TA0) (h1 : Rep M (emb_TA0 d1) c1) (q1 : ∀ j v, c1[j]? = some v → M.cell? (ad1.add j) = some v) (r : List UInt8 × Bool × Int) (hF : rec_print_writer_value d0_1 d0_2 d0_3 d1 = some r), OkH Tryz.prog M [Ent.obj b0 (.cells #[.pointer A_1, .slice A_2 d0_1.length cap_1, .bool d0_2, .int .i64 d0_3] 48 (0, 0)), Ent.row 5 1 (.slice A_2 d0_1.length cap_1) d0_1.length cs_1] 25 [.pointer (some (⟨b0, 0, none⟩)), .pointer (some ad1)] (fun M' E' v => ∃ (A_3 : Option Addr) (A_4 : Option Addr) (cap_2 : Nat) (cs_2 : List Value), v = .tuple #[] ∧ E' = [Ent.obj b0 (.cells #[.pointer A_3, .slice A_4 r.1.length cap_2, .bool r.2.1, .int .i64 r.2.2] 48 (0, 0)), Ent.row 5 1 (.slice A_4 r.1.length cap_2) r.1.length cs_2] ∧ (A_3 = none ∨ A_3 = some ⟨b0, 0, none⟩) ∧ RepSeq M' (r.1.map embB) cs_2)) (M : Mem) (hG : GL M) (b0 : Nat) (A_1 : Option Addr) (hb_1 : (A_1 = none ∨ A_1 = some ⟨b0, 0, none⟩)) (d0_1 : List UInt8) (A_2 : Option Addr) (cap_1 : Nat) (cs_1 : List Value) (hr_1 : RepSeq M (d0_1.map embB) cs_1) (d0_2 : Bool) (d0_3 : Int) (ad1 : Addr) (c1 : List Value) (d1 : TA0) (h1 : Rep M (emb_TA0 d1) c1) (q1 : ∀ j v, c1[j]? = some v → M.cell? (ad1.add j) = some v) (r : List UInt8 × Bool × Int) (hF : print_writer_value_b n rec_print_writer_value d0_1 d0_2 d0_3 d1 = some r) : OkH Tryz.prog M [Ent.obj b0 (.cells #[.pointer A_1, .slice A_2 d0_1.length cap_1, .bool d0_2, .int .i64 d0_3] 48 (0, 0)), Ent.row 5 1 (.slice A_2 d0_1.length cap_1) d0_1.length cs_1] 25 [.pointer (some (⟨b0, 0, none⟩)), .pointer (some ad1)] (fun M' E' v => ∃ (A_19 : Option Addr) (A_20 : Option Addr) (cap_11 : Nat) (cs_9 : List Value), v = .tuple #[] ∧ E' = [Ent.obj b0 (.cells #[.pointer A_19, .slice A_20 r.1.length cap_11, .bool r.2.1, .int .i64 r.2.2] 48 (0, 0)), Ent.row 5 1 (.slice A_20 r.1.length cap_11) r.1.length cs_9] ∧ (A_19 = none ∨ A_19 = some ⟨b0, 0, none⟩) ∧ RepSeq M' (r.1.map embB) cs_9) := by
 unfold print_writer_value_b at hF
 intro M1 hM0 w0 H w p0
 replace hG := GL.mono hM0 hG
 replace hr_1 := RepSeq.mono hM0 _ _ hr_1
 replace h1 := Rep.mono hM0 _ _ h1
 replace q1 := fun j v h => hM0.cell (q1 j v h)
 obtain ⟨A_5, cap_3, A_6, cap_4, rfl, h_1, h_2⟩ := TA0.opn h1
 refine R_enter 13 Tryz.func25 rfl rfl (by simp) fun a0 f0 => R_reg (Y f0 4 fun _ f => Y14 f p0 q1 0 rfl fun _ f => ?_)
 obtain ⟨g_1, hF_1⟩ := nS hF
 rcases cE hF_1 with ⟨h_3, hF_2⟩ | ⟨h_3, hF_4⟩
 ·have e_1 : d1.fKind = 0 := of_decide_eq_true h_3
  have f := Frm.set f 8 (v := .int .i8 d1.fKind) (v' := .int .i8 0) (by kernel_rfl) (congrArg (Value.int .i8) e_1)
  refine Y f 1 fun _ f => Y f 2 fun _ f => ?_
  obtain ⟨x_1, hx_1, hF_3⟩ := bS hF_2
  refine Y16 (E := [Ent.obj b0 (.cells #[.pointer A_1, .slice A_2 d0_1.length cap_1, .bool d0_2, .int .i64 d0_3] 48 (0, 0)), Ent.row 5 1 (.slice A_2 d0_1.length cap_1) d0_1.length cs_1]) (H := (H)) f p0 (print_writer_null_ok n _ hG b0 A_1 hb_1 d0_1 A_2 cap_1 cs_1 hr_1 (d0_2) d0_3 ad1 [.int .i8 d1.fKind, .bool d1.fBool, .int .i64 d1.fNum, S d1.fText, .slice A_5 d1.fList.length cap_3, .slice A_6 d1.fKeys.length cap_4] d1 (TA0.shutx (x := d1) h_1 h_2) (fz_at (q1) 0 rfl) x_1 hx_1) fun _ M_1 E_1 w_1 hM_1 p_1 q_1 _ f => ?_
  obtain ⟨A_7, A_8, cap_5, cs_3, rfl, rfl, hb_3, hr_3⟩ := q_1
  refine W_end rfl (E_end0 f rfl  ?_)
  obtain rfl := sI hF_3
  exact ⟨_, rfl, M_1, _, hM_1, p_1, ⟨A_7, A_8, cap_5, cs_3, rfl, rfl, hb_3, hr_3⟩⟩
 ·have e_2 : ¬ (d1.fKind = 0) := of_decide_eq_false h_3
  rcases cE hF_4 with ⟨h_4, hF_5⟩ | ⟨h_4, hF_7⟩
  ·have e_3 : d1.fKind = 1 := of_decide_eq_true h_4
   have f := Frm.set f 8 (v := .int .i8 d1.fKind) (v' := .int .i8 1) (by kernel_rfl) (congrArg (Value.int .i8) e_3)
   refine Y f 1 fun _ f => Y f 2 fun _ f => ?_
   obtain ⟨x_2, hx_2, hF_6⟩ := bS hF_5
   refine Y16 (E := [Ent.obj b0 (.cells #[.pointer A_1, .slice A_2 d0_1.length cap_1, .bool d0_2, .int .i64 d0_3] 48 (0, 0)), Ent.row 5 1 (.slice A_2 d0_1.length cap_1) d0_1.length cs_1]) (H := (H)) f p0 (print_writer_bool_ok n _ hG b0 A_1 hb_1 d0_1 A_2 cap_1 cs_1 hr_1 (d0_2) d0_3 ad1 [.int .i8 d1.fKind, .bool d1.fBool, .int .i64 d1.fNum, S d1.fText, .slice A_5 d1.fList.length cap_3, .slice A_6 d1.fKeys.length cap_4] d1 (TA0.shutx (x := d1) h_1 h_2) (fz_at (q1) 0 rfl) x_2 hx_2) fun _ M_2 E_2 w_2 hM_2 p_2 q_2 _ f => ?_
   obtain ⟨A_9, A_10, cap_6, cs_4, rfl, rfl, hb_4, hr_4⟩ := q_2
   refine W_end rfl (E_end0 f rfl  ?_)
   obtain rfl := sI hF_6
   exact ⟨_, rfl, M_2, _, hM_2, p_2, ⟨A_9, A_10, cap_6, cs_4, rfl, rfl, hb_4, hr_4⟩⟩
  ·have e_4 : ¬ (d1.fKind = 1) := of_decide_eq_false h_4
   rcases cE hF_7 with ⟨h_5, hF_8⟩ | ⟨h_5, hF_10⟩
   ·have e_5 : d1.fKind = 2 := of_decide_eq_true h_5
    have f := Frm.set f 8 (v := .int .i8 d1.fKind) (v' := .int .i8 2) (by kernel_rfl) (congrArg (Value.int .i8) e_5)
    refine Y f 1 fun _ f => Y f 2 fun _ f => ?_
    obtain ⟨x_3, hx_3, hF_9⟩ := bS hF_8
    refine Y16 (E := [Ent.obj b0 (.cells #[.pointer A_1, .slice A_2 d0_1.length cap_1, .bool d0_2, .int .i64 d0_3] 48 (0, 0)), Ent.row 5 1 (.slice A_2 d0_1.length cap_1) d0_1.length cs_1]) (H := (H)) f p0 (print_writer_number_ok n _ hG b0 A_1 hb_1 d0_1 A_2 cap_1 cs_1 hr_1 (d0_2) d0_3 ad1 [.int .i8 d1.fKind, .bool d1.fBool, .int .i64 d1.fNum, S d1.fText, .slice A_5 d1.fList.length cap_3, .slice A_6 d1.fKeys.length cap_4] d1 (TA0.shutx (x := d1) h_1 h_2) (fz_at (q1) 0 rfl) x_3 hx_3) fun _ M_3 E_3 w_3 hM_3 p_3 q_3 _ f => ?_
    obtain ⟨A_11, A_12, cap_7, cs_5, rfl, rfl, hb_5, hr_5⟩ := q_3
    refine W_end rfl (E_end0 f rfl  ?_)
    obtain rfl := sI hF_9
    exact ⟨_, rfl, M_3, _, hM_3, p_3, ⟨A_11, A_12, cap_7, cs_5, rfl, rfl, hb_5, hr_5⟩⟩
   ·have e_6 : ¬ (d1.fKind = 2) := of_decide_eq_false h_5
    rcases cE hF_10 with ⟨h_6, hF_11⟩ | ⟨h_6, hF_13⟩
    ·have e_7 : d1.fKind = 3 := of_decide_eq_true h_6
     have f := Frm.set f 8 (v := .int .i8 d1.fKind) (v' := .int .i8 3) (by kernel_rfl) (congrArg (Value.int .i8) e_7)
     refine Y f 1 fun _ f => Y f 2 fun _ f => ?_
     obtain ⟨x_4, hx_4, hF_12⟩ := bS hF_11
     refine Y16 (E := [Ent.obj b0 (.cells #[.pointer A_1, .slice A_2 d0_1.length cap_1, .bool d0_2, .int .i64 d0_3] 48 (0, 0)), Ent.row 5 1 (.slice A_2 d0_1.length cap_1) d0_1.length cs_1]) (H := (H)) f p0 (print_writer_text_ok n _ hG b0 A_1 hb_1 d0_1 A_2 cap_1 cs_1 hr_1 (d0_2) d0_3 ad1 [.int .i8 d1.fKind, .bool d1.fBool, .int .i64 d1.fNum, S d1.fText, .slice A_5 d1.fList.length cap_3, .slice A_6 d1.fKeys.length cap_4] d1 (TA0.shutx (x := d1) h_1 h_2) (fz_at (q1) 0 rfl) x_4 hx_4) fun _ M_4 E_4 w_4 hM_4 p_4 q_4 _ f => ?_
     obtain ⟨A_13, A_14, cap_8, cs_6, rfl, rfl, hb_6, hr_6⟩ := q_4
     refine W_end rfl (E_end0 f rfl  ?_)
     obtain rfl := sI hF_12
     exact ⟨_, rfl, M_4, _, hM_4, p_4, ⟨A_13, A_14, cap_8, cs_6, rfl, rfl, hb_6, hr_6⟩⟩
    ·have e_8 : ¬ (d1.fKind = 3) := of_decide_eq_false h_6
     rcases cE hF_13 with ⟨h_7, hF_14⟩ | ⟨h_7, hF_16⟩
     ·have e_9 : d1.fKind = 4 := of_decide_eq_true h_7
      have f := Frm.set f 8 (v := .int .i8 d1.fKind) (v' := .int .i8 4) (by kernel_rfl) (congrArg (Value.int .i8) e_9)
      refine Y f 1 fun _ f => Y f 2 fun _ f => ?_
      obtain ⟨x_5, hx_5, hF_15⟩ := bS hF_14
      refine Y16 (E := [Ent.obj b0 (.cells #[.pointer A_1, .slice A_2 d0_1.length cap_1, .bool d0_2, .int .i64 d0_3] 48 (0, 0)), Ent.row 5 1 (.slice A_2 d0_1.length cap_1) d0_1.length cs_1]) (H := (H)) f p0 (print_writer_list_2_ok n rec_print_writer_value hrec_print_writer_value _ hG b0 A_1 hb_1 d0_1 A_2 cap_1 cs_1 hr_1 (d0_2) d0_3 ad1 [.int .i8 d1.fKind, .bool d1.fBool, .int .i64 d1.fNum, S d1.fText, .slice A_5 d1.fList.length cap_3, .slice A_6 d1.fKeys.length cap_4] d1 (TA0.shutx (x := d1) h_1 h_2) (fz_at (q1) 0 rfl) x_5 hx_5) fun _ M_5 E_5 w_5 hM_5 p_5 q_5 _ f => ?_
      obtain ⟨A_15, A_16, cap_9, cs_7, rfl, rfl, hb_7, hr_7⟩ := q_5
      refine W_end rfl (E_end0 f rfl  ?_)
      obtain rfl := sI hF_15
      exact ⟨_, rfl, M_5, _, hM_5, p_5, ⟨A_15, A_16, cap_9, cs_7, rfl, rfl, hb_7, hr_7⟩⟩
     ·have e_10 : ¬ (d1.fKind = 4) := of_decide_eq_false h_7
      have e_11 : d1.fKind = 5 := by omega
      have f := Frm.set f 8 (v := .int .i8 d1.fKind) (v' := .int .i8 5) (by kernel_rfl) (congrArg (Value.int .i8) e_11)
      refine Y f 1 fun _ f => Y f 2 fun _ f => ?_
      obtain ⟨x_6, hx_6, hF_17⟩ := bS hF_16
      refine Y16 (E := [Ent.obj b0 (.cells #[.pointer A_1, .slice A_2 d0_1.length cap_1, .bool d0_2, .int .i64 d0_3] 48 (0, 0)), Ent.row 5 1 (.slice A_2 d0_1.length cap_1) d0_1.length cs_1]) (H := (H)) f p0 (print_writer_object_ok n rec_print_writer_value hrec_print_writer_value _ hG b0 A_1 hb_1 d0_1 A_2 cap_1 cs_1 hr_1 (d0_2) d0_3 ad1 [.int .i8 d1.fKind, .bool d1.fBool, .int .i64 d1.fNum, S d1.fText, .slice A_5 d1.fList.length cap_3, .slice A_6 d1.fKeys.length cap_4] d1 (TA0.shutx (x := d1) h_1 h_2) (fz_at (q1) 0 rfl) x_6 hx_6) fun _ M_6 E_6 w_6 hM_6 p_6 q_6 _ f => ?_
      obtain ⟨A_17, A_18, cap_10, cs_8, rfl, rfl, hb_8, hr_8⟩ := q_6
      refine W_end rfl (E_end0 f rfl  ?_)
      obtain rfl := sI hF_17
      exact ⟨_, rfl, M_6, _, hM_6, p_6, ⟨A_17, A_18, cap_10, cs_8, rfl, rfl, hb_8, hr_8⟩⟩
def print_writer_value_k (n : Nat) : Nat → (List UInt8) → Bool → Int → TA0 → Option (List UInt8 × Bool × Int)
  | 0 => fun _ _ _ _ => none
  | k + 1 => print_writer_value_b n (print_writer_value_k n k)
def print_writer_value (n : Nat) (d0_1 : List UInt8) (d0_2 : Bool) (d0_3 : Int) (d1 : TA0) : Option (List UInt8 × Bool × Int) := print_writer_value_k n n d0_1 d0_2 d0_3 d1
theorem print_writer_value_ok (n : Nat) (M : Mem) (hG : GL M) (b0 : Nat) (A_1 : Option Addr) (hb_1 : (A_1 = none ∨ A_1 = some ⟨b0, 0, none⟩)) (d0_1 : List UInt8) (A_2 : Option Addr) (cap_1 : Nat) (cs_1 : List Value) (hr_1 : RepSeq M (d0_1.map embB) cs_1) (d0_2 : Bool) (d0_3 : Int) (ad1 : Addr) (c1 : List Value) (d1 : TA0) (h1 : Rep M (emb_TA0 d1) c1) (q1 : ∀ j v, c1[j]? = some v → M.cell? (ad1.add j) = some v) (r : List UInt8 × Bool × Int) (hF : print_writer_value n d0_1 d0_2 d0_3 d1 = some r) : OkH Tryz.prog M [Ent.obj b0 (.cells #[.pointer A_1, .slice A_2 d0_1.length cap_1, .bool d0_2, .int .i64 d0_3] 48 (0, 0)), Ent.row 5 1 (.slice A_2 d0_1.length cap_1) d0_1.length cs_1] 25 [.pointer (some (⟨b0, 0, none⟩)), .pointer (some ad1)] (fun M' E' v => ∃ (A_19 : Option Addr) (A_20 : Option Addr) (cap_11 : Nat) (cs_9 : List Value), v = .tuple #[] ∧ E' = [Ent.obj b0 (.cells #[.pointer A_19, .slice A_20 r.1.length cap_11, .bool r.2.1, .int .i64 r.2.2] 48 (0, 0)), Ent.row 5 1 (.slice A_20 r.1.length cap_11) r.1.length cs_9] ∧ (A_19 = none ∨ A_19 = some ⟨b0, 0, none⟩) ∧ RepSeq M' (r.1.map embB) cs_9) := by
 have key : ∀ (k : Nat) (M : Mem) (hG : GL M) (b0 : Nat) (A_1 : Option Addr) (hb_1 : (A_1 = none ∨ A_1 = some ⟨b0, 0, none⟩)) (d0_1 : List UInt8) (A_2 : Option Addr) (cap_1 : Nat) (cs_1 : List Value) (hr_1 : RepSeq M (d0_1.map embB) cs_1) (d0_2 : Bool) (d0_3 : Int) (ad1 : Addr) (c1 : List Value) (d1 : TA0) (h1 : Rep M (emb_TA0 d1) c1) (q1 : ∀ j v, c1[j]? = some v → M.cell? (ad1.add j) = some v) (r : List UInt8 × Bool × Int) (hF : print_writer_value_k n k d0_1 d0_2 d0_3 d1 = some r), OkH Tryz.prog M [Ent.obj b0 (.cells #[.pointer A_1, .slice A_2 d0_1.length cap_1, .bool d0_2, .int .i64 d0_3] 48 (0, 0)), Ent.row 5 1 (.slice A_2 d0_1.length cap_1) d0_1.length cs_1] 25 [.pointer (some (⟨b0, 0, none⟩)), .pointer (some ad1)] (fun M' E' v => ∃ (A_19 : Option Addr) (A_20 : Option Addr) (cap_11 : Nat) (cs_9 : List Value), v = .tuple #[] ∧ E' = [Ent.obj b0 (.cells #[.pointer A_19, .slice A_20 r.1.length cap_11, .bool r.2.1, .int .i64 r.2.2] 48 (0, 0)), Ent.row 5 1 (.slice A_20 r.1.length cap_11) r.1.length cs_9] ∧ (A_19 = none ∨ A_19 = some ⟨b0, 0, none⟩) ∧ RepSeq M' (r.1.map embB) cs_9) := by
  intro k
  induction k with
  | zero => intro M hG b0 A_1 hb_1 d0_1 A_2 cap_1 cs_1 hr_1 d0_2 d0_3 ad1 c1 d1 h1 q1 r hF; simp [print_writer_value_k] at hF
  | succ k ih => intro M hG b0 A_1 hb_1 d0_1 A_2 cap_1 cs_1 hr_1 d0_2 d0_3 ad1 c1 d1 h1 q1 r hF; exact print_writer_value_b_ok n (print_writer_value_k n k) ih M hG b0 A_1 hb_1 d0_1 A_2 cap_1 cs_1 hr_1 d0_2 d0_3 ad1 c1 d1 h1 q1 r hF
 exact key n M hG b0 A_1 hb_1 d0_1 A_2 cap_1 cs_1 hr_1 d0_2 d0_3 ad1 c1 d1 h1 q1 r hF
def strings_Builder_Len (n : Nat) (d0_1 : List UInt8) (d0_2 : Bool) (d0_3 : Int) : Option (Int × List UInt8 × Bool × Int) :=
  some ((((d0_1.length : Nat) : Int), d0_1, (d0_2), d0_3))
theorem strings_Builder_Len_ok (n : Nat) (M : Mem) (hG : GL M) (b0 : Nat) (A_1 : Option Addr) (hb_1 : (A_1 = none ∨ A_1 = some ⟨b0, 0, none⟩)) (d0_1 : List UInt8) (A_2 : Option Addr) (cap_1 : Nat) (cs_1 : List Value) (hr_1 : RepSeq M (d0_1.map embB) cs_1) (d0_2 : Bool) (d0_3 : Int) (r : Int × List UInt8 × Bool × Int) (hF : strings_Builder_Len n d0_1 d0_2 d0_3 = some r) : OkH Tryz.prog M [Ent.obj b0 (.cells #[.pointer A_1, .slice A_2 d0_1.length cap_1, .bool d0_2, .int .i64 d0_3] 48 (0, 0)), Ent.row 5 1 (.slice A_2 d0_1.length cap_1) d0_1.length cs_1] 26 [.pointer (some (⟨b0, 0, none⟩))] (fun M' E' v => ∃ (A_3 : Option Addr) (A_4 : Option Addr) (cap_2 : Nat) (cs_2 : List Value), v = .int .i64 r.1 ∧ E' = [Ent.obj b0 (.cells #[.pointer A_3, .slice A_4 r.2.1.length cap_2, .bool r.2.2.1, .int .i64 r.2.2.2] 48 (0, 0)), Ent.row 5 1 (.slice A_4 r.2.1.length cap_2) r.2.1.length cs_2] ∧ (A_3 = none ∨ A_3 = some ⟨b0, 0, none⟩) ∧ RepSeq M' (r.2.1.map embB) cs_2) := by
 unfold strings_Builder_Len at hF
 intro M1 hM0 w0 H w p0
 replace hG := GL.mono hM0 hG
 replace hr_1 := RepSeq.mono hM0 _ _ hr_1
 refine R_enter 8 Tryz.func26 rfl rfl (by simp) fun a0 f0 => RR (Y f0 1 fun _ f => eT (RR (Y f 3 fun _ f => Z f (Y31 (v := .slice A_2 d0_1.length cap_1) rfl (ad := ⟨b0, 1, none⟩) (p0.ownCell 0 rfl 1)) fun _ f => Y f 2 fun _ f => eT (wp_ret (E_ret1 f rfl (by kernel_rfl : Vc.look _ 2 = some (.int .i64 ((d0_1.length : Nat) : Int))) ?_)))))
 obtain rfl := sI hF
 exact ⟨_, rfl, M1, _, (mR _), p0, ⟨A_1, A_2, cap_1, cs_1, rfl, rfl, hb_1, hr_1⟩⟩
def strings_Builder_String_2 (n : Nat) (d0_1 : List UInt8) (d0_2 : Bool) (d0_3 : Int) : Option (List UInt8 × List UInt8 × Bool × Int) :=
  some ((d0_1, d0_1, (d0_2), d0_3))
theorem strings_Builder_String_2_ok (n : Nat) (M : Mem) (hG : GL M) (b0 : Nat) (A_1 : Option Addr) (hb_1 : (A_1 = none ∨ A_1 = some ⟨b0, 0, none⟩)) (d0_1 : List UInt8) (A_2 : Option Addr) (cap_1 : Nat) (cs_1 : List Value) (hr_1 : RepSeq M (d0_1.map embB) cs_1) (d0_2 : Bool) (d0_3 : Int) (r : List UInt8 × List UInt8 × Bool × Int) (hF : strings_Builder_String_2 n d0_1 d0_2 d0_3 = some r) : OkH Tryz.prog M [Ent.obj b0 (.cells #[.pointer A_1, .slice A_2 d0_1.length cap_1, .bool d0_2, .int .i64 d0_3] 48 (0, 0)), Ent.row 5 1 (.slice A_2 d0_1.length cap_1) d0_1.length cs_1] 27 [.pointer (some (⟨b0, 0, none⟩))] (fun M' E' v => ∃ (A_3 : Option Addr) (A_4 : Option Addr) (cap_2 : Nat), v = S r.1 ∧ E' = [Ent.obj b0 (.cells #[.pointer A_3, .slice A_4 r.2.1.length cap_2, .bool r.2.2.1, .int .i64 r.2.2.2] 48 (0, 0))] ∧ (A_3 = none ∨ A_3 = some ⟨b0, 0, none⟩) ∧ Sli M' 1 embB A_4 cap_2 r.2.1) := by
 unfold strings_Builder_String_2 at hF
 intro M1 hM0 w0 H w p0
 replace hG := GL.mono hM0 hG
 replace hr_1 := RepSeq.mono hM0 _ _ hr_1
 refine R_enter 14 Tryz.func27 rfl rfl (by simp) fun a0 f0 => RR (Y f0 1 fun _ f => eT (R_seq ?_))
 have p_1 := p0.pl [1]
 refine R_mix (E := [Ent.row 5 1 (.slice A_2 d0_1.length cap_1) d0_1.length cs_1]) (Hr := ((Ent.obj b0 (.cells #[.pointer A_1, .slice A_2 d0_1.length cap_1, .bool d0_2, .int .i64 d0_3] 48 (0, 0))) :: H)) [(0, true), (1, true), (2, true), (3, true), (5, true), (6, true), (7, true), (8, true), (9, true), (4, false), (10, false), (11, true)] p_1 (by kernel_rfl) (by kernel_rfl) rfl (by kernel_rfl) (Y0 default f 3 fun _ f => M_eq (v := .slice A_2 d0_1.length cap_1) f (by kernel_rfl) (by kernel_rfl) rfl rfl (fun _ pq => Y31 (v := .slice A_2 d0_1.length cap_1) rfl (ad := ⟨b0, 1, none⟩) (pq.ownCell 0 rfl 1)) fun _ f => Y0 default f 3 fun _ f => M_eq (v := .slice A_2 d0_1.length cap_1) f (by kernel_rfl) (by kernel_rfl) rfl rfl (fun _ pq => Y31 (v := .slice A_2 d0_1.length cap_1) rfl (ad := ⟨b0, 1, none⟩) (pq.ownCell 0 rfl 1)) fun _ f => Y0 default f 1 fun _ f => M_fix (E := [Ent.row 5 1 (.slice A_2 d0_1.length cap_1) d0_1.length cs_1]) fun w_1 p_2 => W_sliceData (v := .slice A_2 d0_1.length cap_1) f p_2 (by kernel_rfl) (by kernel_rfl) rfl rfl rfl (by kernel_rfl) (by kernel_rfl) fun q_1 w_2 p_3 hd_1 _ f => W_end rfl (M_go (M1 := M1) (E := [Ent.row 5 1 (.slice A_2 d0_1.length cap_1) d0_1.length cs_1]) (mR _) p_3 (M_fix (E := [Ent.row 5 1 (.slice A_2 d0_1.length cap_1) d0_1.length cs_1]) fun w_3 p_4 => ?_)))
 refine W_unsafeString (q := q_1) (v := .slice A_2 d0_1.length cap_1) (l := d0_1) (A := A_2) (cap := cap_1) rfl f p_4 hr_1 hd_1 (by kernel_rfl) (by kernel_rfl) rfl rfl rfl (by kernel_rfl) (by kernel_rfl) (by kernel_rfl) (by kernel_rfl) fun M_1 w_4 hM_1 p_5 h_1 _ f => W_end rfl (M_go (M1 := M_1) (E := []) hM_1 p_5 (Y0 default f 1 fun _ f => M_end rfl fun w_5 p_6 => T_n (wp_ret (E_ret1 f rfl (by kernel_rfl : Vc.look _ 2 = some (S d0_1)) ?_))))
 obtain rfl := sI hF
 exact ⟨_, rfl, M_1, _, hM_1, p_6, ⟨A_1, A_2, cap_1, rfl, rfl, hb_1, h_1⟩⟩
def print_text (n : Nat) (d0 : TA0) (d1 : Bool) : Option (List UInt8 × Int) :=
  (tree_Check n d0).bind fun x_1 =>
  bif (!(decide (x_1 = 0))) then
    (some ((([] : List UInt8), x_1)))
  else
    (tree_Sorted n d0).bind fun x_2 =>
    (print_writer_value n ([] : List UInt8) (d1) (0 : Int) x_2).bind fun x_3 =>
    (strings_Builder_Len n x_3.1 (x_3.2.1) x_3.2.2).bind fun x_4 =>
    bif (decide ((32768 : Int) < x_4.1)) then
      (some ((([] : List UInt8), (3 : Int))))
    else
      (strings_Builder_String_2 n x_4.2.1 (x_4.2.2.1) x_4.2.2.2).bind fun x_5 =>
      some ((x_5.1, (0 : Int)))
theorem print_text_ok (n : Nat) (M : Mem) (hG : GL M) (c0 : List Value) (d0 : TA0) (h0 : Rep M (emb_TA0 d0) c0) (d1 : Bool) (r : List UInt8 × Int) (hF : print_text n d0 d1 = some r) : Ok Tryz.prog M 15 [.agg c0.toArray, .bool d1] (fun _ v => v = .tuple #[S r.1, .int .i64 r.2]) := by
 unfold print_text at hF
 intro M1 hM0 w0 H w p0
 replace hG := GL.mono hM0 hG
 replace h0 := Rep.mono hM0 _ _ h0
 obtain ⟨A_1, cap_1, A_2, cap_2, rfl, h_1, h_2⟩ := TA0.opn h0
 refine R_enter 30 Tryz.func15 rfl rfl (by simp) fun a0 f0 => RR (Y12 (cs := #[.int .i8 d0.fKind, .bool d0.fBool, .int .i64 d0.fNum, S d0.fText, .slice A_1 d0.fList.length cap_1, .slice A_2 d0.fKeys.length cap_2]) (T := 26) f0 p0 fun b_1 M_1 w_1 hM_1 hc_1 p_1 _ f => ?_)
 have hc_2 := fz_box hc_1
 refine Y f 2 fun _ f => eT (R_seq (RR (Z (v := .agg #[.int .i8 d0.fKind, .bool d0.fBool, .int .i64 d0.fNum, S d0.fText, .slice A_1 d0.fList.length cap_1, .slice A_2 d0.fKeys.length cap_2]) f (Y32 (cs := [.int .i8 d0.fKind, .bool d0.fBool, .int .i64 d0.fNum, S d0.fText, .slice A_1 d0.fList.length cap_1, .slice A_2 d0.fKeys.length cap_2]) rfl (ad := ⟨b_1, 0, none⟩) (fun j v h => p_1.cell (hc_2 j v h))) fun _ f => ?_)))
 obtain ⟨x_1, hx_1, hF_1⟩ := bS hF
 refine Y17 f p_1 (tree_Check_ok n _ (GL.mono hM_1 hG) _ d0 (TA0.shutx (x := d0) (h_1.mono hM_1) (h_2.mono hM_1)) x_1 hx_1) fun w_2 p_2 _ f => Y f 1 fun _ f => eT (RR (Y f 2 fun _ f => eT (RcF f hF_1 (fun h_3 hF_2 => ?_) fun h_3 hF_3 => ?_)))
 ·have k_1 : ¬ (x_1 = 0) := (not_iff dI).1 h_3
  refine RR (Y f 3 fun _ f => eT (wp_ret (T_r (E_ret2 f rfl (by kernel_rfl : Vc.look _ 4 = some (S [])) (by kernel_rfl : Vc.look _ 5 = some (.int .i64 x_1)) ?_))))
  obtain rfl := sI hF_2
  exact ⟨_, rfl, M_1, hM_1, p_2, rfl⟩
 ·have k_2 : ¬ (¬ (x_1 = 0)) := iff_f (not_iff dI) h_3
  refine wp_skip (T_n (RR (Y f 2 fun _ f => Y11 f p_2 (.cells #[.pointer none, .slice none 0 0, .bool d1, .int .i64 0] 48 (0, 0)) fun b_2 w_3 p_3 _ f => Y f 1 fun _ f => eT (RR (Z (v := .agg #[.int .i8 d0.fKind, .bool d0.fBool, .int .i64 d0.fNum, S d0.fText, .slice A_1 d0.fList.length cap_1, .slice A_2 d0.fKeys.length cap_2]) f (Y32 (cs := [.int .i8 d0.fKind, .bool d0.fBool, .int .i64 d0.fNum, S d0.fText, .slice A_1 d0.fList.length cap_1, .slice A_2 d0.fKeys.length cap_2]) rfl (ad := ⟨b_1, 0, none⟩) (fun j v h => p_3.cell (hc_2 j v h))) fun _ f => ?_)))))
  obtain ⟨x_2, hx_2, hF_4⟩ := bS hF_3
  refine Y15 f p_3 (tree_Sorted_ok n _ (GL.mono hM_1 hG) _ d0 (TA0.shutx (x := d0) (h_1.mono hM_1) (h_2.mono hM_1)) x_2 hx_2) fun _ M_2 w_4 hM_2 p_4 q_1 _ f => ?_
  obtain ⟨c_1, rfl, hr_1⟩ := q_1
  obtain ⟨A_3, cap_3, A_4, cap_4, rfl, h_4, h_5⟩ := TA0.opn hr_1
  refine Y11 f p_4 (.cells #[.int .i8 0, .bool false, .int .i64 0, S [], .slice none 0 0, .slice none 0 0] 26 (0, 0)) fun b_3 w_5 p_5 _ f => Y27 (vs := [.int .i8 x_2.fKind, .bool x_2.fBool, .int .i64 x_2.fNum, S x_2.fText, .slice A_3 x_2.fList.length cap_3, .slice A_4 x_2.fKeys.length cap_4]) (j := 0) f p_5 rfl rfl (by simp [Value.oneCell', S]) (by simp) (by decide) (cs' := #[.int .i8 x_2.fKind, .bool x_2.fBool, .int .i64 x_2.fNum, S x_2.fText, .slice A_3 x_2.fList.length cap_3, .slice A_4 x_2.fKeys.length cap_4]) fun w_6 p_6 _ f => eT (RR (Y f 1 fun _ f => ?_))
  obtain ⟨M_3, hM_3, p_7, hc_3⟩ := p_6.fzOwn
  obtain ⟨A_5, cap_5, hv_1⟩ : ∃ A cap, Value.slice none 0 0 = .slice A ([] : List UInt8).length cap := ⟨none, 0, rfl⟩
  have p_8 : Hp w0 M_3 ((Ent.row 5 1 (.slice A_5 ([] : List UInt8).length cap_5) ([] : List UInt8).length []) :: (Ent.obj b_2 (.cells #[.pointer none, .slice A_5 ([] : List UInt8).length cap_5, .bool d1, .int .i64 0] 48 (0, 0))) :: H) w_6 := by rw [← hv_1]; exact p_7.nilRow 5 1
  have hr_2 : RepSeq M_3 (([] : List UInt8).map embB) [] := rfl
  obtain ⟨x_3, hx_3, hF_5⟩ := bS hF_4
  have p_10 := p_8.pl [1]
  refine Y16 (E := [Ent.obj b_2 (.cells #[.pointer none, .slice A_5 ([] : List UInt8).length cap_5, .bool d1, .int .i64 0] 48 (0, 0)), Ent.row 5 1 (.slice A_5 ([] : List UInt8).length cap_5) ([] : List UInt8).length []]) (H := (H)) f p_10 (print_writer_value_ok n _ (GL.mono ((hM_1.trans hM_2).trans hM_3) hG) b_2 none (.inl rfl) ([] : List UInt8) A_5 cap_5 [] hr_2 (d1) (0 : Int) (⟨b_3, 0, none⟩) [.int .i8 x_2.fKind, .bool x_2.fBool, .int .i64 x_2.fNum, S x_2.fText, .slice A_3 x_2.fList.length cap_3, .slice A_4 x_2.fKeys.length cap_4] x_2 (TA0.shutx (x := x_2) (h_4.mono hM_3) (h_5.mono hM_3)) (fz_at (hc_3) 0 rfl) x_3 hx_3) fun _ M_4 E_1 w_7 hM_4 p_9 q_2 _ f => ?_
  obtain ⟨A_6, A_7, cap_6, cs_1, rfl, rfl, hb_1, hr_3⟩ := q_2
  refine eT (R_seq (RR (Y f 3 fun _ f => ?_)))
  obtain ⟨x_4, hx_4, hF_6⟩ := bS hF_5
  refine Y16 (E := [Ent.obj b_2 (.cells #[.pointer A_6, .slice A_7 x_3.1.length cap_6, .bool x_3.2.1, .int .i64 x_3.2.2] 48 (0, 0)), Ent.row 5 1 (.slice A_7 x_3.1.length cap_6) x_3.1.length cs_1]) (H := (H)) f p_9 (strings_Builder_Len_ok n _ (GL.mono (((hM_1.trans hM_2).trans hM_3).trans hM_4) hG) b_2 A_6 hb_1 x_3.1 A_7 cap_6 cs_1 hr_3 (x_3.2.1) x_3.2.2 x_4 hx_4) fun _ M_5 E_2 w_8 hM_5 p_11 q_3 _ f => ?_
  obtain ⟨A_8, A_9, cap_7, cs_2, rfl, rfl, hb_2, hr_4⟩ := q_3
  refine Y f 1 fun _ f => eT (RcF f hF_6 (fun h_6 hF_7 => ?_) fun h_6 hF_8 => ?_)
  ·have k_3 := dI.1 h_6
   refine RR (Y f 2 fun _ f => eT (wp_ret (T_r (E_ret2 f rfl (by kernel_rfl : Vc.look _ 4 = some (S [])) (by kernel_rfl : Vc.look _ 5 = some (.int .i64 3)) ?_))))
   obtain rfl := sI hF_7
   exact ⟨_, rfl, M_5, ((((hM_1.trans hM_2).trans hM_3).trans hM_4).trans hM_5), (p_11.dropN 2), rfl⟩
  ·have k_4 := iff_f dI h_6
   refine wp_skip (T_n (RR (Y f 3 fun _ f => ?_)))
   obtain ⟨x_5, hx_5, hF_9⟩ := bS hF_8
   refine Y16 (E := [Ent.obj b_2 (.cells #[.pointer A_8, .slice A_9 x_4.2.1.length cap_7, .bool x_4.2.2.1, .int .i64 x_4.2.2.2] 48 (0, 0)), Ent.row 5 1 (.slice A_9 x_4.2.1.length cap_7) x_4.2.1.length cs_2]) (H := (H)) f p_11 (strings_Builder_String_2_ok n _ (GL.mono ((((hM_1.trans hM_2).trans hM_3).trans hM_4).trans hM_5) hG) b_2 A_8 hb_2 x_4.2.1 A_9 cap_7 cs_2 hr_4 (x_4.2.2.1) x_4.2.2.2 x_5 hx_5) fun _ M_6 E_3 w_9 hM_6 p_12 q_4 _ f => ?_
   obtain ⟨A_10, A_11, cap_8, rfl, rfl, hb_3, h_7⟩ := q_4
   refine Y f 2 fun _ f => eT (wp_ret (E_ret2 f rfl (by kernel_rfl : Vc.look _ 4 = some (S x_5.1)) (by kernel_rfl : Vc.look _ 5 = some (.int .i64 0)) ?_))
   obtain rfl := sI hF_9
   exact ⟨_, rfl, M_6, (((((hM_1.trans hM_2).trans hM_3).trans hM_4).trans hM_5).trans hM_6), (p_12.dropN 1), rfl⟩
def print_Print (n : Nat) (d0 : TA0) : Option (List UInt8 × Int) :=
  (print_text n d0 (false)).bind fun x_1 =>
  some ((x_1.1, x_1.2))
theorem print_Print_ok (n : Nat) (M : Mem) (hG : GL M) (c0 : List Value) (d0 : TA0) (h0 : Rep M (emb_TA0 d0) c0) (r : List UInt8 × Int) (hF : print_Print n d0 = some r) : Ok Tryz.prog M 6 [.agg c0.toArray] (fun _ v => v = .tuple #[S r.1, .int .i64 r.2]) := by
 unfold print_Print at hF
 intro M1 hM0 w0 H w p0
 replace hG := GL.mono hM0 hG
 replace h0 := Rep.mono hM0 _ _ h0
 obtain ⟨A_1, cap_1, A_2, cap_2, rfl, h_1, h_2⟩ := TA0.opn h0
 refine R_enter 8 Tryz.func6 rfl rfl (by simp) fun a0 f0 => RR (Y12 (cs := #[.int .i8 d0.fKind, .bool d0.fBool, .int .i64 d0.fNum, S d0.fText, .slice A_1 d0.fList.length cap_1, .slice A_2 d0.fKeys.length cap_2]) (T := 26) f0 p0 fun b_1 M_1 w_1 hM_1 hc_1 p_1 _ f => ?_)
 have hc_2 := fz_box hc_1
 refine Y f 2 fun _ f => eT (RR (Z (v := .agg #[.int .i8 d0.fKind, .bool d0.fBool, .int .i64 d0.fNum, S d0.fText, .slice A_1 d0.fList.length cap_1, .slice A_2 d0.fKeys.length cap_2]) f (Y32 (cs := [.int .i8 d0.fKind, .bool d0.fBool, .int .i64 d0.fNum, S d0.fText, .slice A_1 d0.fList.length cap_1, .slice A_2 d0.fKeys.length cap_2]) rfl (ad := ⟨b_1, 0, none⟩) (fun j v h => p_1.cell (hc_2 j v h))) fun _ f => ?_))
 obtain ⟨x_1, hx_1, hF_1⟩ := bS hF
 refine Y17 f p_1 (print_text_ok n _ (GL.mono hM_1 hG) _ d0 (TA0.shutx (x := d0) (h_1.mono hM_1) (h_2.mono hM_1)) (false) x_1 hx_1) fun w_2 p_2 _ f => Y f 4 fun _ f => eT (wp_ret (E_ret2 f rfl (by kernel_rfl : Vc.look _ 2 = some (S x_1.1)) (by kernel_rfl : Vc.look _ 3 = some (.int .i64 x_1.2)) ?_))
 obtain rfl := sI hF_1
 exact ⟨_, rfl, M_1, hM_1, p_2, rfl⟩
def print_Broad (n : Nat) (d0 : TA0) : Option (List UInt8 × Int) :=
  (print_text n d0 (true)).bind fun x_1 =>
  some ((x_1.1, x_1.2))
theorem print_Broad_ok (n : Nat) (M : Mem) (hG : GL M) (c0 : List Value) (d0 : TA0) (h0 : Rep M (emb_TA0 d0) c0) (r : List UInt8 × Int) (hF : print_Broad n d0 = some r) : Ok Tryz.prog M 8 [.agg c0.toArray] (fun _ v => v = .tuple #[S r.1, .int .i64 r.2]) := by
 unfold print_Broad at hF
 intro M1 hM0 w0 H w p0
 replace hG := GL.mono hM0 hG
 replace h0 := Rep.mono hM0 _ _ h0
 obtain ⟨A_1, cap_1, A_2, cap_2, rfl, h_1, h_2⟩ := TA0.opn h0
 refine R_enter 8 Tryz.func8 rfl rfl (by simp) fun a0 f0 => RR (Y12 (cs := #[.int .i8 d0.fKind, .bool d0.fBool, .int .i64 d0.fNum, S d0.fText, .slice A_1 d0.fList.length cap_1, .slice A_2 d0.fKeys.length cap_2]) (T := 26) f0 p0 fun b_1 M_1 w_1 hM_1 hc_1 p_1 _ f => ?_)
 have hc_2 := fz_box hc_1
 refine Y f 2 fun _ f => eT (RR (Z (v := .agg #[.int .i8 d0.fKind, .bool d0.fBool, .int .i64 d0.fNum, S d0.fText, .slice A_1 d0.fList.length cap_1, .slice A_2 d0.fKeys.length cap_2]) f (Y32 (cs := [.int .i8 d0.fKind, .bool d0.fBool, .int .i64 d0.fNum, S d0.fText, .slice A_1 d0.fList.length cap_1, .slice A_2 d0.fKeys.length cap_2]) rfl (ad := ⟨b_1, 0, none⟩) (fun j v h => p_1.cell (hc_2 j v h))) fun _ f => ?_))
 obtain ⟨x_1, hx_1, hF_1⟩ := bS hF
 refine Y17 f p_1 (print_text_ok n _ (GL.mono hM_1 hG) _ d0 (TA0.shutx (x := d0) (h_1.mono hM_1) (h_2.mono hM_1)) (true) x_1 hx_1) fun w_2 p_2 _ f => Y f 4 fun _ f => eT (wp_ret (E_ret2 f rfl (by kernel_rfl : Vc.look _ 2 = some (S x_1.1)) (by kernel_rfl : Vc.look _ 3 = some (.int .i64 x_1.2)) ?_))
 obtain rfl := sI hF_1
 exact ⟨_, rfl, M_1, hM_1, p_2, rfl⟩
def print_Len (n : Nat) (d0 : TA0) : Option Int :=
  (print_Print n d0).bind fun x_1 =>
  some ((x_1.1.length : Int))
theorem print_Len_ok (n : Nat) (M : Mem) (hG : GL M) (c0 : List Value) (d0 : TA0) (h0 : Rep M (emb_TA0 d0) c0) (r : Int) (hF : print_Len n d0 = some r) : Ok Tryz.prog M 10 [.agg c0.toArray] (fun _ v => v = .int .i64 r) := by
 unfold print_Len at hF
 intro M1 hM0 w0 H w p0
 replace hG := GL.mono hM0 hG
 replace h0 := Rep.mono hM0 _ _ h0
 obtain ⟨A_1, cap_1, A_2, cap_2, rfl, h_1, h_2⟩ := TA0.opn h0
 refine R_enter 12 Tryz.func10 rfl rfl (by simp) fun a0 f0 => RR (Y12 (cs := #[.int .i8 d0.fKind, .bool d0.fBool, .int .i64 d0.fNum, S d0.fText, .slice A_1 d0.fList.length cap_1, .slice A_2 d0.fKeys.length cap_2]) (T := 26) f0 p0 fun b_1 M_1 w_1 hM_1 hc_1 p_1 _ f => ?_)
 have hc_2 := fz_box hc_1
 refine Y f 1 fun _ f => eT (RR (Z (v := .agg #[.int .i8 d0.fKind, .bool d0.fBool, .int .i64 d0.fNum, S d0.fText, .slice A_1 d0.fList.length cap_1, .slice A_2 d0.fKeys.length cap_2]) f (Y32 (cs := [.int .i8 d0.fKind, .bool d0.fBool, .int .i64 d0.fNum, S d0.fText, .slice A_1 d0.fList.length cap_1, .slice A_2 d0.fKeys.length cap_2]) rfl (ad := ⟨b_1, 0, none⟩) (fun j v h => p_1.cell (hc_2 j v h))) fun _ f => ?_))
 obtain ⟨x_1, hx_1, hF_1⟩ := bS hF
 refine Y17 f p_1 (print_Print_ok n _ (GL.mono hM_1 hG) _ d0 (TA0.shutx (x := d0) (h_1.mono hM_1) (h_2.mono hM_1)) x_1 hx_1) fun w_2 p_2 _ f => Y f 5 fun _ f => eT (RR (Y f 3 fun _ f => eT (wp_ret (E_ret1 f rfl (by kernel_rfl : Vc.look _ 2 = some (.int .i64 (x_1.1.length : Int))) ?_))))
 obtain rfl := sI hF_1
 exact ⟨_, rfl, M_1, hM_1, p_2, rfl⟩
end Go.Proofs.YtfaedhhjamaniaaGreatDoor
end
