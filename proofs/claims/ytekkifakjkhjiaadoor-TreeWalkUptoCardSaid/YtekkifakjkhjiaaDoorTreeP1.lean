/-
  Chapter 3 in plain Lean: what the weight tells. Own work.
-/
import Derived.Test.YtekkifakjkhjiaaDoorQ2a
import Derived.Test.YtekkifakjkhjiaaDoorWalkIt
import Derived.Test.YtekkifakjkhjiaaDoorVp
namespace Go.Proofs.YtekkifakjkhjiaaDoor
open Go Go.Vc Go.RowKit

/-- A tree of bounded height and width. -/
def Small : Nat → T_api_Value → Prop
  | 0, _ => False
  | d + 1, v => v.fList.length ≤ 3000 ∧ v.fKeys.length ≤ 3000 ∧ v.fText.length ≤ 5000 ∧ (∀ k ∈ v.fKeys, k.length ≤ 5000) ∧ ∀ x ∈ v.fList, Small d x
theorem walkVs_app : ∀ (l m : List T_api_Value), walkVs (l ++ m) = walkVs l ++ walkVs m
  | [], m => by simp [walkVs]
  | x :: r, m => by simp [walkVs, walkVs_app r m]
theorem walkVs_take {l : List T_api_Value} {i : Nat} {x : T_api_Value} (h : l[i]? = some x) : walkVs (l.take (i + 1)) = walkVs (l.take i) ++ walkV x := by
  rw [List.take_add_one, h, walkVs_app]
  simp [walkVs]

theorem weight_ok {n : Nat} (hn : 3000 < n) : ∀ (k d : Nat) (v : T_api_Value), d < k → d ≤ 1000 → ∃ W : Int, ref03_weight_k n k v (d : Int) = some W ∧ 0 ≤ W ∧ W ≤ 30010001 + 10000 * d ∧ (W ≤ 5000 → Small d v ∧ ((walkV v).length : Int) ≤ W)
  | 0, d, v, h, _ => absurd h (by omega)
  | k + 1, d, v, h, hd => by
    show ∃ W : Int, ref03_weight_b n (ref03_weight_k n k) v (d : Int) = some W ∧ _
    unfold ref03_weight_b
    by_cases h0 : d = 0 ∨ 3000 < v.fList.length ∨ 3000 < v.fKeys.length
    · have e : (bif decide ((d : Int) = 0) then some true else bif decide ((3000 : Int) < ((v.fList.length : Nat) : Int)) then some true else some (decide ((3000 : Int) < ((v.fKeys.length : Nat) : Int))) : Option Bool) = some true := by
        by_cases a : (d : Int) = 0
        · rw [decide_eq_true a, cT]
        · rw [decide_eq_false a, cF]
          by_cases b : (3000 : Int) < ((v.fList.length : Nat) : Int)
          · rw [decide_eq_true b, cT]
          · rw [decide_eq_false b, cF, decide_eq_true (by omega)]
      rw [e, bnd, cT]
      exact ⟨10000, rfl, by omega, by omega, fun h => absurd h (by omega)⟩
    · have e : (bif decide ((d : Int) = 0) then some true else bif decide ((3000 : Int) < ((v.fList.length : Nat) : Int)) then some true else some (decide ((3000 : Int) < ((v.fKeys.length : Nat) : Int))) : Option Bool) = some false := by
        rw [decide_eq_false (by omega), cF, decide_eq_false (by omega), cF, decide_eq_false (by omega)]
      rw [e, bnd, cF]
      obtain ⟨base, hbase⟩ : ∃ base : Int, base = (1 : Int) + (min (v.fText.length : Int) (10000 : Int)) := ⟨_, rfl⟩
      rw [← hbase, need_i (by omega) (by omega)]
      obtain ⟨y, hy, hy1, hy2, hy3⟩ := loop_inv (step := ref03_weight_s1 n v) (n := n) (s0 := (base, (0 : Int)))
        (fun k s => s.2 = (k : Int) ∧ base ≤ s.1 ∧ s.1 ≤ base + 10000 * k ∧ (s.1 ≤ 5000 → ∀ j, j < k → (v.fKeys.getD j []).length ≤ 5000))
        (fun b => base ≤ b ∧ b ≤ base + 10000 * v.fKeys.length ∧ (b ≤ 5000 → ∀ j, j < v.fKeys.length → (v.fKeys.getD j []).length ≤ 5000)) v.fKeys.length
        ⟨rfl, Int.le_refl _, by simp, fun _ j hj => absurd hj (by omega)⟩
        (fun q s hq hI => by
          obtain ⟨t, i⟩ := s
          obtain ⟨h1, h2, h3, h4⟩ := hI
          have h1' : i = (q : Int) := h1
          subst h1'
          left
          refine ⟨(t + min ((v.fKeys.getD q []).length : Int) 10000, (q : Int) + 1), ?_, by simp, ?_, ?_, ?_⟩
          · show ref03_weight_s1 n v (t, (q : Int)) = _
            unfold ref03_weight_s1
            dsimp only at h2 h3 ⊢
            rw [decide_eq_true (by omega), cT, getI_at [] hq, bnd, need_i (by omega) (by omega), need_i (by omega) (by omega)]
          · dsimp only at h2 ⊢; omega
          · dsimp only at h3 ⊢; push_cast; omega
          · dsimp only at h4 ⊢
            intro hle j hj
            by_cases hjq : j = q
            · subst hjq; omega
            · exact h4 (by omega) j (by omega))
        (fun s hI => by
          obtain ⟨t, i⟩ := s
          obtain ⟨h1, h2, h3, h4⟩ := hI
          have h1' : i = (v.fKeys.length : Int) := h1
          subst h1'
          refine ⟨t, ?_, h2, h3, h4⟩
          unfold ref03_weight_s1
          dsimp only
          rw [decide_eq_false (by omega), cF])
        (by omega)
      rw [hy, bnd]
      obtain ⟨z, hz, hz1, hz2, hz3⟩ := loop_inv (step := ref03_weight_s2 n (ref03_weight_k n k) v (d : Int)) (n := n) (s0 := (y, (0 : Int)))
        (fun k s => s.2 = (k : Int) ∧ y ≤ s.1 ∧ s.1 ≤ 30010001 + 10000 * d ∧ (s.1 ≤ 5000 → (∀ j x, j < k → v.fList[j]? = some x → Small (d - 1) x) ∧ ((walkVs (v.fList.take k)).length : Int) + 1 ≤ s.1))
        (fun b => y ≤ b ∧ b ≤ 30010001 + 10000 * d ∧ (b ≤ 5000 → (∀ j x, j < v.fList.length → v.fList[j]? = some x → Small (d - 1) x) ∧ ((walkVs v.fList).length : Int) + 1 ≤ b)) v.fList.length
        ⟨rfl, Int.le_refl _, by omega, fun _ => ⟨fun j x hj => absurd hj (by omega), by simp [walkVs]; omega⟩⟩
        (fun q s hq hI => by
          obtain ⟨t, i⟩ := s
          obtain ⟨h1, h2, h3, h4⟩ := hI
          have h1' : i = (q : Int) := h1
          subst h1'
          dsimp only at h2 h3 h4
          by_cases ht : t ≤ 10000
          · left
            have hx : v.fList[q]? = some v.fList[q] := List.getElem?_eq_getElem hq
            obtain ⟨W, w1, w2, w3, w4⟩ := weight_ok hn k (d - 1) v.fList[q] (by omega) (by omega)
            have hd1 : ((d - 1 : Nat) : Int) = (d : Int) - 1 := by omega
            rw [hd1] at w1
            refine ⟨(t + W, (q : Int) + 1), ?_, by simp, ?_, ?_, ?_⟩
            · show ref03_weight_s2 n (ref03_weight_k n k) v (d : Int) (t, (q : Int)) = _
              unfold ref03_weight_s2
              dsimp only
              have hg : getI v.fList (q : Int) = some v.fList[q] := by simp [getI]
              rw [decide_eq_true (by omega), cT, bnd, decide_eq_true ht, cT, hg, bnd, need_i (by omega) (by omega), w1, bnd, need_i (by omega) (by omega), need_i (by omega) (by omega)]
            · dsimp only; omega
            · dsimp only; omega
            · dsimp only
              intro hle
              obtain ⟨s1, s2⟩ := h4 (by omega)
              obtain ⟨c1, c2⟩ := w4 (by omega)
              refine ⟨fun j x hj hjx => ?_, ?_⟩
              · by_cases hjq : j = q
                · subst hjq
                  rw [hx] at hjx
                  exact Option.some.inj hjx ▸ c1
                · exact s1 j x (by omega) hjx
              · rw [walkVs_take hx, List.length_append]
                omega
          · right
            refine ⟨t, ?_, h2, h3, fun hle => absurd hle (by omega)⟩
            unfold ref03_weight_s2
            dsimp only
            rw [decide_eq_true (by omega), cT, bnd, decide_eq_false ht, cF])
        (fun s hI => by
          obtain ⟨t, i⟩ := s
          obtain ⟨h1, h2, h3, h4⟩ := hI
          have h1' : i = (v.fList.length : Int) := h1
          subst h1'
          dsimp only at h2 h3 h4
          rw [List.take_length] at h4
          refine ⟨t, ?_, h2, h3, h4⟩
          unfold ref03_weight_s2
          dsimp only
          rw [decide_eq_false (by omega), cF, bnd, cF])
        (by omega)
      rw [hz, bnd]
      refine ⟨z, rfl, by omega, hz2, fun hle => ?_⟩
      obtain ⟨s1, s2⟩ := hz3 hle
      have s3 := hy3 (by omega)
      obtain ⟨d, rfl⟩ : ∃ e, d = e + 1 := ⟨d - 1, by omega⟩
      refine ⟨⟨by omega, by omega, by omega, fun q hq => ?_, fun x hx => ?_⟩, ?_⟩
      · obtain ⟨j, hj, rfl⟩ := List.getElem_of_mem hq
        have := s3 j hj
        simpa [hj] using this
      · obtain ⟨j, hj, rfl⟩ := List.getElem_of_mem hx
        exact s1 j _ hj (List.getElem?_eq_getElem hj)
      · rw [walkV_eq, List.length_cons]
        push_cast
        omega
end Go.Proofs.YtekkifakjkhjiaaDoor
