/-
  Chapter 12, plain: first places. Own work.
-/
import Derived.Test.YtdmjgmleilgbpaaDoorSubPlain1
namespace Go.Proofs.YtdmjgmleilgbpaaDoor
open Go Go.Vc

theorem loop_find {α β : Type} {step : Int → Option (Lp Int β)} (d : α) (xs : List α) (q : α → Bool) (b : Nat → β) (e : β)
    (hs : ∀ k : Nat, k < xs.length → step (k : Int) = if q (xs.getD k d) then some (.br (b k)) else some (.nx ((k : Int) + 1))) (he : step (xs.length : Int) = some (.br e)) :
    ∀ (m k : Nat), k + m = xs.length → ∀ n, m < n → loopF step n (k : Int) = some (match (xs.drop k).findIdx? q with | some i => b (k + i) | none => e)
  | 0, k, hk, n, hn => by
    obtain ⟨n, rfl⟩ : ∃ r, n = r + 1 := ⟨n - 1, by omega⟩
    have : k = xs.length := by omega
    subst this
    simp [loopF, he]
  | m + 1, k, hk, n, hn => by
    obtain ⟨n, rfl⟩ : ∃ r, n = r + 1 := ⟨n - 1, by omega⟩
    have hlt : k < xs.length := by omega
    have h1 := hs k hlt
    have h2 : xs.drop k = xs.getD k d :: xs.drop (k + 1) := by
      rw [List.drop_eq_getElem_cons hlt]
      simp [List.getD, hlt]
    rw [loopF, h1, h2, List.findIdx?_cons]
    cases hq : q (xs.getD k d) with
    | true => simp
    | false =>
      have ih := loop_find d xs q b e hs he m (k + 1) (by omega) n (by omega)
      have e1 : (((k + 1 : Nat)) : Int) = (k : Int) + 1 := by omega
      rw [e1] at ih
      simp only [Bool.false_eq_true, if_false, Option.bind_some]
      rw [ih]
      cases (xs.drop (k + 1)).findIdx? q with
      | none => rfl
      | some i => simp [Nat.add_assoc, Nat.add_comm 1 i]

theorem byteEq (c : UInt8) (z : Int) (m : UInt8) (hm : z = (m.toNat : Int)) : decide ((c.toNat : Int) = z) = (c == m) := by
  rw [Bool.eq_iff_iff, decide_eq_true_iff, beq_iff_eq]
  rw [hm]
  constructor
  · intro h
    exact UInt8.toNat_inj.1 (by omega)
  · intro h
    rw [h]
theorem shut_ref {n k : Nat} {s : List UInt8} (hk : k ≤ s.length) (hn : s.length < n) (hs : s.length < 1000000) :
    ref12_shut n s (k : Int) = some (match (s.drop k).findIdx? (· == 125) with | some i => ((k + i : Nat) : Int) | none => -1) := by
  unfold ref12_shut
  rw [loop_find (step := ref12_shut_s1 n s) 0 s (· == 125) (fun i => .inl ((i : Nat) : Int)) (.inr ()) (fun i hi => by
    unfold ref12_shut_s1
    rw [decide_eq_true (by omega : (i : Int) < (s.length : Int)), cT, getI_at 0 hi, bnd, byteEq _ 125 125 rfl]
    by_cases h : (s.getD i 0 == (125 : UInt8)) = true
    · rw [h, cT, if_pos rfl]
    · rw [(by simpa using h : (s.getD i 0 == (125 : UInt8)) = false), cF, if_neg (by decide), need_i (by omega) (by omega)]) (by
    unfold ref12_shut_s1
    rw [decide_eq_false (by omega), cF]) (s.length - k) k (by omega) n (by omega), bnd]
  cases (s.drop k).findIdx? (· == 125) <;> rfl
theorem dot_ref {n : Nat} {s : List UInt8} (hn : s.length < n) (hs : s.length < 1000000) :
    ref12_dot n s = some (match s.findIdx? (· == 46) with | some i => ((i : Nat) : Int) | none => -1) := by
  unfold ref12_dot
  have := loop_find (step := ref12_dot_s1 n s) 0 s (· == 46) (fun i => .inl ((i : Nat) : Int)) (.inr ()) (fun i hi => by
    unfold ref12_dot_s1
    rw [decide_eq_true (by omega : (i : Int) < (s.length : Int)), cT, getI_at 0 hi, bnd, byteEq _ 46 46 rfl]
    by_cases h : (s.getD i 0 == (46 : UInt8)) = true
    · rw [h, cT, if_pos rfl]
    · rw [(by simpa using h : (s.getD i 0 == (46 : UInt8)) = false), cF, if_neg (by decide), need_i (by omega) (by omega)]) (by
    unfold ref12_dot_s1
    rw [decide_eq_false (by omega), cF]) s.length 0 (by omega) n (by omega)
  have e0 : ((0 : Nat) : Int) = 0 := rfl
  rw [e0, List.drop_zero] at this
  rw [this, bnd]
  cases s.findIdx? (· == 46) with
  | none => rfl
  | some i => simp
end Go.Proofs.YtdmjgmleilgbpaaDoor
