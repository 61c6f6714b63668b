/-
  The plain kit: what the shallow readings' loops compute. Own work.
-/
import Derived.Test.YtfdmlionhbeebaaVkA
namespace Go.Vc
open Go

theorem bnd {α β : Type} (x : α) (f : α → Option β) : (some x).bind f = f x := (Option.bind_some x f).trans (Eq.refl _)
theorem cT {α : Type} (x y : α) : (bif true then x else y) = x := (cond_true x y).trans (Eq.refl _)
theorem cF {α : Type} (x y : α) : (bif false then x else y) = y := (cond_false x y).trans (Eq.refl _)
theorem getI_at {α : Type} {xs : List α} {k : Nat} (d : α) (h : k < xs.length) : getI xs (k : Int) = some (xs.getD k d) := by
  unfold getI
  rw [if_pos (by omega)]
  simp [List.getD, h]
theorem getI_in {α : Type} {xs : List α} {i : Int} (d : α) (h0 : 0 ≤ i) (h : i < xs.length) : getI xs i = some (xs.getD i.toNat d) := by
  obtain ⟨k, rfl⟩ := Int.eq_ofNat_of_zero_le h0
  exact getI_at d (by omega)
theorem inR_small {x : Int} (h0 : -1000000000000 ≤ x) (h1 : x ≤ 1000000000000) : inR .i64 x := inR_mk.2 ⟨by omega, by omega⟩
theorem need_i {α : Type} {x : Int} {y : Option α} (h0 : -1000000000000 ≤ x) (h1 : x ≤ 1000000000000) : need (inR .i64 x) y = y := need_t (inR_small h0 h1)

section
variable {σ β : Type} {step : σ → Option (Lp σ β)} {n : Nat}
/-- A loop whose k-th state is f k, that may break off. -/
theorem loop_run (f : Nat → σ) (p : Nat → Option β) (len : Nat) (e : β) (hs : ∀ k, k < len → step (f k) = some (match p k with | some b => .br b | none => .nx (f (k + 1)))) (he : step (f len) = some (.br e)) (hn : len < n) :
    loopF step n (f 0) = some (((List.range len).findSome? p).getD e) := by
  have key : ∀ m k, k + m = len → ∀ n, m < n → loopF step n (f k) = some (((List.range' k m).findSome? p).getD e) := by
    intro m
    induction m with
    | zero =>
      intro k hk n hn
      obtain ⟨n, rfl⟩ : ∃ q, n = q + 1 := ⟨n - 1, by omega⟩
      have : k = len := by omega
      subst this
      simp [loopF, he]
    | succ m ih =>
      intro k hk n hn
      obtain ⟨n, rfl⟩ : ∃ q, n = q + 1 := ⟨n - 1, by omega⟩
      have h1 := hs k (by omega)
      rw [loopF, h1, Option.bind_some, List.range'_succ, List.findSome?_cons]
      cases p k with
      | some b => rfl
      | none => exact ih (k + 1) (by omega) n (by omega)
  have := key len 0 (by omega) n hn
  rwa [← List.range_eq_range'] at this
/-- .. that never does. -/
theorem loop_all (f : Nat → σ) (len : Nat) (e : β) (hs : ∀ k, k < len → step (f k) = some (.nx (f (k + 1)))) (he : step (f len) = some (.br e)) (hn : len < n) : loopF step n (f 0) = some e := by
  have := loop_run f (fun _ => none) len e hs he hn
  rw [this]
  have : (List.range len).findSome? (fun _ => (none : Option β)) = none := by simp
  rw [this]; rfl
/-- A loop over places, that breaks off at the first one that q lets. -/
theorem loop_any {step : Int → Option (Lp Int β)} (q : Nat → Bool) (len : Nat) (b e : β) (hs : ∀ k : Nat, k < len → step (k : Int) = if q k then some (.br b) else some (.nx ((k : Int) + 1))) (he : step (len : Int) = some (.br e)) (hn : len < n) :
    loopF step n 0 = some (bif (List.range len).any q then b else e) := by
  have := loop_run (n := n) (fun k => (k : Int)) (fun k => if q k then some b else none) len e (fun k hk => by
    rw [hs k hk]
    by_cases h : q k = true <;> simp [h]) he hn
  have e0 : ((0 : Nat) : Int) = 0 := rfl
  simp only [e0] at this
  rw [this]
  congr 1
  cases h : (List.range len).any q with
  | true =>
    cases h2 : (List.range len).findSome? (fun k => if q k = true then some b else none) with
    | some x =>
      obtain ⟨k, hk, hx⟩ := List.exists_of_findSome?_eq_some h2
      by_cases hq : q k = true
      · simp [hq] at hx; simp [hx]
      · simp [hq] at hx
    | none =>
      rw [List.findSome?_eq_none_iff] at h2
      obtain ⟨k, hk, hq⟩ := List.any_eq_true.1 h
      have := h2 k hk
      simp [hq] at this
  | false =>
    have : (List.range len).findSome? (fun k => if q k = true then some b else none) = none := by
      rw [List.findSome?_eq_none_iff]
      intro k hk
      have := List.any_eq_false.1 h k hk
      simp [this]
    rw [this]; rfl
/-- An invariant and a bound. -/
theorem loop_inv (I : Nat → σ → Prop) (post : β → Prop) (len : Nat) {s0 : σ} (h0 : I 0 s0)
    (hs : ∀ k s, k < len → I k s → (∃ s', step s = some (.nx s') ∧ I (k + 1) s') ∨ ∃ b, step s = some (.br b) ∧ post b)
    (he : ∀ s, I len s → ∃ b, step s = some (.br b) ∧ post b) (hn : len < n) : ∃ b, loopF step n s0 = some b ∧ post b := by
  have key : ∀ m k s, k + m = len → I k s → ∀ n, m < n → ∃ b, loopF step n s = some b ∧ post b := by
    intro m
    induction m with
    | zero =>
      intro k s hk hI n hn
      obtain ⟨n, rfl⟩ : ∃ q, n = q + 1 := ⟨n - 1, by omega⟩
      have : k = len := by omega
      subst this
      obtain ⟨b, h1, h2⟩ := he s hI
      exact ⟨b, by simp [loopF, h1], h2⟩
    | succ m ih =>
      intro k s hk hI n hn
      obtain ⟨n, rfl⟩ : ∃ q, n = q + 1 := ⟨n - 1, by omega⟩
      rcases hs k s (by omega) hI with ⟨s', h1, h2⟩ | ⟨b, h1, h2⟩
      · obtain ⟨b, h3, h4⟩ := ih (k + 1) s' (by omega) h2 n (by omega)
        exact ⟨b, by simp [loopF, h1, h3], h4⟩
      · exact ⟨b, by simp [loopF, h1], h2⟩
  exact key len 0 s0 (by omega) h0 n hn
/-- A loop whose measure falls. -/
theorem loop_meas (I : σ → Prop) (μ : σ → Nat) (post : β → Prop) {s0 : σ} (h0 : I s0) (hs : ∀ s, I s → (∃ s', step s = some (.nx s') ∧ I s' ∧ μ s' < μ s) ∨ ∃ b, step s = some (.br b) ∧ post b) (hn : μ s0 < n) :
    ∃ b, loopF step n s0 = some b ∧ post b := by
  have key : ∀ m s, μ s ≤ m → I s → ∀ n, m < n → ∃ b, loopF step n s = some b ∧ post b := by
    intro m
    induction m with
    | zero =>
      intro s hm hI n hn
      obtain ⟨n, rfl⟩ : ∃ q, n = q + 1 := ⟨n - 1, by omega⟩
      rcases hs s hI with ⟨s', _, _, h3⟩ | ⟨b, h1, h2⟩
      · omega
      · exact ⟨b, by simp [loopF, h1], h2⟩
    | succ m ih =>
      intro s hm hI n hn
      obtain ⟨n, rfl⟩ : ∃ q, n = q + 1 := ⟨n - 1, by omega⟩
      rcases hs s hI with ⟨s', h1, h2, h3⟩ | ⟨b, h1, h2⟩
      · obtain ⟨b, h4, h5⟩ := ih s' (by omega) h2 n (by omega)
        exact ⟨b, by simp [loopF, h1, h4], h5⟩
      · exact ⟨b, by simp [loopF, h1], h2⟩
  exact key (μ s0) s0 (Nat.le_refl _) h0 n hn
end
theorem any_range {α : Type} (d : α) (q : α → Bool) (xs : List α) : ((List.range xs.length).any fun k => q (xs.getD k d)) = xs.any q := by
  rw [Bool.eq_iff_iff, List.any_eq_true, List.any_eq_true]
  constructor
  · rintro ⟨k, hk, h⟩
    have hk' : k < xs.length := by simpa using hk
    exact ⟨xs[k], List.getElem_mem hk', by simpa [List.getD, hk'] using h⟩
  · rintro ⟨x, hx, h⟩
    obtain ⟨k, hk, rfl⟩ := List.mem_iff_getElem.1 hx
    exact ⟨k, by simpa using hk, by simpa [List.getD, hk] using h⟩
theorem any_neq {α : Type} [DecidableEq α] (d : α) {xs ys : List α} (hl : xs.length = ys.length) : ((List.range xs.length).any fun k => !decide (xs.getD k d = ys.getD k d)) = !decide (xs = ys) := by
  by_cases h : xs = ys
  · subst h
    simp only [decide_true, Bool.not_true]
    rw [List.any_eq_false]
    intro k _; simp
  · rw [decide_eq_false h, Bool.not_false, List.any_eq_true]
    by_cases hx : ∃ k ∈ List.range xs.length, (!decide (xs.getD k d = ys.getD k d)) = true
    · exact hx
    · exfalso; apply h
      apply List.ext_getElem hl
      intro j h1 h2
      by_cases he : xs.getD j d = ys.getD j d
      · simpa [List.getD, h1, h2] using he
      · exact absurd ⟨j, by simpa using h1, by simp only [he, decide_false, Bool.not_false]⟩ hx
theorem cond_ite {α : Type} (b : Bool) (x y : α) : (bif b then x else y) = if b then x else y := by cases b <;> rfl
end Go.Vc
