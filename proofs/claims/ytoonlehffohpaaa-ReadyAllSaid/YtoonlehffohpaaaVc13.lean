/-
  VC, part 13: going over a map, each entry once. Own work.
-/
import Derived.Test.YtoonlehffohpaaaVc12
namespace Go.Vc
open Go Go.RowKit

section
variable {κ : Type}
theorem perm_filter {l : List ((κ × Value) × Nat)} (h : l.Pairwise fun x y => x.2 ≠ y.2) : ∀ {p}, p ∈ l → l.Perm (p :: l.filter fun q => decide (q.2 ≠ p.2)) := by
  induction l with
  | nil => intro p hp; cases hp
  | cons x r ih =>
    intro p hp
    obtain ⟨h1, h2⟩ := List.pairwise_cons.1 h
    rcases List.mem_cons.1 hp with rfl | hp
    · rw [List.filter_cons_of_neg (by simp)]
      rw [List.filter_eq_self.2 fun q hq => by simpa using (h1 q hq).symm]
    · rw [List.filter_cons_of_pos (by simpa using h1 p hp)]
      exact ((ih h2 hp).cons x).trans (.swap p x _)
theorem todo_push (m : List (κ × Value)) (seen : Array Nat) (i : Nat) : todo m (seen.push i) = (todo m seen).filter fun q => decide (q.2 ≠ i) := by
  unfold todo
  rw [List.filter_filter]
  congr 1
  funext q
  simp only [Array.contains_push]
  by_cases h : q.2 = i <;> simp [h]
theorem todo_apart (m : List (κ × Value)) (seen : Array Nat) : (todo m seen).Pairwise fun x y => x.2 ≠ y.2 := by
  have : ∀ (m : List (κ × Value)) (n : Nat), (m.zipIdx n).Pairwise fun x y => x.2 ≠ y.2 := by
    intro m
    induction m with
    | nil => intro n; exact .nil
    | cons a r ih =>
      intro n
      rw [List.zipIdx_cons]
      refine List.pairwise_cons.2 ⟨fun q hq => ?_, ih _⟩
      have := (List.mem_zipIdx hq).1
      simp only; omega
  exact (this m 0).filter _
theorem todo_step {m : List (κ × Value)} {seen : Array Nat} {p : (κ × Value) × Nat} (h : p ∈ todo m seen) : (todo m seen).Perm (p :: todo m (seen.push p.2)) := by
  rw [todo_push]; exact perm_filter (todo_apart m seen) h
theorem todo_less {m : List (κ × Value)} {seen : Array Nat} {p : (κ × Value) × Nat} (h : p ∈ todo m seen) : (todo m (seen.push p.2)).length < (todo m seen).length := by
  have := (todo_step h).length_eq
  simp at this; omega
/-- xs: the keys that were seen. -/
def CollI (m : List (κ × Value)) (seen : Array Nat) (xs : List κ) : Prop := ((todo m seen).map (·.1.1) ++ xs).Perm (m.map (·.1))
theorem CollI.start (m : List (κ × Value)) : CollI m #[] [] := by
  have h : todo m #[] = m.zipIdx := List.filter_eq_self.2 fun q _ => by simp
  unfold CollI
  rw [h, List.append_nil]
  have : ∀ (m : List (κ × Value)) (n : Nat), (m.zipIdx n).map (·.1.1) = m.map (·.1) := by
    intro m
    induction m with
    | nil => intro n; rfl
    | cons a r ih => intro n; rw [List.zipIdx_cons, List.map_cons, List.map_cons, ih]
  rw [this]
theorem CollI.step {m : List (κ × Value)} {seen : Array Nat} {xs : List κ} {p : (κ × Value) × Nat} (h : CollI m seen xs) (hp : p ∈ todo m seen) : CollI m (seen.push p.2) (xs ++ [p.1.1]) := by
  unfold CollI at *
  have h1 := ((todo_step hp).map fun q => q.1.1).append_right xs
  refine List.Perm.trans ?_ (h1.symm.trans h)
  rw [List.map_cons, ← List.append_assoc]
  exact (List.perm_append_singleton _ _)
theorem CollI.all {m : List (κ × Value)} {seen : Array Nat} {xs : List κ} (h : CollI m seen xs) (h0 : todo m seen = []) : xs.Perm (m.map (·.1)) := by
  unfold CollI at h; rw [h0] at h; simpa using h
theorem CollI.len {m : List (κ × Value)} {seen : Array Nat} {xs : List κ} (h : CollI m seen xs) : xs.length ≤ m.length := by
  have := h.length_eq
  simp at this; omega
end
/-- Rising. -/
def rise (xs : List Int) : List Int := xs.mergeSort fun x y => decide (x ≤ y)
theorem rise_perm {xs ys : List Int} (h : xs.Perm ys) : rise xs = rise ys := by
  have tot : ∀ a b : Int, (decide (a ≤ b) || decide (b ≤ a)) = true := fun a b => by simp; omega
  have tr : ∀ a b c : Int, decide (a ≤ b) = true → decide (b ≤ c) = true → decide (a ≤ c) = true := fun a b c h1 h2 => by simp at *; omega
  have h1 := List.pairwise_mergeSort (le := fun x y : Int => decide (x ≤ y)) tr tot xs
  have h2 := List.pairwise_mergeSort (le := fun x y : Int => decide (x ≤ y)) tr tot ys
  refine List.Perm.eq_of_pairwise (le := fun x y : Int => decide (x ≤ y) = true) ?_ h1 h2 ((List.mergeSort_perm xs _).trans (h.trans (List.mergeSort_perm ys _).symm))
  intro a b _ _ h1 h2
  simp at h1 h2; omega
theorem rise_nil : rise [] = [] := by simp [rise]
theorem rise_len (xs : List Int) : (rise xs).length = xs.length := List.length_mergeSort _
theorem rise_mem {xs : List Int} {x : Int} : x ∈ rise xs ↔ x ∈ xs := (List.mergeSort_perm xs _).mem_iff
end Go.Vc
