/-
  VC, part 15: slices beside nil; a known slice of integers as an append's source. Own work.
-/
import Derived.Test.YtoonlehffohpaaaVc14
namespace Go.Vc
open Go Go.RowKit

section
variable {P : Program} {w0 w : World} {M : Mem} {H : List Ent}
theorem eqSliceNil {T e : TypeId} (ht : P.underlying T = some (.slice e)) (A : Option Addr) (n c d : Nat) (w : World) : (Op.equalIn (d + 1) T (.slice A n c) (.slice none 0 0)).run P w = .ok A.isNone w := by
  rcases A with _ | b
  · unfold Op.equalIn
    rw [Sem.run_bind, run_underlying ht]; rfl
  · unfold Op.equalIn
    rw [Sem.run_bind, run_underlying ht]; rfl
theorem X_slicenil {ρ : Operand → Value} {o : Oper} {T t' e n c : TypeId} {x y : Operand} {A : Option Addr} (ho : o.op = .binOp .eql T x y t') (hx : ρ x = .slice A n c) (hy : ρ y = .slice none 0 0) (ht : P.underlying T = some (.slice e)) (w : World) :
    (execOp ρ o).run P w = .ok (.value (.bool A.isNone)) w := by
  have h3 := eqSliceNil (P := P) ht A n c 9999 w
  have h : binOp .eql T (.slice A n c) (.slice none 0 0) = (do pure (.bool (← Op.equal T (.slice A n c) (.slice none 0 0)))) := rfl
  have h2 : eqGuard .eql T x y (.slice A n c) (.slice none 0 0) = pure () := rfl
  unfold execOp
  simp only [ho, hx, hy, h, h2, Sem.run_bind, Sem.run_pure, Result.andThen_ok]
  have h4 : (Op.equal T (.slice A n c) (.slice none 0 0)).run P w = .ok A.isNone w := h3
  rw [h4]; rfl
theorem Ints.src {k : IntKind} {ad : Addr} {xs : List Int} (h : Ints M k (some ad) xs) (hp : Hp w0 M H w) : ∀ j u, (xs.map (Value.int k))[j]? = some u → w.cell? (ad.add j) = some u := fun j u hu => by
  rcases h with h | ⟨ad', e, h2⟩
  · rw [h] at hu; simp at hu
  · cases e; exact hp.cell (h2 j u hu)
theorem Ints.none_nil {k : IntKind} {xs : List Int} (h : Ints M k none xs) : xs = [] := by
  rcases h with h | ⟨ad', e, h2⟩
  · simpa using h
  · cases e
theorem ints_one (k : IntKind) (xs : List Int) : ∀ u ∈ xs.map (Value.int k), u.oneCell' = true := fun u hu => by
  obtain ⟨x, _, rfl⟩ := List.mem_map.1 hu; rfl
end
end Go.Vc
