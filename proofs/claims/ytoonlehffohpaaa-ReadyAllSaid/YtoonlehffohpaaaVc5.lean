/-
  VC, part 5: small words that the printed proofs use. Own work.
-/
import Derived.Test.YtoonlehffohpaaaVc4
import Derived.IntWalk
namespace Go.Vc
open Go Go.RowKit

theorem not_iff {b : Bool} {p : Prop} (h : b = true ↔ p) : (!b) = true ↔ ¬ p := by cases b <;> simp_all
theorem and_iff {b c : Bool} {p q : Prop} (h : b = true ↔ p) (k : c = true ↔ q) : (b && c) = true ↔ (p ∧ q) := by simp [h, k]
theorem or_iff {b c : Bool} {p q : Prop} (h : b = true ↔ p) (k : c = true ↔ q) : (b || c) = true ↔ (p ∨ q) := by simp [h, k]
theorem iff_f {b : Bool} {p : Prop} (h : b = true ↔ p) (k : b = false) : ¬ p := fun hp => by rw [h.2 hp] at k; cases k
theorem byte_lt (c : UInt8) : (c.toNat : Int) < 256 := by have := c.toNat_lt; omega
theorem own_cells {w : World} {b : Nat} {cells : Array Value} {cs : List Value} (h : ∀ j, w.cell? ⟨b, j, none⟩ = cells[j]?) (off' : Nat) (he : (cells.toList.drop off').take cs.length = cs) :
    ∀ j v, cs[j]? = some v → w.cell? ((⟨b, off', none⟩ : Addr).add j) = some v := by
  intro j v hv
  rw [Addr.add_lit, h, ← Array.getElem?_toList]
  have hj : j < cs.length := (List.getElem?_eq_some_iff.1 hv).1
  rw [← he, List.getElem?_take_of_lt hj, List.getElem?_drop] at hv
  exact hv
theorem rem_nn {x y : Int} (h : 0 ≤ x) : x.tmod y = x % y := Int.tmod_eq_emod_of_nonneg h
theorem quo_i64 {x y : Int} (h : 0 ≤ x) (hy : 0 < y) (hx : x ≤ 9223372036854775807) : IntKind.i64.wrap (x.tdiv y) = x / y := by
  rw [Int.tdiv_eq_ediv_of_nonneg h]
  refine IntWalk.i64_in _ ⟨?_, ?_⟩
  · have := Int.ediv_nonneg h (Int.le_of_lt hy); omega
  · have := Int.ediv_le_self y h; omega
theorem i8_in {x : Int} (h : -128 ≤ x ∧ x ≤ 127) : IntKind.i8.wrap x = x := by simp [IntKind.wrap, IntKind.bits, IntKind.signed]; omega
theorem i32_in {x : Int} (h : -2147483648 ≤ x ∧ x ≤ 2147483647) : IntKind.i32.wrap x = x := by simp [IntKind.wrap, IntKind.bits, IntKind.signed]; omega
end Go.Vc
