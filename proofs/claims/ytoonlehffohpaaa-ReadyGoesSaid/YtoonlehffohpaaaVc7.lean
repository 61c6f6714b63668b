/-
  VC, part 7: texts out of bytes; small words for rows handed to callees. Own work.
-/
import Derived.Test.YtoonlehffohpaaaVc6
namespace Go.Vc
open Go Go.RowKit

section
variable {P : Program} {w : World} {ρ : Operand → Value} {o : Oper}

theorem X_string {t t' e : Nat} {x : Operand} {ad : Addr} {cap : Nat} {l : List UInt8} (ho : o.op = .convert t t' x) (hx : ρ x = .slice (some ad) l.length cap) (ht : P.underlying t = some (.slice e)) (he : P.underlying e = some (.int .u8)) (ht' : P.underlying t' = some .string)
    (hc : ∀ j u, (byteCs l)[j]? = some u → w.cell? (ad.add j) = some u) : (execOp ρ o).run P w = .ok (.value (S l)) w := by
  have h := run_convert_bytes_back (P := P) w t t' e ad cap l ht he ht' (fun j hj => by
    refine hc j _ ?_
    simp [byteCs, List.getElem?_eq_getElem hj])
  unfold execOp
  simp only [ho, hx, Sem.run_bind, h]
  rfl

theorem X_string_row {t t' e B : Nat} {x : Operand} {v : Value} {l : List UInt8} (ho : o.op = .convert t t' x) (hx : ρ x = v) (ht : P.underlying t = some (.slice e)) (he : P.underlying e = some (.int .u8)) (ht' : P.underlying t' = some .string)
    (hown : w.ownsRow B e 1 v l.length (byteCs l)) : (execOp ρ o).run P w = .ok (.value (S l)) w := by
  rcases hown.2 with ⟨rfl, h0⟩ | ⟨g, cap, cur, rfl, hg, hh, hnc, hcm, hcs, htk⟩
  · have : l = [] := List.eq_nil_of_length_eq_zero h0
    subst this
    unfold execOp
    simp only [ho, hx, Sem.run_bind, run_convert_bytes_string w t t' e none 0 0 ht he ht']
    rfl
  · refine X_string ho hx ht he ht' (fun j u hu => ?_)
    have hj : j < l.length * 1 := by have := (List.getElem?_eq_some_iff.1 hu).1; simpa [byteCs] using this
    rw [Addr.add_lit, cell_of_row w g _ cur e (0, 0) hh, ← Array.getElem?_toList]
    rw [← htk, List.getElem?_take_of_lt hj] at hu
    simpa using hu
end

theorem row_one {w : World} {B : Nat} {e : TypeId} {size : Nat} {v : Value} {n : Nat} {xs : List Value} (h : w.ownsRow B e size v n xs) : v.oneCell' = true := by
  rcases h.2 with ⟨rfl, _⟩ | ⟨g, cap, cur, rfl, _⟩ <;> rfl
theorem all_one {l : List Value} (h : (l.all fun u => u.oneCell') = true) : ∀ u ∈ l, u.oneCell' = true := List.all_eq_true.1 h
theorem byteCs_append (l m : List UInt8) : byteCs (l ++ m) = byteCs l ++ byteCs m := by simp [byteCs]
theorem byteCs_length (l : List UInt8) : (byteCs l).length = l.length := by simp [byteCs]
theorem byteCs_one (l : List UInt8) : ∀ u ∈ byteCs l, u.oneCell' = true := by
  intro u hu
  simp only [byteCs, List.mem_map] at hu
  obtain ⟨b, _, rfl⟩ := hu
  rfl
theorem byte_mk {n : Int} (h0 : 0 ≤ n) (h1 : n < 256) : n = ((UInt8.ofNat n.toNat).toNat : Int) := by
  rw [UInt8.toNat_ofNat']; omega
/-- The same row, its cells and length under other names. -/
theorem Hp.rowEq {w0 w : World} {M : Mem} {H : List Ent} {e : TypeId} {size n n' : Nat} {v : Value} {xs xs' : List Value} (h : Hp w0 M (.row e size v n xs :: H) w) (hn : n = n') (hx : xs = xs') : Hp w0 M (.row e size v n' xs' :: H) w := by subst hn; subst hx; exact h
end Go.Vc
