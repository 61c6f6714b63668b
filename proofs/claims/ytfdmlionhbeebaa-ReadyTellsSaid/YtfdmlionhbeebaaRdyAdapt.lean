/-
  Chapter 21: deps.Turned's contract, by hand (R6, R7), in the automatic generator's words. Own work.
-/
import Derived.Test.YtfdmlionhbeebaaR7
import Derived.Test.YtfdmlionhbeebaaVkA
namespace Go.Vc
open Go Go.RowKit
theorem RepArr.mk {M : Mem} {sz : Nat} : ∀ {ds : List Dat} {ad : Addr}, (∀ i d, ds[i]? = some d → ∃ c, c.length = sz ∧ Rep M d c ∧ ∀ j v, c[j]? = some v → M.cell? ((ad.add (i * sz)).add j) = some v) → RepArr M sz ds ad
  | [], _, _ => trivial
  | d :: ds, ad, h => by
    refine ⟨?_, RepArr.mk fun i e he => ?_⟩
    · have := h 0 d rfl
      simpa [Addr.add] using this
    · obtain ⟨c, h1, h2, h3⟩ := h (i + 1) e (by simpa using he)
      refine ⟨c, h1, h2, fun j v hv => ?_⟩
      have := h3 j v hv
      rw [add_of_add] at this
      rw [add_of_add, add_of_add, show sz + (i * sz + j) = (i + 1) * sz + j by rw [Nat.add_mul]; omega]
      exact this
theorem sli_ints {M : Mem} {k : IntKind} {A : Option Addr} {cap : Nat} {xs : List Int} (h : Sli M 1 (Dat.int k) A cap xs) : Ints M k A xs := by
  obtain ⟨_, _, h3⟩ := h
  rcases h3 with h3 | ⟨ad, h4, h5⟩
  · exact .inl (by simp [h3])
  · refine .inr ⟨ad, h4, fun j v hv => ?_⟩
    obtain ⟨x, hx, rfl⟩ : ∃ x, xs[j]? = some x ∧ Value.int k x = v := by simpa using hv
    obtain ⟨c, k1, k2, k3⟩ := RepArr.get j (.int k x) h5 (by simp [hx])
    obtain rfl : c = _ := k2
    have := k3 0 _ rfl
    rwa [add_of_add, Nat.mul_one, Nat.add_zero] at this
theorem ints_sli {M : Mem} {k : IntKind} {A : Option Addr} {cap : Nat} {xs : List Int} (h : Ints M k A xs) (h1 : xs.length ≤ cap) (h2 : A = none → cap = 0) : Sli M 1 (Dat.int k) A cap xs := by
  refine ⟨h1, h2, ?_⟩
  rcases h with h | ⟨ad, h4, h5⟩
  · exact .inl (by simpa using h)
  · refine .inr ⟨ad, h4, RepArr.mk fun i d hd => ?_⟩
    obtain ⟨x, hx, rfl⟩ : ∃ x, xs[i]? = some x ∧ Dat.int k x = d := by simpa using hd
    refine ⟨[.int k x], rfl, rfl, fun j v hv => ?_⟩
    cases j with
    | zero =>
      simp at hv; subst hv
      rw [add_of_add, Nat.mul_one, Nat.add_zero]
      exact h5 i _ (by simp [hx])
    | succ j => simp at hv
theorem sli_rows {M : Mem} {k : IntKind} {A : Option Addr} {cap : Nat} {l : List (List Int)} (h : Sli M 1 (eL 1 (Dat.int k)) A cap l) : Vc.Rows M k A l := by
  obtain ⟨h1, h2, h3⟩ := h
  rcases h3 with h3 | ⟨ad, h4, h5⟩
  · subst h3; exact ⟨[], rfl, .inl rfl, fun i hi => by simp at hi⟩
  · obtain ⟨cs, k1, k2, k3⟩ := RepArr.cells h5
    refine ⟨cs, by simpa using k1, .inr ⟨ad, h4, k3⟩, fun i hi => ?_⟩
    have hx : l[i]? = some (l.getD i []) := by simp [List.getD, hi]
    obtain ⟨e, e1, e2, e3⟩ := RepSeq.get (sz := 1) i (d := eL 1 (Dat.int k) (l.getD i [])) (fun d hd => by obtain ⟨x, _, rfl⟩ := List.mem_map.1 hd; exact szd_list _ _) k2 (by rw [List.getElem?_map, hx]; rfl)
    obtain ⟨B, c, rfl, hs⟩ := Rep.sli e2
    have := e3 0 _ rfl
    rw [Nat.mul_one, Nat.add_zero] at this
    refine ⟨B, c, by rw [List.getD_eq_getElem?_getD, this]; rfl, ⟨hs.1, hs.2.1⟩, sli_ints hs⟩
theorem rows_sli {M : Mem} {k : IntKind} {A : Option Addr} {cap : Nat} {l : List (List Int)} (h : Vc.Rows M k A l) (h1 : l.length ≤ cap) (h2 : A = none → cap = 0) : Sli M 1 (eL 1 (Dat.int k)) A cap l := by
  refine ⟨h1, h2, ?_⟩
  obtain ⟨hs, e1, e2, e3⟩ := h
  rcases e2 with e2 | ⟨ad, h4, h5⟩
  · exact .inl (List.eq_nil_of_length_eq_zero (by rw [← e1, e2]; rfl))
  · refine .inr ⟨ad, h4, RepArr.mk fun i d hd => ?_⟩
    obtain ⟨x, hx, rfl⟩ : ∃ x, l[i]? = some x ∧ eL 1 (Dat.int k) x = d := by simpa using hd
    have hi : i < l.length := (List.getElem?_eq_some_iff.1 hx).1
    have hxe : l.getD i [] = x := by simp [List.getD, hx]
    obtain ⟨B, c, g1, g2, g3⟩ := e3 i hi
    rw [hxe] at g1 g2 g3
    refine ⟨[.slice B x.length c], rfl, (ints_sli g3 g2.1 g2.2).rep, fun j v hv => ?_⟩
    cases j with
    | zero =>
      simp at hv; subst hv
      rw [add_of_add, Nat.mul_one, Nat.add_zero]
      refine h5 i _ ?_
      have hih : i < hs.length := by omega
      rw [List.getD_eq_getElem?_getD, List.getElem?_eq_getElem hih] at g1
      rw [List.getElem?_eq_getElem hih]; exact congrArg some g1
    | succ j => simp at hv
end Go.Vc
namespace Go.Proofs.Ytfdmlionhbeebaa
open Go Go.Vc Go.RowKit
def deps_Turned (_ : Nat) (l : List (List Int)) : Option (List (List Int)) := need (l.length ≤ 1099511627776 ∧ ∀ r ∈ l, r.length ≤ 1099511627776) (some (turnedL l))
theorem deps_Turned_ok (n : Nat) (M : Mem) (A0 : Option Addr) (cap0 : Nat) (d0 : List (List Int)) (h0 : Sli M 1 (eL 1 (Dat.int .i64)) A0 cap0 d0) (r : List (List Int)) (hF : deps_Turned n d0 = some r) :
    Ok Try.prog M 49 [.slice A0 d0.length cap0] (fun M' v => ∃ (A0 : Option Addr) (k0 : Nat), v = .slice A0 r.length k0 ∧ Sli M' 1 (eL 1 (Dat.int .i64)) A0 k0 r) := by
  unfold deps_Turned at hF
  obtain ⟨⟨g1, g2⟩, hF⟩ := need_some hF
  obtain rfl := (Option.some.inj hF).symm
  refine (turned_ok M A0 d0 cap0 (sli_rows h0) g1 g2).mono fun M' v hM hv => ?_
  obtain ⟨ad, rfl, hr⟩ := hv
  exact ⟨some ad, _, rfl, rows_sli hr (Nat.le_refl _) (fun e => by cases e)⟩
end Go.Proofs.Ytfdmlionhbeebaa
