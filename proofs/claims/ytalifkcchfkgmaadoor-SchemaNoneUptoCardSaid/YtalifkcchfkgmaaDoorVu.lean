/-
  UTF-8, plain: what a decoded rune is, validity of texts put together and cut. Own work.
-/
import Derived.Test.YtalifkcchfkgmaaDoorVp
import Derived.Lib.MapLaws
import Derived.Lib.ValidLaws
namespace Go.Vc
open Go

theorem mpS {α β : Type} (x : α) (f : α → β) : (some x).map f = some (f x) := (Option.map_some x f).trans (Eq.refl _)
theorem jN {τ Λ : Type} (x : τ) (k : τ → Option Λ) : joinF (.nx x) k = k x := (Eq.refl (joinF (.nx x) k)).trans (Eq.refl _)
theorem jB {τ Λ : Type} (l : Λ) (k : τ → Option Λ) : joinF (.br l) k = some l := (Eq.refl (joinF (.br l) k)).trans (Eq.refl _)

theorem dec_cases (l : List UInt8) (hne : l ≠ []) :
    (Lib.decodeL l = (65533, 1) ∧ 128 ≤ (l.getD 0 0).toNat) ∨
    ∃ r w, Lib.decodeL l = (r, w) ∧ w ≤ l.length ∧ 1 ≤ w ∧ w ≤ 4 ∧ (∀ j, 1 ≤ j → j < w → (l.getD j 0).toNat / 64 = 2) ∧ ((w = 1 ∧ (l.getD 0 0).toNat < 128 ∧ r = (l.getD 0 0).toNat) ∨ (1 < w ∧ 128 ≤ r ∧ 192 ≤ (l.getD 0 0).toNat)) ∧ r ≤ 1114111 := by
  have hl : 0 < l.length := List.length_pos_iff.2 hne
  rw [Lib.decodeL_N]
  rcases Lib.decodeN_shape l.length (l.getD 0 0).toNat (l.getD 1 0).toNat (l.getD 2 0).toNat (l.getD 3 0).toNat with ⟨c, e⟩ | ⟨c1, c2, c3, cv, e⟩ | ⟨c1, c2, c3, c4, cv, cs, e⟩ | ⟨c1, c2, c3, c4, c5, cv, cw, e⟩ | e
  · exact .inr ⟨_, _, e, by omega, by omega, by omega, fun j h1 h2 => by omega, .inl ⟨rfl, c, rfl⟩, by omega⟩
  · refine .inr ⟨_, _, e, by omega, by omega, by omega, fun j h1 h2 => ?_, .inr ⟨by omega, by omega, by omega⟩, by omega⟩
    obtain rfl : j = 1 := by omega
    exact c3
  · refine .inr ⟨_, _, e, by omega, by omega, by omega, fun j h1 h2 => ?_, .inr ⟨by omega, by omega, by omega⟩, by omega⟩
    obtain rfl | rfl : j = 1 ∨ j = 2 := by omega
    · exact c3
    · exact c4
  · refine .inr ⟨_, _, e, by omega, by omega, by omega, fun j h1 h2 => ?_, .inr ⟨by omega, by omega, by omega⟩, by omega⟩
    obtain rfl | rfl | rfl : j = 1 ∨ j = 2 ∨ j = 3 := by omega
    · exact c3
    · exact c4
    · exact c5
  · by_cases h : (l.getD 0 0).toNat < 128
    · refine .inr ⟨_, _, Lib.decodeN_ascii _ _ _ _ _ h, by omega, by omega, by omega, fun j h1 h2 => by omega, .inl ⟨rfl, h, rfl⟩, by omega⟩
    · exact .inl ⟨e, by omega⟩
theorem getD_app {a x : List UInt8} {j : Nat} (h : j < a.length) : (a ++ x).getD j 0 = a.getD j 0 := by
  simp [List.getD, List.getElem?_append, h]
theorem dec_app (a x : List UInt8) (hw : (Lib.decodeL (a ++ x)).2 ≤ a.length) (hne : a ≠ []) (hv : ¬ ((Lib.decodeL (a ++ x)).1 = 65533 ∧ (Lib.decodeL (a ++ x)).2 = 1)) : Lib.decodeL a = Lib.decodeL (a ++ x) := by
  have hl : 0 < a.length := List.length_pos_iff.2 hne
  rw [Lib.decodeL_N] at hw hv ⊢
  rw [Lib.decodeL_N (a ++ x)]
  have e0 := getD_app (a := a) (x := x) (j := 0) hl
  rcases Lib.decodeN_shape (a ++ x).length ((a ++ x).getD 0 0).toNat ((a ++ x).getD 1 0).toNat ((a ++ x).getD 2 0).toNat ((a ++ x).getD 3 0).toNat with ⟨c, e⟩ | ⟨c1, c2, c3, cv, e⟩ | ⟨c1, c2, c3, c4, cv, cs, e⟩ | ⟨c1, c2, c3, c4, c5, cv, cw, e⟩ | e
  · rw [e, Lib.decodeN_ascii _ _ _ _ _ (by rw [← e0]; exact c), e0]
  · rw [e] at hw ⊢
    dsimp only at hw
    have e1 := getD_app (a := a) (x := x) (j := 1) (by omega)
    simp only [e0, e1] at c1 c3 cv ⊢
    unfold Lib.decodeN
    rw [if_neg (by omega), if_pos ⟨c1, by omega, c3⟩, if_pos cv]
  · rw [e] at hw ⊢
    dsimp only at hw
    have e1 := getD_app (a := a) (x := x) (j := 1) (by omega)
    have e2 := getD_app (a := a) (x := x) (j := 2) (by omega)
    simp only [e0, e1, e2] at c1 c3 c4 cv cs ⊢
    unfold Lib.decodeN
    rw [if_neg (by omega), if_neg (by omega), if_pos ⟨c1, ⟨by omega, c3⟩, by omega, c4⟩, if_pos (by omega)]
  · rw [e] at hw ⊢
    dsimp only at hw
    have e1 := getD_app (a := a) (x := x) (j := 1) (by omega)
    have e2 := getD_app (a := a) (x := x) (j := 2) (by omega)
    have e3 := getD_app (a := a) (x := x) (j := 3) (by omega)
    simp only [e0, e1, e2, e3] at c1 c3 c4 c5 cv cw ⊢
    unfold Lib.decodeN
    rw [if_neg (by omega), if_neg (by omega), if_neg (by omega), if_pos ⟨c1, ⟨by omega, c3⟩, ⟨by omega, c4⟩, by omega, c5⟩, if_pos (by omega)]
  · rw [e] at hv
    exact absurd ⟨rfl, rfl⟩ hv
/-- .. and the other way about. -/
theorem dec_app' (a x : List UInt8) (hne : a ≠ []) (hv : ¬ ((Lib.decodeL a).1 = 65533 ∧ (Lib.decodeL a).2 = 1)) : Lib.decodeL (a ++ x) = Lib.decodeL a := by
  have hl : 0 < a.length := List.length_pos_iff.2 hne
  rw [Lib.decodeL_N] at hv ⊢
  rw [Lib.decodeL_N a]
  have e0 := getD_app (a := a) (x := x) (j := 0) hl
  have hlen : (a ++ x).length = a.length + x.length := List.length_append
  rcases Lib.decodeN_shape a.length (a.getD 0 0).toNat (a.getD 1 0).toNat (a.getD 2 0).toNat (a.getD 3 0).toNat with ⟨c, e⟩ | ⟨c1, c2, c3, cv, e⟩ | ⟨c1, c2, c3, c4, cv, cs, e⟩ | ⟨c1, c2, c3, c4, c5, cv, cw, e⟩ | e
  · rw [e, Lib.decodeN_ascii _ _ _ _ _ (by rw [e0]; exact c), e0]
  · have e1 := getD_app (a := a) (x := x) (j := 1) (by omega)
    rw [e, e0, e1]
    unfold Lib.decodeN
    rw [if_neg (by omega), if_pos ⟨c1, by omega, c3⟩, if_pos cv]
  · have e1 := getD_app (a := a) (x := x) (j := 1) (by omega)
    have e2 := getD_app (a := a) (x := x) (j := 2) (by omega)
    rw [e, e0, e1, e2]
    unfold Lib.decodeN
    rw [if_neg (by omega), if_neg (by omega), if_pos ⟨c1, ⟨by omega, c3⟩, by omega, c4⟩, if_pos (by omega)]
  · have e1 := getD_app (a := a) (x := x) (j := 1) (by omega)
    have e2 := getD_app (a := a) (x := x) (j := 2) (by omega)
    have e3 := getD_app (a := a) (x := x) (j := 3) (by omega)
    rw [e, e0, e1, e2, e3]
    unfold Lib.decodeN
    rw [if_neg (by omega), if_neg (by omega), if_neg (by omega), if_pos ⟨c1, ⟨by omega, c3⟩, ⟨by omega, c4⟩, by omega, c5⟩, if_pos (by omega)]
  · rw [e] at hv
    exact absurd ⟨rfl, rfl⟩ hv

theorem valid_app : ∀ (m : Nat) {a b : List UInt8}, a.length ≤ m → Lib.validD a = true → Lib.validD (a ++ b) = Lib.validD b
  | m, [], b, _, _ => rfl
  | 0, c :: a, b, h, _ => by simp at h
  | m + 1, c :: a, b, h, hv => by
    have hne : c :: a ≠ [] := by simp
    rw [Lib.validD_step _ hne] at hv
    split at hv
    · cases hv
    · rename_i hnv
      have he := dec_app' (c :: a) b hne hnv
      have hw := Lib.decodeL_width (c :: a)
      rw [Lib.validD_step _ (by simp : c :: a ++ b ≠ []), he, if_neg hnv]
      have hle : (Lib.decodeL (c :: a)).2 ≤ (c :: a).length := by
        rcases dec_cases (c :: a) hne with ⟨e, _⟩ | ⟨r, w, e, h1, _⟩
        · rw [e] at hnv; exact absurd ⟨rfl, rfl⟩ hnv
        · rw [e]; exact h1
      rw [List.drop_append_of_le_length hle]
      exact valid_app m (by rw [List.length_drop]; omega) hv
theorem valid_cut : ∀ (m : Nat) {a b : List UInt8} {c : UInt8}, a.length ≤ m → c.toNat < 128 → Lib.validD (a ++ c :: b) = true → Lib.validD a = true ∧ Lib.validD b = true
  | m, [], b, c, _, hc, h => by
    rw [List.nil_append, Lib.validD_cons _ _ hc] at h
    exact ⟨rfl, h⟩
  | 0, x :: a, b, c, h, _, _ => by simp at h
  | m + 1, x :: a, b, c, h, hc, hv => by
    have hne : x :: a ++ c :: b ≠ [] := by simp
    rw [Lib.validD_step _ hne] at hv
    split at hv
    · cases hv
    · rename_i hnv
      rcases dec_cases (x :: a ++ c :: b) hne with ⟨e, _⟩ | ⟨r, w, e, h1, h2, h3, h4, h5, h6⟩
      · rw [e] at hnv; exact absurd ⟨rfl, rfl⟩ hnv
      · by_cases hw : w ≤ (x :: a).length
        · have he := dec_app (x :: a) (c :: b) (by rw [e]; exact hw) (by simp) hnv
          rw [e] at hv
          dsimp only at hv
          rw [List.drop_append_of_le_length hw] at hv
          obtain ⟨g1, g2⟩ := valid_cut m (by rw [List.length_drop]; omega) hc hv
          refine ⟨?_, g2⟩
          rw [Lib.validD_step _ (by simp), he, if_neg hnv, e]
          exact g1
        · exfalso
          have := h4 (x :: a).length (by simp) (by omega)
          have e2 : (x :: a ++ c :: b).getD (x :: a).length 0 = c := by simp [List.getD, -List.cons_append]
          rw [e2] at this
          omega
/-- The rune at a place of a valid text. -/
theorem rune_at {l : List UInt8} (hne : l ≠ []) (hv : Lib.validD l = true) :
    (∃ c t, l = c :: t ∧ c.toNat < 128 ∧ Lib.decodeL l = (c.toNat, 1) ∧ Lib.validD t = true) ∨
    ∃ r a t, l = a ++ t ∧ Lib.decodeL l = (r, a.length) ∧ a ≠ [] ∧ (∀ x ∈ a, 128 ≤ x.toNat) ∧ 128 ≤ r ∧ r ≤ 1114111 ∧ Lib.encodeRune (r : Int) = a ∧ Lib.validD t = true := by
  have hs := hv
  rw [Lib.validD_step _ hne] at hs
  split at hs
  · cases hs
  · rename_i hnv
    rcases dec_cases l hne with ⟨e, _⟩ | ⟨r, w, e, h1, h2, h3, h4, h5, h6⟩
    · rw [e] at hnv; exact absurd ⟨rfl, rfl⟩ hnv
    · have henc := Lib.encode_decode l hne hnv
      rw [e] at hs henc
      rcases h5 with ⟨rfl, h7, rfl⟩ | ⟨h7, h8, h9⟩
      · left
        obtain ⟨c, t, rfl⟩ : ∃ c t, l = c :: t := List.exists_cons_of_ne_nil hne
        exact ⟨c, t, rfl, h7, e, hs⟩
      · right
        have hlen : (l.take w).length = w := by rw [List.length_take]; omega
        refine ⟨r, l.take w, l.drop w, (List.take_append_drop w l).symm, by rw [hlen, e], fun e0 => by rw [e0] at hlen; simp at hlen; omega, fun x hx => ?_, h8, h6, henc, hs⟩
        obtain ⟨j, hj, rfl⟩ := List.mem_iff_getElem.1 hx
        rw [hlen] at hj
        have hg : l.getD j 0 = (l.take w)[j] := by simp [List.getD, show j < l.length by omega]
        rw [← hg]
        by_cases hj0 : j = 0
        · subst hj0; omega
        · have := h4 j (by omega) hj
          omega
end Go.Vc
