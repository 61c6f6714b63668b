/-
  Chapter 12, plain: the program's machine over runes reads a text's pieces. Own work.
-/
import Derived.Test.YtdmjgmleilgbpaaDoorSubPlain7
namespace Go.Proofs.YtdmjgmleilgbpaaDoor
open Go Go.Vc

theorem lex1_eq {n : Nat} {b : List UInt8} {l : List T_api_Expr} (h : l.length < 1000000) : sub_Lex_1 n b l = some ([], l ++ fl b) := by
  unfold sub_Lex_1 strings_Builder_Len strings_Builder_String strings_Builder_Reset_2 fl
  rw [bnd]
  dsimp only
  by_cases h0 : b = []
  · subst h0
    simp
  · have : 0 < b.length := List.length_pos_iff.2 h0
    rw [decide_eq_true (by omega), cT, bnd, need_t (by omega), getI_at (txE []) (by simp), bnd, bnd, bnd, if_neg h0]
    simp [txE]
theorem fl_len (b : List UInt8) : (fl b).length ≤ 1 := by unfold fl; split <;> simp

theorem prs_app : ∀ (a r : List UInt8), (∀ x ∈ a, x ≠ 36) → prs (a ++ r) = (a.map (fun x => It.tx [x]) ++ (prs r).1, (prs r).2.map (· + a.length))
  | [], r, _ => by simp
  | c :: a, r, h => by
    rw [List.cons_append, prs_ch (fun e => h c (by simp) e.1), prs_app a r (fun x hx => h x (by simp [hx]))]
    unfold add
    simp only [List.map_cons, List.cons_append, Option.map_map, List.length_cons]
    refine congrArg (Prod.mk _) (congrFun (congrArg Option.map ?_) _)
    funext x
    simp only [Function.comp]
    omega
theorem mrg_app : ∀ (a b : List UInt8) (l : List It), mrg b (a.map (fun x => It.tx [x]) ++ l) = mrg (b ++ a) l
  | [], b, l => by simp
  | c :: a, b, l => by
    simp only [List.map_cons, List.cons_append, mrg]
    rw [mrg_app a (b ++ [c]) l]
    simp

/-- What the machine comes to, having read so far. -/
def MacPost (s : List UInt8) (k : Nat) (out : List T_api_Expr) (text : List UInt8) (b : Sum (Int × List UInt8 × Nat) (Int × Int × List UInt8 × List T_api_Expr × Nat)) : Prop :=
  match (prs (s.drop k)).2 with
  | some p => (∃ t z, b = .inl (((k + p : Nat) : Int), t, z)) ∨ ∃ t o z, b = .inr (2, ((k + p : Nat) : Int), t, o, z)
  | none => (∃ o t f z, b = .inr (0, f, t, o, z) ∧ o ++ fl t = out ++ mrg text (prs (s.drop k)).1 ∧ t.length ≤ s.length ∧ o.length ≤ s.length) ∨
    (∃ o t f z, b = .inr (1, f, t, o, z) ∧ o ++ fl (t ++ [36]) = out ++ mrg text (prs (s.drop k)).1 ∧ t.length ≤ s.length ∧ o.length ≤ s.length)
theorem MacPost.of_add {s : List UInt8} {k j : Nat} {it : List It} {out out' : List T_api_Expr} {text text' : List UInt8} {b : Sum (Int × List UInt8 × Nat) (Int × Int × List UInt8 × List T_api_Expr × Nat)}
    (h : prs (s.drop k) = (it ++ (prs (s.drop (k + j))).1, (prs (s.drop (k + j))).2.map (· + j))) (hm : ∀ l, out' ++ mrg text' l = out ++ mrg text (it ++ l)) (hp : MacPost s (k + j) out' text' b) : MacPost s k out text b := by
  unfold MacPost at hp ⊢
  rw [h]
  cases hq : (prs (s.drop (k + j))).2 with
  | some p =>
    rw [hq] at hp
    have e : k + j + p = k + (p + j) := by omega
    dsimp only at hp
    rw [e] at hp
    exact hp
  | none =>
    rw [hq] at hp
    rcases hp with ⟨o, t, f, z, h1, h2, h3⟩ | ⟨o, t, f, z, h1, h2, h3⟩
    · exact .inl ⟨o, t, f, z, h1, by rw [h2, hm], h3⟩
    · exact .inr ⟨o, t, f, z, h1, by rw [h2, hm], h3⟩
theorem prs_chars {s : List UInt8} {k : Nat} {a t : List UInt8} (h : s.drop k = a ++ t) (ha : ∀ x ∈ a, x ≠ 36) : prs (s.drop k) = (a.map (fun x => It.tx [x]) ++ (prs (s.drop (k + a.length))).1, (prs (s.drop (k + a.length))).2.map (· + a.length)) := by
  have e : s.drop (k + a.length) = t := by rw [← List.drop_drop, h, List.drop_left]
  rw [h, e]
  exact prs_app a t ha

/-- The state of the machine at a place: plain, a $ was the last one, within a hole that began at k. -/
def MacSt (s : List UInt8) (k i : Nat) (st : Int) (fr : Int) : Prop :=
  (st = 0 ∧ i = k) ∨ (st = 1 ∧ i = k + 1 ∧ fr = (k : Int) ∧ k < s.length ∧ s.getD k 0 = 36) ∨
  (st = 2 ∧ fr = (k : Int) ∧ k + 2 ≤ i ∧ s.drop k = 36 :: 123 :: s.drop (k + 2) ∧ ∀ j, k + 2 ≤ j → j < i → s.getD j 0 ≠ 125)
theorem app_getD {s a t : List UInt8} {i j : Nat} (h : s.drop i = a ++ t) (h1 : i ≤ j) (h2 : j < i + a.length) : s.getD j 0 ∈ a := by
  have e : s.getD j 0 = (s.drop i).getD (j - i) 0 := by
    rw [Lib.getD_dropU]
    congr 1
    omega
  rw [e, h]
  have : (a ++ t).getD (j - i) 0 = a[j - i]'(by omega) := by
    simp [List.getD, List.getElem?_append, show j - i < a.length by omega]
  rw [this]
  exact List.getElem_mem _
theorem findIdx_shut {s : List UInt8} {k i : Nat} (h : ∀ j, k ≤ j → j < i → s.getD j 0 ≠ 125) (hki : k ≤ i) (hi : i < s.length) (hc : s.getD i 0 = 125) : (s.drop k).findIdx? (· == 125) = some (i - k) := by
  rw [List.findIdx?_eq_some_iff_getElem]
  refine ⟨by rw [List.length_drop]; omega, ?_, fun j hj => ?_⟩
  · rw [List.getElem_drop]
    have : s.getD i 0 = s[k + (i - k)]'(by omega) := by simp [List.getD, show k + (i - k) = i by omega, hi]
    rw [← this, hc]
    rfl
  · rw [List.getElem_drop]
    have h1 : s.getD (k + j) 0 = s[k + j]'(by omega) := by simp [List.getD, show k + j < s.length by omega]
    rw [← h1]
    have := h (k + j) (by omega) (by omega)
    simpa using this
theorem shut_none {s : List UInt8} {k : Nat} (h : ∀ j, k ≤ j → j < s.length → s.getD j 0 ≠ 125) : (s.drop k).findIdx? (· == 125) = none := by
  rw [List.findIdx?_eq_none_iff]
  intro x hx
  obtain ⟨j, hj, rfl⟩ := List.mem_iff_getElem.1 hx
  rw [List.length_drop] at hj
  rw [List.getElem_drop]
  have h1 : s.getD (k + j) 0 = s[k + j]'(by omega) := by simp [List.getD, show k + j < s.length by omega]
  rw [← h1]
  have := h (k + j) (by omega) (by omega)
  simpa using this
end Go.Proofs.YtdmjgmleilgbpaaDoor
