/-
  Chapter 12, plain: what is awake; SubTells. Own work.
-/
import Derived.Test.YtdmjgmleilgbpaaDoorSubPlain9
namespace Go.Proofs.YtdmjgmleilgbpaaDoor
open Go Go.Vc

theorem lexS_wake1 : lexS [97, 45, 36, 123, 66, 125, 45, 36, 123, 67, 46, 65, 114, 110, 125] = ([⟨0, [97, 45], 0, [], [], []⟩, ⟨3, [], 0, [66], [], []⟩, ⟨0, [45], 0, [], [], []⟩, ⟨4, [], 0, [67], [65, 114, 110], []⟩], 0, 0) :=
  Option.some.inj ((lex_sub (n := 40) (by decide) (by decide)).symm.trans (by kernel_rfl))
theorem lexS_wake2 : lexS [36, 123, 33, 120, 125] = ([⟨0, [36, 123, 120, 125], 0, [], [], []⟩], 0, 0) :=
  Option.some.inj ((lex_sub (n := 40) (by decide) (by decide)).symm.trans (by kernel_rfl))
theorem wakes_t {n : Nat} (hn : 40 ≤ n) : law12_wakes n = some true := by
  unfold law12_wakes
  rw [lex_sub (by decide) (by show 15 + 5 < n; omega), bnd, lex_sub (by decide) (by show 5 + 5 < n; omega), bnd, lexS_wake1, lexS_wake2]
  rfl

theorem idx_split (c : UInt8) : ∀ {q : List UInt8} {i : Nat}, q.findIdx? (· == c) = some i → q = q.take i ++ c :: q.drop (i + 1) ∧ (∀ x ∈ q.take i, x ≠ c) ∧ (q.take i).length = i
  | q, i, h => by
    obtain ⟨h1, h2, h3⟩ := List.findIdx?_eq_some_iff_getElem.1 h
    have h4 : q[i] = c := by simpa using h2
    refine ⟨?_, fun x hx e => ?_, by rw [List.length_take]; omega⟩
    · conv => lhs; rw [← List.take_append_drop i q, List.drop_eq_getElem_cons h1, h4]
    · obtain ⟨j, hj, rfl⟩ := List.mem_iff_getElem.1 hx
      rw [List.length_take] at hj
      have := h3 j (by omega)
      rw [List.getElem_take] at e
      rw [e] at this
      simp at this
theorem split_idx (c : UInt8) {a b : List UInt8} (h : ∀ x ∈ a, x ≠ c) : (a ++ c :: b).findIdx? (· == c) = some a.length := by
  rw [List.findIdx?_eq_some_iff_getElem]
  refine ⟨by simp, by simp, fun j hj => ?_⟩
  have : (a ++ c :: b)[j]'(by simp; omega) = a[j] := by rw [List.getElem_append_left hj]
  rw [this]
  simpa using h _ (List.getElem_mem hj)
theorem prs_esc' {a b : List UInt8} (h : ∀ x ∈ a, x ≠ 125) (h2 : a.head? = some 33) : prs (36 :: 123 :: (a ++ 125 :: b)) = add (.tx (36 :: 123 :: a.drop 1 ++ [125])) (a.length + 3) (prs b) := by
  have := prs_esc (r := a ++ 125 :: b) (split_idx 125 h) (by rw [List.take_left]; exact h2)
  rw [this, List.take_left]
  congr 2
  rw [← List.drop_drop, List.drop_left]
  rfl
theorem prs_hole' {a b : List UInt8} (h : ∀ x ∈ a, x ≠ 125) (h2 : a.head? ≠ some 33) (h3 : (holeS a).2 = true) : prs (36 :: 123 :: (a ++ 125 :: b)) = add (.ho (holeS a).1) (a.length + 3) (prs b) := by
  have := prs_hole (r := a ++ 125 :: b) (split_idx 125 h) (by rw [List.take_left]; exact h2) (by rw [List.take_left]; exact h3)
  rw [this, List.take_left]
  congr 2
  rw [← List.drop_drop, List.drop_left]
  rfl
theorem prs_cases (c : UInt8) (r : List UInt8) : (¬ (c = 36 ∧ r.head? = some 123) ∧ prs (c :: r) = add (.tx [c]) 1 (prs r)) ∨
    ∃ q, c = 36 ∧ r = 123 :: q ∧ ((q.findIdx? (· == 125) = none ∧ prs (c :: r) = ([], some 0)) ∨ ∃ a b, q = a ++ 125 :: b ∧ (∀ x ∈ a, x ≠ 125) ∧
      ((a.head? = some 33 ∧ prs (c :: r) = add (.tx (36 :: 123 :: a.drop 1 ++ [125])) (a.length + 3) (prs b)) ∨
       (a.head? ≠ some 33 ∧ (holeS a).2 = true ∧ prs (c :: r) = add (.ho (holeS a).1) (a.length + 3) (prs b)) ∨
       (a.head? ≠ some 33 ∧ (holeS a).2 = false ∧ prs (c :: r) = ([], some 0)))) := by
  by_cases h : c = 36 ∧ r.head? = some 123
  · right
    obtain ⟨rfl, h2⟩ := h
    cases r with
    | nil => cases h2
    | cons y q =>
      simp only [List.head?_cons, Option.some.injEq] at h2
      subst h2
      refine ⟨q, rfl, rfl, ?_⟩
      cases hf : q.findIdx? (· == 125) with
      | none => exact .inl ⟨rfl, prs_bad hf⟩
      | some i =>
        right
        obtain ⟨h3, h4, h5⟩ := idx_split 125 hf
        refine ⟨q.take i, q.drop (i + 1), h3, h4, ?_⟩
        by_cases h6 : (q.take i).head? = some 33
        · left
          refine ⟨h6, ?_⟩
          rw [prs_esc hf h6, h5]
        · right
          cases h7 : (holeS (q.take i)).2 with
          | true => exact .inl ⟨h6, rfl, by rw [prs_hole hf h6 h7, h5]⟩
          | false => exact .inr ⟨h6, rfl, prs_none hf h6 h7⟩
  · exact .inl ⟨h, prs_ch h⟩
theorem prs_ind {P : List UInt8 → Prop} (nil : P []) (ch : ∀ c r, ¬ (c = 36 ∧ r.head? = some 123) → P r → P (c :: r)) (bad : ∀ q, q.findIdx? (· == 125) = none → P (36 :: 123 :: q))
    (esc : ∀ a b, (∀ x ∈ a, x ≠ 125) → a.head? = some 33 → P b → P (36 :: 123 :: (a ++ 125 :: b)))
    (hole : ∀ a b, (∀ x ∈ a, x ≠ 125) → a.head? ≠ some 33 → (holeS a).2 = true → P b → P (36 :: 123 :: (a ++ 125 :: b)))
    (none : ∀ a b, (∀ x ∈ a, x ≠ 125) → a.head? ≠ some 33 → (holeS a).2 = false → P (36 :: 123 :: (a ++ 125 :: b))) : ∀ s, P s := by
  have key : ∀ (m : Nat) (s : List UInt8), s.length ≤ m → P s := by
    intro m
    induction m with
    | zero =>
      intro s hs
      cases s with
      | nil => exact nil
      | cons c r => simp at hs
    | succ m ih =>
      intro s hs
      cases s with
      | nil => exact nil
      | cons c r =>
        rw [List.length_cons] at hs
        rcases prs_cases c r with ⟨h1, _⟩ | ⟨q, rfl, rfl, ⟨h1, _⟩ | ⟨a, b, rfl, h1, ⟨h2, _⟩ | ⟨h2, h3, _⟩ | ⟨h2, h3, _⟩⟩⟩
        · exact ch c r h1 (ih r (by omega))
        · exact bad q h1
        · exact esc a b h1 h2 (ih b (by simp only [List.length_cons, List.length_append] at hs; omega))
        · exact hole a b h1 h2 h3 (ih b (by simp only [List.length_cons, List.length_append] at hs; omega))
        · exact none a b h1 h2 h3
  exact fun s => key s.length s (Nat.le_refl _)
theorem prs_none' {a b : List UInt8} (h : ∀ x ∈ a, x ≠ 125) (h2 : a.head? ≠ some 33) (h3 : (holeS a).2 = false) : prs (36 :: 123 :: (a ++ 125 :: b)) = ([], some 0) :=
  prs_none (r := a ++ 125 :: b) (split_idx 125 h) (by rw [List.take_left]; exact h2) (by rw [List.take_left]; exact h3)
theorem prs_len (s : List UInt8) : (prs s).1.length ≤ s.length := by
  induction s using prs_ind with
  | nil => simp [prs_nil]
  | ch c r h ih => rw [prs_ch h]; unfold add; simp only [List.length_cons]; omega
  | bad q h => rw [prs_bad h]; simp
  | esc a b h h2 ih => rw [prs_esc' h h2]; unfold add; simp only [List.length_cons, List.length_append]; omega
  | hole a b h h2 h3 ih => rw [prs_hole' h h2 h3]; unfold add; simp only [List.length_cons, List.length_append]; omega
  | none a b h h2 h3 => rw [prs_none' h h2 h3]; simp
theorem mrg_len : ∀ (l : List It) (b : List UInt8), (mrg b l).length ≤ 2 * l.length + 1
  | [], b => by unfold mrg; have := fl_len b; simp; exact this
  | .tx a :: r, b => by rw [mrg]; have := mrg_len r (b ++ a); simp only [List.length_cons]; omega
  | .ho x :: r, b => by
    rw [mrg]
    have := mrg_len r []
    have := fl_len b
    simp only [List.length_append, List.length_cons]
    omega
theorem lexS_len (s : List UInt8) : (lexS s).1.length ≤ 10000 := by
  unfold lexS
  split
  · split
    · rename_i h
      cases (prs s).2 with
      | some p => simp
      | none =>
        have h1 := mrg_len (prs s).1 []
        have h2 := prs_len s
        dsimp only
        omega
    · simp
  · simp
/-- What the parts are like. -/
def Flat (x : T_api_Expr) : Prop := x.fL = []
theorem holeS_flat (s : List UInt8) : Flat (holeS s).1 := by
  unfold holeS Flat
  split <;> rfl
def FlatIt : It → Prop
  | .tx _ => True
  | .ho x => Flat x
theorem prs_flat (s : List UInt8) : ∀ i ∈ (prs s).1, FlatIt i := by
  induction s using prs_ind with
  | nil => simp [prs_nil]
  | ch c r h ih => rw [prs_ch h]; exact List.forall_mem_cons.2 ⟨trivial, ih⟩
  | bad q h => rw [prs_bad h]; simp
  | esc a b h h2 ih => rw [prs_esc' h h2]; exact List.forall_mem_cons.2 ⟨trivial, ih⟩
  | hole a b h h2 h3 ih => rw [prs_hole' h h2 h3]; exact List.forall_mem_cons.2 ⟨holeS_flat _, ih⟩
  | none a b h h2 h3 => rw [prs_none' h h2 h3]; simp
theorem fl_flat (b : List UInt8) : ∀ x ∈ fl b, Flat x := by
  unfold fl
  split
  · simp
  · intro x hx
    simp at hx
    subst hx
    rfl
theorem mrg_flat : ∀ (l : List It) (b : List UInt8), (∀ i ∈ l, FlatIt i) → ∀ x ∈ mrg b l, Flat x
  | [], b, _ => fl_flat b
  | .tx a :: r, b, h => by rw [mrg]; exact mrg_flat r (b ++ a) fun i hi => h i (by simp [hi])
  | .ho y :: r, b, h => by
    rw [mrg]
    intro x hx
    rcases List.mem_append.1 hx with hx | hx
    · exact fl_flat b x hx
    rcases List.mem_cons.1 hx with rfl | hx
    · exact h (.ho x) (by simp)
    · exact mrg_flat r [] (fun i hi => h i (by simp [hi])) x hx
theorem lexS_flat (s : List UInt8) : ∀ x ∈ (lexS s).1, Flat x := by
  unfold lexS
  split
  · split
    · cases (prs s).2 with
      | some p => simp
      | none => exact mrg_flat _ _ (prs_flat s)
    · simp
  · simp

end Go.Proofs.YtdmjgmleilgbpaaDoor
