/-
  Chapter 12, plain: which parts may be, guarded texts: the program's. Own work.
-/
import Derived.Test.YtdmjgmleilgbpaaDoorSubW1
import Derived.Test.YtdmjgmleilgbpaaDoorQ5
namespace Go.Proofs.YtdmjgmleilgbpaaDoor
open Go Go.Vc

theorem part_sub {n : Nat} {x : T_api_Expr} (hn : 100000 ≤ n) (h : x.fText.length + x.fName.length + x.fAttr.length ≤ 3000) : sub_part n x = some (partS x) := by
  unfold sub_part partS
  rw [isEmpty_len]
  cases x.fL.isEmpty with
  | false => rfl
  | true =>
    rw [Bool.not_true, cF, bnd, Bool.true_and]
    by_cases h0 : x.fNum = 0
    case neg => rw [decide_eq_false h0]; rfl
    rw [decide_eq_true h0, Bool.not_true, cF, Bool.true_and]
    by_cases k0 : x.fKind = 0
    · rw [decide_eq_true k0, cT, need_t (by omega), app_nil, decide_eq_false (by omega : ¬ x.fKind = 3), decide_eq_false (by omega : ¬ x.fKind = 4), Bool.false_and, Bool.false_and, Bool.or_false, Bool.or_false, Bool.true_and]
      unfold runes_Valid h_ValidString
      rw [need_t (by omega), bnd, bnd, and_bif]
      cases decide (x.fName = []) <;> cases decide (x.fAttr = []) <;> rfl
    rw [decide_eq_false k0, cF, Bool.false_and, Bool.false_or]
    by_cases k3 : x.fKind = 3
    · rw [decide_eq_true k3, cT, need_t (by omega), app_nil, decide_eq_false (by omega : ¬ x.fKind = 4), Bool.false_and, Bool.or_false, Bool.true_and, name_sub (by omega) (by omega), bnd, and_bif]
      cases decide (x.fText = []) <;> cases decide (x.fAttr = []) <;> rfl
    rw [decide_eq_false k3, cF, Bool.false_and, Bool.false_or]
    by_cases k4 : x.fKind = 4
    · rw [decide_eq_true k4, cT, Bool.true_and, name_sub (by omega) (by omega), bnd, attr_sub (by omega) (by omega), bnd, and_bif, and_bif]
    · rw [decide_eq_false k4, cF, Bool.false_and]

/-- A text whose holes stand as they are; none: one is not shut. -/
def wr : List UInt8 → Option (List UInt8)
  | [] => some []
  | c :: r =>
    if c = 36 ∧ r.head? = some 123 then
      match (r.drop 1).findIdx? (· == 125) with
      | none => none
      | some i => (wr (r.drop (i + 2))).map ([36, 123, 33] ++ (r.drop 1).take i ++ [125] ++ ·)
    else (wr r).map (c :: ·)
  termination_by s => s.length
  decreasing_by all_goals simp <;> omega
theorem wr_nil : wr [] = some [] := by rw [wr]
theorem wr_ch {c : UInt8} {r : List UInt8} (h : ¬ (c = 36 ∧ r.head? = some 123)) : wr (c :: r) = (wr r).map (c :: ·) := by rw [wr, if_neg h]
theorem wr_bad {r : List UInt8} (h : r.findIdx? (· == 125) = none) : wr (36 :: 123 :: r) = none := by
  rw [wr, if_pos ⟨rfl, rfl⟩, List.drop_one, List.tail_cons, h]
theorem wr_in {r : List UInt8} {i : Nat} (h : r.findIdx? (· == 125) = some i) : wr (36 :: 123 :: r) = (wr (r.drop (i + 1))).map ([36, 123, 33] ++ r.take i ++ [125] ++ ·) := by
  rw [wr, if_pos ⟨rfl, rfl⟩, List.drop_one, List.tail_cons, h]
  rfl
theorem wr_in' {a b : List UInt8} (h : ∀ x ∈ a, x ≠ 125) : wr (36 :: 123 :: (a ++ 125 :: b)) = (wr b).map ([36, 123, 33] ++ a ++ [125] ++ ·) := by
  rw [wr_in (split_idx 125 h), List.take_left, ← List.drop_drop, List.drop_left]
  rfl
/-- Go on by places where a hole may begin. -/
theorem wr_ind {P : List UInt8 → Prop} (nil : P []) (ch : ∀ c r, ¬ (c = 36 ∧ r.head? = some 123) → P r → P (c :: r)) (bad : ∀ q, q.findIdx? (· == 125) = none → P (36 :: 123 :: q))
    (inn : ∀ a b, (∀ x ∈ a, x ≠ 125) → P b → P (36 :: 123 :: (a ++ 125 :: b))) : ∀ s, P s := by
  have key : ∀ (m : Nat) (s : List UInt8), s.length ≤ m → P s := by
    intro m
    induction m with
    | zero =>
      intro s hs
      cases s with
      | nil => exact nil
      | cons c r => simp at hs
    | succ m ih =>
      intro s hs
      cases s with
      | nil => exact nil
      | cons c r =>
        rw [List.length_cons] at hs
        by_cases h : c = 36 ∧ r.head? = some 123
        · obtain ⟨rfl, h2⟩ := h
          cases r with
          | nil => cases h2
          | cons y q =>
            simp only [List.head?_cons, Option.some.injEq] at h2
            subst h2
            cases hf : q.findIdx? (· == 125) with
            | none => exact bad q hf
            | some i =>
              obtain ⟨h3, h4, h5⟩ := idx_split 125 hf
              rw [h3]
              refine inn _ _ h4 (ih _ ?_)
              rw [List.length_drop]
              simp only [List.length_cons] at hs
              omega
        · exact ch c r h (ih r (by omega))
  exact fun s => key s.length s (Nat.le_refl _)
theorem wr_len (s : List UInt8) : ∀ t, wr s = some t → t.length ≤ 2 * s.length := by
  induction s using wr_ind with
  | nil => intro t h; rw [wr_nil] at h; cases h; simp
  | ch c r h ih =>
    intro t ht
    rw [wr_ch h] at ht
    obtain ⟨u, hu, rfl⟩ := Option.map_eq_some_iff.1 ht
    have := ih u hu
    simp only [List.length_cons]
    omega
  | bad q h => intro t ht; rw [wr_bad h] at ht; cases ht
  | inn a b h ih =>
    intro t ht
    rw [wr_in' h] at ht
    obtain ⟨u, hu, rfl⟩ := Option.map_eq_some_iff.1 ht
    have := ih u hu
    simp only [List.length_append, List.length_cons, List.length_nil]
    omega

theorem prefix2 (s : List UInt8) : Lib.hasPrefix s [36, 123] = true ↔ ∃ q, s = 36 :: 123 :: q := by
  constructor
  · intro h
    obtain ⟨q, hq⟩ := List.isPrefixOf_iff_prefix.1 h
    exact ⟨q, hq.symm⟩
  · rintro ⟨q, rfl⟩
    exact List.isPrefixOf_iff_prefix.2 ⟨q, rfl⟩
/-- The first place of the mark that opens a hole. -/
def opn2 : List UInt8 → Option Nat
  | [] => none
  | c :: r => if c = 36 ∧ r.head? = some 123 then some 0 else (opn2 r).map (· + 1)
theorem index_two : ∀ s : List UInt8, Lib.index s [36, 123] = match opn2 s with | some i => ((i : Nat) : Int) | none => -1
  | [] => by simp [Lib.index, opn2]
  | c :: r => by
    have ih := index_two r
    unfold opn2
    by_cases h : c = 36 ∧ r.head? = some 123
    · rw [if_pos h]
      obtain ⟨rfl, h2⟩ := h
      cases r with
      | nil => cases h2
      | cons y q =>
        simp only [List.head?_cons, Option.some.injEq] at h2
        subst h2
        simp [Lib.index]
    · rw [if_neg h]
      have h2 : ([36, 123] : List UInt8).isPrefixOf (c :: r) = false := by
        cases hp : ([36, 123] : List UInt8).isPrefixOf (c :: r) with
        | false => rfl
        | true =>
          obtain ⟨q, hq⟩ := (prefix2 (c :: r)).1 hp
          cases hq
          exact absurd ⟨rfl, rfl⟩ h
      unfold Lib.index
      simp only [h2]
      rw [ih]
      cases opn2 r <;> simp
theorem cut_two (s : List UInt8) : Lib.cut s [36, 123] = match opn2 s with | some i => (s.take i, s.drop (i + 2), true) | none => (s, [], false) := by
  unfold Lib.cut
  rw [index_two]
  cases opn2 s with
  | none => rfl
  | some i =>
    show (if 0 ≤ ((i : Nat) : Int) then _ else _) = _
    rw [if_pos (by omega)]
    simp
theorem opn2_none : ∀ s : List UInt8, opn2 s = none → wr s = some s
  | [], _ => wr_nil
  | c :: r, h => by
    unfold opn2 at h
    by_cases h1 : c = 36 ∧ r.head? = some 123
    · rw [if_pos h1] at h; cases h
    · rw [if_neg h1] at h
      rw [wr_ch h1, opn2_none r (by simpa using h)]
      rfl
theorem opn2_some : ∀ (s : List UInt8) (i : Nat), opn2 s = some i → i + 2 ≤ s.length ∧ s.drop i = 36 :: 123 :: s.drop (i + 2) ∧ wr s = (wr (s.drop i)).map (s.take i ++ ·)
  | [], i, h => by cases h
  | c :: r, i, h => by
    unfold opn2 at h
    by_cases h1 : c = 36 ∧ r.head? = some 123
    · rw [if_pos h1] at h
      cases h
      obtain ⟨rfl, h2⟩ := h1
      cases r with
      | nil => cases h2
      | cons y q =>
        simp only [List.head?_cons, Option.some.injEq] at h2
        subst h2
        refine ⟨by simp, rfl, ?_⟩
        simp
    · rw [if_neg h1] at h
      obtain ⟨j, hj, rfl⟩ := Option.map_eq_some_iff.1 h
      obtain ⟨g1, g2, g3⟩ := opn2_some r j hj
      refine ⟨by simp only [List.length_cons]; omega, by simpa using g2, ?_⟩
      rw [wr_ch h1, g3]
      simp [Option.map_map, Function.comp_def]

theorem guard_loop {n : Nat} : ∀ (m : Nat) (s b : List UInt8), s.length ≤ m → s.length < 1000000 → b.length + 2 * s.length < 10000000 → ∀ q, m < q →
    ∃ r, loopF (sub_guarded_s1 n) q (s, b) = some r ∧ r.1 = ((wr s).map (b ++ ·)).getD [] ∧ r.2.1 = (wr s).isSome
  | m, s, b, hm, hs, hb, q, hq => by
    obtain ⟨q, rfl⟩ : ∃ r, q = r + 1 := ⟨q - 1, by omega⟩
    rw [loopF, sub_guarded_s1]
    unfold h_Cut
    dsimp only
    rw [need_t (by omega), bnd, cut_two]
    cases h : opn2 s with
    | none =>
      dsimp only
      rw [wrS (by omega), bnd, Bool.not_false, cT]
      unfold strings_Builder_String
      rw [bnd, bnd, opn2_none s h]
      exact ⟨_, rfl, rfl, rfl⟩
    | some i =>
      obtain ⟨h1, h2, h3⟩ := opn2_some s i h
      have hti : (s.take i).length = i := by rw [List.length_take]; omega
      dsimp only
      rw [wrS (by omega), bnd, Bool.not_true, cF, need_t (by rw [List.length_drop]; omega), bnd, cut_one]
      cases hf : (s.drop (i + 2)).findIdx? (· == 125) with
      | none =>
        dsimp only
        rw [Bool.not_false, cT, bnd, h3, h2, wr_bad hf]
        exact ⟨_, rfl, rfl, rfl⟩
      | some j =>
        have hj : j < (s.drop (i + 2)).length := (List.findIdx?_eq_some_iff_getElem.1 hf).1
        rw [List.length_drop] at hj
        have htj : ((s.drop (i + 2)).take j).length = j := by rw [List.length_take, List.length_drop]; omega
        have hdj : ((s.drop (i + 2)).drop (j + 1)).length = s.length - (i + 2) - (j + 1) := by rw [List.length_drop, List.length_drop]
        dsimp only
        rw [Bool.not_true, cF, need_t (by simp only [List.length_cons, List.length_nil, htj]; omega), need_t (by simp only [List.length_append, List.length_cons, List.length_nil, htj]; omega), wrS (by simp only [List.length_append, List.length_cons, List.length_nil, htj, hti]; omega), bnd, bnd]
        dsimp only
        obtain ⟨r, g1, g2, g3⟩ := guard_loop (m - 1) ((s.drop (i + 2)).drop (j + 1)) ((b ++ s.take i) ++ (([36, 123, 33] ++ (s.drop (i + 2)).take j) ++ [125])) (by omega) (by omega) (by simp only [List.length_append, List.length_cons, List.length_nil, htj, hti]; omega) q (by omega)
        refine ⟨r, g1, ?_, ?_⟩
        · rw [g2, h3, h2, wr_in hf]
          cases wr ((s.drop (i + 2)).drop (j + 1)) with
          | none => rfl
          | some u => simp
        · rw [g3, h3, h2, wr_in hf]
          cases wr ((s.drop (i + 2)).drop (j + 1)) <;> rfl
theorem guard_sub {n : Nat} {s : List UInt8} (hs : s.length ≤ 3000) (hn : 100000 ≤ n) : sub_guarded n s = some ((wr s).getD [], (wr s).isSome) := by
  unfold sub_guarded
  obtain ⟨r, g1, g2, g3⟩ := guard_loop (n := n) s.length s [] (Nat.le_refl _) (by omega) (by simp; omega) n (by omega)
  rw [g1, bnd, g2, g3]
  cases wr s <;> rfl
end Go.Proofs.YtdmjgmleilgbpaaDoor
