/-
  Chapter 12, plain: what is written reads as the parts. Own work.
-/
import Derived.Test.YtdmjgmleilgbpaaDoorSubW3
namespace Go.Proofs.YtdmjgmleilgbpaaDoor
open Go Go.Vc

theorem wr_valid (s : List UInt8) : ∀ (a t : List UInt8), wr s = some t → Lib.validD (a ++ s) = true → Lib.validD (a ++ t) = true := by
  induction s using wr_ind with
  | nil => intro a t h hv; rw [wr_nil] at h; cases h; exact hv
  | ch c r h ih =>
    intro a t ht hv
    rw [wr_ch h] at ht
    obtain ⟨u, hu, rfl⟩ := Option.map_eq_some_iff.1 ht
    have := ih (a ++ [c]) u hu (by simpa using hv)
    simpa using this
  | bad q h => intro a t ht; rw [wr_bad h] at ht; cases ht
  | inn x b h ih =>
    intro a t ht hv
    rw [wr_in' h] at ht
    obtain ⟨u, hu, rfl⟩ := Option.map_eq_some_iff.1 ht
    obtain ⟨h1, h2⟩ := valid_cut a.length (Nat.le_refl _) (by decide) hv
    rw [Lib.validD_cons _ _ (by decide)] at h2
    obtain ⟨h3, h4⟩ := valid_cut x.length (Nat.le_refl _) (by decide) h2
    have h5 := ih [] u hu (by simpa using h4)
    rw [valid_app a.length (Nat.le_refl _) h1]
    show Lib.validD (36 :: 123 :: 33 :: (x ++ [125]) ++ u) = true
    rw [List.cons_append, Lib.validD_cons _ _ (by decide), List.cons_append, Lib.validD_cons _ _ (by decide), List.cons_append, Lib.validD_cons _ _ (by decide), List.append_assoc, valid_app x.length (Nat.le_refl _) h3]
    show Lib.validD (125 :: u) = true
    rw [Lib.validD_cons _ _ (by decide)]
    simpa using h5
theorem wr_head (s : List UInt8) : ∀ t, wr s = some t → t.head? = s.head? := by
  induction s using wr_ind with
  | nil => intro t h; rw [wr_nil] at h; cases h; rfl
  | ch c r h ih =>
    intro t ht
    rw [wr_ch h] at ht
    obtain ⟨u, hu, rfl⟩ := Option.map_eq_some_iff.1 ht
    rfl
  | bad q h => intro t ht; rw [wr_bad h] at ht; cases ht
  | inn x b h ih =>
    intro t ht
    rw [wr_in' h] at ht
    obtain ⟨u, hu, rfl⟩ := Option.map_eq_some_iff.1 ht
    rfl
def cat : List It → List UInt8
  | [] => []
  | .tx b :: r => b ++ cat r
  | .ho _ :: r => cat r
def AllTx (l : List It) : Prop := ∀ i ∈ l, ∃ b, i = .tx b
theorem mrg_cat : ∀ (P l : List It) (b : List UInt8), AllTx P → mrg b (P ++ l) = mrg (b ++ cat P) l
  | [], l, b, _ => by simp [cat]
  | .tx a :: P, l, b, h => by
    rw [List.cons_append, mrg, mrg_cat P l (b ++ a) (fun i hi => h i (by simp [hi])), cat, List.append_assoc]
  | .ho x :: P, l, b, h => by
    obtain ⟨c, hc⟩ := h (.ho x) (by simp)
    cases hc
theorem wr_prs (u : List UInt8) (hu : u = [] ∨ u.head? = some 36) (s : List UInt8) : ∀ t, wr s = some t → ∃ P, prs (t ++ u) = (P ++ (prs u).1, (prs u).2.map (· + t.length)) ∧ AllTx P ∧ cat P = s := by
  induction s using wr_ind with
  | nil =>
    intro t h
    rw [wr_nil] at h
    cases h
    exact ⟨[], by simp, fun i hi => (by cases hi), rfl⟩
  | ch c r h ih =>
    intro t ht
    rw [wr_ch h] at ht
    obtain ⟨v, hv, rfl⟩ := Option.map_eq_some_iff.1 ht
    obtain ⟨P, h1, h2, h3⟩ := ih v hv
    have hh := wr_head r v hv
    have hns : ¬ (c = 36 ∧ (v ++ u).head? = some 123) := fun e => by
      cases v with
      | nil =>
        rw [List.nil_append] at e
        rcases hu with rfl | hu
        · simp at e
        · rw [hu] at e; simp at e
      | cons y v => exact h ⟨e.1, by rw [← hh]; exact e.2⟩
    refine ⟨.tx [c] :: P, ?_, fun i hi => ?_, by rw [cat, h3]; rfl⟩
    · rw [List.cons_append, prs_ch hns, h1]
      unfold add
      simp only [List.cons_append, Option.map_map, List.length_cons]
      refine congrArg (Prod.mk _) (congrFun (congrArg Option.map ?_) _)
      funext x
      simp only [Function.comp]
      omega
    · rcases List.mem_cons.1 hi with rfl | hi
      · exact ⟨[c], rfl⟩
      · exact h2 i hi
  | bad q h => intro t ht; rw [wr_bad h] at ht; cases ht
  | inn x b h ih =>
    intro t ht
    rw [wr_in' h] at ht
    obtain ⟨v, hv, rfl⟩ := Option.map_eq_some_iff.1 ht
    obtain ⟨P, h1, h2, h3⟩ := ih v hv
    refine ⟨.tx (36 :: 123 :: x ++ [125]) :: P, ?_, fun i hi => ?_, by rw [cat, h3]; simp⟩
    · have e : ([36, 123, 33] ++ x ++ [125] ++ v) ++ u = 36 :: 123 :: ((33 :: x) ++ 125 :: (v ++ u)) := by simp
      have h33 : ∀ y ∈ (33 :: x : List UInt8), y ≠ 125 := fun y hy => by
        rcases List.mem_cons.1 hy with rfl | hy
        · decide
        · exact h y hy
      rw [e, prs_esc' h33 rfl, h1]
      unfold add
      simp only [List.cons_append, Option.map_map, List.length_cons, List.length_append, List.length_nil, List.drop_succ_cons, List.drop_zero]
      refine congrArg (Prod.mk _) (congrFun (congrArg Option.map ?_) _)
      funext y
      simp only [Function.comp]
      omega
    · rcases List.mem_cons.1 hi with rfl | hi
      · exact ⟨_, rfl⟩
      · exact h2 i hi

theorem isL_facts : ((List.range 256).all fun m => let c := UInt8.ofNat m; !(isL c || isD c) || (decide (m < 128) && (!(c == 125) && (!(c == 46) && (!(c == 33) || false))))) = true := by kernel_rfl
theorem lett (c : UInt8) (h : (isL c || isD c) = true) : c.toNat < 128 ∧ c ≠ 125 ∧ c ≠ 46 ∧ c ≠ 33 := by
  have h1 := List.all_eq_true.1 isL_facts c.toNat (List.mem_range.2 c.toNat_lt)
  rw [show UInt8.ofNat c.toNat = c by simp] at h1
  simp only [h, Bool.not_true, Bool.false_or, Bool.and_eq_true, decide_eq_true_eq, Bool.not_eq_true', beq_eq_false_iff_ne, Bool.or_false] at h1
  exact ⟨h1.1, h1.2.1, h1.2.2.1, h1.2.2.2⟩
theorem nameS_facts {s : List UInt8} (h : nameS s = true) : 1 ≤ s.length ∧ s.length ≤ 32 ∧ ∀ c ∈ s, c.toNat < 128 ∧ c ≠ 125 ∧ c ≠ 46 ∧ c ≠ 33 := by
  unfold nameS at h
  simp only [Bool.and_eq_true, decide_eq_true_eq] at h
  exact ⟨h.1.1.1, h.1.1.2, fun c hc => lett c (List.all_eq_true.1 h.2 c hc)⟩
theorem attrS_facts {s : List UInt8} (h : attrS s = true) : s.length ≤ 40 ∧ ∀ c ∈ s, c.toNat < 128 ∧ c ≠ 125 := by
  unfold attrS at h
  cases hf : s.findIdx? (· == 46) with
  | none =>
    rw [hf] at h
    obtain ⟨h1, h2, h3⟩ := nameS_facts h
    exact ⟨by omega, fun c hc => ⟨(h3 c hc).1, (h3 c hc).2.1⟩⟩
  | some i =>
    rw [hf] at h
    simp only [Bool.and_eq_true, decide_eq_true_eq] at h
    obtain ⟨h0, h⟩ := h
    obtain ⟨h1, h2, h3⟩ := nameS_facts h
    obtain ⟨g1, g2, g3⟩ := idx_split 46 hf
    rw [h0] at g1 g3
    rw [g1]
    rw [List.length_drop] at h2
    refine ⟨by simp only [List.length_append, List.length_cons, List.length_nil, List.length_drop] at *; omega, fun c hc => ?_⟩
    rcases List.mem_append.1 hc with hc | hc
    · have : ∀ y ∈ ([79, 117, 116, 112, 117, 116, 115] : List UInt8), y.toNat < 128 ∧ y ≠ 125 := by decide
      exact this c hc
    · rcases List.mem_cons.1 hc with rfl | hc
      · decide
      · exact ⟨(h3 c hc).1, (h3 c hc).2.1⟩
theorem valid_low {s : List UInt8} (h : ∀ c ∈ s, c.toNat < 128) : Lib.validD s = true := by
  rw [Lib.validD_ascii s.length s (by rw [List.take_length]; exact h), List.drop_length]
  rfl
theorem holeS_name {s : List UInt8} (h : nameS s = true) : holeS s = (⟨3, [], 0, s, [], []⟩, true) := by
  unfold holeS
  have : s.findIdx? (· == 46) = none := by
    rw [List.findIdx?_eq_none_iff]
    intro c hc
    simpa using ((nameS_facts h).2.2 c hc).2.2.1
  rw [this]
  dsimp only
  rw [h]
theorem holeS_att {s a : List UInt8} (h : nameS s = true) (h2 : attrS a = true) : holeS (s ++ 46 :: a) = (⟨4, [], 0, s, a, []⟩, true) := by
  unfold holeS
  rw [split_idx 46 (fun c hc => ((nameS_facts h).2.2 c hc).2.2.1)]
  dsimp only
  rw [List.take_left, ← List.drop_drop, List.drop_left]
  show (_, nameS s && attrS a) = _
  rw [h, h2]
  rfl

theorem part_tx {x : T_api_Expr} (h : partS x = true) (hk : x.fKind = 0) : x = txE x.fText ∧ x.fText ≠ [] ∧ Lib.validD x.fText = true := by
  cases x with
  | mk k t nm name attr l =>
    unfold partS at h
    dsimp only at h hk ⊢
    subst hk
    simp only [Bool.and_eq_true, Bool.or_eq_true, decide_eq_true_eq, List.isEmpty_iff, Bool.not_eq_true', decide_eq_false_iff_not] at h
    obtain ⟨rfl, rfl, h⟩ := h
    rcases h with ⟨_, rfl, rfl, h1, h2⟩ | ⟨h, _⟩ | ⟨h, _⟩
    · exact ⟨rfl, h1, h2⟩
    · exact absurd h (by decide)
    · exact absurd h (by decide)
theorem part_ho {x : T_api_Expr} (h : partS x = true) (hk : x.fKind ≠ 0) : (x = ⟨3, [], 0, x.fName, [], []⟩ ∧ nameS x.fName = true) ∨ (x = ⟨4, [], 0, x.fName, x.fAttr, []⟩ ∧ nameS x.fName = true ∧ attrS x.fAttr = true) := by
  cases x with
  | mk k t nm name attr l =>
    unfold partS at h
    dsimp only at h hk ⊢
    simp only [Bool.and_eq_true, Bool.or_eq_true, decide_eq_true_eq, List.isEmpty_iff, Bool.not_eq_true', decide_eq_false_iff_not] at h
    obtain ⟨rfl, rfl, h⟩ := h
    rcases h with ⟨h, _⟩ | ⟨rfl, rfl, rfl, h1⟩ | ⟨rfl, rfl, h1, h2⟩
    · exact absurd h hk
    · exact .inl ⟨rfl, h1⟩
    · exact .inr ⟨rfl, h1, h2⟩

theorem back (l : List T_api_Expr) : (∀ x ∈ l, partS x = true) → NoAdj l → ∀ t, outS l = some t →
    Lib.validD t = true ∧ (prs t).2 = none ∧ mrg [] (prs t).1 = l ∧ (match l with | [] => t = [] | x :: _ => x.fKind ≠ 0 → t.head? = some 36) := by
  induction l with
  | nil =>
    intro _ _ t h
    cases h
    exact ⟨rfl, by rw [prs_nil], by rw [prs_nil]; rfl, rfl⟩
  | cons x r ih =>
    intro hp ha t ht
    have hpx := hp x (by simp)
    rw [outS] at ht
    obtain ⟨a, ha1, ht⟩ := Option.bind_eq_some_iff.1 ht
    obtain ⟨u, hu, rfl⟩ := Option.map_eq_some_iff.1 ht
    have har : NoAdj r := by
      cases r with
      | nil => trivial
      | cons y r => exact ha.2
    obtain ⟨i1, i2, i3, i4⟩ := ih (fun y hy => hp y (by simp [hy])) har u hu
    unfold pieceS at ha1
    by_cases hk : x.fKind = 0
    · rw [if_pos hk] at ha1
      obtain ⟨e1, e2, e3⟩ := part_tx hpx hk
      have hu0 : u = [] ∨ u.head? = some 36 := by
        cases r with
        | nil => exact .inl i4
        | cons y r => exact .inr (i4 (fun h => ha.1 ⟨hk, h⟩))
      obtain ⟨P, g1, g2, g3⟩ := wr_prs u hu0 x.fText a ha1
      have hva : Lib.validD a = true := by
        have := wr_valid x.fText [] a ha1 (by simpa using e3)
        simpa using this
      refine ⟨by rw [valid_app a.length (Nat.le_refl _) hva]; exact i1, by rw [g1, i2]; rfl, ?_, fun h => absurd hk h⟩
      rw [g1]
      dsimp only
      rw [mrg_cat P _ [] g2, g3, List.nil_append, mrg_jt _ _ (prs_hok u), i3]
      cases r with
      | nil =>
        show fl x.fText = [x]
        rw [fl, if_neg e2, ← e1]
      | cons y r =>
        rw [jt_ho (fun h => ha.1 ⟨hk, h⟩), fl, if_neg e2, ← e1]
        rfl
    · rw [if_neg hk] at ha1
      have key : ∀ q : List UInt8, a = 36 :: 123 :: (q ++ [125]) → (∀ c ∈ q, c.toNat < 128 ∧ c ≠ 125) → q.head? ≠ some 33 → holeS q = (x, true) → Lib.validD (a ++ u) = true ∧ (prs (a ++ u)).2 = none ∧ mrg [] (prs (a ++ u)).1 = x :: r ∧ (a ++ u).head? = some 36 := by
        intro q e h1 h2 h3
        have e2 : a ++ u = 36 :: 123 :: (q ++ 125 :: u) := by rw [e]; simp
        rw [e2, prs_hole' (fun c hc => (h1 c hc).2) h2 (by rw [h3])]
        refine ⟨?_, ?_, ?_, rfl⟩
        · rw [Lib.validD_cons _ _ (by decide), Lib.validD_cons _ _ (by decide), valid_app q.length (Nat.le_refl _) (valid_low fun c hc => (h1 c hc).1), Lib.validD_cons _ _ (by decide)]
          exact i1
        · show Option.map _ _ = _
          rw [i2]
          rfl
        · rw [h3]
          show fl [] ++ x :: mrg [] (prs u).1 = x :: r
          rw [i3]
          rfl
      have hh : ∀ {nm b : List UInt8}, nameS nm = true → (nm ++ b).head? ≠ some 33 := fun {nm b} h => by
        obtain ⟨n1, n2, n3⟩ := nameS_facts h
        cases nm with
        | nil => simp at n1
        | cons c nm =>
          have := (n3 c (by simp)).2.2.2
          simpa using this
      rcases part_ho hpx hk with ⟨e1, e2⟩ | ⟨e1, e2, e3⟩
      · have hk3 : x.fKind = 3 := by rw [e1]
        rw [if_pos hk3] at ha1
        obtain ⟨g1, g2, g3, g4⟩ := key x.fName (by cases ha1; simp) (fun c hc => ⟨((nameS_facts e2).2.2 c hc).1, ((nameS_facts e2).2.2 c hc).2.1⟩) (by have := hh (b := []) e2; simpa using this) (by rw [holeS_name e2, ← e1])
        exact ⟨g1, g2, g3, fun _ => g4⟩
      · have hk3 : ¬ x.fKind = 3 := by rw [e1]; show ¬ (4 : Int) = 3; decide
        rw [if_neg hk3] at ha1
        obtain ⟨g1, g2, g3, g4⟩ := key (x.fName ++ 46 :: x.fAttr) (by cases ha1; simp) (fun c hc => by
          rcases List.mem_append.1 hc with hc | hc
          · exact ⟨((nameS_facts e2).2.2 c hc).1, ((nameS_facts e2).2.2 c hc).2.1⟩
          · rcases List.mem_cons.1 hc with rfl | hc
            · decide
            · exact (attrS_facts e3).2 c hc) (hh e2) (by rw [holeS_att e2 e3, ← e1])
        exact ⟨g1, g2, g3, fun _ => g4⟩
end Go.Proofs.YtdmjgmleilgbpaaDoor
