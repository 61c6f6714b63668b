/-
  Chapter 12, plain: SubBack. Own work.
-/
import Derived.Test.YtdmjgmleilgbpaaDoorSubB1
import Derived.Test.YtdmjgmleilgbpaaDoorSubSame
import Derived.Test.YtdmjgmleilgbpaaDoorLBack
namespace Go.Proofs.YtdmjgmleilgbpaaDoor
open Go Go.Vc

theorem adj_idx : ∀ (l : List T_api_Expr), (∀ k, k + 1 < l.length → ¬ ((l.getD k (txE [])).fKind = 0 ∧ (l.getD (k + 1) (txE [])).fKind = 0)) → NoAdj l
  | [], _ => trivial
  | [_], _ => trivial
  | x :: y :: r, h => ⟨h 0 (by simp), adj_idx (y :: r) fun k hk => by
      have := h (k + 1) (by simpa using hk)
      simpa using this⟩
theorem bad_adj {l : List T_api_Expr} (h : badS l = false) : NoAdj l := adj_idx l fun k hk e => by
  unfold badS at h
  have := List.any_eq_false.1 h (k + 1) (List.mem_range.2 hk)
  unfold badAt at this
  rw [Nat.add_sub_cancel, decide_eq_true e.1, decide_eq_true e.2] at this
  simp at this
theorem bad_part {l : List T_api_Expr} (h : badS l = false) : ∀ x ∈ l, partS x = true := fun x hx => by
  obtain ⟨i, hi, rfl⟩ := List.mem_iff_getElem.1 hx
  unfold badS at h
  have := List.any_eq_false.1 h i (List.mem_range.2 hi)
  unfold badAt at this
  rw [show l.getD i (txE []) = l[i] by simp [List.getD, hi]] at this
  cases hp : partS l[i] with
  | true => rfl
  | false => rw [hp] at this; simp at this
theorem not_bad {l : List T_api_Expr} (hp : ∀ x ∈ l, partS x = true) (ha : NoAdj l) : badS l = false := by
  unfold badS
  rw [List.any_eq_false]
  intro k hk
  have hk := List.mem_range.1 hk
  unfold badAt
  rw [hp _ (show l.getD k (txE []) ∈ l by simp [List.getD, hk])]
  simp only [Bool.not_true, Bool.false_or, Bool.and_eq_true, decide_eq_true_eq]
  rintro ⟨h0, h1, h2⟩
  exact ha.at (k - 1) (by omega) ⟨h2, by rw [show k - 1 + 1 = k by omega]; exact h1⟩
theorem part_flat {x : T_api_Expr} (h : partS x = true) : Flat x := by
  unfold partS at h
  simp only [Bool.and_eq_true, List.isEmpty_iff] at h
  exact h.1
theorem lex_back {l : List T_api_Expr} {t : List UInt8} (h : writeS l = (t, 0)) (hl : t.length ≤ 4096) : lexS t = (l, 0, 0) := by
  unfold writeS at h
  cases hb : badS l with
  | true => rw [hb, cT] at h; cases h
  | false =>
    rw [hb, cF] at h
    cases ho : outS l with
    | none => rw [ho] at h; cases h
    | some u =>
      rw [ho] at h
      cases h
      obtain ⟨h1, h2, h3, _⟩ := back l (bad_part hb) (bad_adj hb) t ho
      unfold lexS
      rw [if_pos h1, if_pos hl, h2]
      dsimp only
      rw [h3]

theorem hole_part {a : List UInt8} (h : (holeS a).2 = true) : partS (holeS a).1 = true ∧ (holeS a).1.fText.length + (holeS a).1.fName.length + (holeS a).1.fAttr.length ≤ 3000 := by
  unfold holeS at h ⊢
  cases hf : a.findIdx? (· == 46) with
  | none =>
    rw [hf] at h
    dsimp only at h ⊢
    obtain ⟨h1, h2, _⟩ := nameS_facts h
    refine ⟨?_, by simp only [List.length_nil]; omega⟩
    unfold partS
    simp [h]
  | some i =>
    rw [hf] at h
    dsimp only at h ⊢
    simp only [Bool.and_eq_true] at h
    obtain ⟨h1, h2, _⟩ := nameS_facts h.1
    obtain ⟨h3, _⟩ := attrS_facts h.2
    refine ⟨?_, by simp only [List.length_nil]; omega⟩
    unfold partS
    simp [h.1, h.2]
theorem mrg_tx (a E : List UInt8) (k : Nat) (p : List It × Option Nat) : mrg a (add (.tx E) k p).1 = mrg (a ++ E) p.1 := rfl
theorem mrg_ho (a : List UInt8) (x : T_api_Expr) (k : Nat) (p : List It × Option Nat) : mrg a (add (.ho x) k p).1 = fl a ++ x :: mrg [] p.1 := rfl
theorem add_none {it : It} {k : Nat} {p : List It × Option Nat} (h : (add it k p).2 = none) : p.2 = none := by
  unfold add at h
  simpa using h
/-- Texts that came of a valid text. -/
theorem lex_valid (s : List UInt8) : ∀ a, (prs s).2 = none → Lib.validD (a ++ s) = true → ∀ x ∈ mrg a (prs s).1, (x.fKind = 0 → Lib.validD x.fText = true ∧ x = txE x.fText ∧ x.fText ≠ []) ∧ (x.fKind ≠ 0 → partS x = true ∧ x.fText.length + x.fName.length + x.fAttr.length ≤ 3000) := by
  have flv : ∀ a : List UInt8, Lib.validD a = true → ∀ x ∈ fl a, (x.fKind = 0 → Lib.validD x.fText = true ∧ x = txE x.fText ∧ x.fText ≠ []) ∧ (x.fKind ≠ 0 → partS x = true ∧ x.fText.length + x.fName.length + x.fAttr.length ≤ 3000) := fun a ha x hx => by
    unfold fl at hx
    split at hx
    · simp at hx
    · rename_i hne
      simp at hx
      subst hx
      exact ⟨fun _ => ⟨ha, rfl, hne⟩, fun h => absurd rfl h⟩
  induction s using prs_ind with
  | nil =>
    intro a _ hv x hx
    rw [prs_nil] at hx
    exact flv a (by simpa using hv) x hx
  | ch c r h ih =>
    intro a hn hv x hx
    rw [prs_ch h] at hn hx
    rw [mrg_tx] at hx
    exact ih (a ++ [c]) (add_none hn) (by simpa using hv) x hx
  | bad q h => intro a hn; rw [prs_bad h] at hn; cases hn
  | esc q b h h2 ih =>
    intro a hn hv x hx
    rw [prs_esc' h h2] at hn hx
    obtain ⟨h3, h4⟩ := valid_cut a.length (Nat.le_refl _) (by decide) hv
    rw [Lib.validD_cons _ _ (by decide)] at h4
    obtain ⟨h5, h6⟩ := valid_cut q.length (Nat.le_refl _) (by decide) h4
    have h7 : Lib.validD (q.drop 1) = true := by
      cases q with
      | nil => cases h2
      | cons y q =>
        simp only [List.head?_cons, Option.some.injEq] at h2
        subst h2
        rw [Lib.validD_cons _ _ (by decide)] at h5
        exact h5
    rw [mrg_tx] at hx
    refine ih (a ++ (36 :: 123 :: q.drop 1 ++ [125])) (add_none hn) ?_ x hx
    rw [List.append_assoc, valid_app a.length (Nat.le_refl _) h3]
    have e : (36 :: 123 :: q.drop 1 ++ [125]) ++ b = 36 :: 123 :: (q.drop 1 ++ 125 :: b) := by simp
    rw [e, Lib.validD_cons _ _ (by decide), Lib.validD_cons _ _ (by decide), valid_app (q.drop 1).length (Nat.le_refl _) h7, Lib.validD_cons _ _ (by decide)]
    exact h6
  | hole q b h h2 h3 ih =>
    intro a hn hv x hx
    rw [prs_hole' h h2 h3] at hn hx
    obtain ⟨h4, h5⟩ := valid_cut a.length (Nat.le_refl _) (by decide) hv
    rw [Lib.validD_cons _ _ (by decide)] at h5
    obtain ⟨h6, h7⟩ := valid_cut q.length (Nat.le_refl _) (by decide) h5
    rw [mrg_ho] at hx
    rcases List.mem_append.1 hx with hx | hx
    · exact flv a h4 x hx
    rcases List.mem_cons.1 hx with rfl | hx
    · exact ⟨fun h => absurd h (holeS_kind q), fun _ => hole_part h3⟩
    · exact ih [] (add_none hn) (by simpa using h7) x hx
  | none q b h h2 h3 => intro a hn; rw [prs_none' h h2 h3] at hn; cases hn
theorem wr_one (c : UInt8) : wr [c] = some [c] := by rw [wr_ch (by simp), wr_nil]; rfl
/-- Texts that were read can be written. -/
theorem lex_wr (s : List UInt8) : (prs s).2 = none → (∀ x ∈ mrg [] (prs s).1, x.fKind = 0 → (wr x.fText).isSome = true) ∧ (match mrg [] (prs s).1 with | [] => True | x :: _ => x.fKind = 0 → x.fText.head? = s.head?) := by
  induction s using prs_ind with
  | nil =>
    intro _
    rw [prs_nil]
    exact ⟨fun x hx => (by cases hx), trivial⟩
  | ch c r h ih =>
    intro hn
    rw [prs_ch h] at hn ⊢
    obtain ⟨i1, i2⟩ := ih (add_none hn)
    have e : mrg [] (add (.tx [c]) 1 (prs r)).1 = jt [c] (mrg [] (prs r).1) := by
      rw [mrg_tx, List.nil_append, mrg_jt _ _ (prs_hok r)]
    rw [e]
    cases hm : mrg [] (prs r).1 with
    | nil =>
      refine ⟨fun x hx _ => ?_, fun _ => rfl⟩
      rw [fl_text hx, wr_one]
      rfl
    | cons y q =>
      rw [hm] at i1 i2
      by_cases hy : y.fKind = 0
      · rw [jt_tx (by simp) hy]
        refine ⟨fun x hx hk => ?_, fun _ => rfl⟩
        rcases List.mem_cons.1 hx with rfl | hx
        · show (wr ([c] ++ y.fText)).isSome = true
          have hh := i2 hy
          rw [List.singleton_append, wr_ch (fun e => h ⟨e.1, by rw [← hh]; exact e.2⟩), Option.isSome_map]
          exact i1 y (by simp) hy
        · exact i1 x (by simp [hx]) hk
      · rw [jt_ho hy]
        show (∀ x ∈ txE [c] :: y :: q, _) ∧ (match txE [c] :: y :: q with | [] => True | x :: _ => x.fKind = 0 → x.fText.head? = (c :: r).head?)
        refine ⟨fun x hx hk => ?_, fun _ => rfl⟩
        rcases List.mem_cons.1 hx with rfl | hx
        · show (wr [c]).isSome = true
          rw [wr_one]
          rfl
        · exact i1 x hx hk
  | bad q h => intro hn; rw [prs_bad h] at hn; cases hn
  | esc q b h h2 ih =>
    intro hn
    rw [prs_esc' h h2] at hn ⊢
    obtain ⟨i1, i2⟩ := ih (add_none hn)
    have h125 : ∀ x ∈ q.drop 1, x ≠ 125 := fun x hx => h x (List.mem_of_mem_drop hx)
    have wre : ∀ t, wr t |>.isSome → (wr ((36 :: 123 :: q.drop 1 ++ [125]) ++ t)).isSome = true := fun t ht => by
      have e : (36 :: 123 :: q.drop 1 ++ [125]) ++ t = 36 :: 123 :: (q.drop 1 ++ 125 :: t) := by simp
      rw [e, wr_in' h125, Option.isSome_map]
      exact ht
    have e : mrg [] (add (.tx (36 :: 123 :: q.drop 1 ++ [125])) (q.length + 3) (prs b)).1 = jt (36 :: 123 :: q.drop 1 ++ [125]) (mrg [] (prs b).1) := by
      rw [mrg_tx, List.nil_append, mrg_jt _ _ (prs_hok b)]
    rw [e]
    cases hm : mrg [] (prs b).1 with
    | nil =>
      refine ⟨fun x hx _ => ?_, fun _ => rfl⟩
      rw [fl_text hx]
      have := wre [] (by rw [wr_nil]; rfl)
      rwa [List.append_nil] at this
    | cons y z =>
      rw [hm] at i1 i2
      by_cases hy : y.fKind = 0
      · rw [jt_tx (by simp) hy]
        refine ⟨fun x hx hk => ?_, fun _ => rfl⟩
        rcases List.mem_cons.1 hx with rfl | hx
        · exact wre y.fText (i1 y (by simp) hy)
        · exact i1 x (by simp [hx]) hk
      · rw [jt_ho hy]
        show (∀ x ∈ txE (36 :: 123 :: q.drop 1 ++ [125]) :: y :: z, _) ∧ (match txE (36 :: 123 :: q.drop 1 ++ [125]) :: y :: z with | [] => True | x :: _ => x.fKind = 0 → x.fText.head? = (36 :: 123 :: (q ++ 125 :: b)).head?)
        refine ⟨fun x hx hk => ?_, fun _ => rfl⟩
        rcases List.mem_cons.1 hx with rfl | hx
        · have := wre [] (by rw [wr_nil]; rfl)
          rwa [List.append_nil] at this
        · exact i1 x hx hk
  | hole q b h h2 h3 ih =>
    intro hn
    rw [prs_hole' h h2 h3] at hn ⊢
    obtain ⟨i1, _⟩ := ih (add_none hn)
    rw [mrg_ho, show fl [] = [] from rfl, List.nil_append]
    refine ⟨fun x hx hk => ?_, fun hk => absurd hk (holeS_kind q)⟩
    rcases List.mem_cons.1 hx with rfl | hx
    · exact absurd hk (holeS_kind q)
    · exact i1 x hx hk
  | none q b h h2 h3 => intro hn; rw [prs_none' h h2 h3] at hn; cases hn
theorem out_some : ∀ l : List T_api_Expr, (∀ x ∈ l, x.fKind = 0 → (wr x.fText).isSome = true) → ∃ t, outS l = some t
  | [], _ => ⟨[], rfl⟩
  | x :: r, h => by
    obtain ⟨t, ht⟩ := out_some r fun y hy => h y (by simp [hy])
    rw [outS, ht]
    unfold pieceS
    split
    · rename_i hk
      obtain ⟨a, ha⟩ := Option.isSome_iff_exists.1 (h x (by simp) hk)
      rw [ha]
      exact ⟨_, rfl⟩
    · split
      · exact ⟨_, rfl⟩
      · exact ⟨_, rfl⟩
theorem lex_write {s : List UInt8} (h : (lexS s).2.2 = 0) (hl : s.length ≤ 1500) : Small (lexS s).1 ∧ ∃ u, writeS (lexS s).1 = (u, 0) := by
  obtain ⟨h1, h2, h3, h4⟩ := lexS_ok h
  have hlen := lexS_len s
  have hv := lex_valid s [] h3 (by simpa using h1)
  have hw := (lex_wr s h3).1
  have ht := mrg_text (prs s).1 [] (prs_hot s)
  have hts := prs_tsum s
  have hna := mrg_noadj (prs s).1 [] (prs_hok s)
  rw [h4] at hlen ⊢
  dsimp only at hlen ⊢
  have hpart : ∀ x ∈ mrg [] (prs s).1, partS x = true := fun x hx => by
    by_cases hk : x.fKind = 0
    · obtain ⟨g1, g2, g3⟩ := (hv x hx).1 hk
      rw [g2]
      unfold partS txE
      simp [g1, g3]
    · exact ((hv x hx).2 hk).1
  refine ⟨⟨by omega, fun x hx => ?_⟩, ?_⟩
  · by_cases hk : x.fKind = 0
    · obtain ⟨g1, g2, g3⟩ := (hv x hx).1 hk
      have := ht x hx
      rw [List.length_nil] at this
      rw [g2]
      show x.fText.length + ([] : List UInt8).length + ([] : List UInt8).length ≤ 3000
      simp only [List.length_nil]
      omega
    · exact ((hv x hx).2 hk).2
  · obtain ⟨u, hu⟩ := out_some _ hw
    refine ⟨u, ?_⟩
    unfold writeS
    rw [not_bad hpart hna, cF, hu]

theorem back_law (n : Nat) (hn : 2000000 ≤ n) (l : List T_api_Expr) (hb : dsz (eL 6 emb_T_api_Expr l) ≤ 1048576) (s : List UInt8) : law12_SubBack n l s = some true := by
  unfold law12_SubBack
  obtain ⟨g, h1, h2⟩ := great_all hn hb
  rw [h1, bnd]
  cases g with
  | true => rw [cT, bnd, cT, wakes_t (by omega), bnd]
  | false =>
  obtain ⟨h3, h4⟩ := h2 rfl
  have hs : Small l := ⟨by omega, h4⟩
  rw [cF]
  by_cases hl : 1500 < s.length
  · rw [decide_eq_true (by omega), bnd, cT, wakes_t (by omega), bnd]
  rw [decide_eq_false (by omega), bnd, cF, write_sub hs (by omega), bnd]
  have hfirst : ((bif (bif decide ((writeS l).2 = 0) then decide (((writeS l).1.length : Int) ≤ 4096) else false) then
        ((sub_Lex n (writeS l).1).bind fun x_4 =>
        bif (!(decide (x_4.2.2 = 0))) then
          (((some ((false)) : Option Bool)).map Lp.br)
        else
          bif (!(decide (x_4.2.1 = 0))) then
            (((some ((false)) : Option Bool)).map Lp.br)
          else
            (ref12_SameAll n x_4.1 l).bind fun x_5 =>
            bif !x_5 then
              (((some ((false)) : Option Bool)).map Lp.br)
            else
              some (.nx ()))
      else
        some (.nx ()) : Option (Lp Unit Bool))) = some (.nx ()) := by
    by_cases h5 : (writeS l).2 = 0
    · rw [decide_eq_true h5, cT]
      by_cases h6 : (writeS l).1.length ≤ 4096
      · have h7 : writeS l = ((writeS l).1, 0) := by rw [← h5]
        have hx := lex_back h7 h6
        have hfl : ∀ x ∈ l, Flat x := fun x hx => by
          have hbd : badS l = false := by
            cases hbd : badS l with
            | false => rfl
            | true => unfold writeS at h5; rw [hbd, cT] at h5; exact absurd h5 (by decide)
          exact part_flat (bad_part hbd x hx)
        rw [decide_eq_true (by omega), cT, lex_sub (by omega) (by omega), bnd, hx]
        dsimp only
        rw [decide_eq_true rfl, Bool.not_true, cF, cF, same_t (by omega) l (by omega) hfl, bnd, Bool.not_true, cF]
      · rw [decide_eq_false (by omega), cF]
    · rw [decide_eq_false h5, cF, cF]
  have hb2 : ((bif (decide ((writeS l).2 = 0)) then
        (some ((decide (((writeS l).1.length : Int) ≤ 4096))))
      else
        some ((false)) : Option Bool)) = some (bif decide ((writeS l).2 = 0) then decide (((writeS l).1.length : Int) ≤ 4096) else false) := by
    cases decide ((writeS l).2 = 0) <;> rfl
  rw [hb2, bnd, hfirst, bnd, jN, lex_sub (by omega) (by omega), bnd]
  by_cases h5 : (lexS s).2.2 = 0
  case neg => rw [decide_eq_false h5, cF, wakes_t (by omega), bnd]
  obtain ⟨h6, u, h7⟩ := lex_write h5 (by omega)
  have hlen := lexS_len s
  rw [decide_eq_true h5, cT, write_sub h6 (by omega), bnd, h7]
  dsimp only
  rw [decide_eq_true rfl, Bool.not_true, cF, bnd]
  by_cases h8 : 4096 < u.length
  · rw [decide_eq_true (by omega), cT, cT, wakes_t (by omega), bnd, bnd]
  have hx := lex_back h7 (by omega)
  rw [decide_eq_false (by omega), cF, lex_sub (by omega) (by omega), bnd, hx]
  dsimp only
  rw [decide_eq_true rfl, Bool.not_true, cF, same_t (by omega) _ (by omega) (lexS_flat s), bnd, bnd, Bool.not_true, cF, wakes_t (by omega), bnd]
end Go.Proofs.YtdmjgmleilgbpaaDoor
