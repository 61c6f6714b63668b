/-
  Chapter 21: three laws, plain. Own work.
-/
import Derived.Test.YtoonlehffohpaaaRdySpec3
set_option linter.unusedVariables false
namespace Go.Proofs.Ytoonlehffohpaaa
open Go Go.Vc

theorem mayB_of {l : LL} {st : List Int} (h1 : l.length = st.length) (h2 : ∀ i, i < st.length → 0 ≤ st.getD i 0 ∧ st.getD i 0 ≤ 5) (h3 : ∀ r ∈ l, ∀ x ∈ r, 0 ≤ x ∧ x < l.length) : mayB l st = true := by
  refine mayB_yes h1 fun i hi => rowOk_yes (by have := h2 i (by omega); omega) ?_
  rw [List.any_eq_false]
  intro x hx
  have := h3 _ (row_mem hi) x hx
  simp; omega
theorem mayB_more {l : LL} {st st' : List Int} (h : mayB l st = true) (hl : st'.length = st.length) (h2 : ∀ i, i < st.length → 0 ≤ st'.getD i 0 ∧ st'.getD i 0 ≤ 5) : mayB l st' = true := by
  obtain ⟨a, _, c⟩ := mayB_in h
  exact mayB_of (by omega) (fun i hi => h2 i (by omega)) c
theorem settled_may {l W : LL} {st : List Int} (h : mayB l st = true) : mayB l (settledL W st) = true := by
  obtain ⟨_, b, _⟩ := mayB_in h
  refine mayB_more h (settled_len _ _) fun i hi => ?_
  rcases settled_at (l := W) hi with ⟨_, _, e⟩ | ⟨_, e⟩
  · rw [e]; omega
  · rw [e]; exact b i hi
theorem settled_SI (l : LL) (st : List Int) : SI l st (settledL l st) := ⟨settled_len _ _, fun i hi => by
  rcases settled_at (l := l) hi with ⟨e1, e2, e3⟩ | ⟨_, e⟩
  · exact .inr ⟨e1, e3, e2⟩
  · exact .inl e⟩
theorem Blk.settled {l : LL} {st : List Int} {i : Nat} (hin : ∀ r ∈ l, ∀ x ∈ r, 0 ≤ x ∧ x < st.length) (hl : l.length = st.length) (h : Blk l (settledL l st) i) : Blk l st i := by
  induction h with
  | @base i hi hb =>
    rw [settled_len] at hi
    exact (settled_SI l st).blk hi hb
  | @step i x hi h1 hx _ ih =>
    rw [settled_len] at hi
    exact .step hi ((settled_SI l st).wait hi h1) hx ih
theorem settled_twice {l : LL} {st : List Int} (hin : ∀ r ∈ l, ∀ x ∈ r, 0 ≤ x ∧ x < st.length) (hl : l.length = st.length) : settledL l (settledL l st) = settledL l st := by
  apply List.ext_getElem (by rw [settled_len])
  intro i h1 h2
  have hi : i < (settledL l st).length := h2
  have goal : (settledL l (settledL l st)).getD i 0 = (settledL l st).getD i 0 := by
    rcases settled_at (l := l) hi with ⟨e1, e2, e3⟩ | ⟨_, e⟩
    · have hi' : i < st.length := by rw [settled_len] at hi; exact hi
      have hb := e2.settled hin hl
      rcases settled_at (l := l) hi' with ⟨_, _, e⟩ | ⟨e4, e⟩
      · rw [e] at e1; cases e1
      · rw [e] at e1; exact absurd ⟨e1, hb⟩ e4
    · exact e
  simpa [List.getD, h1, h2] using goal
theorem ready_settled {l : LL} {st : List Int} (hin : ∀ r ∈ l, ∀ x ∈ r, 0 ≤ x ∧ x < st.length) (hl : l.length = st.length) (i : Nat) (hi : i < st.length) : pickF allQ letsB l (settledL l st) i = pickF allQ letsB l st i := by
  rw [Bool.eq_iff_iff]
  simp only [pickF, allQ, Bool.and_eq_true, decide_eq_true_eq, List.all_eq_true]
  constructor
  · rintro ⟨h1, h2⟩
    refine ⟨(settled_SI l st).wait hi h1, fun x hx => ?_⟩
    have hxr := hin _ (row_mem (l := l) (by omega)) x hx
    have h3 := h2 x hx
    rcases settled_at (l := l) (show x.toNat < st.length by omega) with ⟨_, _, e⟩ | ⟨_, e⟩
    · rw [e] at h3; simp [letsB] at h3
    · rwa [e] at h3
  · rintro ⟨h1, h2⟩
    have hx3 : ∀ x ∈ l.getD i [], (settledL l st).getD x.toNat 0 = st.getD x.toNat 0 := fun x hx => by
      have hxr := hin _ (row_mem (l := l) (by omega)) x hx
      have h3 := h2 x hx
      rcases settled_at (l := l) (show x.toNat < st.length by omega) with ⟨e, _, _⟩ | ⟨_, e⟩
      · rw [e] at h3; simp [letsB] at h3
      · exact e
    refine ⟨?_, fun x hx => by rw [hx3 x hx]; exact h2 x hx⟩
    rcases settled_at (l := l) hi with ⟨_, e2, _⟩ | ⟨_, e⟩
    · exfalso
      cases e2 with
      | base _ hb => rw [h1] at hb; simp [blocksB] at hb
      | @step _ x _ _ hx hbx =>
        have h3 := h2 x hx
        cases hbx with
        | base _ hb => unfold letsB at h3; unfold blocksB at hb; simp at h3 hb; omega
        | step _ h4 _ _ => rw [h4] at h3; simp [letsB] at h3
    · rw [e]; exact h1
theorem sel_congr {f g : Nat → Bool} {n : Nat} (h : ∀ i, i < n → f i = g i) : sel f n = sel g n := by
  unfold sel
  rw [List.filter_congr fun i hi => h i (by simpa using hi)]

theorem settles_law (n : Nat) (hn : 100 < n) (l : LL) (st : List Int) (b : Bool) : law21_ReadySettles n l st b = some true := by
  unfold law21_ReadySettles
  rw [great_eq l (by omega), bnd]
  cases hg : greatB l with
  | true => simp only [cT, bnd, wakes_eq hn]
  | false =>
    simp only [cF, bnd]
    by_cases hs : 100 < st.length
    · rw [decide_eq_true (by omega : (100 : Int) < (st.length : Int))]; simp only [cT, bnd, wakes_eq hn]
    · rw [decide_eq_false (by omega : ¬ (100 : Int) < (st.length : Int))]
      have hS := Sm.great hg
      simp only [cF, settle_eq l st b hS hn, bnd]
      cases hm : mayB l st with
      | false =>
        simp only [cF, may_eq l st hS hn, hm, bnd]
        simp only [List.length_nil, Int.reduceEq, decide_false, Bool.not_false, cT, bnd, wakes_eq hn]
        rfl
      | true =>
        obtain ⟨m1, m2, m3⟩ := mayB_in hm
        have hin := way_in (b := b) hm
        have hWl : (wayL l b).length = st.length := by rw [wayL_len]; exact m1
        have hsl := settled_len (wayL l b) st
        have hlen := hS.len
        have hmS := settled_may (W := wayL l b) hm
        simp only [cT, decide_true, Bool.not_true, cF]
        rw [decide_eq_true (by omega : ((settledL (wayL l b) st).length : Int) = (st.length : Int))]
        simp only [Bool.not_true, cF]
        generalize hS' : settledL (wayL l b) st = S at *
        have hloop : loopF (law21_ReadySettles_s1 n st (S, 0)) n (S, (0 : Int)) = some (.inr S) :=
          loop_all (fun k : Nat => (S, (k : Int))) S.length (Sum.inr S : Sum Unit (List Int)) (fun k hk => by
            have hi : k < st.length := by omega
            show law21_ReadySettles_s1 n st (S, 0) (S, (k : Int)) = _
            unfold law21_ReadySettles_s1
            simp only [decide_eq_true (by omega : (k : Int) < S.length), cT, getI_at 0 hk, getI_at (xs := st) 0 hi, bnd]
            have hi2 : inR .i64 ((k : Int) + 1) := inR_small (by omega) (by omega)
            simp only [need_t hi2]
            rcases settled_at (l := wayL l b) hi with ⟨e1, _, e3⟩ | ⟨_, e⟩
            · rw [hS'] at e3
              rw [e1, e3]; rfl
            · rw [hS'] at e
              rw [e]; simp only [decide_true, Bool.not_true, cF]; rfl)
            (by show law21_ReadySettles_s1 n st (S, 0) (S, (S.length : Int)) = _; unfold law21_ReadySettles_s1; simp) (by omega)
        rw [hloop, bnd]
        simp only [settle_eq l S b hS hn, bnd, ready_eq l st b hS hn, ready_eq l S b hS hn, hm, hmS, cT, decide_true]
        have e1 : settledL (wayL l b) S = S := by rw [← hS']; exact settled_twice hin hWl
        have e2 : readyR l S b = readyR l st b := by
          unfold readyR rdyL
          rw [hm, hmS, ← hS', settled_len, sel_congr fun i hi => ready_settled hin hWl i hi]
        have hrl : (readyR l st b).length ≤ 100 := by
          unfold readyR rdyL; rw [hm]; exact Nat.le_trans (sel_len _ _) (by omega)
        rw [e1, e2, states_eq S S (by omega) (by omega), bnd, ints_eq _ _ (by omega) (by omega)]
        simp only [decide_true, cT, bnd, wakes_eq hn]

theorem back_law (n : Nat) (hn : 100 < n) (l : LL) (st : List Int) : law21_ReadyBack n l st = some true := by
  unfold law21_ReadyBack
  rw [great_eq l (by omega), bnd]
  cases hg : greatB l with
  | true => simp only [cT, bnd, wakes_eq hn]
  | false =>
    simp only [cF, bnd]
    by_cases hs : 100 < st.length
    · rw [decide_eq_true (by omega : (100 : Int) < (st.length : Int))]; simp only [cT, bnd, wakes_eq hn]
    · rw [decide_eq_false (by omega : ¬ (100 : Int) < (st.length : Int))]
      have hS := Sm.great hg
      have hT := hS.turned
      simp only [cF, turned_eq hS, bnd, ready_eq l st true hS hn, ready_eq (turnedL l) st false hT hn, settle_eq l st true hS hn, settle_eq (turnedL l) st false hT hn]
      cases hm : mayB l st with
      | false =>
        simp only [cF, Int.reduceEq, decide_false, Bool.not_false, cT, wakes_eq hn, bnd]
      | true =>
        obtain ⟨m1, m2, m3⟩ := mayB_in hm
        have hmT : mayB (turnedL l) st = true := mayB_of (by rw [turned_len]; exact m1) m2 (fun r hr x hx => by have := way_in (b := true) hm r hr x hx; rw [turned_len]; omega)
        have e1 : readyR (turnedL l) st false = readyR l st true := by unfold readyR; rw [hm, hmT]; rfl
        have e2 : settledL (wayL (turnedL l) false) st = settledL (wayL l true) st := rfl
        have hrl : (readyR l st true).length ≤ 100 := by
          unfold readyR rdyL; rw [hm]; exact Nat.le_trans (sel_len _ _) (by omega)
        simp only [hmT, cT, decide_true, Bool.not_true, cF, e1, e2]
        rw [ints_eq _ _ (by omega) (by omega), bnd, states_eq _ _ (by rw [settled_len]; omega) (by rw [settled_len]; omega)]
        simp only [decide_true, cT, bnd, wakes_eq hn]
end Go.Proofs.Ytoonlehffohpaaa
