/-
  Chapter 21: fewer leans, more that is done: plain. Own work.
-/
import Derived.Test.YtoonlehffohpaaaRdyLaws
import Derived.Test.YtoonlehffohpaaaQ5
set_option linter.unusedVariables false
namespace Go.Proofs.Ytoonlehffohpaaa
open Go Go.Vc

theorem tmod_in {x m : Int} (h : 0 < m) : -m < x.tmod m ∧ x.tmod m < m := ⟨Int.lt_tmod_of_pos x h, Int.tmod_lt_of_pos x h⟩
theorem tmod2_in {x m : Int} (h : 0 < m) : 0 ≤ (x.tmod m + m).tmod m ∧ (x.tmod m + m).tmod m < m := by
  have h1 := tmod_in (x := x) h
  exact ⟨Int.tmod_nonneg m (by omega), Int.tmod_lt_of_pos _ h⟩
/-- The row without one. -/
def lessRow (which : Int) (r : List Int) : List Int :=
  r.take (((which.tmod (r.length : Int)) + (r.length : Int)).tmod (r.length : Int)).toNat ++ r.drop ((((which.tmod (r.length : Int)) + (r.length : Int)).tmod (r.length : Int)).toNat + 1)
def lessAt (l : LL) (from_ : Int) (which : Int) (k : Nat) : List Int := if (k : Int) = from_ ∧ 0 < (l.getD k []).length then lessRow which (l.getD k []) else l.getD k []
def lessL (l : LL) (from_ which : Int) (k : Nat) : LL := (List.range k).map (lessAt l from_ which)
theorem lessRow_sub {which : Int} {r : List Int} {x : Int} (h : x ∈ lessRow which r) : x ∈ r := by
  unfold lessRow at h
  rcases List.mem_append.1 h with h | h
  · exact List.mem_of_mem_take h
  · exact List.mem_of_mem_drop h
theorem lessAt_sub {l : LL} {from_ which : Int} {k : Nat} {x : Int} (h : x ∈ lessAt l from_ which k) : x ∈ l.getD k [] := by
  unfold lessAt at h
  split at h
  · exact lessRow_sub h
  · exact h
theorem lessRow_len {which : Int} {r : List Int} : (lessRow which r).length ≤ r.length := by
  unfold lessRow; simp; omega
theorem lessAt_len {l : LL} {from_ which : Int} {k : Nat} : (lessAt l from_ which k).length ≤ (l.getD k []).length := by
  unfold lessAt
  split
  · exact lessRow_len
  · exact Nat.le_refl _
theorem lessL_at {l : LL} {from_ which : Int} {m k : Nat} (h : k < m) : (lessL l from_ which m).getD k [] = lessAt l from_ which k := by
  simp [lessL, h]
theorem lessL_succ (l : LL) (from_ which : Int) (k : Nat) : lessL l from_ which (k + 1) = lessL l from_ which k ++ [lessAt l from_ which k] := by
  simp [lessL, List.range_succ]
theorem less_loop {n : Nat} {l : LL} {d2 d3 : Int} (h : Sm l) (h0 : 0 < l.length) (hn : 100 < n) :
    loopF (law21_ReadyLess_s1 n l d2 d3) n (([] : List (List Int)), (0 : Int)) = some (lessL l ((d2.tmod (l.length : Int) + (l.length : Int)).tmod (l.length : Int)) d3 l.length) := by
  have hlen := h.len
  refine loop_all (fun k : Nat => (lessL l ((d2.tmod (l.length : Int) + (l.length : Int)).tmod (l.length : Int)) d3 k, (k : Int))) l.length _ (fun k hk => ?_) ?_ (by omega)
  · show law21_ReadyLess_s1 n l d2 d3 (_, (k : Int)) = _
    have hr := h.at_ k
    have hi : inR .i64 ((k : Int) + 1) := inR_small (by omega) (by omega)
    have hll : (lessL l ((d2.tmod (l.length : Int) + (l.length : Int)).tmod (l.length : Int)) d3 k).length = k := by simp [lessL]
    unfold law21_ReadyLess_s1
    simp only [decide_eq_true (by omega : (k : Int) < l.length), cT, getI_at [] hk, bnd, List.nil_append, List.length_nil, Nat.zero_add, hll]
    rw [need_t (by omega : (l.getD k []).length * 8 ≤ 140737488355328)]
    rw [lessL_succ]
    by_cases hc : (k : Int) = (d2.tmod (l.length : Int) + (l.length : Int)).tmod (l.length : Int) ∧ 0 < (l.getD k []).length
    · have e : lessAt l ((d2.tmod (l.length : Int) + (l.length : Int)).tmod (l.length : Int)) d3 k = lessRow d3 (l.getD k []) := by unfold lessAt; rw [if_pos hc]
      have ht := tmod_in (x := d3) (m := ((l.getD k []).length : Int)) (by omega)
      have ht2 := tmod2_in (x := d3) (m := ((l.getD k []).length : Int)) (by omega)
      rw [decide_eq_true hc.1, e]
      simp only [cT, bnd]
      rw [decide_eq_true (by omega : (0 : Int) < ((l.getD k []).length : Int))]
      simp only [cT]
      have n1 : ((l.getD k []).length : Int) ≠ 0 := by omega
      have n2 : inR .i64 (d3.tmod ((l.getD k []).length : Int) + ((l.getD k []).length : Int)) := inR_small (by omega) (by omega)
      unfold lessRow
      have n3 : 0 ≤ ((d3.tmod ((l.getD k []).length : Int) + ((l.getD k []).length : Int)).tmod ((l.getD k []).length : Int)) ∧ ((d3.tmod ((l.getD k []).length : Int) + ((l.getD k []).length : Int)).tmod ((l.getD k []).length : Int)) ≤ ((l.getD k []).length : Int) := by omega
      have n4 : inR .i64 (((d3.tmod ((l.getD k []).length : Int) + ((l.getD k []).length : Int)).tmod ((l.getD k []).length : Int)) + 1) := inR_small (by omega) (by omega)
      have n5 : 0 ≤ ((d3.tmod ((l.getD k []).length : Int) + ((l.getD k []).length : Int)).tmod ((l.getD k []).length : Int)) + 1 ∧ ((d3.tmod ((l.getD k []).length : Int) + ((l.getD k []).length : Int)).tmod ((l.getD k []).length : Int)) + 1 ≤ ((l.getD k []).length : Int) := by omega
      have n6 : (((d3.tmod ((l.getD k []).length : Int) + ((l.getD k []).length : Int)).tmod ((l.getD k []).length : Int)) + 1).toNat = ((d3.tmod ((l.getD k []).length : Int) + ((l.getD k []).length : Int)).tmod ((l.getD k []).length : Int)).toNat + 1 ∧ ((d3.tmod ((l.getD k []).length : Int) + ((l.getD k []).length : Int)).tmod ((l.getD k []).length : Int)).toNat < (l.getD k []).length := by omega
      simp only [need_t n1, need_t n2, need_t n3, need_t n4, need_t n5, need_t n6, bnd]
      rw [need_t (by omega), need_t hi]; rfl
    · have e : lessAt l ((d2.tmod (l.length : Int) + (l.length : Int)).tmod (l.length : Int)) d3 k = l.getD k [] := by unfold lessAt; rw [if_neg hc]
      rw [e]
      have hb : (bif decide ((k : Int) = (d2.tmod (l.length : Int) + (l.length : Int)).tmod (l.length : Int)) then some (decide ((0 : Int) < ((l.getD k []).length : Int))) else some false) = some false := by
        by_cases h1 : (k : Int) = (d2.tmod (l.length : Int) + (l.length : Int)).tmod (l.length : Int)
        · have h2 : ¬ (0 : Int) < ((l.getD k []).length : Int) := fun h => hc ⟨h1, by omega⟩
          rw [decide_eq_true h1, decide_eq_false h2]; rfl
        · rw [decide_eq_false h1]; rfl
      rw [hb]
      simp only [bnd, cF]
      rw [need_t (by omega), need_t hi]; rfl
  · show law21_ReadyLess_s1 n l d2 d3 (_, (l.length : Int)) = _
    unfold law21_ReadyLess_s1; simp
/-- Fewer leans. -/
structure Fewer (m l : LL) : Prop where
  len : m.length = l.length
  sub : ∀ i, ∀ x ∈ m.getD i [], x ∈ l.getD i []
theorem Fewer.way {m l : LL} (h : Fewer m l) (b : Bool) : Fewer (wayL m b) (wayL l b) := by
  cases b with
  | false => exact h
  | true =>
    refine ⟨by rw [wayL_len, wayL_len]; exact h.len, fun i x hx => ?_⟩
    by_cases hi : i < l.length
    · have e1 : (wayL m true).getD i [] = sel (hits m i) m.length := by simp [wayL, turnedL, h.len, hi]
      have e2 : (wayL l true).getD i [] = sel (hits l i) l.length := by simp [wayL, turnedL, hi]
      rw [e1] at hx
      rw [e2]
      obtain ⟨q, rfl, hq, hh⟩ := sel_mem.1 hx
      refine sel_mem.2 ⟨q, rfl, by rw [← h.len]; exact hq, ?_⟩
      unfold hits at *
      obtain ⟨y, hy, he⟩ := List.any_eq_true.1 hh
      exact List.any_eq_true.2 ⟨y, h.sub q y hy, he⟩
    · have : (wayL m true).getD i [] = [] := by
        simp only [List.getD_eq_getElem?_getD]
        rw [List.getElem?_eq_none (by rw [wayL_len, h.len]; omega)]; rfl
      rw [this] at hx; cases hx
theorem all_within {a b : List Int} (h : ∀ x ∈ a, x ∈ b) : (a.all fun x => decide (x ∈ b)) = true := List.all_eq_true.2 fun x hx => decide_eq_true (h x hx)

theorem less_law (n : Nat) (hn : 100 < n) (l : LL) (st : List Int) (d2 d3 d4 : Int) (b : Bool) : law21_ReadyLess n l st d2 d3 d4 b = some true := by
  unfold law21_ReadyLess
  rw [great_eq l (by omega), bnd]
  cases hg : greatB l with
  | true => simp only [cT, bnd, wakes_eq hn]
  | false =>
    simp only [cF]
    have hS := Sm.great hg
    have hlen := hS.len
    by_cases h0 : l.length = 0
    · rw [decide_eq_true (by omega : (l.length : Int) = 0)]; simp only [cT, bnd, wakes_eq hn]
    · rw [decide_eq_false (by omega : ¬ (l.length : Int) = 0)]
      simp only [cF, bnd]
      by_cases hl : st.length = l.length
      · rw [decide_eq_true (by omega : (st.length : Int) = (l.length : Int))]
        simp only [Bool.not_true, cF, ready_eq l st b hS hn, bnd]
        cases hm : mayB l st with
        | false => simp only [cF, Int.reduceEq, decide_false, Bool.not_false, cT, wakes_eq hn, bnd]
        | true =>
          simp only [cT, decide_true, Bool.not_true, cF]
          obtain ⟨m1, m2, m3⟩ := mayB_in hm
          have t2 := tmod_in (x := d2) (m := (l.length : Int)) (by omega)
          have t4 := tmod_in (x := d4) (m := (l.length : Int)) (by omega)
          have t5 := tmod2_in (x := d4) (m := (l.length : Int)) (by omega)
          have n1 : (l.length : Int) ≠ 0 := by omega
          have n2 : inR .i64 (d2.tmod (l.length : Int) + (l.length : Int)) := inR_small (by omega) (by omega)
          have n3 : inR .i64 (d4.tmod (l.length : Int) + (l.length : Int)) := inR_small (by omega) (by omega)
          simp only [need_t n1, need_t n2, need_t n3, less_loop hS (by omega : 0 < l.length) hn, bnd]
          generalize hfr : (d2.tmod (l.length : Int) + (l.length : Int)).tmod (l.length : Int) = fr
          generalize hnd : (d4.tmod (l.length : Int) + (l.length : Int)).tmod (l.length : Int) = nd at *
          generalize hM : lessL l fr d3 l.length = m
          have hml : m.length = l.length := by rw [← hM]; simp [lessL]
          have hF : Fewer m l := ⟨hml, fun i x hx => by
            by_cases hi : i < l.length
            · rw [← hM, lessL_at hi] at hx
              exact lessAt_sub hx
            · have : m.getD i [] = [] := by
                simp only [List.getD_eq_getElem?_getD]
                rw [List.getElem?_eq_none (by omega)]; rfl
              rw [this] at hx; cases hx⟩
          have hSm : Sm m := ⟨by omega, fun r hr => by
            obtain ⟨i, hi, rfl⟩ := List.mem_iff_getElem.1 hr
            have e : m.getD i [] = m[i] := by simp [List.getD, hi]
            rw [← e, ← hM, lessL_at (by omega)]
            exact Nat.le_trans lessAt_len (hS.at_ i)⟩
          have hmm : mayB m st = true := mayB_of (by omega) m2 fun r hr x hx => by
            obtain ⟨i, hi, rfl⟩ := List.mem_iff_getElem.1 hr
            have e : m.getD i [] = m[i] := by simp [List.getD, hi]
            have h1 := hF.sub i x (by rw [e]; exact hx)
            have := m3 _ (row_mem (l := l) (k := i) (by omega)) x h1
            omega
          rw [ready_eq m st b hSm hn, hmm, bnd]
          simp only [List.length_nil, Nat.zero_add, List.nil_append]
          rw [need_t (by omega : st.length * 1 ≤ 140737488355328), getI_in 0 (by omega) (by omega), bnd]
          have hmore : ∃ mo : List Int, ((bif decide (st.getD nd.toNat 0 = 2) then some (st.set nd.toNat (3 : Int)) else some st) : Option (List Int)) = some mo ∧ mo.length = st.length ∧ (∀ i, i < st.length → (mo.getD i 0 = st.getD i 0 ∨ (st.getD i 0 = 2 ∧ mo.getD i 0 = 3))) := by
            by_cases h2 : st.getD nd.toNat 0 = 2
            · refine ⟨st.set nd.toNat 3, by rw [decide_eq_true h2]; rfl, by simp, fun i hi => ?_⟩
              rw [getD_set5 (by omega)]
              by_cases he : nd.toNat = i
              · subst he; rw [if_pos rfl]; exact .inr ⟨h2, rfl⟩
              · rw [if_neg he]; exact .inl rfl
            · exact ⟨st, by rw [decide_eq_false h2]; rfl, rfl, fun i hi => .inl rfl⟩
          obtain ⟨mo, e1, e2, e3⟩ := hmore
          simp only [bnd, e1]
          have hmo : mayB l mo = true := mayB_more hm e2 fun i hi => by
            have := m2 i hi
            rcases e3 i hi with e | ⟨_, e⟩
            · rw [e]; exact this
            · rw [e]; omega
          rw [ready_eq l mo b hS hn, hmo, bnd]
          have hra : ∀ (l : LL) (s : List Int), mayB l s = true → s.length = st.length → (readyR l s b).length ≤ 100 := fun l s h hs => by
            unfold readyR rdyL; rw [h]; exact Nat.le_trans (sel_len _ _) (by omega)
          have hin := way_in (b := b) hm
          have hWl : (wayL l b).length = st.length := by rw [wayL_len]; exact m1
          have w1 : ∀ x ∈ readyR l st b, x ∈ readyR m st b := fun x hx => by
            unfold readyR rdyL at *
            rw [hm] at hx; rw [hmm]
            obtain ⟨i, rfl, hi, hp⟩ := sel_mem.1 hx
            refine sel_mem.2 ⟨i, rfl, hi, ?_⟩
            simp only [pickF, allQ, Bool.and_eq_true, decide_eq_true_eq, List.all_eq_true] at hp ⊢
            exact ⟨hp.1, fun y hy => hp.2 y ((hF.way b).sub i y hy)⟩
          have w2 : ∀ x ∈ readyR l st b, x ∈ readyR l mo b := fun x hx => by
            unfold readyR rdyL at *
            rw [hm] at hx; rw [hmo]
            obtain ⟨i, rfl, hi, hp⟩ := sel_mem.1 hx
            refine sel_mem.2 ⟨i, rfl, by omega, ?_⟩
            simp only [pickF, allQ, Bool.and_eq_true, decide_eq_true_eq, List.all_eq_true] at hp ⊢
            refine ⟨?_, fun y hy => ?_⟩
            · rcases e3 i hi with e | ⟨e, _⟩
              · rw [e]; exact hp.1
              · rw [hp.1] at e; cases e
            · have hyr := hin _ (row_mem (l := wayL l b) (by omega)) y hy
              rcases e3 y.toNat (by omega) with e | ⟨_, e⟩
              · rw [e]; exact hp.2 y hy
              · rw [e]; rfl
          have r1 := hra l st hm rfl
          have r2 := hra m st hmm rfl
          have r3 := hra l mo hmo e2
          simp only [cT, decide_true, within_eq _ _ r1 r2 hn, within_eq _ _ r1 r3 hn, all_within w1, all_within w2, bnd, wakes_eq hn]
      · rw [decide_eq_false (by omega : ¬ (st.length : Int) = (l.length : Int))]
        simp only [Bool.not_false, cT, bnd, wakes_eq hn]
end Go.Proofs.Ytoonlehffohpaaa
