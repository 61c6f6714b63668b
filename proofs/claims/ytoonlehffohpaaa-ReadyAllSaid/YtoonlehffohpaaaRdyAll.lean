/-
  Chapter 21: all are finished: plain. Own work.
-/
import Derived.Test.YtoonlehffohpaaaRdyGoes
import Derived.Test.YtoonlehffohpaaaRdyLess
set_option linter.unusedVariables false
namespace Go.Proofs.Ytoonlehffohpaaa
open Go Go.Vc

theorem turned3 (l : LL) : turnedL (turnedL (turnedL l)) = turnedL l := by
  have e : ∀ m : LL, turnedL m = (List.range m.length).map fun k => sel (hits m k) m.length := fun _ => rfl
  have e2 : turnedL (turnedL (turnedL l)) = (List.range l.length).map fun k => sel (hits (turnedL (turnedL l)) k) l.length := by
    have := e (turnedL (turnedL l))
    rw [turned_len, turned_len] at this
    exact this
  rw [e2]
  show _ = (List.range l.length).map fun k => sel (hits l k) l.length
  apply List.map_congr_left
  intro k hk
  have hk' : k < l.length := by simpa using hk
  refine sel_congr fun i hi => ?_
  rw [Bool.eq_iff_iff]
  simp only [hits, List.any_eq_true, decide_eq_true_eq]
  constructor
  · rintro ⟨x, hx, rfl⟩
    obtain ⟨j, e1, hj, h1⟩ := (mem_turned (l := turnedL l) (by rw [turned_len]; exact hi)).1 hx
    have : j = k := by omega
    subst this
    obtain ⟨q, e2, hq, h2⟩ := (mem_turned hk').1 h1
    have : q = i := by omega
    subst this
    exact ⟨_, h2, rfl⟩
  · rintro ⟨x, hx, rfl⟩
    refine ⟨_, (mem_turned (l := turnedL l) (by rw [turned_len]; exact hi)).2 ⟨k, rfl, by rw [turned_len]; exact hk', ?_⟩, rfl⟩
    exact (mem_turned hk').2 ⟨i, rfl, hi, hx⟩

/-- All wait, or are done. -/
def WD (st : List Int) : Prop := ∀ i, i < st.length → st.getD i 0 = 1 ∨ st.getD i 0 = 3
theorem allSt_loop {n : Nat} {l : LL} (h : Sm l) (hn : 100 < n) : loopF (law21_ReadyAll_s1 n l) n (([] : List Int), (0 : Int)) = some (List.replicate l.length (1 : Int)) := by
  have hlen := h.len
  refine loop_all (fun k : Nat => (List.replicate k (1 : Int), (k : Int))) l.length _ (fun k hk => ?_) ?_ (by omega)
  · show law21_ReadyAll_s1 n l (List.replicate k (1 : Int), (k : Int)) = _
    unfold law21_ReadyAll_s1
    simp only [decide_eq_true (by omega : (k : Int) < l.length), cT, List.length_replicate]
    rw [need_t (by omega), need_i (by omega) (by omega), List.replicate_succ']; rfl
  · show law21_ReadyAll_s1 n l (List.replicate l.length (1 : Int), (l.length : Int)) = _
    unfold law21_ReadyAll_s1; simp
theorem cnt_set1 {st : List Int} {i : Nat} (hi : i < st.length) (h : st.getD i 0 = 1) : cntI 1 (st.set i 3) + 1 = cntI 1 st := by
  unfold cntI
  rw [List.countP_set hi]
  have h1 : st[i] = 1 := by simpa [List.getD, hi] using h
  have : 0 < st.countP (· == 1) := List.countP_pos_iff.2 ⟨st[i], List.getElem_mem hi, by rw [h1]; rfl⟩
  rw [h1]
  have e3 : ((3 : Int) == 1) = false := rfl
  simp only [beq_self_eq_true, if_true, e3, Bool.false_eq_true, if_false]
  omega
theorem all_law (n : Nat) (hn : 100 < n) (l : LL) (picks : List Int) (b : Bool) : law21_ReadyAll n l picks b = some true := by
  unfold law21_ReadyAll
  rw [great_eq l (by omega), bnd]
  cases hg : greatB l with
  | true => simp only [cT, bnd, wakes_eq hn]
  | false =>
    simp only [cF, bnd]
    by_cases hs : 100 < picks.length
    · rw [decide_eq_true (by omega : (100 : Int) < (picks.length : Int))]; simp only [cT, bnd, wakes_eq hn]
    · rw [decide_eq_false (by omega : ¬ (100 : Int) < (picks.length : Int))]
      have hS := Sm.great hg
      have hlen := hS.len
      obtain ⟨o, e, ho, hacy⟩ := order_eq l hS hn
      simp only [cF, ho, bnd]
      by_cases he : e = 0
      · rw [decide_eq_true he]
        simp only [Bool.not_true, cF, allSt_loop hS hn, bnd]
        have hA := (hacy he).way b
        obtain ⟨hA1, hmay⟩ : True ∧ ∀ r ∈ l, ∀ x ∈ r, 0 ≤ x ∧ x < l.length := ⟨trivial, order_may l hS hn ho he⟩
        obtain ⟨r, h1, h2⟩ := loop_inv (n := n) (step := law21_ReadyAll_s2 n l picks b) (s0 := (List.replicate l.length (1 : Int), (0 : Int))) (fun k s => s.2 = (k : Int) ∧ s.1.length = l.length ∧ WD s.1 ∧ cntI 1 s.1 + k = l.length)
          (fun r => ∃ st, r = .inr st ∧ st.length = l.length ∧ WD st ∧ cntI 1 st = 0) l.length ⟨rfl, by simp, fun i hi => by left; simp at hi; simp [List.getD, hi], by unfold cntI; rw [List.countP_replicate]; simp⟩
          (fun k s hk ⟨i1, i2, i3, i4⟩ => by
            left
            obtain ⟨st, q⟩ := s
            simp only at i1 i2 i3 i4
            subst i1
            have hm : mayB l st = true := mayB_of (by omega) (fun i hi => by rcases i3 i hi with e | e <;> omega) hmay
            have hin := way_in (b := b) hm
            have hWl : (wayL l b).length = st.length := by rw [wayL_len]; omega
            have hpos : 0 < (readyR l st b).length := by
              unfold readyR rdyL; rw [hm]
              refine goes_next hA (by omega) hin (cnt_pos (by omega)) fun i hi h1 x hx hx1 => ?_
              have hxr := hin _ (row_mem (l := wayL l b) (by omega)) x hx
              rcases i3 x.toNat (by omega) with e | e
              · exact absurd e hx1
              · rw [e]; rfl
            have hrl : (readyR l st b).length ≤ 100 := by
              unfold readyR rdyL; rw [hm]; exact Nat.le_trans (sel_len _ _) (by omega)
            have hmem : ∀ x ∈ readyR l st b, 0 ≤ x ∧ x < st.length ∧ st.getD x.toNat 0 = 1 := fun x hx => by
              unfold readyR rdyL at hx; rw [hm] at hx
              obtain ⟨i, rfl, hi, hp⟩ := sel_mem.1 hx
              simp only [pickF, Bool.and_eq_true, decide_eq_true_eq] at hp
              exact ⟨by omega, by omega, by simpa using hp.1⟩
            generalize hR : readyR l st b = R at *
            -- which one
            obtain ⟨kk, e1, k0, k1⟩ : ∃ kk : Int, ((bif decide ((0 : Int) < (picks.length : Int)) then
                need ((picks.length : Int) ≠ 0) ((getI picks ((k : Int).tmod (picks.length : Int))).bind fun x_6 => need ((R.length : Int) ≠ 0) (need (inR .i64 (x_6.tmod (R.length : Int) + (R.length : Int))) (need ((R.length : Int) ≠ 0) (some ((x_6.tmod (R.length : Int) + (R.length : Int)).tmod (R.length : Int))))))
              else some (0 : Int)) : Option Int) = some kk ∧ 0 ≤ kk ∧ kk < R.length := by
              by_cases hp : 0 < picks.length
              · have t0 : 0 ≤ (k : Int).tmod (picks.length : Int) ∧ (k : Int).tmod (picks.length : Int) < picks.length := ⟨Int.tmod_nonneg _ (by omega), Int.tmod_lt_of_pos _ (by omega)⟩
                have t1 := tmod_in (x := picks.getD ((k : Int).tmod (picks.length : Int)).toNat 0) (m := (R.length : Int)) (by omega)
                have t2 := tmod2_in (x := picks.getD ((k : Int).tmod (picks.length : Int)).toNat 0) (m := (R.length : Int)) (by omega)
                refine ⟨_, ?_, t2.1, t2.2⟩
                rw [decide_eq_true (by omega : (0 : Int) < (picks.length : Int))]
                simp only [cT]
                rw [need_t (by omega), getI_in 0 t0.1 t0.2, bnd, need_t (by omega), need_t (inR_small (by omega) (by omega)), need_t (by omega)]
              · exact ⟨0, by rw [decide_eq_false (by omega : ¬ (0 : Int) < (picks.length : Int))]; rfl, by omega, by omega⟩
            have hx := hmem (R.getD kk.toNat 0) (getD_mem (by omega))
            refine ⟨(st.set (R.getD kk.toNat 0).toNat 3, (k : Int) + 1), ?_, by simp, by simp [i2], fun i hi => ?_, ?_⟩
            · unfold law21_ReadyAll_s2
              simp only [decide_eq_true (by omega : (k : Int) < l.length), cT, ready_eq l st b hS hn, hm, bnd, hR, decide_true, Bool.not_true, cF]
              rw [decide_eq_false (by omega : ¬ (R.length : Int) = 0)]
              simp only [cF]
              simp only [e1, bnd, getI_in 0 k0 k1]
              rw [decide_eq_false (by omega : ¬ R.getD kk.toNat 0 < 0)]
              simp only [cF]
              rw [decide_eq_false (by omega : ¬ (st.length : Int) ≤ R.getD kk.toNat 0)]
              simp only [cF, getI_in 0 hx.1 hx.2.1, bnd, hx.2.2, decide_true, Bool.not_true]
              rw [need_i (by omega) (by omega)]
            · simp only [List.length_set] at hi
              rw [getD_set5 (by omega)]
              split
              · exact .inr rfl
              · exact i3 i hi
            · have := cnt_set1 (i := (R.getD kk.toNat 0).toNat) (by omega) hx.2.2
              show cntI 1 (st.set (R.getD kk.toNat 0).toNat 3) + (k + 1) = l.length
              omega)
          (fun s ⟨i1, i2, i3, i4⟩ => ⟨.inr s.1, by unfold law21_ReadyAll_s2; simp [i1], s.1, rfl, i2, i3, by omega⟩) (by omega)
        obtain ⟨st, rfl, g1, g2, g3⟩ := h2
        rw [h1, bnd]
        simp only
        have hover : overB st = true := by
          unfold overB hasB
          have no : ∀ q : Int, q ≠ 3 → (st.any fun x => decide (q = x)) = false := fun q hq => by
            rw [List.any_eq_false]
            intro x hx
            obtain ⟨i, hi, rfl⟩ := List.mem_iff_getElem.1 hx
            have h4 := g2 i hi
            have h5 := cnt_zero g3 hi
            simp only [List.getD_eq_getElem?_getD, List.getElem?_eq_getElem hi, Option.getD_some] at h4 h5
            simp; omega
          rw [no 1 (by omega), no 2 (by omega)]; rfl
        have hT := hS.turned
        rw [over_eq st (by omega) hn, hover, bnd]
        simp only [cT, turned_eq hS, turned_eq hT, turned_eq hT.turned, turned_eq hT.turned.turned, bnd]
        have e4 : turnedL (turnedL (turnedL (turnedL l))) = turnedL (turnedL l) := by rw [turned3]
        rw [e4, same_eq _ _ hT.turned hn]
        simp only [decide_true, cT, bnd, wakes_eq hn]
      · rw [decide_eq_false he]
        simp only [Bool.not_false, cT, wakes_eq hn, bnd]
end Go.Proofs.Ytoonlehffohpaaa
