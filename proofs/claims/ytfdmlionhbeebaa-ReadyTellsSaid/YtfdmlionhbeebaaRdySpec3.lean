/-
  Chapter 21: settling; what is within; the example. Own work.
-/
import Derived.Test.YtfdmlionhbeebaaRdySpec2
namespace Go.Proofs.Ytfdmlionhbeebaa
open Go Go.Vc

/-- Who is to be blocked. -/
inductive Blk (l : LL) (st : List Int) : Nat → Prop
  | base {i : Nat} : i < st.length → blocksB (st.getD i 0) = true → Blk l st i
  | step {i : Nat} {x : Int} : i < st.length → st.getD i 0 = 1 → x ∈ l.getD i [] → Blk l st x.toNat → Blk l st i
open Classical in
noncomputable def settledL (l : LL) (st : List Int) : List Int := (List.range st.length).map fun i => if st.getD i 0 = 1 ∧ Blk l st i then 5 else st.getD i 0
theorem settled_len (l : LL) (st : List Int) : (settledL l st).length = st.length := by simp [settledL]
theorem settled_at {l : LL} {st : List Int} {i : Nat} (hi : i < st.length) : (st.getD i 0 = 1 ∧ Blk l st i ∧ (settledL l st).getD i 0 = 5) ∨ (¬ (st.getD i 0 = 1 ∧ Blk l st i) ∧ (settledL l st).getD i 0 = st.getD i 0) := by
  classical
  have h : (settledL l st).getD i 0 = if st.getD i 0 = 1 ∧ Blk l st i then 5 else st.getD i 0 := by
    simp [settledL, hi]
  by_cases hb : st.getD i 0 = 1 ∧ Blk l st i
  · exact .inl ⟨hb.1, hb.2, by rw [h, if_pos hb]⟩
  · exact .inr ⟨hb, by rw [h, if_neg hb]⟩
structure SI (l : LL) (st out : List Int) : Prop where
  len : out.length = st.length
  at_ : ∀ i, i < st.length → out.getD i 0 = st.getD i 0 ∨ (st.getD i 0 = 1 ∧ out.getD i 0 = 5 ∧ Blk l st i)
theorem SI.start (l : LL) (st : List Int) : SI l st st := ⟨rfl, fun _ _ => .inl rfl⟩
theorem getD_set5 {out : List Int} {i j : Nat} {v : Int} (hi : i < out.length) : (out.set i v).getD j 0 = if i = j then v else out.getD j 0 := by
  simp only [List.getD_eq_getElem?_getD, List.getElem?_set]
  by_cases h : i = j
  · subst h; simp [hi]
  · simp [h]
theorem SI.put {l : LL} {st out : List Int} (h : SI l st out) {i : Nat} (hi : i < st.length) (h1 : st.getD i 0 = 1) (hb : Blk l st i) : SI l st (out.set i 5) := by
  refine ⟨by rw [List.length_set]; exact h.len, fun j hj => ?_⟩
  rw [getD_set5 (by rw [h.len]; exact hi)]
  by_cases e : i = j
  · subst e; rw [if_pos rfl]; exact .inr ⟨h1, rfl, hb⟩
  · rw [if_neg e]; exact h.at_ j hj
theorem SI.blk {l : LL} {st out : List Int} (h : SI l st out) {i : Nat} (hi : i < st.length) (hb : blocksB (out.getD i 0) = true) : Blk l st i := by
  rcases h.at_ i hi with e | ⟨_, _, e⟩
  · exact .base hi (e ▸ hb)
  · exact e
theorem SI.wait {l : LL} {st out : List Int} (h : SI l st out) {i : Nat} (hi : i < st.length) (hb : out.getD i 0 = 1) : st.getD i 0 = 1 := by
  rcases h.at_ i hi with e | ⟨e, _⟩
  · exact e ▸ hb
  · exact e
theorem SI.done {l : LL} {st out : List Int} (h : SI l st out) (hin : ∀ r ∈ l, ∀ x ∈ r, 0 ≤ x ∧ x < st.length) (hl : l.length = st.length)
    (hc : ∀ i, i < st.length → out.getD i 0 = 1 → ∀ x ∈ l.getD i [], blocksB (out.getD x.toNat 0) = false) : out = settledL l st := by
  have key : ∀ i, Blk l st i → i < st.length → blocksB (out.getD i 0) = true := by
    intro i hb
    induction hb with
    | base hi hb =>
      intro _
      rcases h.at_ _ hi with e | ⟨e, _⟩
      · rw [e]; exact hb
      · rw [e] at hb; simp [blocksB] at hb
    | @step i x hi h1 hx hbx ih =>
      intro _
      have hxr := hin _ (row_mem (l := l) (by omega)) x hx
      have hb := ih (by omega)
      rcases h.at_ i hi with e | ⟨_, e, _⟩
      · have := hc i hi (e.trans h1) x hx
        rw [hb] at this; cases this
      · rw [e]; rfl
  apply List.ext_getElem (by rw [settled_len]; exact h.len)
  intro i h1 h2
  have hi : i < st.length := by rw [← h.len]; exact h1
  have goal : out.getD i 0 = (settledL l st).getD i 0 := by
    rcases settled_at (l := l) hi with ⟨e1, e2, e3⟩ | ⟨e1, e2⟩
    · rw [e3]
      rcases h.at_ i hi with e | ⟨_, e, _⟩
      · have := key i e2 hi
        rw [e, e1] at this
        simp [blocksB] at this
      · exact e
    · rw [e2]
      rcases h.at_ i hi with e | ⟨e3, _, e4⟩
      · exact e
      · exact absurd ⟨e3, e4⟩ e1
  simpa [List.getD, h1, h2] using goal
theorem cnt_set {out : List Int} {i : Nat} (hi : i < out.length) : cntI 1 (out.set i 5) ≤ cntI 1 out ∧ (out.getD i 0 = 1 → cntI 1 (out.set i 5) < cntI 1 out) := by
  unfold cntI
  rw [List.countP_set hi]
  have e5 : ((5 : Int) == 1) = false := rfl
  simp only [e5, Bool.false_eq_true, if_false, Nat.add_zero]
  refine ⟨by omega, fun h => ?_⟩
  have h1 : out[i] = 1 := by simpa [List.getD, hi] using h
  have : 0 < out.countP (· == 1) := List.countP_pos_iff.2 ⟨out[i], List.getElem_mem hi, by rw [h1]; rfl⟩
  rw [h1]
  simp only [beq_self_eq_true, if_true]
  omega
theorem settle_eq {n : Nat} (l : LL) (st : List Int) (b : Bool) (h : Sm l) (hn : 100 < n) : ready_Settle n l st b = some (bif mayB l st then settledL (wayL l b) st else [], bif mayB l st then 0 else 2) := by
  unfold ready_Settle
  rw [may_eq l st h hn, bnd]
  cases hm : mayB l st with
  | false => rfl
  | true =>
    have hlen := h.len
    have hml := (mayB_in hm).1
    have hW := h.way b
    have hWl : (wayL l b).length = st.length := by rw [wayL_len]; exact hml
    have hin := way_in (b := b) hm
    simp only [Bool.not_true, cF, cT]
    rw [ways_eq l b h, bnd]
    have hcl : slices_Cloneint8_int8 n st = some st := need_t (by omega)
    rw [hcl, bnd]
    obtain ⟨r, h1, h2⟩ := loop_meas (n := n) (step := ready_Settle_s1 n (wayL l b)) (s0 := st) (fun out => SI (wayL l b) st out) (fun out => cntI 1 out) (fun out => out = settledL (wayL l b) st) (SI.start _ st) (fun out hI => by
      have hol := hI.len
      unfold ready_Settle_s1
      rw [overB_eq (wayL l b) out hW (by omega) (by rw [hol]; exact hin) hn, bnd]
      have hmem : ∀ x, x ∈ sel (pickF anyQ blocksB (wayL l b) out) out.length → ∃ i : Nat, x = i ∧ i < st.length ∧ out.getD i 0 = 1 ∧ Blk (wayL l b) st i := fun x hx => by
        obtain ⟨i, e, hi, hp⟩ := sel_mem.1 hx
        simp only [pickF, anyQ, Bool.and_eq_true, decide_eq_true_eq, List.any_eq_true] at hp
        obtain ⟨hp1, y, hy, hp2⟩ := hp
        have hyr := hin _ (row_mem (l := wayL l b) (by omega)) y hy
        exact ⟨i, e, by omega, hp1, .step (by omega) (hI.wait (by omega) hp1) hy (hI.blk (by omega) hp2)⟩
      by_cases h0 : (sel (pickF anyQ blocksB (wayL l b) out) out.length).length = 0
      · right
        refine ⟨out, by rw [decide_eq_true (by omega)]; rfl, hI.done hin hWl fun i hi h1 x hx => ?_⟩
        cases hb : blocksB (out.getD x.toNat 0) with
        | false => rfl
        | true =>
          exfalso
          have : (i : Int) ∈ sel (pickF anyQ blocksB (wayL l b) out) out.length := sel_mem.2 ⟨i, rfl, by omega, by
            simp only [pickF, anyQ, Bool.and_eq_true, decide_eq_true_eq, List.any_eq_true]
            exact ⟨h1, x, hx, hb⟩⟩
          rw [List.eq_nil_of_length_eq_zero h0] at this
          cases this
      · left
        have hsl := sel_len (pickF anyQ blocksB (wayL l b) out) out.length
        generalize hX : sel (pickF anyQ blocksB (wayL l b) out) out.length = X at *
        obtain ⟨r, g1, g2⟩ := loop_inv (n := n) (step := ready_Settle_s2 n X) (s0 := (out, (0 : Int))) (fun k s => s.2 = (k : Int) ∧ SI (wayL l b) st s.1 ∧ cntI 1 s.1 ≤ cntI 1 out ∧ (k = 0 → s.1 = out) ∧ (0 < k → cntI 1 s.1 < cntI 1 out))
          (fun r => SI (wayL l b) st r ∧ cntI 1 r < cntI 1 out) X.length ⟨rfl, hI, Nat.le_refl _, fun _ => rfl, fun h => absurd h (Nat.lt_irrefl 0)⟩ (fun k s hk ⟨i1, i2, i3, i4, i5⟩ => by
            left
            obtain ⟨s1, s2⟩ := s
            simp only at i1 i2 i3 i4 i5
            subst i1
            obtain ⟨i, e, hi, ho, hb⟩ := hmem _ (getD_mem hk)
            have hsl := i2.len
            refine ⟨(s1.set i 5, (k : Int) + 1), ?_, by simp, i2.put hi (hI.wait hi ho) hb, ?_, fun h => by omega, fun _ => ?_⟩
            · unfold ready_Settle_s2
              simp only [decide_eq_true (by omega : (k : Int) < X.length), cT, getI_at 0 hk, bnd]
              rw [e, getI_at 0 (by omega), bnd, need_i (by omega) (by omega)]; rfl
            · exact Nat.le_trans (cnt_set (by omega)).1 i3
            · rcases Nat.eq_zero_or_pos k with h0 | h0
              · have e0 := i4 h0
                simp only at e0 ⊢
                rw [e0]
                exact (cnt_set (by omega)).2 ho
              · exact Nat.lt_of_le_of_lt (cnt_set (by omega)).1 (i5 h0))
          (fun s ⟨i1, i2, i3, i4, i5⟩ => ⟨s.1, by unfold ready_Settle_s2; simp [i1], i2, i5 (by omega)⟩) (by omega)
        refine ⟨r, ?_, g2.1, g2.2⟩
        rw [decide_eq_false (by omega : ¬ ((X.length : Nat) : Int) = 0)]
        simp only [cF]
        rw [g1]; rfl) (by have := cntI_all 1 st; omega)
    rw [h1, bnd, h2]

theorem wakes_eq {n : Nat} (hn : 100 < n) : law21_wakes n = some true := by
  have hS : Sm [[], [0]] := ⟨by decide, fun r hr => by simp at hr; rcases hr with rfl | rfl <;> decide⟩
  have e1 : readyR [[], [0]] [3, 1] false = [1] := by decide
  have e2 : readyR [[], [0]] [3, 1] true = [1] := by decide
  have e3 : mayB [[], [0]] [3, 1] = true := by decide
  unfold law21_wakes
  rw [ready_eq _ _ _ hS hn, ready_eq _ _ _ hS hn, e1, e2, e3, count_eq _ _ (by simp; omega) (by decide)]
  rfl
end Go.Proofs.Ytfdmlionhbeebaa
