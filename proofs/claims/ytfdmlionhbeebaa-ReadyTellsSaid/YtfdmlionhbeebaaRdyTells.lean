/-
  Chapter 21: the document's answer computes what the program does: plain. Own work.
-/
import Derived.Test.YtfdmlionhbeebaaRdySpec3
import Derived.Test.YtfdmlionhbeebaaQ6
set_option linter.unusedVariables false
namespace Go.Proofs.Ytfdmlionhbeebaa
open Go Go.Vc

theorem ref_may_eq {n : Nat} (l : LL) (st : List Int) (h : Sm l) (hn : 100 < n) : ref21_May n l st = some (mayB l st) := by
  unfold ref21_May
  have hlen := h.len
  by_cases hl : l.length = st.length
  · have hin : ∀ k : Nat, k < l.length → loopF (ref21_May_s2 n l (k : Int)) n 0 = some (bif ((l.getD k []).any fun x => decide (x < 0) || decide ((l.length : Int) ≤ x)) then .inl () else .inr ()) := fun k hk => by
      have hr := h.at_ k
      have hs : ∀ j : Nat, j < (l.getD k []).length → ref21_May_s2 n l (k : Int) (j : Int) = if ((fun x => decide (x < 0) || decide ((l.length : Int) ≤ x)) ((l.getD k []).getD j 0)) = true then some (.br (.inl ())) else some (.nx ((j : Int) + 1)) := fun j hj => by
        have hi : inR .i64 ((j : Int) + 1) := inR_small (by omega) (by omega)
        unfold ref21_May_s2
        simp only [getI_at [] hk, bnd, decide_eq_true (by omega : (j : Int) < ((l.getD k []).length : Int)), cT, getI_at 0 hj, need_t hi]
        rw [← cond_ite]
        cases decide ((l.getD k []).getD j 0 < 0) with
        | true => rfl
        | false => rfl
      have he : ref21_May_s2 n l (k : Int) ((l.getD k []).length : Int) = some (.br (.inr ())) := by
        unfold ref21_May_s2
        simp only [getI_at [] hk, bnd]
        simp
      rw [loop_any _ _ _ _ hs he (by omega), any_range 0 (fun x => decide (x < 0) || decide ((l.length : Int) ≤ x))]
    have hs : ∀ k : Nat, k < l.length → ref21_May_s1 n l st (k : Int) = if (!rowOk l st k) = true then some (.br (.inl ())) else some (.nx ((k : Int) + 1)) := fun k hk => by
      have hi : inR .i64 ((k : Int) + 1) := inR_small (by omega) (by omega)
      unfold ref21_May_s1
      simp only [decide_eq_true (by omega : (k : Int) < l.length), cT, getI_at (xs := st) 0 (by omega : k < st.length), bnd, hin k hk, need_t hi]
      rw [rowOk_eq, Bool.not_not]
      cases decide (st.getD k 0 < 0) with
      | true => rfl
      | false =>
        cases decide ((5 : Int) < st.getD k 0) with
        | true => rfl
        | false =>
          simp only [cF, bnd, Bool.false_or]
          cases (l.getD k []).any fun x => decide (x < 0) || decide ((l.length : Int) ≤ x) <;> rfl
    have he : ref21_May_s1 n l st (l.length : Int) = some (.br (.inr ())) := by unfold ref21_May_s1; simp
    rw [loop_any _ _ _ _ hs he (by omega), decide_eq_true (by omega : (l.length : Int) = st.length)]
    simp only [Bool.not_true, cF, bnd]
    unfold mayB
    rw [decide_eq_true hl, Bool.true_and]
    have : ((List.range l.length).any fun k => !rowOk l st k) = !((List.range l.length).all (rowOk l st)) := by
      rw [List.not_all_eq_any_not]
    rw [this]
    cases (List.range l.length).all (rowOk l st) <;> rfl
  · have h1 : ¬ ((l.length : Int) = (st.length : Int)) := by omega
    rw [decide_eq_false h1, mayB_len hl]; rfl

theorem ref_count_eq {n : Nat} (st : List Int) (q : Int) (hn : st.length < n) (hb : st.length ≤ 1000) : ref21_Count n st q = some (cntI q st : Int) := by
  have hs : ∀ k, k < st.length → ref21_Count_s1 n st q ((cntI q (st.take k) : Int), (k : Int)) = some (.nx ((cntI q (st.take (k + 1)) : Int), ((k + 1 : Nat) : Int))) := fun k hk => by
    unfold ref21_Count_s1
    have hc := cntI_le q st k
    have hs := cntI_step (w := q) hk
    simp only [decide_eq_true (by omega : (k : Int) < st.length), cT, getI_at 0 hk, bnd]
    by_cases e : st.getD k 0 = q
    · simp only [e, decide_true, cT]
      rw [need_i (by omega) (by omega), need_i (by omega) (by omega)]
      rw [if_pos e] at hs
      rw [hs]; rfl
    · simp only [e, decide_false, cF]
      rw [need_i (by omega) (by omega)]
      rw [if_neg e] at hs
      rw [hs]; rfl
  have he : ref21_Count_s1 n st q ((cntI q (st.take st.length) : Int), (st.length : Int)) = some (.br (cntI q st : Int)) := by
    unfold ref21_Count_s1; simp
  have hl : loopF (ref21_Count_s1 n st q) n ((0 : Int), (0 : Int)) = some (cntI q st : Int) := loop_all (fun k => ((cntI q (st.take k) : Int), (k : Int))) _ _ hs he hn
  unfold ref21_Count
  rw [hl]; rfl
theorem has_cnt (q : Int) (st : List Int) : hasB q st = decide (0 < cntI q st) := by
  unfold hasB cntI
  rw [Bool.eq_iff_iff, List.any_eq_true, decide_eq_true_eq, List.countP_pos_iff]
  constructor
  · rintro ⟨x, hx, h⟩
    have e : q = x := of_decide_eq_true h
    exact ⟨x, hx, beq_iff_eq.2 e.symm⟩
  · rintro ⟨x, hx, h⟩
    have e : x = q := beq_iff_eq.1 h
    exact ⟨x, hx, decide_eq_true e.symm⟩
theorem ref_over_eq {n : Nat} (st : List Int) (hn : st.length < n) (hb : st.length ≤ 1000) : ref21_Over n st = some (overB st) := by
  unfold ref21_Over
  have h1 := cntI_all 1 st
  have h2 := cntI_all 2 st
  rw [ref_count_eq st 1 hn hb, bnd, ref_count_eq st 2 hn hb, bnd, need_i (by omega) (by omega)]
  unfold overB
  rw [has_cnt, has_cnt]
  congr 1
  rw [Bool.eq_iff_iff]
  simp only [Bool.and_eq_true, Bool.not_eq_true', decide_eq_true_eq, decide_eq_false_iff_not]
  omega

/-- The same members in each row. -/
structure Like (m W : LL) : Prop where
  len : m.length = W.length
  mem : ∀ k, k < W.length → ∀ x, x ∈ m.getD k [] ↔ x ∈ W.getD k []
  row : ∀ k, (m.getD k []).length ≤ 10000
theorem gotK_row {l : LL} {i j k : Nat} (hj : (l.getD i []).length ≤ j) : gotK l i j k = gotK l (i + 1) 0 k := by
  unfold gotK
  rw [List.take_of_length_le hj]
  cases hh : hits l k i with
  | true =>
    rw [sel_yes hh]
    simp only [hits] at hh
    rw [hh]; simp
  | false =>
    rw [sel_no hh]
    simp only [hits] at hh
    rw [hh]; simp
theorem gotK_done {l : LL} {k : Nat} (hk : k < l.length) : gotK l l.length 0 k = (turnedL l).getD k [] := by
  have e : (turnedL l).getD k [] = sel (hits l k) l.length := by simp [turnedL, List.getD, hk]
  rw [e]
  unfold gotK
  simp
structure TD (l : LL) (i j : Nat) (out : LL) : Prop where
  len : out.length = l.length
  mem : ∀ k, k < l.length → ∀ x, x ∈ out.getD k [] ↔ x ∈ gotK l i j k
  row : ∀ k, (out.getD k []).length ≤ i * 100 + j
theorem TD.start (l : LL) : TD l 0 0 (List.replicate l.length []) := by
  refine ⟨by simp, fun k hk x => ?_, fun k => ?_⟩
  · simp [gotK, sel_zero, List.getD, hk]
  · by_cases hk : k < l.length
    · simp [List.getD, hk]
    · simp [List.getD, hk]
theorem TD.next {l : LL} {i : Nat} {out : LL} (h : TD l i (l.getD i []).length out) (hr : (l.getD i []).length ≤ 100) : TD l (i + 1) 0 out :=
  ⟨h.len, fun k hk x => by rw [h.mem k hk x, gotK_row (Nat.le_refl _)], fun k => by have := h.row k; omega⟩
theorem getD_setL {l : LL} {i j : Nat} {v : List Int} (hi : i < l.length) : (l.set i v).getD j [] = if i = j then v else l.getD j [] := by
  simp only [List.getD_eq_getElem?_getD, List.getElem?_set]
  by_cases h : i = j
  · subst h; simp [hi]
  · simp [h]
theorem TD.put {l : LL} {i j : Nat} {out : LL} (h : TD l i j out) (hj : j < (l.getD i []).length) (h0 : 0 ≤ (l.getD i []).getD j 0) (h1 : (l.getD i []).getD j 0 < l.length) :
    TD l i (j + 1) (out.set ((l.getD i []).getD j 0).toNat (out.getD ((l.getD i []).getD j 0).toNat [] ++ [(i : Int)])) := by
  have hlt : ((l.getD i []).getD j 0).toNat < out.length := by rw [h.len]; omega
  refine ⟨by rw [List.length_set]; exact h.len, fun k hk x => ?_, fun k => ?_⟩
  · rw [getD_setL hlt]
    have hm := h.mem k hk x
    unfold gotK at hm ⊢
    rw [any_take hj]
    by_cases e : ((l.getD i []).getD j 0).toNat = k
    · rw [if_pos e, decide_eq_true (by omega : (l.getD i []).getD j 0 = (k : Int)), Bool.or_true, if_pos rfl, e, List.mem_append, hm]
      by_cases hb : ((l.getD i []).take j).any (fun x => decide (x = (k : Int))) = true
      · rw [hb]; simp
      · rw [if_neg hb]; simp
    · rw [if_neg e, decide_eq_false (by omega : ¬ (l.getD i []).getD j 0 = (k : Int)), Bool.or_false]
      exact hm
  · rw [getD_setL hlt]
    split
    · have := h.row ((l.getD i []).getD j 0).toNat
      rw [List.length_append, List.length_singleton]; omega
    · have := h.row k; omega
theorem ref_turned {n : Nat} {l : LL} (h : Sm l) (hin : ∀ r ∈ l, ∀ x ∈ r, 0 ≤ x ∧ x < l.length) (hn : 20000 < n) : ∃ m, ref21_turned n l = some m ∧ Like m (turnedL l) := by
  have hlen := h.len
  obtain ⟨m, h1, h2⟩ := loop_inv (n := n) (step := ref21_turned_s1 n l) (s0 := ((0 : Int), (List.replicate l.length [] : LL))) (fun i s => s.1 = (i : Int) ∧ TD l i 0 s.2) (fun m => TD l l.length 0 m) l.length ⟨rfl, TD.start l⟩
    (fun i s hi ⟨i1, i2⟩ => by
      left
      obtain ⟨s1, s2⟩ := s
      simp only at i1 i2
      subst i1
      have hr := h.at_ i
      obtain ⟨o, g1, g2⟩ := loop_inv (n := n) (step := ref21_turned_s2 n l ((i : Int), s2)) (s0 := ((0 : Int), s2)) (fun j s => s.1 = (j : Int) ∧ TD l i j s.2) (fun o => TD l i (l.getD i []).length o) (l.getD i []).length ⟨rfl, i2⟩
        (fun j s hj ⟨j1, j2⟩ => by
          left
          obtain ⟨t1, t2⟩ := s
          simp only at j1 j2
          subst j1
          have hx := hin _ (row_mem hi) _ (getD_mem hj)
          have hrow := j2.row ((l.getD i []).getD j 0).toNat
          refine ⟨((j : Int) + 1, _), ?_, by simp, j2.put hj hx.1 hx.2⟩
          unfold ref21_turned_s2
          have hi2 : inR .i64 ((j : Int) + 1) := inR_small (by omega) (by omega)
          have hb : ((t2.getD ((l.getD i []).getD j 0).toNat []).length + 1) * 8 ≤ 140737488355328 := by omega
          simp only [getI_at [] hi, bnd, decide_eq_true (by omega : (j : Int) < ((l.getD i []).length : Int)), cT, getI_at 0 hj]
          rw [getI_in [] hx.1 (by rw [j2.len]; exact hx.2), bnd, need_t hb, bnd, need_t hi2])
        (fun s ⟨j1, j2⟩ => ⟨s.2, by
          unfold ref21_turned_s2
          simp only [getI_at [] hi, bnd, j1]
          simp, j2⟩) (by omega)
      refine ⟨((i : Int) + 1, o), ?_, by simp, g2.next hr⟩
      unfold ref21_turned_s1
      have hi2 : inR .i64 ((i : Int) + 1) := inR_small (by omega) (by omega)
      simp only [decide_eq_true (by omega : (i : Int) < (l.length : Int)), cT, g1, bnd, need_t hi2])
    (fun s ⟨i1, i2⟩ => ⟨s.2, by unfold ref21_turned_s1; simp [i1], i2⟩) (by omega)
  refine ⟨m, ?_, by rw [turned_len]; exact h2.len, fun k hk x => ?_, fun k => ?_⟩
  · unfold ref21_turned
    rw [need_t (by omega)]
    have e : ((l.length : Nat) : Int).toNat = l.length := by omega
    rw [e, h1]; rfl
  · rw [turned_len] at hk
    rw [h2.mem k hk x, gotK_done hk]
  · have := h2.row k
    omega
theorem ref_way {n : Nat} {l : LL} (b : Bool) (h : Sm l) (hin : ∀ r ∈ l, ∀ x ∈ r, 0 ≤ x ∧ x < l.length) (hn : 20000 < n) : ∃ m, ref21_way n l b = some m ∧ Like m (wayL l b) := by
  cases b with
  | false => exact ⟨l, rfl, rfl, fun _ _ _ => Iff.rfl, fun k => Nat.le_trans (h.at_ k) (by decide)⟩
  | true =>
    obtain ⟨m, h1, h2⟩ := ref_turned h hin hn
    refine ⟨m, ?_, h2⟩
    unfold ref21_way
    rw [h1]; rfl
theorem all_take {r : List Int} {p : Int → Bool} {j : Nat} (h : j < r.length) : (r.take (j + 1)).all p = ((r.take j).all p && p (r.getD j 0)) := by
  rw [List.take_add_one, List.all_append]
  simp [List.getD, h, Option.toList]
theorem all_like {xs ys : List Int} (h : ∀ x, x ∈ xs ↔ x ∈ ys) (p : Int → Bool) : xs.all p = ys.all p := by
  rw [Bool.eq_iff_iff, List.all_eq_true, List.all_eq_true]
  exact ⟨fun g x hx => g x ((h x).2 hx), fun g x hx => g x ((h x).1 hx)⟩
theorem like_in {m W : LL} {N : Nat} (h : Like m W) (hin : ∀ r ∈ W, ∀ x ∈ r, 0 ≤ x ∧ x < N) {k : Nat} (hk : k < W.length) {x : Int} (hx : x ∈ m.getD k []) : 0 ≤ x ∧ x < N :=
  hin _ (row_mem hk) x ((h.mem k hk x).1 hx)
theorem ref_ready_eq {n : Nat} (l : LL) (st : List Int) (b : Bool) (h : Sm l) (hn : 20000 < n) : ref21_Ready n l st b = some (readyR l st b, bif mayB l st then 0 else 2) := by
  unfold ref21_Ready readyR
  rw [ref_may_eq l st h (by omega), bnd]
  cases hm : mayB l st with
  | false => rfl
  | true =>
    have hlen := h.len
    obtain ⟨hml, _, hmin⟩ := mayB_in hm
    have hWl : (wayL l b).length = st.length := by rw [wayL_len]; exact hml
    have hin := way_in (b := b) hm
    obtain ⟨m, w1, w2⟩ := ref_way b h hmin hn
    have hml2 : m.length = st.length := w2.len.trans hWl
    simp only [Bool.not_true, cF, cT, w1, bnd]
    unfold rdyL
    have hl : loopF (ref21_Ready_s1 n st m) n (([] : List Int), (0 : Int)) = some (sel (pickF allQ letsB (wayL l b) st) st.length) := by
      refine sel_loop (by omega) (by omega) (fun k r hk hr => ?_) (fun r => ?_)
      · have hrow := w2.row k
        have hmk : k < m.length := by omega
        have hinner : loopF (ref21_Ready_s2 n st m (r, (k : Int))) n (decide (st.getD k 0 = 1), (0 : Int)) = some (pickF allQ letsB (wayL l b) st k) := by
          have e1 : pickF allQ letsB (wayL l b) st k = (decide (st.getD k 0 = 1) && (m.getD k []).all fun x => letsB (st.getD x.toNat 0)) := by
            unfold pickF allQ
            rw [all_like (w2.mem k (by omega))]
          rw [e1]
          have hl2 := loop_all (n := n) (step := ref21_Ready_s2 n st m (r, (k : Int))) (fun j : Nat => (decide (st.getD k 0 = 1) && (((m.getD k []).take j).all fun x => letsB (st.getD x.toNat 0)), (j : Int))) (m.getD k []).length (decide (st.getD k 0 = 1) && (m.getD k []).all fun x => letsB (st.getD x.toNat 0)) (fun j hj => by
              have hx := like_in w2 hin (by omega : k < (wayL l b).length) (getD_mem hj)
              have hi : inR .i64 ((j : Int) + 1) := inR_small (by omega) (by omega)
              unfold ref21_Ready_s2
              simp only [getI_at [] hmk, bnd, decide_eq_true (by omega : (j : Int) < ((m.getD k []).length : Int)), cT, getI_at 0 hj, getI_in 0 hx.1 hx.2, need_t hi]
              rw [all_take hj, ← Bool.and_assoc]
              cases (decide (st.getD k 0 = 1) && ((m.getD k []).take j).all fun x => letsB (st.getD x.toNat 0)) with
              | false => rfl
              | true =>
                simp only [cT, Bool.true_and, letsB]
                cases decide (st.getD ((m.getD k []).getD j 0).toNat 0 = 0) <;> simp)
            (by
              unfold ref21_Ready_s2
              simp only [getI_at [] hmk, bnd, List.take_length]
              simp) (by omega)
          simpa using hl2
        have hi : inR .i64 ((k : Int) + 1) := inR_small (by omega) (by omega)
        have hj : (r.length + 1) * 8 ≤ 140737488355328 := by omega
        unfold ref21_Ready_s1
        simp only [decide_eq_true (by omega : (k : Int) < (m.length : Int)), cT, getI_at 0 hk, bnd, hinner, need_t hi, need_t hj]
        rw [cond_ite]
      · unfold ref21_Ready_s1
        simp [hml2]
    rw [hl]; rfl
/-- What a round of settling has. -/
structure RI (W m : LL) (st out : List Int) (i : Nat) (o : List Int) (q : Bool) : Prop where
  si : SI W st o
  fall : q = true → cntI 1 o < cntI 1 out
  same : q = false → o = out ∧ ∀ k, k < i → out.getD k 0 = 1 → ∀ x ∈ m.getD k [], blocksB (out.getD x.toNat 0) = false
structure RJ (W m : LL) (st out : List Int) (i j : Nat) (o : List Int) (q : Bool) : Prop where
  si : SI W st o
  fall : q = true → cntI 1 o < cntI 1 out
  same : q = false → o = out ∧ (∀ k, k < i → out.getD k 0 = 1 → ∀ x ∈ m.getD k [], blocksB (out.getD x.toNat 0) = false) ∧ (out.getD i 0 = 1 → ∀ p, p < j → blocksB (out.getD ((m.getD i []).getD p 0).toNat 0) = false)
theorem ref_settle_eq {n : Nat} (l : LL) (st : List Int) (b : Bool) (h : Sm l) (hn : 20000 < n) : ref21_Settle n l st b = some (bif mayB l st then settledL (wayL l b) st else [], bif mayB l st then 0 else 2) := by
  unfold ref21_Settle
  rw [ref_may_eq l st h (by omega), bnd]
  cases hm : mayB l st with
  | false => rfl
  | true =>
    have hlen := h.len
    obtain ⟨hml, _, hmin⟩ := mayB_in hm
    have hWl : (wayL l b).length = st.length := by rw [wayL_len]; exact hml
    have hin := way_in (b := b) hm
    obtain ⟨m, w1, w2⟩ := ref_way b h hmin hn
    have hml2 : m.length = st.length := w2.len.trans hWl
    simp only [Bool.not_true, cF, cT, w1, bnd]
    rw [need_t (by simp; omega)]
    generalize hW : wayL l b = W at *
    have round : ∀ out, SI W st out → ∃ r : List Int × Bool, loopF (ref21_Settle_s2 n m) n (out, false, (0 : Int)) = some r ∧ RI W m st out m.length r.1 r.2 := fun out hI => by
      have hol := hI.len
      refine loop_inv (n := n) (step := ref21_Settle_s2 n m) (fun (i : Nat) (s : List Int × Bool × Int) => s.2.2 = (i : Int) ∧ RI W m st out i s.1 s.2.1) (fun (r : List Int × Bool) => RI W m st out m.length r.1 r.2) m.length ⟨rfl, hI, fun e => (by cases e), fun _ => ⟨rfl, fun k hk => absurd hk (Nat.not_lt_zero k)⟩⟩
        (fun i s hi ⟨i1, i2⟩ => ?_) (fun s ⟨i1, i2⟩ => ⟨(s.1, s.2.1), by unfold ref21_Settle_s2; simp [i1], i2⟩) (by omega)
      left
      obtain ⟨s1, s2, s3⟩ := s
      simp only at i1 i2
      subst i1
      have hrow := w2.row i
      obtain ⟨r, g1, g2⟩ := loop_inv (n := n) (step := ref21_Settle_s3 n m (s1, s2, (i : Int))) (s0 := (s1, s2, (0 : Int))) (fun j s => s.2.2 = (j : Int) ∧ RJ W m st out i j s.1 s.2.1) (fun r => RJ W m st out i (m.getD i []).length r.1 r.2) (m.getD i []).length
        ⟨rfl, i2.si, i2.fall, fun e => ⟨(i2.same e).1, (i2.same e).2, fun _ p hp => absurd hp (Nat.not_lt_zero p)⟩⟩
        (fun j s hj ⟨j1, j2⟩ => by
          left
          obtain ⟨t1, t2, t3⟩ := s
          simp only at j1 j2
          subst j1
          have htl := j2.si.len
          have hxm := getD_mem hj
          have hx := like_in w2 hin (by omega : i < W.length) hxm
          have hi2 : inR .i64 ((j : Int) + 1) := inR_small (by omega) (by omega)
          have hstep : ref21_Settle_s3 n m (s1, s2, (i : Int)) (t1, t2, (j : Int)) = if (decide (t1.getD i 0 = 1) && blocksB (t1.getD ((m.getD i []).getD j 0).toNat 0)) = true then some (.nx (t1.set i 5, true, (j : Int) + 1)) else some (.nx (t1, t2, (j : Int) + 1)) := by
            unfold ref21_Settle_s3 blocksB
            simp only [getI_at [] hi, bnd, decide_eq_true (by omega : (j : Int) < ((m.getD i []).length : Int)), cT, getI_at 0 hj, getI_in 0 hx.1 (show (m.getD i []).getD j 0 < (t1.length : Int) by omega), getI_at (xs := t1) 0 (by omega : i < t1.length), need_t hi2]
            have e : ((i : Int)).toNat = i := by omega
            rw [e]
            cases decide (t1.getD i 0 = 1) with
            | false => rfl
            | true =>
              cases decide (t1.getD ((m.getD i []).getD j 0).toNat 0 = 4) with
              | true => rfl
              | false => cases decide (t1.getD ((m.getD i []).getD j 0).toNat 0 = 5) <;> rfl
          rw [hstep]
          by_cases hc : (decide (t1.getD i 0 = 1) && blocksB (t1.getD ((m.getD i []).getD j 0).toNat 0)) = true
          · rw [if_pos hc]
            simp only [Bool.and_eq_true, decide_eq_true_eq] at hc
            refine ⟨_, rfl, by simp, ?_, fun _ => ?_, fun e => (by cases e)⟩
            · exact j2.si.put (by omega) (j2.si.wait (by omega) hc.1) (.step (by omega) (j2.si.wait (by omega) hc.1) ((w2.mem i (by omega) _).1 hxm) (j2.si.blk (by omega) hc.2))
            · have h1 := (cnt_set (out := t1) (i := i) (by omega)).2 hc.1
              cases t2 with
              | true => have := j2.fall rfl; show cntI 1 (t1.set i 5) < cntI 1 out; omega
              | false =>
                obtain ⟨e, _⟩ := j2.same rfl
                show cntI 1 (t1.set i 5) < cntI 1 out
                rw [← e]; exact h1
          · rw [if_neg hc]
            refine ⟨_, rfl, by simp, j2.si, j2.fall, fun e => ?_⟩
            obtain ⟨e1, e2, e3⟩ := j2.same e
            refine ⟨e1, e2, fun ho p hp => ?_⟩
            rcases Nat.lt_succ_iff_lt_or_eq.1 hp with h1 | rfl
            · exact e3 ho p h1
            · cases hb : blocksB (out.getD ((m.getD i []).getD p 0).toNat 0) with
              | false => rfl
              | true =>
                exfalso
                apply hc
                rw [e1, hb, decide_eq_true ho]; rfl)
        (fun s ⟨j1, j2⟩ => ⟨(s.1, s.2.1), by
          unfold ref21_Settle_s3
          simp only [getI_at [] hi, bnd, j1]
          simp, j2⟩) (by omega)
      have hi2 : inR .i64 ((i : Int) + 1) := inR_small (by omega) (by omega)
      refine ⟨(r.1, r.2, (i : Int) + 1), ?_, by simp, g2.si, g2.fall, fun e => ?_⟩
      · unfold ref21_Settle_s2
        simp only [decide_eq_true (by omega : (i : Int) < (m.length : Int)), cT, g1, bnd, need_t hi2]
      · obtain ⟨e1, e2, e3⟩ := g2.same e
        refine ⟨e1, fun k hk ho x hx => ?_⟩
        rcases Nat.lt_succ_iff_lt_or_eq.1 hk with h1 | rfl
        · exact e2 k h1 ho x hx
        · obtain ⟨p, hp, rfl⟩ := List.mem_iff_getElem.1 hx
          have h3 := e3 ho p hp
          have e5 : (m.getD k []).getD p 0 = (m.getD k [])[p] := by rw [List.getD_eq_getElem?_getD, List.getElem?_eq_getElem hp]; rfl
          rwa [e5] at h3
    obtain ⟨r, h1, h2⟩ := loop_meas (n := n) (step := ref21_Settle_s1 n m) (s0 := ([] ++ st, true)) (fun s => SI W st s.1 ∧ (s.2 = false → s.1 = settledL W st)) (fun s => if s.2 = true then cntI 1 s.1 + 1 else 0) (fun out => out = settledL W st)
      ⟨SI.start W st, fun e => (by cases e)⟩ (fun s ⟨hI, hS⟩ => by
        obtain ⟨o, q⟩ := s
        cases q with
        | false =>
          right
          exact ⟨o, rfl, hS rfl⟩
        | true =>
          left
          obtain ⟨r, g1, g2⟩ := round o hI
          refine ⟨(r.1, r.2), ?_, ⟨g2.si, fun e => ?_⟩, ?_⟩
          · unfold ref21_Settle_s1
            simp only [cT, g1, bnd]
          · obtain ⟨e1, e2⟩ := g2.same e
            show r.1 = settledL W st
            rw [e1]
            refine hI.done hin hWl fun i hi ho x hx => ?_
            exact e2 i (by omega) ho x ((w2.mem i (by omega) x).2 hx)
          · show (if r.2 = true then cntI 1 r.1 + 1 else 0) < (if true = true then cntI 1 o + 1 else 0)
            rw [if_pos rfl]
            split
            · rename_i e
              have := g2.fall e
              omega
            · omega) (by
        show (if true = true then cntI 1 ([] ++ st) + 1 else 0) < n
        rw [if_pos rfl]
        have := cntI_all 1 ([] ++ st)
        simp only [List.nil_append] at this ⊢
        omega)
    rw [h1, bnd, h2]
theorem tells_law (n : Nat) (hn : 20000 < n) (l : LL) (st : List Int) (b : Bool) (q : Int) : law21_ReadyTells n l st b q = some true := by
  have hn1 : 100 < n := by omega
  unfold law21_ReadyTells
  rw [great_eq l (by omega), bnd]
  cases hg : greatB l with
  | true => simp only [cT, bnd, wakes_eq hn1]
  | false =>
    simp only [cF, bnd]
    by_cases hs : 100 < st.length
    · rw [decide_eq_true (by omega : (100 : Int) < (st.length : Int))]; simp only [cT, bnd, wakes_eq hn1]
    · rw [decide_eq_false (by omega : ¬ (100 : Int) < (st.length : Int))]
      have hS := Sm.great hg
      have hlen := hS.len
      have hrl : (readyR l st b).length ≤ 100 := by
        unfold readyR rdyL
        cases mayB l st with
        | false => simp
        | true => exact Nat.le_trans (sel_len _ _) (by omega)
      have hsl : (bif mayB l st then settledL (wayL l b) st else []).length ≤ 100 := by
        cases mayB l st with
        | false => simp
        | true => simp only [cT]; rw [settled_len]; omega
      simp only [cF, ready_eq l st b hS hn1, ref_ready_eq l st b hS hn, settle_eq l st b hS hn1, ref_settle_eq l st b hS hn, bnd]
      rw [ints_eq _ _ (by omega) (by omega), bnd]
      simp only [decide_true, cT]
      rw [states_eq _ _ (by omega) (by omega), bnd]
      simp only [decide_true, cT, over_eq (n := n) st (by omega) hn1, ref_over_eq (n := n) st (by omega) (by omega), bnd, beq_self_eq_true, count_eq (n := n) st q (by omega) (by omega), ref_count_eq (n := n) st q (by omega) (by omega), may_eq l st hS hn1, ref_may_eq l st hS hn1, wakes_eq hn1]
end Go.Proofs.Ytfdmlionhbeebaa
