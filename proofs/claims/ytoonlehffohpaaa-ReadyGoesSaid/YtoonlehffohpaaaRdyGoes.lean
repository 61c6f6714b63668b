/-
  Chapter 21: an order means no circles; the stage's theorem: plain. Own work.
-/
import Derived.Test.YtoonlehffohpaaaRdyLaws
import Derived.Test.YtoonlehffohpaaaQ6
set_option linter.unusedVariables false
namespace Go.Proofs.Ytoonlehffohpaaa
open Go Go.Vc

def okRow (l : LL) (r : List Int) : Bool := !(r.any fun x => decide (x < 0) || decide ((l.length : Int) ≤ x))
theorem gmay_eq {n : Nat} (l : LL) (h : Sm l) (hn : 100 < n) : graph_May n l = some (l.all (okRow l)) := by
  unfold graph_May
  have hlen := h.len
  have hs : ∀ k : Nat, k < l.length → graph_May_s1 n l (k : Int) = if (!okRow l (l.getD k [])) = true then some (.br (.inl ())) else some (.nx ((k : Int) + 1)) := fun k hk => by
    have hr := h.at_ k
    unfold graph_May_s1
    simp only [decide_eq_true (by omega : (k : Int) < l.length), cT, getI_at [] hk, bnd]
    have hs2 : ∀ j : Nat, j < (l.getD k []).length → graph_May_s2 n l (l.getD k []) (j : Int) = if (decide ((l.getD k []).getD j 0 < 0) || decide ((l.length : Int) ≤ (l.getD k []).getD j 0)) = true then some (.br (.inl ())) else some (.nx ((j : Int) + 1)) := fun j hj => by
      unfold graph_May_s2
      simp only [decide_eq_true (by omega : (j : Int) < (l.getD k []).length), cT, getI_at 0 hj, bnd]
      rw [need_i (by omega) (by omega)]
      cases decide ((l.getD k []).getD j 0 < 0) with
      | true => rfl
      | false => simp only [cF, Bool.false_or]; rw [cond_ite]
    have he2 : graph_May_s2 n l (l.getD k []) ((l.getD k []).length : Int) = some (.br (.inr ())) := by unfold graph_May_s2; simp
    rw [loop_any _ _ _ _ hs2 he2 (by omega), any_range 0 (fun x => decide (x < 0) || decide ((l.length : Int) ≤ x)), bnd]
    unfold okRow
    rw [Bool.not_not]
    cases (l.getD k []).any fun x => decide (x < 0) || decide ((l.length : Int) ≤ x) with
    | true => rfl
    | false =>
      simp only [cF, Bool.false_eq_true, if_false]
      rw [need_i (by omega) (by omega)]
  have he : graph_May_s1 n l (l.length : Int) = some (.br (.inr ())) := by unfold graph_May_s1; simp
  rw [loop_any _ _ _ _ hs he (by omega), any_range [] (fun r => !okRow l r), bnd]
  have : (l.any fun r => !okRow l r) = !(l.all (okRow l)) := by rw [List.not_all_eq_any_not]
  rw [this]
  cases l.all (okRow l) <;> rfl
theorem okRow_in {l : LL} {r : List Int} (h : okRow l r = true) : ∀ x ∈ r, 0 ≤ x ∧ x < l.length := fun x hx => by
  unfold okRow at h
  simp only [Bool.not_eq_true', List.any_eq_false] at h
  have := h x hx
  simp at this; omega

/-- An order's state: m knows just what stands in o; who stands in o leans on what stands ahead of it. -/
structure OI (l : LL) (o : List Int) (m : List (Int × Bool)) : Prop where
  knows : ∀ x, (mget m x).getD false = decide (x ∈ o)
  rng : ∀ x ∈ o, 0 ≤ x ∧ x < l.length
  nodup : o.Nodup
  ahead : ∀ (p : List Int) (x : Int) (q : List Int), o = p ++ x :: q → ∀ y ∈ l.getD x.toNat [], y ∈ p
theorem OI.start (l : LL) : OI l [] [] := ⟨fun x => by simp [mget], fun x h => (by cases h), List.nodup_nil, fun p x q h => (by simp at h)⟩
theorem OI.put {l : LL} {o : List Int} {m : List (Int × Bool)} (h : OI l o m) {i : Nat} (hi : i < l.length) (hn : (i : Int) ∉ o) (hl : ∀ y ∈ l.getD i [], y ∈ o) : OI l (o ++ [(i : Int)]) (mput m (i : Int) true) := by
  refine ⟨fun x => ?_, fun x hx => ?_, ?_, fun p x q he y hy => ?_⟩
  · rw [mget_mput]
    by_cases e : (i : Int) = x
    · subst e; simp
    · rw [if_neg e, h.knows x]
      have e' : ¬ x = (i : Int) := fun k => e k.symm
      simp [e']
  · rcases List.mem_append.1 hx with hx | hx
    · exact h.rng x hx
    · simp at hx; omega
  · rw [List.nodup_append]
    refine ⟨h.nodup, by simp, fun a ha b hb => ?_⟩
    simp at hb; subst hb
    exact fun e => hn (e ▸ ha)
  · rcases List.eq_nil_or_concat q with rfl | ⟨q', z, rfl⟩
    · have := List.append_inj' he rfl
      obtain ⟨e1, e2⟩ := this
      simp at e2
      subst e1; subst e2
      exact hl y (by simpa using hy)
    · have e2 : o ++ [(i : Int)] = (p ++ x :: q') ++ [z] := by rw [he]; simp
      have := List.append_inj' e2 rfl
      exact h.ahead p x q' this.1 y hy
theorem ord1_eq {n : Nat} {l : LL} {o : List Int} {m : List (Int × Bool)} (h : Sm l) (hO : OI l o m) {i : Nat} (hi : i < l.length) (hn : 100 < n) :
    graph_Order_1 n (i : Int) m l = some (!decide ((i : Int) ∈ o) && (l.getD i []).all (fun y => decide (y ∈ o)), m) := by
  unfold graph_Order_1
  rw [hO.knows]
  by_cases hm : (i : Int) ∈ o
  · rw [decide_eq_true hm]; rfl
  · rw [decide_eq_false hm]
    have hr := h.at_ i
    simp only [cF, getI_at [] hi, bnd]
    have hs : ∀ j : Nat, j < (l.getD i []).length → graph_Order_1_s1 n m (l.getD i []) (j : Int) = if (!decide ((l.getD i []).getD j 0 ∈ o)) = true then some (.br (.inl ())) else some (.nx ((j : Int) + 1)) := fun j hj => by
      unfold graph_Order_1_s1
      simp only [decide_eq_true (by omega : (j : Int) < (l.getD i []).length), cT, getI_at 0 hj, bnd, hO.knows]
      rw [need_i (by omega) (by omega), cond_ite]
    have he : graph_Order_1_s1 n m (l.getD i []) ((l.getD i []).length : Int) = some (.br (.inr ())) := by unfold graph_Order_1_s1; simp
    rw [loop_any _ _ _ _ hs he (by omega), any_range 0 (fun y => !decide (y ∈ o)), bnd]
    have : ((l.getD i []).any fun y => !decide (y ∈ o)) = !((l.getD i []).all fun y => decide (y ∈ o)) := by rw [List.not_all_eq_any_not]
    rw [this]
    cases (l.getD i []).all fun y => decide (y ∈ o) <;> rfl
/-- Without circles. -/
def Acy (l : LL) : Prop := ∃ (r : Nat → Nat) (B : Nat), (∀ i, r i ≤ B) ∧ ∀ i, i < l.length → ∀ y ∈ l.getD i [], r y.toNat < r i
theorem OI.acy {l : LL} {o : List Int} {m : List (Int × Bool)} (h : OI l o m) (hall : ∀ i, i < l.length → (i : Int) ∈ o) : Acy l := by
  refine ⟨fun i => o.idxOf (i : Int), o.length, fun i => List.idxOf_le_length, fun i hi y hy => ?_⟩
  have hm := hall i hi
  have hlt : o.idxOf (i : Int) < o.length := List.idxOf_lt_length_of_mem hm
  have he : o = o.take (o.idxOf (i : Int)) ++ (i : Int) :: o.drop (o.idxOf (i : Int) + 1) := by
    have h1 := (List.take_append_drop (o.idxOf (i : Int)) o).symm
    rw [List.drop_eq_getElem_cons hlt, List.getElem_idxOf hlt] at h1
    exact h1
  have hy2 := h.ahead _ _ _ he y (by simpa using hy)
  have hyr := h.rng y (List.mem_of_mem_take hy2)
  have hyy : ((y.toNat : Nat) : Int) = y := by omega
  show o.idxOf ((y.toNat : Nat) : Int) < o.idxOf (i : Int)
  rw [hyy]
  obtain ⟨q, hq, e⟩ := List.mem_take_iff_getElem.1 hy2
  have : o.idxOf y ≤ q := by
    rcases Nat.lt_or_ge q (o.idxOf y) with hlt | hge
    · have h3 := List.not_of_lt_findIdx (p := fun z => z == y) (xs := o) (i := q) hlt
      simp [e] at h3
    · exact hge
  omega
theorem nodup_le : ∀ (k : Nat) {o : List Int}, o.Nodup → (∀ x ∈ o, 0 ≤ x ∧ x < (k : Int)) → o.length ≤ k
  | 0, o, _, hr => by
    cases o with
    | nil => exact Nat.le_refl _
    | cons x o => have := hr x List.mem_cons_self; omega
  | k + 1, o, hn, hr => by
    have h1 := nodup_le k (hn.erase (k : Int)) (fun x hx => by
      have hm := (hn.mem_erase_iff).1 hx
      have := hr x hm.2
      have := hm.1
      omega)
    have h2 : o.length ≤ (o.erase (k : Int)).length + 1 := by
      rw [List.length_erase]; split <;> omega
    omega
theorem nodup_full {k : Nat} {o : List Int} (hn : o.Nodup) (hr : ∀ x ∈ o, 0 ≤ x ∧ x < (k : Int)) (hl : o.length = k) (i : Nat) (hi : i < k) : (i : Int) ∈ o := by
  by_cases h : (i : Int) ∈ o
  · exact h
  · exfalso
    have h1 : (o ++ [(i : Int)]).Nodup := by
      rw [List.nodup_append]
      refine ⟨hn, by simp, fun a ha b hb => ?_⟩
      simp at hb; subst hb
      exact fun e => h (by rw [← e]; exact ha)
    have := nodup_le k h1 (fun x hx => by
      rcases List.mem_append.1 hx with hx | hx
      · exact hr x hx
      · simp at hx; omega)
    simp at this; omega
theorem order_eq {n : Nat} (l : LL) (h : Sm l) (hn : 100 < n) : ∃ o e, graph_Order n l = some (o, e) ∧ (e = 0 → Acy l) := by
  unfold graph_Order
  rw [gmay_eq l h hn, bnd]
  have hlen := h.len
  cases hm : l.all (okRow l) with
  | false => exact ⟨[], 2, rfl, fun e => by cases e⟩
  | true =>
    simp only [Bool.not_true, cF]
    obtain ⟨b, h1, h2⟩ := loop_inv (n := n) (step := graph_Order_s1 n l) (s0 := (([] : List Int), (0 : Int), ([] : List (Int × Bool)))) (fun k s => s.2.1 = (k : Int) ∧ s.1.length = k ∧ OI l s.1 s.2.2)
      (fun b => match b with | .inl _ => True | .inr y => y.1.length = l.length ∧ OI l y.1 y.2) l.length ⟨rfl, rfl, OI.start l⟩
      (fun k s hk ⟨i1, i2, i3⟩ => by
        obtain ⟨o, i, m⟩ := s
        simp only at i1 i2 i3
        subst i1
        obtain ⟨b, g1, g2⟩ := loop_inv (n := n) (step := graph_Order_s2 n l (o, (k : Int), m)) (s0 := ((0 : Int), m)) (fun j s => s = ((j : Int), m))
          (fun b => match b with | .inl y => y.1.length = k + 1 ∧ OI l y.1 y.2 | .inr y => True) l.length rfl
          (fun j s hj hs => by
            subst hs
            have ho := ord1_eq (n := n) h i3 hj hn
            unfold graph_Order_s2
            simp only [decide_eq_true (by omega : (j : Int) < l.length), cT, ho, bnd]
            by_cases hb : (!decide ((j : Int) ∈ o) && (l.getD j []).all (fun y => decide (y ∈ o))) = true
            · right
              rw [hb]
              refine ⟨.inl (o ++ [(j : Int)], mput m (j : Int) true), ?_, ?_⟩
              · simp only [cT]; rw [need_t (by omega)]
              · simp only [Bool.and_eq_true, Bool.not_eq_true', decide_eq_false_iff_not, List.all_eq_true, decide_eq_true_eq] at hb
                exact ⟨by simp [i2], i3.put hj hb.1 hb.2⟩
            · left
              rw [Bool.eq_false_iff.2 hb]
              refine ⟨((j : Int) + 1, m), ?_, rfl⟩
              simp only [cF]; rw [need_i (by omega) (by omega)])
          (fun s hs => by
            subst hs
            exact ⟨.inr m, by unfold graph_Order_s2; simp, trivial⟩) (by omega)
        have hstep : graph_Order_s1 n l (o, (k : Int), m) = (match b with | .inl y => some (.nx (y.1, (k : Int) + 1, y.2)) | .inr y => some (.br (.inl y))) := by
          unfold graph_Order_s1
          simp only [decide_eq_true (by omega : (k : Int) < l.length), cT, g1, bnd]
          cases b with
          | inl y => simp only; rw [need_i (by omega) (by omega)]
          | inr y => rfl
        cases b with
        | inl y => exact .inl ⟨_, hstep, rfl, g2.1, g2.2⟩
        | inr y => exact .inr ⟨_, hstep, trivial⟩)
      (fun s ⟨i1, i2, i3⟩ => ⟨.inr (s.1, s.2.2), by unfold graph_Order_s1; simp [i1], i2, i3⟩) (by omega)
    rw [h1, bnd]
    cases b with
    | inl y => exact ⟨[], 200, rfl, fun e => by cases e⟩
    | inr y =>
      obtain ⟨h3, h4⟩ := h2
      exact ⟨y.1, 0, rfl, fun _ => h4.acy fun i hi => nodup_full h4.nodup h4.rng h3 i hi⟩
theorem order_may {n : Nat} (l : LL) (h : Sm l) (hn : 100 < n) {o : List Int} {e : Int} (ho : graph_Order n l = some (o, e)) (he : e = 0) : ∀ r ∈ l, ∀ x ∈ r, 0 ≤ x ∧ x < l.length := by
  unfold graph_Order at ho
  rw [gmay_eq l h hn, bnd] at ho
  cases hm : l.all (okRow l) with
  | false => rw [hm] at ho; subst he; cases ho
  | true => exact fun r hr => okRow_in (List.all_eq_true.1 hm r hr)
theorem Acy.least {l : LL} (h : Acy l) (S : Nat → Prop) (hS : ∃ i, i < l.length ∧ S i) (hin : ∀ i, i < l.length → ∀ x ∈ l.getD i [], x.toNat < l.length) : ∃ i, i < l.length ∧ S i ∧ ∀ x ∈ l.getD i [], ¬ S x.toNat := by
  obtain ⟨r, B, _, h2⟩ := h
  have key : ∀ (k : Nat) (i : Nat), r i ≤ k → i < l.length → S i → ∃ i, i < l.length ∧ S i ∧ ∀ x ∈ l.getD i [], ¬ S x.toNat := by
    intro k
    induction k with
    | zero =>
      intro i hr hi hs
      exact ⟨i, hi, hs, fun x hx _ => by have := h2 i hi x hx; omega⟩
    | succ k ih =>
      intro i hr hi hs
      by_cases hc : ∃ y ∈ l.getD i [], S y.toNat
      · obtain ⟨y, hy, hSy⟩ := hc
        exact ih y.toNat (by have := h2 i hi y hy; omega) (hin i hi y hy) hSy
      · exact ⟨i, hi, hs, fun y hy hn => hc ⟨y, hy, hn⟩⟩
  obtain ⟨i, hi, hs⟩ := hS
  exact key (r i) i (Nat.le_refl _) hi hs
theorem mem_turned {l : LL} {k : Nat} (hk : k < l.length) {x : Int} : x ∈ (turnedL l).getD k [] ↔ ∃ i : Nat, x = i ∧ i < l.length ∧ (k : Int) ∈ l.getD i [] := by
  have e : (turnedL l).getD k [] = sel (hits l k) l.length := by simp [turnedL, List.getD, hk]
  rw [e, sel_mem]
  simp only [hits, List.any_eq_true, decide_eq_true_eq]
  constructor
  · rintro ⟨i, e, hi, y, hy, rfl⟩; exact ⟨i, e, hi, hy⟩
  · rintro ⟨i, e, hi, hy⟩; exact ⟨i, e, hi, _, hy, rfl⟩
theorem Acy.way {l : LL} (h : Acy l) (b : Bool) : Acy (wayL l b) := by
  cases b with
  | false => exact h
  | true =>
    obtain ⟨r, B, h1, h2⟩ := h
    refine ⟨fun i => B - r i, B, fun i => Nat.sub_le _ _, fun i hi y hy => ?_⟩
    rw [wayL_len] at hi
    obtain ⟨j, rfl, hj, hm⟩ := (mem_turned hi).1 hy
    have := h2 j hj i hm
    have := h1 j
    simp only [Int.toNat_natCast] at *
    omega
/-- Someone goes next, if all that do not wait are done with, and none of them blocks who waits. -/
theorem goes_next {W : LL} {s : List Int} (hA : Acy W) (hl : W.length = s.length) (hin : ∀ r ∈ W, ∀ x ∈ r, 0 ≤ x ∧ x < s.length) (hw : ∃ i, i < s.length ∧ s.getD i 0 = 1)
    (hlets : ∀ i, i < s.length → s.getD i 0 = 1 → ∀ x ∈ W.getD i [], s.getD x.toNat 0 ≠ 1 → letsB (s.getD x.toNat 0) = true) : 0 < (sel (pickF allQ letsB W s) s.length).length := by
  obtain ⟨i, hi, h1, h2⟩ := hA.least (fun i => s.getD i 0 = 1) (by obtain ⟨i, hi, h⟩ := hw; exact ⟨i, by omega, h⟩) (fun i hi x hx => by have := hin _ (row_mem hi) x hx; omega)
  have : (i : Int) ∈ sel (pickF allQ letsB W s) s.length := sel_mem.2 ⟨i, rfl, by omega, by
    simp only [pickF, allQ, Bool.and_eq_true, decide_eq_true_eq, List.all_eq_true]
    exact ⟨h1, fun x hx => hlets i (by omega) h1 x hx (h2 x hx)⟩⟩
  exact List.length_pos_of_mem this
theorem cnt_pos {q : Int} {s : List Int} (h : cntI q s ≠ 0) : ∃ i, i < s.length ∧ s.getD i 0 = q := by
  unfold cntI at h
  obtain ⟨x, hx, he⟩ := List.countP_pos_iff.1 (Nat.pos_of_ne_zero h)
  obtain ⟨i, hi, rfl⟩ := List.mem_iff_getElem.1 hx
  exact ⟨i, hi, by simpa [List.getD, hi] using he⟩
theorem cnt_zero {q : Int} {s : List Int} (h : cntI q s = 0) {i : Nat} (hi : i < s.length) : s.getD i 0 ≠ q := fun e => by
  unfold cntI at h
  rw [List.countP_eq_zero] at h
  have := h s[i] (List.getElem_mem hi)
  simp only [List.getD_eq_getElem?_getD, List.getElem?_eq_getElem hi, Option.getD_some] at e
  rw [e] at this; simp at this

theorem goes_law (n : Nat) (hn : 100 < n) (l : LL) (st : List Int) (b : Bool) : law21_ReadyGoes n l st b = some true := by
  unfold law21_ReadyGoes
  rw [great_eq l (by omega), bnd]
  cases hg : greatB l with
  | true => simp only [cT, bnd, wakes_eq hn]
  | false =>
    simp only [cF, bnd]
    by_cases hs : 100 < st.length
    · rw [decide_eq_true (by omega : (100 : Int) < (st.length : Int))]; simp only [cT, bnd, wakes_eq hn]
    · rw [decide_eq_false (by omega : ¬ (100 : Int) < (st.length : Int))]
      have hS := Sm.great hg
      have hlen := hS.len
      obtain ⟨o, e, ho, hacy⟩ := order_eq l hS hn
      simp only [cF, settle_eq l st b hS hn, bnd, ho]
      cases hm : mayB l st with
      | false => simp only [cF, Int.reduceEq, decide_false, Bool.not_false, cT, wakes_eq hn, bnd]
      | true =>
        simp only [cT, decide_true, Bool.not_true, cF, bnd]
        by_cases he : e = 0
        · rw [decide_eq_true he]
          obtain ⟨m1, m2, m3⟩ := mayB_in hm
          have hin := way_in (b := b) hm
          have hWl : (wayL l b).length = st.length := by rw [wayL_len]; exact m1
          have hsl := settled_len (wayL l b) st
          have hmS := settled_may (W := wayL l b) hm
          have hA := (hacy he).way b
          simp only [Bool.not_true, cF]
          rw [ready_eq l _ b hS hn, hmS, bnd]
          simp only [cT, decide_true]
          rw [count_eq _ _ (by omega) (by omega), bnd, count_eq _ _ (by omega) (by omega)]
          by_cases h1 : cntI 1 (settledL (wayL l b) st) = 0
          · rw [decide_eq_true (by omega : (cntI 1 (settledL (wayL l b) st) : Int) = 0)]
            simp only [cT, wakes_eq hn, bnd]
          · rw [decide_eq_false (by omega : ¬ (cntI 1 (settledL (wayL l b) st) : Int) = 0)]
            simp only [cF, bnd]
            by_cases h2 : cntI 2 (settledL (wayL l b) st) = 0
            · rw [decide_eq_false (by omega : ¬ (0 : Int) < (cntI 2 (settledL (wayL l b) st) : Int))]
              simp only [cF]
              have hpos : 0 < (readyR l (settledL (wayL l b) st) b).length := by
                unfold readyR rdyL
                rw [hmS]
                refine goes_next hA (by omega) (by rw [hsl]; exact hin) (cnt_pos h1) fun i hi hi1 x hx hx1 => ?_
                rw [hsl] at hi
                have hxr := hin _ (row_mem (l := wayL l b) (by omega)) x hx
                have h5 := (mayB_in hmS).2.1 x.toNat (by omega)
                have h6 := cnt_zero h2 (i := x.toNat) (by omega)
                have hnb : blocksB ((settledL (wayL l b) st).getD x.toNat 0) = false := by
                  cases hb : blocksB ((settledL (wayL l b) st).getD x.toNat 0) with
                  | false => rfl
                  | true =>
                    exfalso
                    have hbx := (settled_SI (wayL l b) st).blk (by omega) hb
                    have hw := (settled_SI (wayL l b) st).wait hi hi1
                    rcases settled_at (l := wayL l b) hi with ⟨_, _, e5⟩ | ⟨e5, _⟩
                    · rw [hi1] at e5; cases e5
                    · exact e5 ⟨hw, .step hi hw hx hbx⟩
                unfold blocksB at hnb
                unfold letsB
                simp only [Bool.or_eq_false_iff, decide_eq_false_iff_not] at hnb
                simp only [Bool.or_eq_true, decide_eq_true_eq]
                omega
              rw [decide_eq_true (by omega : (0 : Int) < ((readyR l (settledL (wayL l b) st) b).length : Int))]
              simp only [cT, wakes_eq hn, bnd]
            · rw [decide_eq_true (by omega : (0 : Int) < (cntI 2 (settledL (wayL l b) st) : Int))]
              simp only [cT, wakes_eq hn, bnd]
        · rw [decide_eq_false he]
          simp only [Bool.not_false, cT, wakes_eq hn, bnd]
end Go.Proofs.Ytoonlehffohpaaa
