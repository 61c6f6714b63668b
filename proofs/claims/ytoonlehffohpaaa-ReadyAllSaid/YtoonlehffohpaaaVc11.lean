/-
  VC, part 11: going over a map in whatever order; maps among the owned and the known. Own work.
-/
import Derived.Test.YtoonlehffohpaaaVc10
namespace Go.Vc
open Go Go.RowKit

section
variable {κ : Type} {enc : κ → Value} {P : Program} {w : World} {ρ : Operand → Value} {o : Oper}

theorem X_range {t kt et : TypeId} {x : Operand} {b : Nat} {m : List (κ × Value)} (ho : o.op = .range t x) (hx : ρ x = .map (some b)) (ht : P.underlying t = some (.map kt et)) (hb : w.heap[b]? = some (mObj enc m)) :
    (execOp ρ o).run P w = .ok (.value (.pointer (some ⟨w.heap.size, 0, none⟩))) (w.alloc (.mapIter (some b) m.length #[] m.length)) := by
  have hg : (getObj b).run P w = .ok (mObj enc m) w := run_getObj hb (mObj_ne m)
  unfold execOp
  simp only [ho, hx, Instr.range, Sem.run_bind, run_underlying ht, Result.andThen_ok, hg]
  rfl

theorem X_range_nil {t kt et : TypeId} {x : Operand} (ho : o.op = .range t x) (hx : ρ x = .map none) (ht : P.underlying t = some (.map kt et)) :
    (execOp ρ o).run P w = .ok (.value (.pointer (some ⟨w.heap.size, 0, none⟩))) (w.alloc (.mapIter none 0 #[] 0)) := by
  unfold execOp
  simp only [ho, hx, Instr.range, Sem.run_bind, run_underlying ht, Result.andThen_ok]
  rfl

theorem X_next_nil {x : Operand} {r : Nat} (ho : o.op = .next x false) (hx : ρ x = .pointer (some ⟨r, 0, none⟩)) (hr : w.heap[r]? = some (.mapIter none 0 #[] 0)) :
    (execOp ρ o).run P w = .ok (.value (.tuple #[.bool false])) w := by
  have hg : (getObj r).run P w = .ok (.mapIter none 0 #[] 0) w := run_getObj hr (by intro _ _ _ h; cases h)
  unfold execOp
  simp only [ho, hx, Instr.next, Sem.run_bind, hg, Result.andThen_ok]
  rfl

/-- The entries that are still to come. -/
def todo (m : List (κ × Value)) (seen : Array Nat) : List ((κ × Value) × Nat) := m.zipIdx.filter fun p => !seen.contains p.2

theorem todo_map (m : List (κ × Value)) (seen : Array Nat) : ((m.zipIdx.map (mEnt enc)).toArray.filter fun e => !seen.contains e.born) = ((todo m seen).map (mEnt enc)).toArray := by
  apply Array.ext'
  simp only [todo, Array.toList_filter, List.filter_map]
  rfl

theorem todo_mem {m : List (κ × Value)} {seen : Array Nat} {p : (κ × Value) × Nat} (h : p ∈ todo m seen) : m[p.2]? = some p.1 ∧ p.2 < m.length ∧ p.2 ∉ seen := by
  obtain ⟨h1, h2⟩ := List.mem_filter.1 h
  have h3 := List.mem_zipIdx h1
  refine ⟨?_, by omega, by simpa using h2⟩
  obtain ⟨a, b, c⟩ := h3
  simp only [Nat.sub_zero] at c
  rw [c]
  exact List.getElem?_eq_getElem _

/-- 'next' over a map: it is over when nothing is left, else whichever entry is left. -/
theorem X_next {x : Operand} {r b : Nat} {m : List (κ × Value)} {seen : Array Nat} (ho : o.op = .next x false) (hx : ρ x = .pointer (some ⟨r, 0, none⟩)) (hr : w.heap[r]? = some (.mapIter (some b) m.length seen m.length))
    (hb : w.heap[b]? = some (mObj enc m)) :
    ∃ w1 : World, w1.heap = w.heap ∧ w1.os = w.os ∧ w1.tape = w.tape ∧ w1.output = w.output ∧
      ((todo m seen = [] ∧ (execOp ρ o).run P w = .ok (.value (.tuple #[.bool false])) w1) ∨
       ∃ p ∈ todo m seen, (execOp ρ o).run P w = .ok (.value (.tuple #[.bool true, enc p.1.1, p.1.2])) { w1 with heap := w1.heap.setIfInBounds r (.mapIter (some b) m.length (seen.push p.2) m.length) }) := by
  have hg : (getObj r).run P w = .ok (.mapIter (some b) m.length seen m.length) w := run_getObj hr (by intro _ _ _ h; cases h)
  have hg2 : (getObj b).run P w = .ok (mObj enc m) w := run_getObj hb (mObj_ne m)
  have hguard : (!seen.isEmpty && !((m.zipIdx.map (mEnt enc)).toArray).isEmpty && ((m.zipIdx.map (mEnt enc)).toArray.all (·.born ≥ m.length))) = false := by
    cases hm : m with
    | nil => simp
    | cons p q =>
      have : ((((p :: q).zipIdx.map (mEnt enc)).toArray).all (·.born ≥ (p :: q).length)) = false := by
        simp [List.zipIdx_cons, mEnt]
      rw [this]; simp
  have hold : ((((todo m seen).map (mEnt enc)).toArray).filter (·.born < m.length)) = ((todo m seen).map (mEnt enc)).toArray := by
    apply Array.filter_eq_self.2
    intro e he
    simp only [List.mem_toArray, List.mem_map] at he
    obtain ⟨p, hp, rfl⟩ := he
    exact decide_eq_true (todo_mem hp).2.1
  have hnew : ((((todo m seen).map (mEnt enc)).toArray).filter (·.born ≥ m.length)) = #[] := by
    apply Array.filter_eq_empty_iff.2
    intro e he
    simp only [List.mem_toArray, List.mem_map] at he
    obtain ⟨p, hp, rfl⟩ := he
    have := (todo_mem hp).2.1
    simp [mEnt]; omega
  -- the choice
  let cands : Array (Option MapEntry) := (if (((todo m seen).map (mEnt enc)).toArray).isEmpty then #[none] else #[]) ++ ((((todo m seen).map (mEnt enc)).toArray) ++ #[]).map some
  have hrun : ∀ (i : Nat) (w1 : World), (choose (.mapNext cands.size)).run P w = .ok i w1 → w1.heap = w.heap →
      (execOp ρ o).run P w = ((match cands[i]? with
        | some (some e) => do setObj r (.mapIter (some b) m.length (seen.push e.born) m.length); pure (Value.tuple #[.bool true, e.key, e.val])
        | some none => pure (Value.tuple #[.bool false])
        | none => stuck "Next: no such candidate").run P w1).andThen fun v w' => .ok (.value v) w' := by
    intro i w1 hc _
    unfold execOp
    simp only [ho, hx, Instr.next, Sem.run_bind, hg, Result.andThen_ok, mObj] at hg2 ⊢
    simp only [hg2, Result.andThen_ok]
    simp only [hguard, Bool.false_eq_true, if_false, todo_map, hold, hnew, Sem.run_bind, Sem.run_pure]
    have hc' := hc
    simp only [cands] at hc'
    rw [hc']
    rfl
  have hch : ∃ i w1, (choose (.mapNext cands.size)).run P w = .ok i w1 ∧ w1.heap = w.heap ∧ w1.os = w.os ∧ w1.tape = w.tape ∧ w1.output = w.output ∧ i < cands.size := by
    have hpos : 0 < cands.size := by
      simp only [cands]
      cases htd : todo m seen with
      | nil => simp
      | cons p q => simp
    by_cases h1 : cands.size ≤ 1
    · exact ⟨0, w, by simp [Question.forced, h1], rfl, rfl, rfl, rfl, hpos⟩
    · exact ⟨(Question.mapNext cands.size).cut (w.tape w.drawn (.mapNext cands.size)), { w with drawn := w.drawn + 1 }, by simp [Question.forced, h1], rfl, rfl, rfl, rfl, Nat.mod_lt _ hpos⟩
  obtain ⟨i, w1, hc, e1, e2, e3, e4, hi⟩ := hch
  have hx' := hrun i w1 hc e1
  refine ⟨w1, e1, e2, e3, e4, ?_⟩
  cases htd : todo m seen with
  | nil =>
    left
    have hcs : cands = #[none] := by simp [cands, htd]
    rw [hcs] at hx' hi
    have hi0 : i = 0 := by simpa using hi
    subst hi0
    exact ⟨rfl, by simpa using hx'⟩
  | cons p0 q0 =>
    right
    have hcs : cands = (((todo m seen).map (mEnt enc)).toArray).map some := by simp [cands, htd]
    rw [hcs] at hx' hi
    simp only [Array.size_map, List.size_toArray, List.length_map] at hi
    refine ⟨(todo m seen)[i], by rw [← htd]; exact List.getElem_mem _, ?_⟩
    have hget : ((((todo m seen).map (mEnt enc)).toArray).map some)[i]? = some (some (mEnt enc (todo m seen)[i])) := by
      simp [hi]
    rw [hget] at hx'
    have hs : ∀ y : Obj, (setObj r y).run P w1 = .ok () { w1 with heap := w1.heap.setIfInBounds r y } := fun y => setObj_run (x := .mapIter (some b) m.length seen m.length) (by rw [e1]; exact hr) (by intro _ _ _ h; cases h)
    simp only [Sem.run_bind, hs, Result.andThen_ok, Sem.run_pure] at hx'
    exact hx'

/-- 'entry': the entry of the last step. -/
theorem X_entry {x : Operand} {r b j : Nat} {m : List (κ × Value)} {seen : Array Nat} {p : κ × Value} (ho : o.op = .entry x) (hx : ρ x = .pointer (some ⟨r, 0, none⟩)) (hr : w.heap[r]? = some (.mapIter (some b) m.length (seen.push j) m.length))
    (hb : w.heap[b]? = some (mObj enc m)) (hj : m[j]? = some p) : (execOp ρ o).run P w = .ok (.value (.tuple #[enc p.1, p.2])) w := by
  have hg : (getObj r).run P w = .ok (.mapIter (some b) m.length (seen.push j) m.length) w := run_getObj hr (by intro _ _ _ h; cases h)
  have hg2 : (getObj b).run P w = .ok (mObj enc m) w := run_getObj hb (mObj_ne m)
  have hfind : ∀ (l : List (κ × Value)) (n j : Nat) (q : κ × Value), l[j]? = some q → ((l.zipIdx n).map (mEnt enc)).find? (fun e => e.born == n + j) = some (mEnt enc (q, n + j)) := by
    intro l
    induction l with
    | nil => intro n j q h; simp at h
    | cons a l ih =>
      intro n j q h
      cases j with
      | zero =>
        simp only [List.getElem?_cons_zero, Option.some.injEq] at h
        subst h
        simp [List.zipIdx_cons, mEnt]
      | succ j =>
        simp only [List.getElem?_cons_succ] at h
        have := ih (n + 1) j q h
        rw [List.zipIdx_cons, List.map_cons, List.find?_cons_of_neg (by simp [mEnt])]
        rw [show n + (j + 1) = n + 1 + j by omega]
        exact this
  have hf := hfind m 0 j p hj
  simp only [Nat.zero_add] at hf
  unfold execOp
  simp only [ho, hx, Instr.entry, Sem.run_bind, hg, Result.andThen_ok, Array.back?_push, mObj] at hg2 ⊢
  simp only [hg2, Result.andThen_ok]
  simp [hf, mEnt]
end

section
variable {κ : Type} {enc : κ → Value} {P : Program} {ops : Array Oper} {n : Nat} {Q : Exit → Act → World → Prop} {L : Fr} {a : Act} {w0 w : World} {M : Mem} {H : List Ent}

theorem Hp.ownObj {b : Nat} {x : Obj} (h : Hp w0 M H w) (i : Nat) (he : H[i]? = some (.obj b x)) : w.heap[b]? = some x := (h.own _ (List.mem_of_getElem? he)).2

/-- A write of a whole block. -/
theorem Hp.put {b : Nat} {x y : Obj} (h : Hp w0 M (.obj b x :: H) w) : Hp w0 M (.obj b y :: H) { w with heap := w.heap.setIfInBounds b y } := by
  have hb := (h.own _ List.mem_cons_self).2
  have hlt := lt_of_get hb
  refine h.write rfl rfl rfl (by simp) (by simp [hlt]) (fun k hk => ?_)
  simp only [Array.getElem?_setIfInBounds]
  rw [if_neg (fun e => hk e.symm)]

theorem Hp.sameHeap {w1 : World} (h : Hp w0 M H w) (e1 : w1.heap = w.heap) (e2 : w1.os = w.os) (e3 : w1.tape = w.tape) (e4 : w1.output = w.output) : Hp w0 M H w1 :=
  ⟨⟨e2.trans h.below.os, e3.trans h.below.tape, e4.trans h.below.output, by rw [e1]; exact h.below.size, fun k hk => by rw [e1]; exact h.below.block k hk⟩,
    fun b o hb => by rw [e1]; exact h.mem b o hb, fun e he => Ent.owns_keep (h.own e he) fun _ _ => by rw [e1], h.apart, h.free⟩

/-- A store into the map that stands first among the owned. -/
theorem W_mapUpdate [DecidableEq κ] {o : Oper} {rest : List Oper} {t kt et : TypeId} {x ix y : Operand} {b : Nat} {m : List (κ × Value)} {k : κ} {v : Value} (hf : Frm n L a) (hp : Hp w0 M (.obj b (mObj enc m) :: H) w) (hw : wantedL ops L o = some true) (hr : readyL L o = true) (hd : o.dst = none)
    (ho : o.op = .mapUpdate t x ix y ∨ o.op = .insert t x ix y) (hx : ev L x = .map (some b)) (hk : ev L ix = enc k) (hv : ev L y = v) (ht : P.underlying t = some (.map kt et)) (K : KeyLaw P kt enc)
    (hq : ∀ w', Hp w0 M (.obj b (mObj enc (updM m k v)) :: H) w' → ∀ a', Frm n L a' → wpList P ops Q rest a' w') : wpList P ops Q (o :: rest) a w :=
  W_skip hf hw hr hd (X_mapUpdate ho hx hk hv ht K (hp.ownObj 0 rfl)) (hq _ hp.put)

/-- One step over a map whose object is there (hb), the iterator first among the owned. -/
theorem W_next {o : Oper} {rest : List Oper} {d : Nat} {x : Operand} {r b : Nat} {m : List (κ × Value)} {seen : Array Nat} (hf : Frm n L a) (hp : Hp w0 M (.obj r (.mapIter (some b) m.length seen m.length) :: H) w) (hw : wantedL ops L o = some true) (hr : readyL L o = true)
    (hd : o.dst = some d) (hdn : Nat.blt d n = true) (ho : o.op = .next x false) (hx : ev L x = .pointer (some ⟨r, 0, none⟩)) (hb : w.heap[b]? = some (mObj enc m))
    (hover : todo m seen = [] → ∀ w', Hp w0 M (.obj r (.mapIter (some b) m.length seen m.length) :: H) w' → ∀ a', Frm n ((d, .tuple #[.bool false]) :: L) a' → wpList P ops Q rest a' w')
    (hstep : ∀ p ∈ todo m seen, ∀ w', Hp w0 M (.obj r (.mapIter (some b) m.length (seen.push p.2) m.length) :: H) w' → ∀ a', Frm n ((d, .tuple #[.bool true, enc p.1.1, p.1.2]) :: L) a' → wpList P ops Q rest a' w') :
    wpList P ops Q (o :: rest) a w := by
  obtain ⟨w1, e1, e2, e3, e4, h⟩ := X_next (P := P) ho hx (hp.ownObj 0 rfl) hb
  have hp1 := hp.sameHeap e1 e2 e3 e4
  rcases h with ⟨h1, h2⟩ | ⟨p, hpm, h2⟩
  · exact W_eq hf hw hr hd hdn h2 (hover h1 w1 hp1)
  · exact W_eq hf hw hr hd hdn h2 (hstep p hpm _ hp1.put)

theorem W_range {o : Oper} {rest : List Oper} {d : Nat} {t kt et : TypeId} {x : Operand} {b : Nat} {m : List (κ × Value)} (hf : Frm n L a) (hp : Hp w0 M H w) (hw : wantedL ops L o = some true) (hr : readyL L o = true)
    (hd : o.dst = some d) (hdn : Nat.blt d n = true) (ho : o.op = .range t x) (hx : ev L x = .map (some b)) (ht : P.underlying t = some (.map kt et)) (hb : w.heap[b]? = some (mObj enc m))
    (hk : ∀ r w', Hp w0 M (.obj r (.mapIter (some b) m.length #[] m.length) :: H) w' → ∀ a', Frm n ((d, .pointer (some ⟨r, 0, none⟩)) :: L) a' → wpList P ops Q rest a' w') : wpList P ops Q (o :: rest) a w :=
  W_eq hf hw hr hd hdn (X_range ho hx ht hb) (hk _ _ (hp.alloc _))
theorem W_range_nil {o : Oper} {rest : List Oper} {d : Nat} {t kt et : TypeId} {x : Operand} (hf : Frm n L a) (hp : Hp w0 M H w) (hw : wantedL ops L o = some true) (hr : readyL L o = true)
    (hd : o.dst = some d) (hdn : Nat.blt d n = true) (ho : o.op = .range t x) (hx : ev L x = .map none) (ht : P.underlying t = some (.map kt et))
    (hk : ∀ r w', Hp w0 M (.obj r (.mapIter none 0 #[] 0) :: H) w' → ∀ a', Frm n ((d, .pointer (some ⟨r, 0, none⟩)) :: L) a' → wpList P ops Q rest a' w') : wpList P ops Q (o :: rest) a w :=
  W_eq hf hw hr hd hdn (X_range_nil ho hx ht) (hk _ _ (hp.alloc _))
end
end Go.Vc
