/-
  Texts of this claim, packed (what nothing names is left out): VkF, Ty, Q1, Q3a, Shelf, Lay, Hd, WalkIt, WalkIt2, Q4b, VkG, AllM, AllH, IterL, Iter, AllR, S1. Own work, partly printed by own programs. No condition.
-/
import Derived.Test.YtalifkcchfkgmaaGreatDoorPkA1
import Derived.Test.YtalifkcchfkgmaaGreatDoorRows
import Derived.Shelf.Small.Bits
import Derived.Shelf.Small.Strs
import Derived.Shelf.Strconv.Itoa0
import Derived.Ground.SlsfProg
import Derived.Shelf.SlSortCmp.Insertion
import Derived.Shelf.SlSortCmp.SiftDown1
import Derived.Shelf.SlSortCmp.HeapSort1
import Derived.Shelf.SlSortCmp.Insertion1
import Derived.Shelf.SlSortCmp.Median1
import Derived.Shelf.SlSortCmp.Pivot1
import Derived.Shelf.SlSortCmp.ReverseRange1
import Derived.Test.YtalifkcchfkgmaaGreatDoorProg
import Derived.Shelf.Lays
import Derived.Shelf.Unicode.ValidAny
import Derived.Shelf.Abstract
import Derived.Shelf.SlLaysZ
import Derived.Shelf.SlLaysM
import Derived.Shelf.SlGeneric
import Derived.Ground.GgzProg
import Derived.Ground.SlgmProg
import Derived.Shelf.SlIter.Nil
import Derived.Shelf.SortM.Plain
import Derived.Shelf.SortM.SortNone
section
set_option linter.unusedVariables false
set_option linter.unusedSimpArgs false
namespace Go.Vc
open Go Go.RowKit
variable {dd : List Deferred}
/-! ### Entries, pulled ahead one after another -/
def takeAt : Nat → List Ent → Option (Ent × List Ent)
  | 0, e :: H => some (e, H)
  | i + 1, e :: H => (takeAt i H).map fun r => (r.1, e :: r.2)
  | _, [] => none
def pullE (i : Nat) (H : List Ent) : List Ent := match takeAt i H with | some r => r.1 :: r.2 | none => H
def pulls : List Nat → List Ent → List Ent
  | [], H => H
  | i :: is, H => pulls is (pullE i H)
theorem takeAt_perm : ∀ (i : Nat) (H : List Ent) (r : Ent × List Ent), takeAt i H = some r → H.Perm (r.1 :: r.2)
  | 0, [], r, h => by simp [takeAt] at h
  | 0, e :: H, r, h => by simp only [takeAt, Option.some.injEq] at h; subst h; exact List.Perm.refl _
  | i + 1, [], r, h => by simp [takeAt] at h
  | i + 1, e :: H, r, h => by
    simp only [takeAt] at h
    obtain ⟨s, hs, rfl⟩ := Option.map_eq_some_iff.1 h
    exact ((takeAt_perm i H s hs).cons e).trans (List.Perm.swap _ _ _)
theorem pulls_perm : ∀ (is : List Nat) (H : List Ent), H.Perm (pulls is H)
  | [], H => List.Perm.refl _
  | i :: is, H => by
    unfold pulls
    refine List.Perm.trans ?_ (pulls_perm is _)
    unfold pullE
    split
    · rename_i r hr; exact takeAt_perm i H r hr
    · exact List.Perm.refl _
theorem Hp.pl {w0 w : World} {M : Mem} {H : List Ent} (h : Hp w0 M H w) (is : List Nat) : Hp w0 M (pulls is H) w := h.perm (pulls_perm is H)
theorem fzu {M M' : Mem} {base : Addr} {cs : List Value} (hM : M.le M') (h : ∀ j u, cs[j]? = some u → M.cell? (base.add j) = some u) : ∀ j u, cs[j]? = some u → M'.cell? (base.add j) = some u := fun j u e => hM.cell (h j u e)
/-! ### Runs -/
def runF (P : Program) (ops : Array Oper) (n : Nat) (l : List Oper) (L : Fr) (w : World) : Fr := match runL P ops n l L w with | some r => r.1 | none => []
section
variable {P : Program} {ops : Array Oper} {n : Nat} {Q : Exit → Act → World → Prop} {L : Fr} {a : Act} {w0 w : World} {M : Mem} {H : List Ent}
theorem V_run {l : List Oper} (hf : Frm n L a dd) (m : Nat) (h : (runL P ops n (l.take m) L w).map (·.2) = some w) (hk : ∀ a', Frm n (runF P ops n (l.take m) L w) a' dd → wpList P ops Q (l.drop m) a' w) : wpList P ops Q l a w := by
  obtain ⟨r, h1, h2⟩ := Option.map_eq_some_iff.1 h
  have e : runF P ops n (l.take m) L w = r.1 := by unfold runF; rw [h1]
  rw [e] at hk
  have := run_sound (Q := Q) (l.drop m) (l.take m) L w a hf r.1 w (by rw [h1, ← h2]) hk
  rwa [List.take_append_drop] at this
theorem Y19 {l : List Oper} (hf : Frm n L a dd) (m : Nat) (hk : ∀ a', Frm n (runF P ops n (l.take m) L w) a' dd → wpList P ops Q (l.drop m) a' w) (h : (runL P ops n (l.take m) L w).map (·.2) = some w := by kernel_rfl) : wpList P ops Q l a w := V_run hf m h hk
/-- may an operation be walked, and where does it go? -/
def okO (ops : Array Oper) (n : Nat) (L : Fr) (o : Oper) : Bool := match wantedL ops L o with
  | some true => readyL L o && (match o.dst with | some d => Nat.blt d n | none => false)
  | _ => false
def dstO (o : Oper) : Nat := o.dst.getD 0
theorem okO_spec {o : Oper} (h : okO ops n L o = true) : wantedL ops L o = some true ∧ readyL L o = true ∧ o.dst = some (dstO o) ∧ Nat.blt (dstO o) n = true := by
  unfold okO at h
  split at h
  · rename_i hw
    simp only [Bool.and_eq_true] at h
    refine ⟨hw, h.1, ?_⟩
    obtain ⟨_, h⟩ := h
    unfold dstO
    split at h
    · rename_i d hd; rw [hd]; exact ⟨rfl, h⟩
    · cases h
  · cases h
def ldO (P : Program) (L : Fr) (o : Oper) : Option Value := match o.op with | .load t x => bif one1 P t then some (ev L x) else none | _ => none
theorem ldO_spec {o : Oper} {v : Value} (h : ldO P L o = some v) : ∃ t x, o.op = .load t x ∧ one1 P t = true ∧ ev L x = v := by
  unfold ldO at h
  split at h
  · rename_i t x he
    cases ht : one1 P t with
    | false => rw [ht] at h; cases h
    | true => rw [ht] at h; exact ⟨t, x, he, ht, Option.some.inj h⟩
  · cases h
/-- A load of one cell that is known. -/
theorem V_ld {o : Oper} {rest : List Oper} {base : Addr} {cs : List Value} {v : Value} (hf : Frm n L a dd) (hp : Hp w0 M H w) (hc : ∀ j u, cs[j]? = some u → M.cell? (base.add j) = some u) (i : Nat) (hv : cs[i]? = some v)
    (hB : okO ops n L o = true) (hx : ldO P L o = some (.pointer (some (base.add i)))) (hk : ∀ a', Frm n ((dstO o, v) :: L) a' dd → wpList P ops Q rest a' w) : wpList P ops Q (o :: rest) a w := by
  obtain ⟨h1, h2, h3, h4⟩ := okO_spec hB
  obtain ⟨t, x, e1, e2, e3⟩ := ldO_spec hx
  exact W_eq hf h1 h2 h3 h4 (X_load1 e1 e3 e2 (hp.cell (hc i v hv))) hk
theorem Y15 {o : Oper} {rest : List Oper} {base : Addr} {cs : List Value} {v : Value} (hf : Frm n L a dd) (hp : Hp w0 M H w) (hc : ∀ j u, cs[j]? = some u → M.cell? (base.add j) = some u) (i : Nat) (hv : cs[i]? = some v) (hk : ∀ a', Frm n ((dstO o, v) :: L) a' dd → wpList P ops Q rest a' w) (hB : okO ops n L o = true := by kernel_rfl) (hx : ldO P L o = some (.pointer (some (base.add i))) := by kernel_rfl) : wpList P ops Q (o :: rest) a w := V_ld hf hp hc i hv hB hx hk
theorem V_eq {w' : World} {o : Oper} {rest : List Oper} {v : Value} (hf : Frm n L a dd) (hB : okO ops n L o = true) (hx : (execOp (ev L) o).run P w = .ok (.value v) w') (hk : ∀ a', Frm n ((dstO o, v) :: L) a' dd → wpList P ops Q rest a' w') : wpList P ops Q (o :: rest) a w := by
  obtain ⟨h1, h2, h3, h4⟩ := okO_spec hB
  exact W_eq hf h1 h2 h3 h4 hx hk
theorem Y14 {w' : World} {o : Oper} {rest : List Oper} {v : Value} (hf : Frm n L a dd) (hx : (execOp (ev L) o).run P w = .ok (.value v) w') (hk : ∀ a', Frm n ((dstO o, v) :: L) a' dd → wpList P ops Q rest a' w') (hB : okO ops n L o = true := by kernel_rfl) : wpList P ops Q (o :: rest) a w := V_eq hf hB hx hk
theorem V_okv {o : Oper} {rest : List Oper} {f : FuncId} {args : List Value} {v : Value} (hf : Frm n L a dd) (hp : Hp w0 M H w) (hc : Ok P M f args fun _ u => u = v) (hB : okO ops n L o = true) (hx : ∀ w, (execOp (ev L) o).run P w = .ok (.enter f args.toArray) w)
    (hk : ∀ w', Hp w0 M H w' → ∀ a', Frm n ((dstO o, v) :: L) a' dd → wpList P ops Q rest a' w') : wpList P ops Q (o :: rest) a w := by
  obtain ⟨h1, h2, h3, h4⟩ := okO_spec hB
  exact W_okv hf hp h1 h2 h3 h4 hx hc hk
theorem Y18 {o : Oper} {rest : List Oper} {f : FuncId} {args : List Value} {v : Value} (hf : Frm n L a dd) (hp : Hp w0 M H w) (hc : Ok P M f args fun _ u => u = v) (hk : ∀ w', Hp w0 M H w' → ∀ a', Frm n ((dstO o, v) :: L) a' dd → wpList P ops Q rest a' w') (hB : okO ops n L o = true := by kernel_rfl) (hx : ∀ w, (execOp (ev L) o).run P w = .ok (.enter f args.toArray) w := by intro _; kernel_rfl) : wpList P ops Q (o :: rest) a w := V_okv hf hp hc hB hx hk
theorem V_ok {o : Oper} {rest : List Oper} {f : FuncId} {args : List Value} {Post : Mem → Value → Prop} (hf : Frm n L a dd) (hp : Hp w0 M H w) (hc : Ok P M f args Post) (hB : okO ops n L o = true) (hx : ∀ w, (execOp (ev L) o).run P w = .ok (.enter f args.toArray) w)
    (hk : ∀ v M' w', M.le M' → Hp w0 M' H w' → Post M' v → ∀ a', Frm n ((dstO o, v) :: L) a' dd → wpList P ops Q rest a' w') : wpList P ops Q (o :: rest) a w := by
  obtain ⟨h1, h2, h3, h4⟩ := okO_spec hB
  exact W_ok hf hp h1 h2 h3 h4 hx hc hk
theorem Y16 {o : Oper} {rest : List Oper} {f : FuncId} {args : List Value} {Post : Mem → Value → Prop} (hf : Frm n L a dd) (hp : Hp w0 M H w) (hc : Ok P M f args Post) (hk : ∀ v M' w', M.le M' → Hp w0 M' H w' → Post M' v → ∀ a', Frm n ((dstO o, v) :: L) a' dd → wpList P ops Q rest a' w') (hB : okO ops n L o = true := by kernel_rfl) (hx : ∀ w, (execOp (ev L) o).run P w = .ok (.enter f args.toArray) w := by intro _; kernel_rfl) : wpList P ops Q (o :: rest) a w := V_ok hf hp hc hB hx hk
theorem V_okH {o : Oper} {rest : List Oper} {f : FuncId} {args : List Value} {E : List Ent} {Post : Mem → List Ent → Value → Prop} (hf : Frm n L a dd) (hp : Hp w0 M (E ++ H) w) (hc : OkH P M E f args Post) (hB : okO ops n L o = true) (hx : ∀ w, (execOp (ev L) o).run P w = .ok (.enter f args.toArray) w)
    (hk : ∀ v M' E' w', M.le M' → Hp w0 M' (E' ++ H) w' → Post M' E' v → ∀ a', Frm n ((dstO o, v) :: L) a' dd → wpList P ops Q rest a' w') : wpList P ops Q (o :: rest) a w := by
  obtain ⟨h1, h2, h3, h4⟩ := okO_spec hB
  exact W_okH hf hp h1 h2 h3 h4 hx hc hk
theorem Y17 {o : Oper} {rest : List Oper} {f : FuncId} {args : List Value} {E : List Ent} {Post : Mem → List Ent → Value → Prop} (hf : Frm n L a dd) (hp : Hp w0 M (E ++ H) w) (hc : OkH P M E f args Post) (hk : ∀ v M' E' w', M.le M' → Hp w0 M' (E' ++ H) w' → Post M' E' v → ∀ a', Frm n ((dstO o, v) :: L) a' dd → wpList P ops Q rest a' w') (hB : okO ops n L o = true := by kernel_rfl) (hx : ∀ w, (execOp (ev L) o).run P w = .ok (.enter f args.toArray) w := by intro _; kernel_rfl) : wpList P ops Q (o :: rest) a w := V_okH hf hp hc hB hx hk
theorem V_alloc {o : Oper} {rest : List Oper} (hf : Frm n L a dd) (hp : Hp w0 M H w) (ob : Obj) (hB : okO ops n L o = true) (h : ∀ w, (execOp (ev L) o).run P w = .ok (.value (.pointer (some ⟨w.heap.size, 0, none⟩))) (w.alloc ob))
    (hk : ∀ b w', Hp w0 M (.obj b ob :: H) w' → ∀ a', Frm n ((dstO o, .pointer (some ⟨b, 0, none⟩)) :: L) a' dd → wpList P ops Q rest a' w') : wpList P ops Q (o :: rest) a w :=
  V_eq hf hB (h w) (hk w.heap.size (w.alloc ob) (hp.alloc ob))
theorem Y12 {o : Oper} {rest : List Oper} (hf : Frm n L a dd) (hp : Hp w0 M H w) (ob : Obj) (hk : ∀ b w', Hp w0 M (.obj b ob :: H) w' → ∀ a', Frm n ((dstO o, .pointer (some ⟨b, 0, none⟩)) :: L) a' dd → wpList P ops Q rest a' w') (hB : okO ops n L o = true := by kernel_rfl) (h : ∀ w, (execOp (ev L) o).run P w = .ok (.value (.pointer (some ⟨w.heap.size, 0, none⟩))) (w.alloc ob) := by intro _; kernel_rfl) : wpList P ops Q (o :: rest) a w := V_alloc hf hp ob hB h hk
theorem V_allocS {o : Oper} {rest : List Oper} (hf : Frm n L a dd) (hp : Hp w0 M H w) (ob : Obj) (k c : Nat) (hB : okO ops n L o = true) (h : ∀ w, (execOp (ev L) o).run P w = .ok (.value (.slice (some ⟨w.heap.size, 0, none⟩) k c)) (w.alloc ob))
    (hk : ∀ b w', Hp w0 M (.obj b ob :: H) w' → ∀ a', Frm n ((dstO o, .slice (some ⟨b, 0, none⟩) k c) :: L) a' dd → wpList P ops Q rest a' w') : wpList P ops Q (o :: rest) a w :=
  V_eq hf hB (h w) (hk w.heap.size (w.alloc ob) (hp.alloc ob))
/-- A box that never turns. -/
theorem V_box {o : Oper} {rest : List Oper} {cs : Array Value} {T : TypeId} (hf : Frm n L a dd) (hp : Hp w0 M H w) (hB : okO ops n L o = true) (h : ∀ w, (execOp (ev L) o).run P w = .ok (.value (.pointer (some ⟨w.heap.size, 0, none⟩))) (w.alloc (.cells cs T (0, 0))))
    (hk : ∀ b M' w', M.le M' → (∀ j v, cs[j]? = some v → M'.cell? ⟨b, j, none⟩ = some v) → Hp w0 M' H w' → ∀ a', Frm n ((dstO o, .pointer (some ⟨b, 0, none⟩)) :: L) a' dd → wpList P ops Q rest a' w') : wpList P ops Q (o :: rest) a w :=
  V_alloc hf hp _ hB h fun b w' hp' => hk b _ w' hp'.freeze.1 (fun j v hv => by rw [add_cell, hv]) hp'.freeze.2
theorem Y13 {o : Oper} {rest : List Oper} {cs : Array Value} {T : TypeId} (hf : Frm n L a dd) (hp : Hp w0 M H w) (hk : ∀ b M' w', M.le M' → (∀ j v, cs[j]? = some v → M'.cell? ⟨b, j, none⟩ = some v) → Hp w0 M' H w' → ∀ a', Frm n ((dstO o, .pointer (some ⟨b, 0, none⟩)) :: L) a' dd → wpList P ops Q rest a' w') (hB : okO ops n L o = true := by kernel_rfl) (h : ∀ w, (execOp (ev L) o).run P w = .ok (.value (.pointer (some ⟨w.heap.size, 0, none⟩))) (w.alloc (.cells cs T (0, 0))) := by intro _; kernel_rfl) : wpList P ops Q (o :: rest) a w := V_box hf hp hB h hk
end
/-! ### Quiet runs -/
def runQ (P : Program) (ops : Array Oper) (n : Nat) : List Oper → Fr → World → Option (Fr × List World)
  | [], L, _ => some (L, [])
  | o :: os, L, w => match o.dst with
    | none => none
    | some d => bif Nat.blt d n then
        (match wantedL ops L o with
        | none => none
        | some false => (runQ P ops n os ((d, undef) :: L) w).map fun r => (r.1, w :: r.2)
        | some true => bif readyL L o then
            (match (execOp (ev L) o).run P w with
            | .ok (.value v) w' => (runQ P ops n os ((d, v) :: L) w').map fun r => (r.1, w' :: r.2)
            | _ => none) else none) else none
def qF (P : Program) (ops : Array Oper) (n : Nat) (l : List Oper) (L : Fr) (w : World) : Fr := match runQ P ops n l L w with | some r => r.1 | none => []
theorem runQ_len {P : Program} {ops : Array Oper} {n : Nat} : ∀ (l : List Oper) (L : Fr) (w : World) (r : Fr × List World), runQ P ops n l L w = some r → ∃ pre, r.1 = pre ++ L ∧ pre.length = l.length
  | [], L, w, r, h => by simp only [runQ, Option.some.injEq] at h; subst h; exact ⟨[], rfl, rfl⟩
  | o :: os, L, w, r, h => by
    unfold runQ at h
    split at h
    · cases h
    rename_i d hd
    cases hb : Nat.blt d n with
    | false => rw [hb] at h; cases h
    | true =>
      rw [hb, cond_true] at h
      have fin : ∀ (v : Value) (w1 : World) (s : Fr × List World), runQ P ops n os ((d, v) :: L) w1 = some s → ∃ pre, s.1 = pre ++ L ∧ pre.length = (o :: os).length := fun v w1 s hs => by
        obtain ⟨pre, h1, h2⟩ := runQ_len os _ _ s hs
        exact ⟨pre ++ [(d, v)], by rw [h1, List.append_assoc]; rfl, by simp [h2]⟩
      split at h
      · cases h
      · obtain ⟨s, hs, rfl⟩ := Option.map_eq_some_iff.1 h
        exact fin _ _ s hs
      · cases hr : readyL L o with
        | false => rw [hr] at h; cases h
        | true =>
          rw [hr, cond_true] at h
          split at h
          · obtain ⟨s, hs, rfl⟩ := Option.map_eq_some_iff.1 h
            exact fin _ _ s hs
          · cases h
/-- what a quiet run tells of its first operation -/
theorem runQ_step {P : Program} {ops : Array Oper} {n : Nat} {o : Oper} {os : List Oper} {L L' : Fr} {wd : World} (h : ∀ w, runQ P ops n (o :: os) L w = some (L', List.replicate (o :: os).length w)) :
    ∃ d, o.dst = some d ∧ d < n ∧ ((wantedL ops L o = some false ∧ ∀ w, runQ P ops n os ((d, undef) :: L) w = some (L', List.replicate os.length w)) ∨
      (wantedL ops L o = some true ∧ readyL L o = true ∧ ∃ v, (∀ w, (execOp (ev L) o).run P w = .ok (.value v) w) ∧ ∀ w, runQ P ops n os ((d, v) :: L) w = some (L', List.replicate os.length w))) := by
  have h0 := h wd
  cases hd : o.dst with
  | none => unfold runQ at h0; simp only [hd] at h0; cases h0
  | some d =>
    cases hb : Nat.blt d n with
    | false => unfold runQ at h0; simp only [hd, hb, cond_false] at h0; cases h0
    | true =>
      refine ⟨d, rfl, by simpa [Nat.blt_eq] using hb, ?_⟩
      cases hw : wantedL ops L o with
      | none => unfold runQ at h0; simp only [hd, hb, cond_true, hw] at h0; cases h0
      | some b =>
        cases b with
        | false =>
          refine .inl ⟨rfl, fun w => ?_⟩
          have h1 := h w
          unfold runQ at h1
          simp only [hd, hb, cond_true, hw] at h1
          obtain ⟨s, hs, e⟩ := Option.map_eq_some_iff.1 h1
          obtain ⟨s1, s2⟩ := s
          simp only [List.length_cons, List.replicate_succ, Prod.mk.injEq, List.cons.injEq] at e
          rw [hs, e.1, e.2.2]
        | true =>
          cases hr : readyL L o with
          | false => unfold runQ at h0; simp only [hd, hb, cond_true, hw, hr, cond_false] at h0; cases h0
          | true =>
            have key : ∀ w, ∃ v, (execOp (ev L) o).run P w = .ok (.value v) w ∧ runQ P ops n os ((d, v) :: L) w = some (L', List.replicate os.length w) := fun w => by
              have h1 := h w
              unfold runQ at h1
              simp only [hd, hb, cond_true, hw, hr] at h1
              split at h1
              · rename_i v w' hx
                obtain ⟨s, hs, e⟩ := Option.map_eq_some_iff.1 h1
                obtain ⟨s1, s2⟩ := s
                simp only [List.length_cons, List.replicate_succ, Prod.mk.injEq, List.cons.injEq] at e
                obtain ⟨e1, e2, e3⟩ := e
                subst e2
                exact ⟨v, hx, by rw [hs, e1, e3]⟩
              · cases h1
            obtain ⟨v, hv1, hv2⟩ := key wd
            have same : ∀ w u, runQ P ops n os ((d, u) :: L) w = some (L', List.replicate os.length w) → u = v := fun w u hu => by
              obtain ⟨p1, q1, r1⟩ := runQ_len os _ _ _ hv2
              obtain ⟨p2, q2, r2⟩ := runQ_len os _ _ _ hu
              have e : p1 ++ ((d, v) :: L) = p2 ++ ((d, u) :: L) := q1.symm.trans q2
              have := (List.append_inj e (r1.trans r2.symm)).2
              simp only [List.cons.injEq, Prod.mk.injEq] at this
              exact this.1.2.symm
            refine .inr ⟨rfl, rfl, v, fun w => ?_, fun w => ?_⟩
            · obtain ⟨u, h1, h2⟩ := key w
              rw [h1, same w u h2]
            · obtain ⟨u, h1, h2⟩ := key w
              rw [← same w u h2]; exact h2
section
variable {P : Program} {ops : Array Oper} {n : Nat} {C : World → Prop} {K : Act → Prop} {L : Fr} {a : Act} {w0 : World} {M : Mem} {H : List Ent}
theorem Q_runs (wd : World) : ∀ (l rest : List Oper) (L L' : Fr) (a : Act), Frm n L a dd → (∀ w, runQ P ops n l L w = some (L', List.replicate l.length w)) → (∀ a', Frm n L' a' dd → wpQuiet P ops C K rest a') → wpQuiet P ops C K (l ++ rest) a
  | [], rest, L, L', a, hf, h, hk => by
    have := h wd
    simp only [runQ, Option.some.injEq, Prod.mk.injEq] at this
    exact hk a (this.1 ▸ hf)
  | o :: os, rest, L, L', a, hf, h, hk => by
    obtain ⟨d, h1, h2, h3⟩ := runQ_step (wd := wd) h
    have hdn : Nat.blt d n = true := by simpa [Nat.blt_eq] using h2
    rcases h3 with ⟨hw, h4⟩ | ⟨hw, hr, v, hx, h4⟩
    · exact Q_not hf hw h1 hdn fun a' fa => Q_runs wd os rest _ L' a' fa h4 hk
    · exact Q_eq hf hw hr h1 hdn (fun w _ => hx w) fun a' fa => Q_runs wd os rest _ L' a' fa h4 hk
theorem Q_run {l : List Oper} (wd : World) (hf : Frm n L a dd) (m : Nat) (h : ∀ w, runQ P ops n (l.take m) L w = some (qF P ops n (l.take m) L wd, List.replicate (l.take m).length w)) (hk : ∀ a', Frm n (qF P ops n (l.take m) L wd) a' dd → wpQuiet P ops C K (l.drop m) a') : wpQuiet P ops C K l a := by
  have := Q_runs (C := C) (K := K) wd (l.take m) (l.drop m) L _ a hf h hk
  rwa [List.take_append_drop] at this
theorem Y5 {l : List Oper} (wd : World) (hf : Frm n L a dd) (m : Nat) (hk : ∀ a', Frm n (qF P ops n (l.take m) L wd) a' dd → wpQuiet P ops C K (l.drop m) a') (h : ∀ w, runQ P ops n (l.take m) L w = some (qF P ops n (l.take m) L wd, List.replicate (l.take m).length w) := by intro _; kernel_rfl) : wpQuiet P ops C K l a := Q_run wd hf m h hk
theorem Q_ld {o : Oper} {rest : List Oper} {base : Addr} {cs : List Value} {v : Value} (hf : Frm n L a dd) (hc : ∀ j u, cs[j]? = some u → M.cell? (base.add j) = some u) (i : Nat) (hv : cs[i]? = some v)
    (hB : okO ops n L o = true) (hx : ldO P L o = some (.pointer (some (base.add i)))) (hk : ∀ a', Frm n ((dstO o, v) :: L) a' dd → wpQuiet P ops (fun w => Hp w0 M H w) K rest a') : wpQuiet P ops (fun w => Hp w0 M H w) K (o :: rest) a := by
  obtain ⟨h1, h2, h3, h4⟩ := okO_spec hB
  obtain ⟨t, x, e1, e2, e3⟩ := ldO_spec hx
  exact Q_eq hf h1 h2 h3 h4 (fun w hp => X_load1 e1 e3 e2 (hp.cell (hc i v hv))) hk
theorem Y4 {o : Oper} {rest : List Oper} {base : Addr} {cs : List Value} {v : Value} (hf : Frm n L a dd) (hc : ∀ j u, cs[j]? = some u → M.cell? (base.add j) = some u) (i : Nat) (hv : cs[i]? = some v) (hk : ∀ a', Frm n ((dstO o, v) :: L) a' dd → wpQuiet P ops (fun w => Hp w0 M H w) K rest a') (hB : okO ops n L o = true := by kernel_rfl) (hx : ldO P L o = some (.pointer (some (base.add i))) := by kernel_rfl) : wpQuiet P ops (fun w => Hp w0 M H w) K (o :: rest) a := Q_ld hf hc i hv hB hx hk
theorem QV_eq {o : Oper} {rest : List Oper} {v : Value} (hf : Frm n L a dd) (hB : okO ops n L o = true) (hx : ∀ w, C w → (execOp (ev L) o).run P w = .ok (.value v) w) (hk : ∀ a', Frm n ((dstO o, v) :: L) a' dd → wpQuiet P ops C K rest a') : wpQuiet P ops C K (o :: rest) a := by
  obtain ⟨h1, h2, h3, h4⟩ := okO_spec hB
  exact Q_eq hf h1 h2 h3 h4 hx hk
theorem Y2 {o : Oper} {rest : List Oper} {v : Value} (hf : Frm n L a dd) (hx : ∀ w, C w → (execOp (ev L) o).run P w = .ok (.value v) w) (hk : ∀ a', Frm n ((dstO o, v) :: L) a' dd → wpQuiet P ops C K rest a') (hB : okO ops n L o = true := by kernel_rfl) : wpQuiet P ops C K (o :: rest) a := QV_eq hf hB hx hk
theorem QV_okv {o : Oper} {rest : List Oper} {f : FuncId} {args : List Value} {v : Value} (hf : Frm n L a dd) (hc : Ok P M f args fun _ u => u = v) (hB : okO ops n L o = true) (hx : ∀ w, (execOp (ev L) o).run P w = .ok (.enter f args.toArray) w)
    (hk : ∀ a', Frm n ((dstO o, v) :: L) a' dd → wpQuiet P ops (fun w => Hp w0 M H w) K rest a') : wpQuiet P ops (fun w => Hp w0 M H w) K (o :: rest) a := by
  obtain ⟨h1, h2, h3, h4⟩ := okO_spec hB
  exact Q_okv hf h1 h2 h3 h4 hx hc hk
theorem Y3 {o : Oper} {rest : List Oper} {f : FuncId} {args : List Value} {v : Value} (hf : Frm n L a dd) (hc : Ok P M f args fun _ u => u = v) (hk : ∀ a', Frm n ((dstO o, v) :: L) a' dd → wpQuiet P ops (fun w => Hp w0 M H w) K rest a') (hB : okO ops n L o = true := by kernel_rfl) (hx : ∀ w, (execOp (ev L) o).run P w = .ok (.enter f args.toArray) w := by intro _; kernel_rfl) : wpQuiet P ops (fun w => Hp w0 M H w) K (o :: rest) a := QV_okv hf hc hB hx hk
end
/-! mixed -/
section
variable {P : Program} {ops : Array Oper} {n : Nat} {Q : Exit → Act → World → Prop} {L : Fr} {a : Act} {w0 : World} {M : Mem} {Hr : List Ent} {i : Mem × List Ent}
theorem M_runs (wd : World) : ∀ (l : List Oper) (rest : List (Bool × Oper)) (L L' : Fr) (a : Act), Frm n L a → (∀ w, runQ P ops n l L w = some (L', List.replicate l.length w)) → (∀ a', Frm n L' a' → wpMix P ops Q (Cla w0 M Hr) rest a' i) → wpMix P ops Q (Cla w0 M Hr) (l.map (fun o => (true, o)) ++ rest) a i
  | [], rest, L, L', a, hf, h, hk => by
    have := h wd
    simp only [runQ, Option.some.injEq, Prod.mk.injEq] at this
    exact hk a (this.1 ▸ hf)
  | o :: os, rest, L, L', a, hf, h, hk => by
    obtain ⟨d, h1, h2, h3⟩ := runQ_step (wd := wd) h
    have hdn : Nat.blt d n = true := by simpa [Nat.blt_eq] using h2
    rcases h3 with ⟨hw, h4⟩ | ⟨hw, hr, v, hx, h4⟩
    · exact M_not hf hw h1 hdn fun a' fa => M_runs wd os rest _ L' a' fa h4 hk
    · exact M_eq hf hw hr h1 hdn (fun w _ => hx w) fun a' fa => M_runs wd os rest _ L' a' fa h4 hk
def qops (l : List (Bool × Oper)) : List Oper := l.map (·.2)
def allQ (l : List (Bool × Oper)) : Bool := l.all (·.1)
theorem qops_map {l : List (Bool × Oper)} (h : allQ l = true) : (qops l).map (fun o => (true, o)) = l := by
  induction l with
  | nil => rfl
  | cons p r ih =>
    obtain ⟨b, o⟩ := p
    simp only [allQ, List.all_cons, Bool.and_eq_true] at h
    obtain ⟨rfl, h2⟩ := h
    show (true, o) :: (qops r).map _ = _
    rw [ih h2]
theorem M_run {l : List (Bool × Oper)} (wd : World) (hf : Frm n L a) (m : Nat) (hq : allQ (l.take m) = true) (h : ∀ w, runQ P ops n (qops (l.take m)) L w = some (qF P ops n (qops (l.take m)) L wd, List.replicate (qops (l.take m)).length w)) (hk : ∀ a', Frm n (qF P ops n (qops (l.take m)) L wd) a' → wpMix P ops Q (Cla w0 M Hr) (l.drop m) a' i) : wpMix P ops Q (Cla w0 M Hr) l a i := by
  have := M_runs (Q := Q) (w0 := w0) (M := M) (Hr := Hr) (i := i) wd (qops (l.take m)) (l.drop m) L _ a hf h hk
  rwa [qops_map hq, List.take_append_drop] at this
theorem Y0 {l : List (Bool × Oper)} (wd : World) (hf : Frm n L a) (m : Nat) (hk : ∀ a', Frm n (qF P ops n (qops (l.take m)) L wd) a' → wpMix P ops Q (Cla w0 M Hr) (l.drop m) a' i) (hq : allQ (l.take m) = true := by kernel_rfl) (h : ∀ w, runQ P ops n (qops (l.take m)) L w = some (qF P ops n (qops (l.take m)) L wd, List.replicate (qops (l.take m)).length w) := by intro _; kernel_rfl) : wpMix P ops Q (Cla w0 M Hr) l a i := M_run wd hf m hq h hk
end
section
variable {P : Program} {l : List Oper} {ks : List Nat} {n : Nat} {Q : Exit → Act → World → Prop} {L : Fr} {a : Act} {w0 w : World} {M : Mem} {Hr : List Ent} {i : Mem × List Ent}
theorem N_goN {p : Plan} {M1 : Mem} {H : List Ent} (k : Nat) (hM : M.le M1) (hp : Hp w0 M1 H w) (hH : H.drop k = Hr) (h : wpPlan P l ks Q (Cla w0 M Hr) p a (M1, H.take k)) :
    mixQ Q (fun a' w' => ∃ i', Cla w0 M Hr i' w' ∧ wpPlan P l ks Q (Cla w0 M Hr) p a' i') .normal a w := by
  subst hH
  exact ⟨(M1, H.take k), ⟨hM, by rw [List.take_append_drop]; exact hp⟩, h⟩
end
theorem sI {α : Type} {a b : α} (h : some a = some b) : a = b := Option.some.inj h
theorem dI {p : Prop} [Decidable p] : decide p = true ↔ p := decide_eq_true_iff
theorem bS {α β : Type} {x : Option α} {f : α → Option β} {r : β} (h : x.bind f = some r) : ∃ v, x = some v ∧ f v = some r := bind_some' h
theorem bE (b : Bool) : b = true ∨ b = false := Bool.eq_false_or_eq_true b
theorem mR (M : Mem) : M.le M := Mem.le_refl M
theorem nS {α : Type} {p : Prop} [Decidable p] {y : Option α} {r : α} (h : need p y = some r) : p ∧ y = some r := need_some h
theorem cB {a b : Bool} (h : a = b) : Value.bool a = Value.bool b := congrArg Value.bool h
end Go.Vc
end

section
set_option linter.unusedVariables false
set_option linter.unusedSimpArgs false
namespace Go.Proofs.YtalifkcchfkgmaaGreatDoor
open Go Go.Vc Go.RowKit
structure T_api_Value where
  fKind : Int
  fBool : Bool
  fNum : Int
  fText : List UInt8
  fList : List T_api_Value
  fKeys : List (List UInt8)
mutual
def emb_T_api_Value : T_api_Value → Dat
  | ⟨x0, x1, x2, x3, x4, x5⟩ => .struct [(Dat.int .i8) x0, Dat.bool x1, (Dat.int .i64) x2, Dat.str x3, .list 6 (embs_T_api_Value x4), (eL 1 Dat.str) x5]
def embs_T_api_Value : List T_api_Value → List Dat
  | [] => []
  | x :: r => emb_T_api_Value x :: embs_T_api_Value r
end
theorem embs_T_api_Value_eq : ∀ l : List T_api_Value, embs_T_api_Value l = l.map emb_T_api_Value
 | [] => by simp [embs_T_api_Value]
 | x :: r => by simp [embs_T_api_Value, embs_T_api_Value_eq r]
theorem emb_T_api_Value_eq (x : T_api_Value) : emb_T_api_Value x = .struct [(Dat.int .i8) x.fKind, Dat.bool x.fBool, (Dat.int .i64) x.fNum, Dat.str x.fText, (eL 6 emb_T_api_Value) x.fList, (eL 1 Dat.str) x.fKeys] := by
 cases x
 simp [emb_T_api_Value, eL, embs_T_api_Value_eq]
theorem szd_T_api_Value (x : T_api_Value) : Szd 6 (emb_T_api_Value x) := by rw [emb_T_api_Value_eq]; exact (szd_cons ((szd_int .i8) _) (szd_cons (szd_bool _) (szd_cons ((szd_int .i64) _) (szd_cons (szd_str _) (szd_cons ((fun _ => szd_list _ _) _) (szd_cons ((fun _ => szd_list _ _) _) szd_nil))))))
theorem T_api_Value.opn {M : Mem} {x : T_api_Value} {cs : List Value} (h : Rep M (emb_T_api_Value x) cs) : ∃ (A4 : Option Addr) (c4 : Nat) (A5 : Option Addr) (c5 : Nat), cs = [.int .i8 x.fKind, .bool x.fBool, .int .i64 x.fNum, S x.fText, .slice A4 x.fList.length c4, .slice A5 x.fKeys.length c5] ∧ Sli M 6 emb_T_api_Value A4 c4 x.fList ∧ Sli M 1 Dat.str A5 c5 x.fKeys := by
 rw [emb_T_api_Value_eq] at h
 obtain ⟨cq_0, dq_0, eq_0, hq_0, gq_0⟩ := h
 have yq_0 : cq_0 = _ := hq_0
 obtain ⟨cq_1, dq_1, eq_1, hq_1, gq_1⟩ := gq_0
 have yq_1 : cq_1 = _ := hq_1
 obtain ⟨cq_2, dq_2, eq_2, hq_2, gq_2⟩ := gq_1
 have yq_2 : cq_2 = _ := hq_2
 obtain ⟨cq_3, dq_3, eq_3, hq_3, gq_3⟩ := gq_2
 have yq_3 : cq_3 = _ := hq_3
 obtain ⟨cq_4, dq_4, eq_4, hq_4, gq_4⟩ := gq_3
 obtain ⟨Aq_4, kq_4, yq_4, zq_4⟩ := Rep.sli hq_4
 obtain ⟨cq_5, dq_5, eq_5, hq_5, gq_5⟩ := gq_4
 obtain ⟨Aq_5, kq_5, yq_5, zq_5⟩ := Rep.sli hq_5
 have lq : dq_5 = [] := gq_5
 exact ⟨Aq_4, kq_4, Aq_5, kq_5, by simp [eq_0, yq_0, eq_1, yq_1, eq_2, yq_2, eq_3, yq_3, eq_4, yq_4, eq_5, yq_5, lq], zq_4, zq_5⟩
theorem T_api_Value.shut {M : Mem} {a0 : Int} {a1 : Bool} {a2 : Int} {a3 : List UInt8} {a4 : List T_api_Value} {a5 : List (List UInt8)} {A4 : Option Addr} {c4 : Nat} {A5 : Option Addr} {c5 : Nat} (h4 : Sli M 6 emb_T_api_Value A4 c4 a4) (h5 : Sli M 1 Dat.str A5 c5 a5) : Rep M (emb_T_api_Value ⟨a0, a1, a2, a3, a4, a5⟩) [.int .i8 a0, .bool a1, .int .i64 a2, S a3, .slice A4 a4.length c4, .slice A5 a5.length c5] := by
 rw [emb_T_api_Value_eq]; exact ⟨_, _, rfl, rfl, ⟨_, _, rfl, rfl, ⟨_, _, rfl, rfl, ⟨_, _, rfl, rfl, ⟨_, _, rfl, (Sli.rep h4), ⟨_, _, rfl, (Sli.rep h5), rfl⟩⟩⟩⟩⟩⟩
theorem T_api_Value.shutx {M : Mem} {x : T_api_Value} {A4 : Option Addr} {c4 : Nat} {A5 : Option Addr} {c5 : Nat} (h4 : Sli M 6 emb_T_api_Value A4 c4 x.fList) (h5 : Sli M 1 Dat.str A5 c5 x.fKeys) : Rep M (emb_T_api_Value x) [.int .i8 x.fKind, .bool x.fBool, .int .i64 x.fNum, S x.fText, .slice A4 x.fList.length c4, .slice A5 x.fKeys.length c5] := by
 have h := T_api_Value.shut (M := M) (a0 := x.fKind) (a1 := x.fBool) (a2 := x.fNum) (a3 := x.fText) (a4 := x.fList) (a5 := x.fKeys) h4 h5
 rw [emb_T_api_Value_eq] at h ⊢
 exact h
structure T_api_Given where
  fName : List UInt8
  fUnknown : Bool
  fV : T_api_Value
def emb_T_api_Given : T_api_Given → Dat
  | ⟨x0, x1, x2⟩ => .struct [Dat.str x0, Dat.bool x1, emb_T_api_Value x2]
theorem emb_T_api_Given_eq (x : T_api_Given) : emb_T_api_Given x = .struct [Dat.str x.fName, Dat.bool x.fUnknown, emb_T_api_Value x.fV] := by
 cases x
 simp [emb_T_api_Given, eL]
theorem szd_T_api_Given (x : T_api_Given) : Szd 8 (emb_T_api_Given x) := by rw [emb_T_api_Given_eq]; exact (szd_cons (szd_str _) (szd_cons (szd_bool _) (szd_cons (szd_T_api_Value _) szd_nil)))
theorem T_api_Given.opn {M : Mem} {x : T_api_Given} {cs : List Value} (h : Rep M (emb_T_api_Given x) cs) : ∃ (A6 : Option Addr) (c6 : Nat) (A7 : Option Addr) (c7 : Nat), cs = [S x.fName, .bool x.fUnknown, .int .i8 x.fV.fKind, .bool x.fV.fBool, .int .i64 x.fV.fNum, S x.fV.fText, .slice A6 x.fV.fList.length c6, .slice A7 x.fV.fKeys.length c7] ∧ Sli M 6 emb_T_api_Value A6 c6 x.fV.fList ∧ Sli M 1 Dat.str A7 c7 x.fV.fKeys := by
 rw [emb_T_api_Given_eq] at h
 obtain ⟨cq_0, dq_0, eq_0, hq_0, gq_0⟩ := h
 have yq_0 : cq_0 = _ := hq_0
 obtain ⟨cq_1, dq_1, eq_1, hq_1, gq_1⟩ := gq_0
 have yq_1 : cq_1 = _ := hq_1
 obtain ⟨cq_2, dq_2, eq_2, hq_2, gq_2⟩ := gq_1
 rw [emb_T_api_Value_eq] at hq_2
 obtain ⟨cq_2_0, dq_2_0, eq_2_0, hq_2_0, gq_2_0⟩ := hq_2
 have yq_2_0 : cq_2_0 = _ := hq_2_0
 obtain ⟨cq_2_1, dq_2_1, eq_2_1, hq_2_1, gq_2_1⟩ := gq_2_0
 have yq_2_1 : cq_2_1 = _ := hq_2_1
 obtain ⟨cq_2_2, dq_2_2, eq_2_2, hq_2_2, gq_2_2⟩ := gq_2_1
 have yq_2_2 : cq_2_2 = _ := hq_2_2
 obtain ⟨cq_2_3, dq_2_3, eq_2_3, hq_2_3, gq_2_3⟩ := gq_2_2
 have yq_2_3 : cq_2_3 = _ := hq_2_3
 obtain ⟨cq_2_4, dq_2_4, eq_2_4, hq_2_4, gq_2_4⟩ := gq_2_3
 obtain ⟨Aq_2_4, kq_2_4, yq_2_4, zq_2_4⟩ := Rep.sli hq_2_4
 obtain ⟨cq_2_5, dq_2_5, eq_2_5, hq_2_5, gq_2_5⟩ := gq_2_4
 obtain ⟨Aq_2_5, kq_2_5, yq_2_5, zq_2_5⟩ := Rep.sli hq_2_5
 have lq_2 : dq_2_5 = [] := gq_2_5
 have lq : dq_2 = [] := gq_2
 exact ⟨Aq_2_4, kq_2_4, Aq_2_5, kq_2_5, by simp [eq_0, yq_0, eq_1, yq_1, eq_2, eq_2_0, yq_2_0, eq_2_1, yq_2_1, eq_2_2, yq_2_2, eq_2_3, yq_2_3, eq_2_4, yq_2_4, eq_2_5, yq_2_5, lq_2, lq], zq_2_4, zq_2_5⟩
theorem T_api_Given.shut {M : Mem} {a0 : List UInt8} {a1 : Bool} {a2 : Int} {a3 : Bool} {a4 : Int} {a5 : List UInt8} {a6 : List T_api_Value} {a7 : List (List UInt8)} {A6 : Option Addr} {c6 : Nat} {A7 : Option Addr} {c7 : Nat} (h6 : Sli M 6 emb_T_api_Value A6 c6 a6) (h7 : Sli M 1 Dat.str A7 c7 a7) : Rep M (emb_T_api_Given ⟨a0, a1, ⟨a2, a3, a4, a5, a6, a7⟩⟩) [S a0, .bool a1, .int .i8 a2, .bool a3, .int .i64 a4, S a5, .slice A6 a6.length c6, .slice A7 a7.length c7] := by
 rw [emb_T_api_Given_eq]; exact ⟨_, _, rfl, rfl, ⟨_, _, rfl, rfl, ⟨_, _, rfl, (by rw [emb_T_api_Value_eq]; exact ⟨_, _, rfl, rfl, ⟨_, _, rfl, rfl, ⟨_, _, rfl, rfl, ⟨_, _, rfl, rfl, ⟨_, _, rfl, (Sli.rep h6), ⟨_, _, rfl, (Sli.rep h7), rfl⟩⟩⟩⟩⟩⟩), rfl⟩⟩⟩
theorem T_api_Given.shutx {M : Mem} {x : T_api_Given} {A6 : Option Addr} {c6 : Nat} {A7 : Option Addr} {c7 : Nat} (h6 : Sli M 6 emb_T_api_Value A6 c6 x.fV.fList) (h7 : Sli M 1 Dat.str A7 c7 x.fV.fKeys) : Rep M (emb_T_api_Given x) [S x.fName, .bool x.fUnknown, .int .i8 x.fV.fKind, .bool x.fV.fBool, .int .i64 x.fV.fNum, S x.fV.fText, .slice A6 x.fV.fList.length c6, .slice A7 x.fV.fKeys.length c7] := by
 obtain ⟨u0, u1, ⟨u2, u3, u4, u5, u6, u7⟩⟩ := x
 exact T_api_Given.shut h6 h7
structure T_api_Thing where
  fPhys : List UInt8
  fType : List UInt8
  fProps : List T_api_Given
def emb_T_api_Thing : T_api_Thing → Dat
  | ⟨x0, x1, x2⟩ => .struct [Dat.str x0, Dat.str x1, (eL 8 emb_T_api_Given) x2]
theorem emb_T_api_Thing_eq (x : T_api_Thing) : emb_T_api_Thing x = .struct [Dat.str x.fPhys, Dat.str x.fType, (eL 8 emb_T_api_Given) x.fProps] := by
 cases x
 simp [emb_T_api_Thing, eL]
theorem T_api_Thing.opn {M : Mem} {x : T_api_Thing} {cs : List Value} (h : Rep M (emb_T_api_Thing x) cs) : ∃ (A2 : Option Addr) (c2 : Nat), cs = [S x.fPhys, S x.fType, .slice A2 x.fProps.length c2] ∧ Sli M 8 emb_T_api_Given A2 c2 x.fProps := by
 rw [emb_T_api_Thing_eq] at h
 obtain ⟨cq_0, dq_0, eq_0, hq_0, gq_0⟩ := h
 have yq_0 : cq_0 = _ := hq_0
 obtain ⟨cq_1, dq_1, eq_1, hq_1, gq_1⟩ := gq_0
 have yq_1 : cq_1 = _ := hq_1
 obtain ⟨cq_2, dq_2, eq_2, hq_2, gq_2⟩ := gq_1
 obtain ⟨Aq_2, kq_2, yq_2, zq_2⟩ := Rep.sli hq_2
 have lq : dq_2 = [] := gq_2
 exact ⟨Aq_2, kq_2, by simp [eq_0, yq_0, eq_1, yq_1, eq_2, yq_2, lq], zq_2⟩
theorem T_api_Thing.shut {M : Mem} {a0 : List UInt8} {a1 : List UInt8} {a2 : List T_api_Given} {A2 : Option Addr} {c2 : Nat} (h2 : Sli M 8 emb_T_api_Given A2 c2 a2) : Rep M (emb_T_api_Thing ⟨a0, a1, a2⟩) [S a0, S a1, .slice A2 a2.length c2] := by
 rw [emb_T_api_Thing_eq]; exact ⟨_, _, rfl, rfl, ⟨_, _, rfl, rfl, ⟨_, _, rfl, (Sli.rep h2), rfl⟩⟩⟩
theorem T_api_Thing.shutx {M : Mem} {x : T_api_Thing} {A2 : Option Addr} {c2 : Nat} (h2 : Sli M 8 emb_T_api_Given A2 c2 x.fProps) : Rep M (emb_T_api_Thing x) [S x.fPhys, S x.fType, .slice A2 x.fProps.length c2] := by
 have h := T_api_Thing.shut (M := M) (a0 := x.fPhys) (a1 := x.fType) (a2 := x.fProps) h2
 rw [emb_T_api_Thing_eq] at h ⊢
 exact h
structure T_hoardingref10_Store where
  fL : List T_api_Thing
  fMade : Int
def emb_T_hoardingref10_Store : T_hoardingref10_Store → Dat
  | ⟨x0, x1⟩ => .struct [(eL 3 emb_T_api_Thing) x0, (Dat.int .i64) x1]
theorem emb_T_hoardingref10_Store_eq (x : T_hoardingref10_Store) : emb_T_hoardingref10_Store x = .struct [(eL 3 emb_T_api_Thing) x.fL, (Dat.int .i64) x.fMade] := by
 cases x
 simp [emb_T_hoardingref10_Store, eL]
theorem T_hoardingref10_Store.opn {M : Mem} {x : T_hoardingref10_Store} {cs : List Value} (h : Rep M (emb_T_hoardingref10_Store x) cs) : ∃ (A0 : Option Addr) (c0 : Nat), cs = [.slice A0 x.fL.length c0, .int .i64 x.fMade] ∧ Sli M 3 emb_T_api_Thing A0 c0 x.fL := by
 rw [emb_T_hoardingref10_Store_eq] at h
 obtain ⟨cq_0, dq_0, eq_0, hq_0, gq_0⟩ := h
 obtain ⟨Aq_0, kq_0, yq_0, zq_0⟩ := Rep.sli hq_0
 obtain ⟨cq_1, dq_1, eq_1, hq_1, gq_1⟩ := gq_0
 have yq_1 : cq_1 = _ := hq_1
 have lq : dq_1 = [] := gq_1
 exact ⟨Aq_0, kq_0, by simp [eq_0, yq_0, eq_1, yq_1, lq], zq_0⟩
theorem T_hoardingref10_Store.shut {M : Mem} {a0 : List T_api_Thing} {a1 : Int} {A0 : Option Addr} {c0 : Nat} (h0 : Sli M 3 emb_T_api_Thing A0 c0 a0) : Rep M (emb_T_hoardingref10_Store ⟨a0, a1⟩) [.slice A0 a0.length c0, .int .i64 a1] := by
 rw [emb_T_hoardingref10_Store_eq]; exact ⟨_, _, rfl, (Sli.rep h0), ⟨_, _, rfl, rfl, rfl⟩⟩
theorem T_hoardingref10_Store.shutx {M : Mem} {x : T_hoardingref10_Store} {A0 : Option Addr} {c0 : Nat} (h0 : Sli M 3 emb_T_api_Thing A0 c0 x.fL) : Rep M (emb_T_hoardingref10_Store x) [.slice A0 x.fL.length c0, .int .i64 x.fMade] := by
 have h := T_hoardingref10_Store.shut (M := M) (a0 := x.fL) (a1 := x.fMade) h0
 rw [emb_T_hoardingref10_Store_eq] at h ⊢
 exact h
structure T_store_Store where
  fL : List T_api_Thing
  fMade : Int
def emb_T_store_Store : T_store_Store → Dat
  | ⟨x0, x1⟩ => .struct [(eL 3 emb_T_api_Thing) x0, (Dat.int .i64) x1]
theorem emb_T_store_Store_eq (x : T_store_Store) : emb_T_store_Store x = .struct [(eL 3 emb_T_api_Thing) x.fL, (Dat.int .i64) x.fMade] := by
 cases x
 simp [emb_T_store_Store, eL]
theorem T_store_Store.opn {M : Mem} {x : T_store_Store} {cs : List Value} (h : Rep M (emb_T_store_Store x) cs) : ∃ (A0 : Option Addr) (c0 : Nat), cs = [.slice A0 x.fL.length c0, .int .i64 x.fMade] ∧ Sli M 3 emb_T_api_Thing A0 c0 x.fL := by
 rw [emb_T_store_Store_eq] at h
 obtain ⟨cq_0, dq_0, eq_0, hq_0, gq_0⟩ := h
 obtain ⟨Aq_0, kq_0, yq_0, zq_0⟩ := Rep.sli hq_0
 obtain ⟨cq_1, dq_1, eq_1, hq_1, gq_1⟩ := gq_0
 have yq_1 : cq_1 = _ := hq_1
 have lq : dq_1 = [] := gq_1
 exact ⟨Aq_0, kq_0, by simp [eq_0, yq_0, eq_1, yq_1, lq], zq_0⟩
theorem T_store_Store.shut {M : Mem} {a0 : List T_api_Thing} {a1 : Int} {A0 : Option Addr} {c0 : Nat} (h0 : Sli M 3 emb_T_api_Thing A0 c0 a0) : Rep M (emb_T_store_Store ⟨a0, a1⟩) [.slice A0 a0.length c0, .int .i64 a1] := by
 rw [emb_T_store_Store_eq]; exact ⟨_, _, rfl, (Sli.rep h0), ⟨_, _, rfl, rfl, rfl⟩⟩
theorem T_store_Store.shutx {M : Mem} {x : T_store_Store} {A0 : Option Addr} {c0 : Nat} (h0 : Sli M 3 emb_T_api_Thing A0 c0 x.fL) : Rep M (emb_T_store_Store x) [.slice A0 x.fL.length c0, .int .i64 x.fMade] := by
 have h := T_store_Store.shut (M := M) (a0 := x.fL) (a1 := x.fMade) h0
 rw [emb_T_store_Store_eq] at h ⊢
 exact h
structure T_hoardinglaw10_Act where
  fDo : Int
  fKind : List UInt8
  fProps : List T_api_Given
  fN : Int
def emb_T_hoardinglaw10_Act : T_hoardinglaw10_Act → Dat
  | ⟨x0, x1, x2, x3⟩ => .struct [(Dat.int .i64) x0, Dat.str x1, (eL 8 emb_T_api_Given) x2, (Dat.int .i64) x3]
theorem emb_T_hoardinglaw10_Act_eq (x : T_hoardinglaw10_Act) : emb_T_hoardinglaw10_Act x = .struct [(Dat.int .i64) x.fDo, Dat.str x.fKind, (eL 8 emb_T_api_Given) x.fProps, (Dat.int .i64) x.fN] := by
 cases x
 simp [emb_T_hoardinglaw10_Act, eL]
theorem T_hoardinglaw10_Act.opn {M : Mem} {x : T_hoardinglaw10_Act} {cs : List Value} (h : Rep M (emb_T_hoardinglaw10_Act x) cs) : ∃ (A2 : Option Addr) (c2 : Nat), cs = [.int .i64 x.fDo, S x.fKind, .slice A2 x.fProps.length c2, .int .i64 x.fN] ∧ Sli M 8 emb_T_api_Given A2 c2 x.fProps := by
 rw [emb_T_hoardinglaw10_Act_eq] at h
 obtain ⟨cq_0, dq_0, eq_0, hq_0, gq_0⟩ := h
 have yq_0 : cq_0 = _ := hq_0
 obtain ⟨cq_1, dq_1, eq_1, hq_1, gq_1⟩ := gq_0
 have yq_1 : cq_1 = _ := hq_1
 obtain ⟨cq_2, dq_2, eq_2, hq_2, gq_2⟩ := gq_1
 obtain ⟨Aq_2, kq_2, yq_2, zq_2⟩ := Rep.sli hq_2
 obtain ⟨cq_3, dq_3, eq_3, hq_3, gq_3⟩ := gq_2
 have yq_3 : cq_3 = _ := hq_3
 have lq : dq_3 = [] := gq_3
 exact ⟨Aq_2, kq_2, by simp [eq_0, yq_0, eq_1, yq_1, eq_2, yq_2, eq_3, yq_3, lq], zq_2⟩
theorem T_hoardinglaw10_Act.shut {M : Mem} {a0 : Int} {a1 : List UInt8} {a2 : List T_api_Given} {a3 : Int} {A2 : Option Addr} {c2 : Nat} (h2 : Sli M 8 emb_T_api_Given A2 c2 a2) : Rep M (emb_T_hoardinglaw10_Act ⟨a0, a1, a2, a3⟩) [.int .i64 a0, S a1, .slice A2 a2.length c2, .int .i64 a3] := by
 rw [emb_T_hoardinglaw10_Act_eq]; exact ⟨_, _, rfl, rfl, ⟨_, _, rfl, rfl, ⟨_, _, rfl, (Sli.rep h2), ⟨_, _, rfl, rfl, rfl⟩⟩⟩⟩
theorem T_hoardinglaw10_Act.shutx {M : Mem} {x : T_hoardinglaw10_Act} {A2 : Option Addr} {c2 : Nat} (h2 : Sli M 8 emb_T_api_Given A2 c2 x.fProps) : Rep M (emb_T_hoardinglaw10_Act x) [.int .i64 x.fDo, S x.fKind, .slice A2 x.fProps.length c2, .int .i64 x.fN] := by
 have h := T_hoardinglaw10_Act.shut (M := M) (a0 := x.fDo) (a1 := x.fKind) (a2 := x.fProps) (a3 := x.fN) h2
 rw [emb_T_hoardinglaw10_Act_eq] at h ⊢
 exact h
structure T_api_Spec where
  fName : List UInt8
  fKind : Int
  fReplace : Bool
  deriving DecidableEq, Inhabited
def emb_T_api_Spec : T_api_Spec → Dat
  | ⟨x0, x1, x2⟩ => .struct [Dat.str x0, (Dat.int .i8) x1, Dat.bool x2]
theorem emb_T_api_Spec_eq (x : T_api_Spec) : emb_T_api_Spec x = .struct [Dat.str x.fName, (Dat.int .i8) x.fKind, Dat.bool x.fReplace] := by
 cases x
 simp [emb_T_api_Spec, eL]
theorem szd_T_api_Spec (x : T_api_Spec) : Szd 3 (emb_T_api_Spec x) := by rw [emb_T_api_Spec_eq]; exact (szd_cons (szd_str _) (szd_cons ((szd_int .i8) _) (szd_cons (szd_bool _) szd_nil)))
theorem T_api_Spec.opn {M : Mem} {x : T_api_Spec} {cs : List Value} (h : Rep M (emb_T_api_Spec x) cs) : cs = [S x.fName, .int .i8 x.fKind, .bool x.fReplace] := by
 rw [emb_T_api_Spec_eq] at h
 obtain ⟨cq_0, dq_0, eq_0, hq_0, gq_0⟩ := h
 have yq_0 : cq_0 = _ := hq_0
 obtain ⟨cq_1, dq_1, eq_1, hq_1, gq_1⟩ := gq_0
 have yq_1 : cq_1 = _ := hq_1
 obtain ⟨cq_2, dq_2, eq_2, hq_2, gq_2⟩ := gq_1
 have yq_2 : cq_2 = _ := hq_2
 have lq : dq_2 = [] := gq_2
 simp [eq_0, yq_0, eq_1, yq_1, eq_2, yq_2, lq]
theorem T_api_Spec.shut {M : Mem} {a0 : List UInt8} {a1 : Int} {a2 : Bool}   : Rep M (emb_T_api_Spec ⟨a0, a1, a2⟩) [S a0, .int .i8 a1, .bool a2] := by
 rw [emb_T_api_Spec_eq]; exact ⟨_, _, rfl, rfl, ⟨_, _, rfl, rfl, ⟨_, _, rfl, rfl, rfl⟩⟩⟩
theorem T_api_Spec.shutx {M : Mem} {x : T_api_Spec}   : Rep M (emb_T_api_Spec x) [S x.fName, .int .i8 x.fKind, .bool x.fReplace] := by
 have h := T_api_Spec.shut (M := M) (a0 := x.fName) (a1 := x.fKind) (a2 := x.fReplace)
 rw [emb_T_api_Spec_eq] at h ⊢
 exact h
abbrev z_T_api_Value : T_api_Value := (⟨(0 : Int), (false), (0 : Int), ([] : List UInt8), ([] : List T_api_Value), ([] : List (List UInt8))⟩ : T_api_Value)
abbrev z_T_api_Given : T_api_Given := (⟨([] : List UInt8), (false), (⟨(0 : Int), (false), (0 : Int), ([] : List UInt8), ([] : List T_api_Value), ([] : List (List UInt8))⟩ : T_api_Value)⟩ : T_api_Given)
abbrev z_T_api_Spec : T_api_Spec := (⟨([] : List UInt8), (0 : Int), (false)⟩ : T_api_Spec)
end Go.Proofs.YtalifkcchfkgmaaGreatDoor
end

section
set_option linter.unusedVariables false
set_option linter.unusedSimpArgs false
namespace Go.Proofs.YtalifkcchfkgmaaGreatDoor
open Go Go.Vc Go.RowKit
def ref01_One_s1 (n : Nat) (d0 : List UInt8) (d1 : Int) (y_5 : Int × Int × Int) (s_1 : Int × Int) : Option (Lp (Int × Int) (Sum Unit Int)) :=
    bif (decide (s_1.2 < y_5.1)) then
      (need (inR .i64 (d1 + s_1.2)) <|
      (getI d0 (d1 + s_1.2)).bind fun c_2 =>
      ((bif (decide (((c_2).toNat : Int) < 128)) then
          (some ((true)))
        else
          some ((decide ((191 : Int) < ((c_2).toNat : Int)))) : Option Bool)).bind fun y_6 =>
      bif y_6 then
        (some (.br (.inl ())))
      else
        need (inR .i64 ((64 : Int) * s_1.1)) <|
        need (inR .i64 (((64 : Int) * s_1.1) + ((c_2).toNat : Int))) <|
        need (inR .i64 ((((64 : Int) * s_1.1) + ((c_2).toNat : Int)) - 128)) <|
        need (inR .i64 (s_1.2 + 1)) <|
        some (.nx ((((64 : Int) * s_1.1) + ((c_2).toNat : Int)) - 128, s_1.2 + 1)))
    else
      some (.br (.inr s_1.1))
def ref01_One (n : Nat) (d0 : List UInt8) (d1 : Int) : Option (Int × Int) :=
  ((bif (decide (d1 < 0)) then
      (some ((true)))
    else
      some ((decide ((d0.length : Int) ≤ d1))) : Option Bool)).bind fun y_1 =>
  bif y_1 then
    (some (((0 : Int), (0 : Int))))
  else
    (getI d0 d1).bind fun c_1 =>
    ((bif (decide (((c_1).toNat : Int) < 128)) then
        (((some ((((c_1).toNat : Int), (1 : Int))) : Option (Int × Int))).map Lp.br)
      else
        ((bif (decide ((192 : Int) ≤ ((c_1).toNat : Int))) then
            (some ((decide (((c_1).toNat : Int) < 224))))
          else
            some ((false)) : Option Bool)).bind fun y_2 =>
        bif y_2 then
          (some (.nx ((2 : Int), bAnd .i64 ((c_1).toNat : Int) (31 : Int), (128 : Int))))
        else
          ((bif (decide ((224 : Int) ≤ ((c_1).toNat : Int))) then
              (some ((decide (((c_1).toNat : Int) < 240))))
            else
              some ((false)) : Option Bool)).bind fun y_3 =>
          bif y_3 then
            (some (.nx ((3 : Int), bAnd .i64 ((c_1).toNat : Int) (15 : Int), (2048 : Int))))
          else
            ((bif (decide ((240 : Int) ≤ ((c_1).toNat : Int))) then
                (some ((decide (((c_1).toNat : Int) < 248))))
              else
                some ((false)) : Option Bool)).bind fun y_4 =>
            bif y_4 then
              (some (.nx ((4 : Int), bAnd .i64 ((c_1).toNat : Int) (7 : Int), (65536 : Int))))
            else
              ((some (((0 : Int), (0 : Int))) : Option (Int × Int))).map Lp.br : Option (Lp (Int × Int × Int) (Int × Int)))).bind fun j => joinF j fun y_5 =>
    need (inR .i64 (d1 + y_5.1)) <|
    bif (decide ((d0.length : Int) < (d1 + y_5.1))) then
      (some (((0 : Int), (0 : Int))))
    else
      (loopF (ref01_One_s1 n d0 d1 y_5) n (y_5.2.1, (1 : Int))).bind fun b_1 =>
      (match b_1 with 
      | .inl y_7 => some (((0 : Int), (0 : Int))) 
      | .inr y_8 => ((bif (decide (y_8 < y_5.2.2)) then
            (some ((true)))
          else
            bif (decide ((1114111 : Int) < y_8)) then
              (some ((true)))
            else
              bif (decide ((55296 : Int) ≤ y_8)) then
                (some ((decide (y_8 ≤ 57343))))
              else
                some ((false)) : Option Bool)).bind fun y_9 =>
        bif y_9 then
          (some (((0 : Int), (0 : Int))))
        else
          some ((y_8, y_5.1)))
set_option maxHeartbeats 2000000 in
theorem ref01_One_ok (n : Nat) (M : Mem) (d0 : List UInt8) (d1 : Int) (r : Int × Int) (hF : ref01_One n d0 d1 = some r) : Ok Tryz.prog M 121 [S d0, .int .i64 d1] (fun _ v => v = .tuple #[.int .i64 r.1, .int .i64 r.2]) := by
 unfold ref01_One at hF
 intro M1 hM0 w0 H w p0
 refine R_enter 101 Tryz.func121 rfl rfl (by simp) fun a0 f0 => ?_
 refine R_seq (R_reg ?_)
 refine Y19 f0 2 fun _ f => ?_
 refine W_end rfl (T_n (R_seq (R_seq ?_)))
 obtain ⟨j_1, hj_1, hF_1⟩ := bS hF
 refine R_mid (fun a_5 w_1 => ∃ y_1 : Bool, j_1 = y_1 ∧ ∃ M_1 : Mem, M1.le M_1 ∧ Frm 101 [(0, S d0), (1, .int .i64 d1), (19, .bool y_1)] a_5 ∧ Hp w0 M_1 (H) w_1) ?_ ?_
 ·refine R_reg ?_
  refine Y19 f 3 fun _ f => ?_
  rcases bE (decide (d1 < 0)) with h_1 | h_1
  ·have k_1 : d1 < 0 := dI.1 h_1
   have hF_2 := cnd_t h_1 hj_1
   have f := Frm.set f 14 (v := .bool (decide (d1 < 0))) (v' := .bool true) (by kernel_rfl) (cB h_1)
   refine Y19 f 5 fun _ f => ?_
   refine W_end rfl (T_n ?_)
   exact ⟨(true), (sI hF_2).symm, M1, (mR _), f.keep (ks := [0, 1, 19]) (by kernel_rfl), p0⟩
  ·have k_2 : ¬ (d1 < 0) := iff_f dI h_1
   have hF_3 := cnd_f h_1 hj_1
   have f := Frm.set f 14 (v := .bool (decide (d1 < 0))) (v' := .bool false) (by kernel_rfl) (cB h_1)
   refine Y19 f 5 fun _ f => ?_
   refine W_end rfl (T_n ?_)
   exact ⟨(decide ((d0.length : Int) ≤ d1)), (sI hF_3).symm, M1, (mR _), f.keep (ks := [0, 1, 19]) (by kernel_rfl), p0⟩
 ·rintro a_5 w_1 ⟨y_1, hq_1, M_1, hM_1, f, p_1⟩
  subst j_1
  refine T_n ?_
  refine Y6 f (b := y_1) (fun h_2 => ?_) fun h_2 => ?_
  ·have hF_4 := cnd_t h_2 hF_1
   refine R_seq (R_reg ?_)
   refine Y19 f 2 fun _ f => ?_
   refine W_end rfl (T_n (wp_ret (T_r ?_)))
   refine E_ret2 f rfl (by kernel_rfl : Vc.look _ 4 = some (.int .i64 0)) (by kernel_rfl : Vc.look _ 5 = some (.int .i64 0)) ?_
   obtain rfl := sI hF_4
   exact ⟨_, rfl, M_1, hM_1, p_1, rfl⟩
  ·have hF_5 := cnd_f h_2 hF_1
   refine wp_skip (T_n (R_seq (R_reg ?_)))
   refine Y19 f 2 fun _ f => ?_
   obtain ⟨c_1, hx_1, hF_6⟩ := bS hF_5
   refine Y14 (v := .int .u8 ((d0.getD d1.toNat 0).toNat : Int)) f (Y37 rfl (l := d0) (k := .i64) (i := d1) (getI_nn hx_1) (getI_lt hx_1)) fun _ f => ?_
   have f := Frm.set f 22 (v := .int .u8 ((d0.getD d1.toNat 0).toNat : Int)) (v' := .int .u8 ((c_1).toNat : Int)) (by kernel_rfl) (congrArg (fun c : UInt8 => Value.int .u8 ((c.toNat : Nat) : Int)) (getI_getD hx_1))
   refine Y19 f 1 fun _ f => ?_
   have f := Frm.set f 23 (v := .int .i64 (IntKind.wrap .i64 (((c_1).toNat : Int)))) (v' := .int .i64 ((c_1).toNat : Int)) (by kernel_rfl) (congrArg (Value.int .i64) (wrap_byte _ (by simp) _))
   refine Y19 f 1 fun _ f => ?_
   refine W_end rfl (T_n (R_seq (R_reg ?_)))
   refine Y19 f 4 fun _ f => ?_
   refine W_end rfl (T_n (R_seq ?_))
   obtain ⟨j_2, hj_2, hF_7⟩ := bS hF_6
   refine R_mid (fun a_36 w_5 => ∃ y_5 : Int × Int × Int, j_2 = .nx y_5 ∧ ∃ M_5 : Mem, M_1.le M_5 ∧ Frm 101 [(0, S d0), (1, .int .i64 d1), (7, .int .i64 y_5.1), (8, .int .i64 y_5.2.1), (9, .int .i64 y_5.2.2)] a_36 ∧ Hp w0 M_5 (H) w_5) ?_ ?_
   ·refine wp_block (R_seq (R_reg ?_))
    refine Y19 f 3 fun _ f => ?_
    refine W_end rfl (T_n ?_)
    refine Y6 f (b := decide (((c_1).toNat : Int) < 128)) (fun h_3 => ?_) fun h_3 => ?_
    ·have k_5 : ((c_1).toNat : Int) < 128 := dI.1 h_3
     have hF_8 := cnd_t h_3 hj_2
     refine R_seq (R_reg ?_)
     refine Y19 f 3 fun _ f => ?_
     refine W_end rfl (T_n (wp_ret (B_r ?_)))
     have hF_9 := br_elim hF_8 hF_7
     refine T_r (T_r ?_)
     refine E_ret2 f rfl (by kernel_rfl : Vc.look _ 4 = some (.int .i64 ((c_1).toNat : Int))) (by kernel_rfl : Vc.look _ 5 = some (.int .i64 1)) ?_
     obtain rfl := sI hF_9
     exact ⟨_, rfl, M_1, hM_1, p_1, rfl⟩
    ·have k_6 : ¬ (((c_1).toNat : Int) < 128) := iff_f dI h_3
     have hF_10 := cnd_f h_3 hj_2
     refine R_seq ?_
     obtain ⟨j_3, hj_3, hF_11⟩ := bS hF_10
     refine R_mid (fun a_17 w_2 => ∃ y_2 : Bool, j_3 = y_2 ∧ ∃ M_2 : Mem, M_1.le M_2 ∧ Frm 101 [(0, S d0), (1, .int .i64 d1), (6, .int .i64 ((c_1).toNat : Int)), (29, .bool y_2)] a_17 ∧ Hp w0 M_2 (H) w_2) ?_ ?_
     ·refine R_reg ?_
      refine Y19 f 3 fun _ f => ?_
      rcases bE (decide ((192 : Int) ≤ ((c_1).toNat : Int))) with h_4 | h_4
      ·have k_7 : (192 : Int) ≤ ((c_1).toNat : Int) := dI.1 h_4
       have hF_12 := cnd_t h_4 hj_3
       have f := Frm.set f 32 (v := .bool (decide ((192 : Int) ≤ ((c_1).toNat : Int)))) (v' := .bool true) (by kernel_rfl) (cB h_4)
       refine Y19 f 4 fun _ f => ?_
       refine W_end rfl (T_n ?_)
       exact ⟨(decide (((c_1).toNat : Int) < 224)), (sI hF_12).symm, M_1, (mR _), f.keep (ks := [0, 1, 6, 29]) (by kernel_rfl), p_1⟩
      ·have k_8 : ¬ ((192 : Int) ≤ ((c_1).toNat : Int)) := iff_f dI h_4
       have hF_13 := cnd_f h_4 hj_3
       have f := Frm.set f 32 (v := .bool (decide ((192 : Int) ≤ ((c_1).toNat : Int)))) (v' := .bool false) (by kernel_rfl) (cB h_4)
       refine Y19 f 4 fun _ f => ?_
       refine W_end rfl (T_n ?_)
       exact ⟨(false), (sI hF_13).symm, M_1, (mR _), f.keep (ks := [0, 1, 6, 29]) (by kernel_rfl), p_1⟩
     ·rintro a_17 w_2 ⟨y_2, hq_2, M_2, hM_2, f, p_2⟩
      subst j_3
      refine T_n ?_
      refine Y6 f (b := y_2) (fun h_5 => ?_) fun h_5 => ?_
      ·have hF_14 := cnd_t h_5 hF_11
       refine R_seq (R_reg ?_)
       refine Y19 f 1 fun _ f => ?_
       refine W_end rfl (T_n (R_seq (R_reg ?_)))
       refine Y19 f 3 fun _ f => ?_
       refine W_end rfl (T_n (R_reg ?_))
       refine Y19 f 1 fun _ f => ?_
       refine W_end rfl (B_n (T_n ?_))
       exact ⟨((2 : Int), bAnd .i64 ((c_1).toNat : Int) (31 : Int), (128 : Int)), (sI hF_14).symm, M_2, hM_2, f.keep (ks := [0, 1, 7, 8, 9]) (by kernel_rfl), p_2⟩
      ·have hF_15 := cnd_f h_5 hF_11
       refine R_seq ?_
       obtain ⟨j_4, hj_4, hF_16⟩ := bS hF_15
       refine R_mid (fun a_24 w_3 => ∃ y_3 : Bool, j_4 = y_3 ∧ ∃ M_3 : Mem, M_2.le M_3 ∧ Frm 101 [(0, S d0), (1, .int .i64 d1), (6, .int .i64 ((c_1).toNat : Int)), (38, .bool y_3)] a_24 ∧ Hp w0 M_3 (H) w_3) ?_ ?_
       ·refine R_reg ?_
        refine Y19 f 3 fun _ f => ?_
        rcases bE (decide ((224 : Int) ≤ ((c_1).toNat : Int))) with h_6 | h_6
        ·have k_11 : (224 : Int) ≤ ((c_1).toNat : Int) := dI.1 h_6
         have hF_17 := cnd_t h_6 hj_4
         have f := Frm.set f 41 (v := .bool (decide ((224 : Int) ≤ ((c_1).toNat : Int)))) (v' := .bool true) (by kernel_rfl) (cB h_6)
         refine Y19 f 4 fun _ f => ?_
         refine W_end rfl (T_n ?_)
         exact ⟨(decide (((c_1).toNat : Int) < 240)), (sI hF_17).symm, M_2, (mR _), f.keep (ks := [0, 1, 6, 38]) (by kernel_rfl), p_2⟩
        ·have k_12 : ¬ ((224 : Int) ≤ ((c_1).toNat : Int)) := iff_f dI h_6
         have hF_18 := cnd_f h_6 hj_4
         have f := Frm.set f 41 (v := .bool (decide ((224 : Int) ≤ ((c_1).toNat : Int)))) (v' := .bool false) (by kernel_rfl) (cB h_6)
         refine Y19 f 4 fun _ f => ?_
         refine W_end rfl (T_n ?_)
         exact ⟨(false), (sI hF_18).symm, M_2, (mR _), f.keep (ks := [0, 1, 6, 38]) (by kernel_rfl), p_2⟩
       ·rintro a_24 w_3 ⟨y_3, hq_3, M_3, hM_3, f, p_3⟩
        subst j_4
        refine T_n ?_
        refine Y6 f (b := y_3) (fun h_7 => ?_) fun h_7 => ?_
        ·have hF_19 := cnd_t h_7 hF_16
         refine R_seq (R_reg ?_)
         refine Y19 f 1 fun _ f => ?_
         refine W_end rfl (T_n (R_seq (R_reg ?_)))
         refine Y19 f 3 fun _ f => ?_
         refine W_end rfl (T_n (R_reg ?_))
         refine Y19 f 1 fun _ f => ?_
         refine W_end rfl (B_n (T_n ?_))
         exact ⟨((3 : Int), bAnd .i64 ((c_1).toNat : Int) (15 : Int), (2048 : Int)), (sI hF_19).symm, M_3, (hM_2.trans hM_3), f.keep (ks := [0, 1, 7, 8, 9]) (by kernel_rfl), p_3⟩
        ·have hF_20 := cnd_f h_7 hF_16
         refine R_seq ?_
         obtain ⟨j_5, hj_5, hF_21⟩ := bS hF_20
         refine R_mid (fun a_31 w_4 => ∃ y_4 : Bool, j_5 = y_4 ∧ ∃ M_4 : Mem, M_3.le M_4 ∧ Frm 101 [(0, S d0), (1, .int .i64 d1), (6, .int .i64 ((c_1).toNat : Int)), (47, .bool y_4)] a_31 ∧ Hp w0 M_4 (H) w_4) ?_ ?_
         ·refine R_reg ?_
          refine Y19 f 3 fun _ f => ?_
          rcases bE (decide ((240 : Int) ≤ ((c_1).toNat : Int))) with h_8 | h_8
          ·have k_15 : (240 : Int) ≤ ((c_1).toNat : Int) := dI.1 h_8
           have hF_22 := cnd_t h_8 hj_5
           have f := Frm.set f 50 (v := .bool (decide ((240 : Int) ≤ ((c_1).toNat : Int)))) (v' := .bool true) (by kernel_rfl) (cB h_8)
           refine Y19 f 4 fun _ f => ?_
           refine W_end rfl (T_n ?_)
           exact ⟨(decide (((c_1).toNat : Int) < 248)), (sI hF_22).symm, M_3, (mR _), f.keep (ks := [0, 1, 6, 47]) (by kernel_rfl), p_3⟩
          ·have k_16 : ¬ ((240 : Int) ≤ ((c_1).toNat : Int)) := iff_f dI h_8
           have hF_23 := cnd_f h_8 hj_5
           have f := Frm.set f 50 (v := .bool (decide ((240 : Int) ≤ ((c_1).toNat : Int)))) (v' := .bool false) (by kernel_rfl) (cB h_8)
           refine Y19 f 4 fun _ f => ?_
           refine W_end rfl (T_n ?_)
           exact ⟨(false), (sI hF_23).symm, M_3, (mR _), f.keep (ks := [0, 1, 6, 47]) (by kernel_rfl), p_3⟩
         ·rintro a_31 w_4 ⟨y_4, hq_4, M_4, hM_4, f, p_4⟩
          subst j_5
          refine T_n ?_
          refine Y6 f (b := y_4) (fun h_9 => ?_) fun h_9 => ?_
          ·have hF_24 := cnd_t h_9 hF_21
           refine R_seq (R_reg ?_)
           refine Y19 f 1 fun _ f => ?_
           refine W_end rfl (T_n (R_seq (R_reg ?_)))
           refine Y19 f 3 fun _ f => ?_
           refine W_end rfl (T_n (R_reg ?_))
           refine Y19 f 1 fun _ f => ?_
           refine W_end rfl (B_n (T_n ?_))
           exact ⟨((4 : Int), bAnd .i64 ((c_1).toNat : Int) (7 : Int), (65536 : Int)), (sI hF_24).symm, M_4, ((hM_2.trans hM_3).trans hM_4), f.keep (ks := [0, 1, 7, 8, 9]) (by kernel_rfl), p_4⟩
          ·have hF_25 := cnd_f h_9 hF_21
           refine R_seq (R_reg ?_)
           refine Y19 f 2 fun _ f => ?_
           refine W_end rfl (T_n (wp_ret (B_r ?_)))
           have hF_26 := br_elim hF_25 hF_7
           refine T_r (T_r ?_)
           refine E_ret2 f rfl (by kernel_rfl : Vc.look _ 4 = some (.int .i64 0)) (by kernel_rfl : Vc.look _ 5 = some (.int .i64 0)) ?_
           obtain rfl := sI hF_26
           exact ⟨_, rfl, M_4, (((hM_1.trans hM_2).trans hM_3).trans hM_4), p_4, rfl⟩
   ·rintro a_36 w_5 ⟨y_5, rfl, M_5, hM_5, f, p_5⟩
    refine T_n (R_seq (R_seq (R_reg ?_)))
    refine Y19 f 2 fun _ f => ?_
    obtain ⟨g_1, hF_27⟩ := nS hF_7
    refine Y19 f 1 fun _ f => ?_
    have f := Frm.set f 58 (v := .int .i64 (IntKind.wrap .i64 (d1 + y_5.1))) (v' := .int .i64 (d1 + y_5.1)) (by kernel_rfl) (congrArg (Value.int .i64) (inR_wrap g_1))
    refine Y19 f 3 fun _ f => ?_
    refine W_end rfl (T_n ?_)
    refine Y6 f (b := decide ((d0.length : Int) < (d1 + y_5.1))) (fun h_10 => ?_) fun h_10 => ?_
    ·have k_19 : (d0.length : Int) < (d1 + y_5.1) := dI.1 h_10
     have hF_28 := cnd_t h_10 hF_27
     refine R_seq (R_reg ?_)
     refine Y19 f 2 fun _ f => ?_
     refine W_end rfl (T_n (wp_ret (T_r ?_)))
     refine E_ret2 f rfl (by kernel_rfl : Vc.look _ 4 = some (.int .i64 0)) (by kernel_rfl : Vc.look _ 5 = some (.int .i64 0)) ?_
     obtain rfl := sI hF_28
     exact ⟨_, rfl, M_5, (hM_1.trans hM_5), p_5, rfl⟩
    ·have k_20 : ¬ ((d0.length : Int) < (d1 + y_5.1)) := iff_f dI h_10
     have hF_29 := cnd_f h_10 hF_27
     refine wp_skip (T_n (R_seq (R_seq (R_reg ?_))))
     refine Y19 f 1 fun _ f => ?_
     refine W_end rfl (T_n (wp_block ?_))
     obtain ⟨b_1, hL_1, hF_30⟩ := bS hF_29
     refine wp_mono (Q := fun e a w => (e = .ret ∧ (∃ y_7 : Unit, b_1 = .inl y_7 ∧ ∃ M_8 : Mem, M_5.le M_8 ∧ Frm 101 [(4, .int .i64 0), (5, .int .i64 0)] a ∧ Hp w0 M_8 (H) w)) ∨ (e = .exit 1 ∧ (∃ y_8 : Int, b_1 = .inr y_8 ∧ ∃ M_9 : Mem, M_5.le M_9 ∧ Frm 101 [(7, .int .i64 y_5.1), (8, .int .i64 y_8), (9, .int .i64 y_5.2.2)] a ∧ Hp w0 M_9 (H) w))) (R_loop (n := 101) (w0 := w0) (M := M_5) (fun (x : Nat × (Int × Int)) => match x with | (m_1, s_1) => [(0, S d0), (1, .int .i64 d1), (7, .int .i64 y_5.1), (8, .int .i64 s_1.1), (9, .int .i64 y_5.2.2), (10, .int .i64 s_1.2)]) (fun (x : Nat × (Int × Int)) => match x with | (m_1, s_1) => (H)) (fun (x : Nat × (Int × Int)) (MM : Mem) => match x with | (m_1, s_1) => loopF (ref01_One_s1 n d0 d1 y_5) m_1 s_1 = some b_1) (fun (x : Nat × (Int × Int)) => match x with | (m_1, s_1) => m_1) (n, (y_5.2.1, (1 : Int))) (f.keep (ks := [0, 1, 7, 8, 9, 10]) (by kernel_rfl)) p_5 hL_1 ?_) ?_
     ·rintro ⟨m_1, s_1⟩ M_6 _ w_6 hM_6 I_1 f p_6
      have I_1L := I_1
      obtain ⟨m_2, r_1, rfl, hs_1, hn_1⟩ := loop_step I_1L
      unfold ref01_One_s1 at hs_1
      refine R_seq (R_seq (R_reg ?_))
      refine Y19 f 3 fun _ f => ?_
      refine W_end rfl (T_n ?_)
      refine Y6 f (b := decide (s_1.2 < y_5.1)) (fun h_11 => ?_) fun h_11 => ?_
      ·have k_21 : s_1.2 < y_5.1 := dI.1 h_11
       have hF_31 := cnd_t h_11 hs_1
       refine wp_skip (T_n (R_seq (wp_block (R_seq (R_reg ?_)))))
       refine Y19 f 3 fun _ f => ?_
       obtain ⟨g_2, hF_32⟩ := nS hF_31
       refine Y19 f 1 fun _ f => ?_
       have f := Frm.set f 70 (v := .int .i64 (IntKind.wrap .i64 (d1 + s_1.2))) (v' := .int .i64 (d1 + s_1.2)) (by kernel_rfl) (congrArg (Value.int .i64) (inR_wrap g_2))
       obtain ⟨c_2, hx_2, hF_33⟩ := bS hF_32
       refine Y14 (v := .int .u8 ((d0.getD (d1 + s_1.2).toNat 0).toNat : Int)) f (Y37 rfl (l := d0) (k := .i64) (i := d1 + s_1.2) (getI_nn hx_2) (getI_lt hx_2)) fun _ f => ?_
       have f := Frm.set f 71 (v := .int .u8 ((d0.getD (d1 + s_1.2).toNat 0).toNat : Int)) (v' := .int .u8 ((c_2).toNat : Int)) (by kernel_rfl) (congrArg (fun c : UInt8 => Value.int .u8 ((c.toNat : Nat) : Int)) (getI_getD hx_2))
       refine Y19 f 1 fun _ f => ?_
       have f := Frm.set f 72 (v := .int .i64 (IntKind.wrap .i64 (((c_2).toNat : Int)))) (v' := .int .i64 ((c_2).toNat : Int)) (by kernel_rfl) (congrArg (Value.int .i64) (wrap_byte _ (by simp) _))
       refine Y19 f 1 fun _ f => ?_
       refine W_end rfl (T_n (R_seq (R_seq ?_)))
       obtain ⟨j_6, hj_6, hF_34⟩ := bS hF_33
       refine R_mid (fun a_52 w_7 => ∃ y_6 : Bool, j_6 = y_6 ∧ ∃ M_7 : Mem, M_6.le M_7 ∧ Frm 101 [(0, S d0), (1, .int .i64 d1), (7, .int .i64 y_5.1), (8, .int .i64 s_1.1), (9, .int .i64 y_5.2.2), (10, .int .i64 s_1.2), (11, .int .i64 ((c_2).toNat : Int)), (78, .bool y_6)] a_52 ∧ Hp w0 M_7 (H) w_7) ?_ ?_
       ·refine R_reg ?_
        refine Y19 f 3 fun _ f => ?_
        rcases bE (decide (((c_2).toNat : Int) < 128)) with h_12 | h_12
        ·have k_22 : ((c_2).toNat : Int) < 128 := dI.1 h_12
         have hF_35 := cnd_t h_12 hj_6
         have f := Frm.set f 75 (v := .bool (decide (((c_2).toNat : Int) < 128))) (v' := .bool true) (by kernel_rfl) (cB h_12)
         refine Y19 f 3 fun _ f => ?_
         refine W_end rfl (T_n ?_)
         exact ⟨(true), (sI hF_35).symm, M_6, (mR _), f.keep (ks := [0, 1, 7, 8, 9, 10, 11, 78]) (by kernel_rfl), p_6⟩
        ·have k_23 : ¬ (((c_2).toNat : Int) < 128) := iff_f dI h_12
         have hF_36 := cnd_f h_12 hj_6
         have f := Frm.set f 75 (v := .bool (decide (((c_2).toNat : Int) < 128))) (v' := .bool false) (by kernel_rfl) (cB h_12)
         refine Y19 f 3 fun _ f => ?_
         refine W_end rfl (T_n ?_)
         exact ⟨(decide ((191 : Int) < ((c_2).toNat : Int))), (sI hF_36).symm, M_6, (mR _), f.keep (ks := [0, 1, 7, 8, 9, 10, 11, 78]) (by kernel_rfl), p_6⟩
       ·rintro a_52 w_7 ⟨y_6, hq_6, M_7, hM_7, f, p_7⟩
        subst j_6
        refine T_n ?_
        refine Y6 f (b := y_6) (fun h_13 => ?_) fun h_13 => ?_
        ·have hF_37 := cnd_t h_13 hF_34
         refine R_seq (R_reg ?_)
         refine Y19 f 2 fun _ f => ?_
         refine W_end rfl (T_n (wp_ret (T_r (B_r (T_r (T_r ?_))))))
         obtain rfl := sI hF_37
         exact .inl ⟨rfl, (), (sI hn_1).symm, M_7, (hM_6.trans hM_7), f.keep (ks := [4, 5]) (by kernel_rfl), p_7⟩
        ·have hF_38 := cnd_f h_13 hF_34
         refine wp_skip (T_n (R_reg ?_))
         refine Y19 f 1 fun _ f => ?_
         obtain ⟨g_3, hF_39⟩ := nS hF_38
         refine Y19 f 1 fun _ f => ?_
         have f := Frm.set f 80 (v := .int .i64 (IntKind.wrap .i64 ((64 : Int) * s_1.1))) (v' := .int .i64 ((64 : Int) * s_1.1)) (by kernel_rfl) (congrArg (Value.int .i64) (inR_wrap g_3))
         refine Y19 f 1 fun _ f => ?_
         obtain ⟨g_4, hF_40⟩ := nS hF_39
         refine Y19 f 1 fun _ f => ?_
         have f := Frm.set f 82 (v := .int .i64 (IntKind.wrap .i64 (((64 : Int) * s_1.1) + ((c_2).toNat : Int)))) (v' := .int .i64 (((64 : Int) * s_1.1) + ((c_2).toNat : Int))) (by kernel_rfl) (congrArg (Value.int .i64) (inR_wrap g_4))
         obtain ⟨g_5, hF_41⟩ := nS hF_40
         refine Y19 f 1 fun _ f => ?_
         have f := Frm.set f 83 (v := .int .i64 (IntKind.wrap .i64 ((((64 : Int) * s_1.1) + ((c_2).toNat : Int)) - 128))) (v' := .int .i64 ((((64 : Int) * s_1.1) + ((c_2).toNat : Int)) - 128)) (by kernel_rfl) (congrArg (Value.int .i64) (inR_wrap g_5))
         refine Y19 f 1 fun _ f => ?_
         refine W_end rfl (B_n (T_n (R_reg ?_)))
         refine Y19 f 1 fun _ f => ?_
         obtain ⟨g_6, hF_42⟩ := nS hF_41
         refine Y19 f 1 fun _ f => ?_
         have f := Frm.set f 66 (v := .int .i64 (IntKind.wrap .i64 (s_1.2 + 1))) (v' := .int .i64 (s_1.2 + 1)) (by kernel_rfl) (congrArg (Value.int .i64) (inR_wrap g_6))
         refine Y19 f 1 fun _ f => ?_
         refine W_end rfl (T_n ?_)
         obtain rfl := sI hF_42
         exact ⟨⟨m_2, ((((64 : Int) * s_1.1) + ((c_2).toNat : Int)) - 128, s_1.2 + 1)⟩, Nat.lt_succ_self _, M_7, (hM_6.trans hM_7), hn_1, f.keep (ks := [0, 1, 7, 8, 9, 10]) (by kernel_rfl), p_7⟩
      ·have k_26 : ¬ (s_1.2 < y_5.1) := iff_f dI h_11
       have hF_43 := cnd_f h_11 hs_1
       refine wp_exit (T_x (T_x ?_))
       obtain rfl := sI hF_43
       exact .inr ⟨rfl, s_1.1, (sI hn_1).symm, M_6, hM_6, f.keep (ks := [7, 8, 9]) (by kernel_rfl), p_6⟩
     ·rintro _ _ w_10 (⟨rfl, y_7, rfl, M_8, hM_8, f, p_8⟩ | ⟨rfl, y_8, rfl, M_9, hM_9, f, p_9⟩)
      ·refine B_r (T_r ?_)
       refine E_ret2 f rfl (by kernel_rfl : Vc.look _ 4 = some (.int .i64 0)) (by kernel_rfl : Vc.look _ 5 = some (.int .i64 0)) ?_
       obtain rfl := sI hF_30
       exact ⟨_, rfl, M_8, ((hM_1.trans hM_5).trans hM_8), p_8, rfl⟩
      ·refine B_x (T_n (R_seq (R_seq ?_)))
       obtain ⟨j_7, hj_7, hF_44⟩ := bS hF_30
       refine R_mid (fun a_73 w_11 => ∃ y_9 : Bool, j_7 = y_9 ∧ ∃ M_10 : Mem, M_9.le M_10 ∧ Frm 101 [(7, .int .i64 y_5.1), (8, .int .i64 y_8), (98, .bool y_9)] a_73 ∧ Hp w0 M_10 (H) w_11) ?_ ?_
       ·refine R_reg ?_
        refine Y19 f 4 fun _ f => ?_
        rcases bE (decide (y_8 < y_5.2.2)) with h_14 | h_14
        ·have k_27 : y_8 < y_5.2.2 := dI.1 h_14
         have hF_45 := cnd_t h_14 hj_7
         have f := Frm.set f 87 (v := .bool (decide (y_8 < y_5.2.2))) (v' := .bool true) (by kernel_rfl) (cB h_14)
         refine Y19 f 11 fun _ f => ?_
         refine W_end rfl (T_n ?_)
         exact ⟨(true), (sI hF_45).symm, M_9, (mR _), f.keep (ks := [7, 8, 98]) (by kernel_rfl), p_9⟩
        ·have k_28 : ¬ (y_8 < y_5.2.2) := iff_f dI h_14
         have hF_46 := cnd_f h_14 hj_7
         have f := Frm.set f 87 (v := .bool (decide (y_8 < y_5.2.2))) (v' := .bool false) (by kernel_rfl) (cB h_14)
         refine Y19 f 4 fun _ f => ?_
         rcases bE (decide ((1114111 : Int) < y_8)) with h_15 | h_15
         ·have k_29 : (1114111 : Int) < y_8 := dI.1 h_15
          have hF_47 := cnd_t h_15 hF_46
          have f := Frm.set f 91 (v := .bool (decide ((1114111 : Int) < y_8))) (v' := .bool true) (by kernel_rfl) (cB h_15)
          refine Y19 f 7 fun _ f => ?_
          refine W_end rfl (T_n ?_)
          exact ⟨(true), (sI hF_47).symm, M_9, (mR _), f.keep (ks := [7, 8, 98]) (by kernel_rfl), p_9⟩
         ·have k_30 : ¬ ((1114111 : Int) < y_8) := iff_f dI h_15
          have hF_48 := cnd_f h_15 hF_46
          have f := Frm.set f 91 (v := .bool (decide ((1114111 : Int) < y_8))) (v' := .bool false) (by kernel_rfl) (cB h_15)
          refine Y19 f 3 fun _ f => ?_
          rcases bE (decide ((55296 : Int) ≤ y_8)) with h_16 | h_16
          ·have k_31 : (55296 : Int) ≤ y_8 := dI.1 h_16
           have hF_49 := cnd_t h_16 hF_48
           have f := Frm.set f 94 (v := .bool (decide ((55296 : Int) ≤ y_8))) (v' := .bool true) (by kernel_rfl) (cB h_16)
           refine Y19 f 4 fun _ f => ?_
           refine W_end rfl (T_n ?_)
           exact ⟨(decide (y_8 ≤ 57343)), (sI hF_49).symm, M_9, (mR _), f.keep (ks := [7, 8, 98]) (by kernel_rfl), p_9⟩
          ·have k_32 : ¬ ((55296 : Int) ≤ y_8) := iff_f dI h_16
           have hF_50 := cnd_f h_16 hF_48
           have f := Frm.set f 94 (v := .bool (decide ((55296 : Int) ≤ y_8))) (v' := .bool false) (by kernel_rfl) (cB h_16)
           refine Y19 f 4 fun _ f => ?_
           refine W_end rfl (T_n ?_)
           exact ⟨(false), (sI hF_50).symm, M_9, (mR _), f.keep (ks := [7, 8, 98]) (by kernel_rfl), p_9⟩
       ·rintro a_73 w_11 ⟨y_9, hq_7, M_10, hM_10, f, p_10⟩
        subst j_7
        refine T_n ?_
        refine Y6 f (b := y_9) (fun h_17 => ?_) fun h_17 => ?_
        ·have hF_51 := cnd_t h_17 hF_44
         refine R_seq (R_reg ?_)
         refine Y19 f 2 fun _ f => ?_
         refine W_end rfl (T_n (wp_ret (T_r ?_)))
         refine E_ret2 f rfl (by kernel_rfl : Vc.look _ 4 = some (.int .i64 0)) (by kernel_rfl : Vc.look _ 5 = some (.int .i64 0)) ?_
         obtain rfl := sI hF_51
         exact ⟨_, rfl, M_10, (((hM_1.trans hM_5).trans hM_9).trans hM_10), p_10, rfl⟩
        ·have hF_52 := cnd_f h_17 hF_44
         refine wp_skip (T_n (R_seq (R_reg ?_)))
         refine Y19 f 4 fun _ f => ?_
         refine W_end rfl (T_n (wp_ret ?_))
         refine E_ret2 f rfl (by kernel_rfl : Vc.look _ 4 = some (.int .i64 y_8)) (by kernel_rfl : Vc.look _ 5 = some (.int .i64 y_5.1)) ?_
         obtain rfl := sI hF_52
         exact ⟨_, rfl, M_10, (((hM_1.trans hM_5).trans hM_9).trans hM_10), p_10, rfl⟩
def ref01_Valid_s1 (n : Nat) (d0 : List UInt8) (s_1 : Int) : Option (Lp Int (Sum Unit Unit)) :=
    bif (decide (s_1 < (d0.length : Int))) then
      ((ref01_One n d0 s_1).bind fun x_1 =>
      bif (decide (x_1.2 = 0)) then
        (some (.br (.inl ())))
      else
        need (inR .i64 (s_1 + x_1.2)) <|
        some (.nx (s_1 + x_1.2)))
    else
      some (.br (.inr ()))
def ref01_Valid (n : Nat) (d0 : List UInt8) : Option Bool :=
  (loopF (ref01_Valid_s1 n d0) n (0 : Int)).bind fun b_1 =>
  (match b_1 with 
  | .inl y_1 => some ((false)) 
  | .inr y_2 => some ((true)))
set_option maxHeartbeats 2000000 in
theorem ref01_Valid_ok (n : Nat) (M : Mem) (d0 : List UInt8) (r : Bool) (hF : ref01_Valid n d0 = some r) : Ok Tryz.prog M 107 [S d0] (fun _ v => v = .bool r) := by
 unfold ref01_Valid at hF
 intro M1 hM0 w0 H w p0
 refine R_enter 21 Tryz.func107 rfl rfl (by simp) fun a0 f0 => ?_
 refine R_seq (R_reg ?_)
 refine Y19 f0 1 fun _ f => ?_
 refine W_end rfl (T_n (R_seq (R_reg ?_)))
 refine Y19 f 1 fun _ f => ?_
 refine W_end rfl (T_n (R_seq (wp_block ?_)))
 obtain ⟨b_1, hL_1, hF_1⟩ := bS hF
 refine wp_mono (Q := fun e a w => (e = .ret ∧ (∃ y_1 : Unit, b_1 = .inl y_1 ∧ ∃ M_2 : Mem, M1.le M_2 ∧ Frm 21 [(2, .bool false)] a ∧ Hp w0 M_2 (H) w)) ∨ (e = .exit 0 ∧ (∃ y_2 : Unit, b_1 = .inr y_2 ∧ ∃ M_3 : Mem, M1.le M_3 ∧ Frm 21 [] a ∧ Hp w0 M_3 (H) w))) (R_loop (n := 21) (w0 := w0) (M := M1) (fun (x : Nat × Int) => match x with | (m_1, s_1) => [(0, S d0), (3, .int .i64 s_1)]) (fun (x : Nat × Int) => match x with | (m_1, s_1) => (H)) (fun (x : Nat × Int) (MM : Mem) => match x with | (m_1, s_1) => loopF (ref01_Valid_s1 n d0) m_1 s_1 = some b_1) (fun (x : Nat × Int) => match x with | (m_1, s_1) => m_1) (n, (0 : Int)) (f.keep (ks := [0, 3]) (by kernel_rfl)) p0 hL_1 ?_) ?_
 ·rintro ⟨m_1, s_1⟩ M_1 _ w_1 hM_1 I_1 f p_1
  have I_1L := I_1
  obtain ⟨m_2, r_1, rfl, hs_1, hn_1⟩ := loop_step I_1L
  unfold ref01_Valid_s1 at hs_1
  refine R_seq (R_seq (R_reg ?_))
  refine Y19 f 4 fun _ f => ?_
  refine W_end rfl (T_n ?_)
  refine Y6 f (b := decide (s_1 < (d0.length : Int))) (fun h_1 => ?_) fun h_1 => ?_
  ·have k_1 : s_1 < (d0.length : Int) := dI.1 h_1
   have hF_2 := cnd_t h_1 hs_1
   refine wp_skip (T_n (wp_block (R_seq (R_reg ?_))))
   refine Y19 f 2 fun _ f => ?_
   obtain ⟨x_1, hx_1, hF_3⟩ := bS hF_2
   refine Y18 f p_1 (ref01_One_ok n _ d0 s_1 x_1 hx_1) fun w_2 p_2 _ f => ?_
   refine Y19 f 5 fun _ f => ?_
   refine W_end rfl (T_n (R_seq (R_seq (R_reg ?_))))
   refine Y19 f 2 fun _ f => ?_
   refine W_end rfl (T_n ?_)
   refine Y6 f (b := decide (x_1.2 = 0)) (fun h_2 => ?_) fun h_2 => ?_
   ·have k_2 : x_1.2 = 0 := dI.1 h_2
    have hF_4 := cnd_t h_2 hF_3
    refine R_seq (R_reg ?_)
    refine Y19 f 1 fun _ f => ?_
    refine W_end rfl (T_n (wp_ret (T_r (B_r (T_r ?_)))))
    obtain rfl := sI hF_4
    exact .inl ⟨rfl, (), (sI hn_1).symm, M_1, hM_1, f.keep (ks := [2]) (by kernel_rfl), p_2⟩
   ·have k_3 : ¬ (x_1.2 = 0) := iff_f dI h_2
    have hF_5 := cnd_f h_2 hF_3
    refine wp_skip (T_n (R_reg ?_))
    refine Y19 f 2 fun _ f => ?_
    obtain ⟨g_1, hF_6⟩ := nS hF_5
    refine Y19 f 1 fun _ f => ?_
    have f := Frm.set f 20 (v := .int .i64 (IntKind.wrap .i64 (s_1 + x_1.2))) (v' := .int .i64 (s_1 + x_1.2)) (by kernel_rfl) (congrArg (Value.int .i64) (inR_wrap g_1))
    refine Y19 f 1 fun _ f => ?_
    refine W_end rfl (B_n (T_n ?_))
    obtain rfl := sI hF_6
    exact ⟨⟨m_2, s_1 + x_1.2⟩, Nat.lt_succ_self _, M_1, hM_1, hn_1, f.keep (ks := [0, 3]) (by kernel_rfl), p_2⟩
  ·have k_4 : ¬ (s_1 < (d0.length : Int)) := iff_f dI h_1
   have hF_7 := cnd_f h_1 hs_1
   refine wp_exit (T_x (T_x ?_))
   obtain rfl := sI hF_7
   exact .inr ⟨rfl, (), (sI hn_1).symm, M_1, hM_1, f.keep (ks := []) (by kernel_rfl), p_1⟩
 ·rintro _ _ w_5 (⟨rfl, y_1, rfl, M_2, hM_2, f, p_3⟩ | ⟨rfl, y_2, rfl, M_3, hM_3, f, p_4⟩)
  ·refine B_r (T_r ?_)
   refine E_ret1 f rfl (by kernel_rfl : Vc.look _ 2 = some (.bool false)) ?_
   obtain rfl := sI hF_1
   exact ⟨_, rfl, M_2, hM_2, p_3, rfl⟩
  ·refine B_x (T_n (R_seq (R_reg ?_)))
   refine Y19 f 1 fun _ f => ?_
   refine W_end rfl (T_n (wp_ret ?_))
   refine E_ret1 f rfl (by kernel_rfl : Vc.look _ 2 = some (.bool true)) ?_
   obtain rfl := sI hF_1
   exact ⟨_, rfl, M_3, hM_3, p_4, rfl⟩
end Go.Proofs.YtalifkcchfkgmaaGreatDoor
end

section
set_option linter.unusedVariables false
set_option linter.unusedSimpArgs false
namespace Go.Proofs.YtalifkcchfkgmaaGreatDoor
open Go Go.Vc Go.RowKit
def tree_depth_s1 (n : Nat) (rec_tree_depth : T_api_Value → Int → Option Int) (d0 : T_api_Value) (d1 : Int) (s_1 : Int × Int) : Option (Lp (Int × Int) Int) :=
    bif (decide (s_1.2 < ((d0.fList.length : Nat) : Int))) then
      (bif (decide ((0 : Int) < d1)) then
        ((getI d0.fList s_1.2).bind fun x_1 =>
        need (inR .i64 (d1 - 1)) <|
        (rec_tree_depth x_1 (d1 - 1)).bind fun x_2 =>
        need (inR .i64 (s_1.2 + 1)) <|
        some (.nx (max s_1.1 x_2, s_1.2 + 1)))
      else
        need (inR .i64 (s_1.2 + 1)) <|
        some (.nx (s_1.1, s_1.2 + 1)))
    else
      some (.br s_1.1)
def tree_depth_b (n : Nat) (rec_tree_depth : T_api_Value → Int → Option Int) (d0 : T_api_Value) (d1 : Int) : Option Int :=
  (loopF (tree_depth_s1 n rec_tree_depth d0 d1) n ((0 : Int), (0 : Int))).bind fun y_1 =>
  need (inR .i64 (y_1 + 1)) <|
  some (y_1 + 1)
set_option maxHeartbeats 2000000 in
theorem tree_depth_b_ok (n : Nat) (rec_tree_depth : T_api_Value → Int → Option Int) (hrec_tree_depth : ∀ (M : Mem) (ad0 : Addr) (c0 : List Value) (d0 : T_api_Value) (h0 : Rep M (emb_T_api_Value d0) c0) (q0 : ∀ j v, c0[j]? = some v → M.cell? (ad0.add j) = some v) (d1 : Int) (r : Int) (hF : rec_tree_depth d0 d1 = some r), Ok Tryz.prog M 102 [.pointer (some ad0), .int .i64 d1] (fun _ v => v = .int .i64 r)) (M : Mem) (ad0 : Addr) (c0 : List Value) (d0 : T_api_Value) (h0 : Rep M (emb_T_api_Value d0) c0) (q0 : ∀ j v, c0[j]? = some v → M.cell? (ad0.add j) = some v) (d1 : Int) (r : Int) (hF : tree_depth_b n rec_tree_depth d0 d1 = some r) : Ok Tryz.prog M 102 [.pointer (some ad0), .int .i64 d1] (fun _ v => v = .int .i64 r) := by
 unfold tree_depth_b at hF
 intro M1 hM0 w0 H w p0
 replace h0 := Rep.mono hM0 _ _ h0
 replace q0 := fun j v h => hM0.cell (q0 j v h)
 obtain ⟨A_1, cap_1, A_2, cap_2, rfl, h_1, h_2⟩ := T_api_Value.opn h0
 refine R_enter 31 Tryz.func102 rfl rfl (by simp) fun a0 f0 => ?_
 refine R_seq (R_reg ?_)
 refine Y19 f0 1 fun _ f => ?_
 refine W_end rfl (T_n (R_seq (R_reg ?_)))
 refine Y19 f 1 fun _ f => ?_
 refine W_end rfl (T_n (R_seq (R_seq (R_reg ?_))))
 refine Y19 f 3 fun _ f => ?_
 refine Y15 f p0 q0 4 rfl fun _ f => ?_
 refine Y19 f 2 fun _ f => ?_
 refine W_end rfl (T_n (wp_block ?_))
 obtain ⟨b_1, hL_1, hF_1⟩ := bS hF
 refine wp_mono (Q := fun e a w => (e = .exit 0 ∧ (∃ y_1 : Int, b_1 = y_1 ∧ ∃ M_2 : Mem, M1.le M_2 ∧ Frm 31 [(5, .int .i64 y_1)] a ∧ Hp w0 M_2 (H) w))) (R_loop (n := 31) (w0 := w0) (M := M1) (fun (x : Nat × (Int × Int)) => match x with | (m_1, s_1) => [(0, .pointer (some ad0)), (1, .int .i64 d1), (5, .int .i64 s_1.1), (11, .int .i64 ((d0.fList.length : Nat) : Int)), (12, .int .i64 s_1.2)]) (fun (x : Nat × (Int × Int)) => match x with | (m_1, s_1) => (H)) (fun (x : Nat × (Int × Int)) (MM : Mem) => match x with | (m_1, s_1) => loopF (tree_depth_s1 n rec_tree_depth d0 d1) m_1 s_1 = some b_1) (fun (x : Nat × (Int × Int)) => match x with | (m_1, s_1) => m_1) (n, ((0 : Int), (0 : Int))) (f.keep (ks := [0, 1, 5, 11, 12]) (by kernel_rfl)) p0 hL_1 ?_) ?_
 ·rintro ⟨m_1, s_1⟩ M_1 _ w_1 hM_1 I_1 f p_1
  have I_1L := I_1
  obtain ⟨m_2, r_1, rfl, hs_1, hn_1⟩ := loop_step I_1L
  unfold tree_depth_s1 at hs_1
  refine R_seq (R_reg ?_)
  refine Y19 f 1 fun _ f => ?_
  refine W_end rfl (T_n (R_seq ?_))
  refine Y6 f (b := decide (s_1.2 < ((d0.fList.length : Nat) : Int))) (fun h_3 => ?_) fun h_3 => ?_
  ·have k_1 : s_1.2 < ((d0.fList.length : Nat) : Int) := dI.1 h_3
   have hF_2 := cnd_t h_3 hs_1
   refine wp_skip (T_n (R_seq (wp_block (R_seq (R_reg ?_)))))
   refine Y19 f 2 fun _ f => ?_
   refine W_end rfl (T_n (R_seq (R_reg ?_)))
   refine Y19 f 2 fun _ f => ?_
   refine W_end rfl (T_n ?_)
   refine Y6 f (b := decide ((0 : Int) < d1)) (fun h_4 => ?_) fun h_4 => ?_
   ·have k_2 : (0 : Int) < d1 := dI.1 h_4
    have hF_3 := cnd_t h_4 hF_2
    refine R_reg ?_
    refine Y19 f 4 fun _ f => ?_
    refine Y15 f p_1 (fzu hM_1 q0) 4 rfl fun _ f => ?_
    refine Y19 f 1 fun _ f => ?_
    obtain ⟨x_1, hx_1, hF_4⟩ := bS hF_3
    obtain ⟨ad_1, c_1, e_1, hl_1, hr_1, hc_1⟩ := Sli.at_ (h_1.mono hM_1) hx_1
    clear hl_1
    obtain ⟨A_3, cap_3, A_4, cap_4, rfl, h_5, h_6⟩ := T_api_Value.opn hr_1
    refine Y14 (v := .pointer (some (ad_1.add (s_1.2.toNat * 6)))) f (Y31 e_1 rfl (len := d0.fList.length) (cap := cap_1) (k := .i64) (i := s_1.2) (e := 76) (sz := 6) (getI_nn hx_1) (getI_lt hx_1)) fun _ f => ?_
    refine Y19 f 1 fun _ f => ?_
    obtain ⟨g_1, hF_5⟩ := nS hF_4
    refine Y19 f 1 fun _ f => ?_
    have f := Frm.set f 25 (v := .int .i64 (IntKind.wrap .i64 (d1 - 1))) (v' := .int .i64 (d1 - 1)) (by kernel_rfl) (congrArg (Value.int .i64) (inR_wrap g_1))
    obtain ⟨x_2, hx_2, hF_6⟩ := bS hF_5
    refine Y18 f p_1 (hrec_tree_depth _ (ad_1.add (s_1.2.toNat * 6)) [.int .i8 x_1.fKind, .bool x_1.fBool, .int .i64 x_1.fNum, S x_1.fText, .slice A_3 x_1.fList.length cap_3, .slice A_4 x_1.fKeys.length cap_4] x_1 (T_api_Value.shutx (x := x_1) h_5 h_6) (fz_at (hc_1) 0 rfl) (d1 - 1) x_2 hx_2) fun w_2 p_2 _ f => ?_
    refine Y14 (v := .int .i64 (max s_1.1 x_2)) f (X_max (k := .i64) (a := s_1.1) (b := x_2) rfl (by kernel_rfl) (by kernel_rfl)) fun _ f => ?_
    refine Y19 f 1 fun _ f => ?_
    refine W_end rfl (B_n (T_n (R_reg ?_)))
    obtain ⟨g_2, hF_7⟩ := nS hF_6
    refine Y19 f 1 fun _ f => ?_
    have f := Frm.set f 28 (v := .int .i64 (IntKind.wrap .i64 (s_1.2 + 1))) (v' := .int .i64 (s_1.2 + 1)) (by kernel_rfl) (congrArg (Value.int .i64) (inR_wrap g_2))
    refine Y19 f 1 fun _ f => ?_
    refine W_end rfl (T_n ?_)
    obtain rfl := sI hF_7
    exact ⟨⟨m_2, (max s_1.1 x_2, s_1.2 + 1)⟩, Nat.lt_succ_self _, M_1, hM_1, hn_1, f.keep (ks := [0, 1, 5, 11, 12]) (by kernel_rfl), p_2⟩
   ·have k_3 : ¬ ((0 : Int) < d1) := iff_f dI h_4
    have hF_8 := cnd_f h_4 hF_2
    refine wp_skip (B_n (T_n (R_reg ?_)))
    obtain ⟨g_3, hF_9⟩ := nS hF_8
    refine Y19 f 1 fun _ f => ?_
    have f := Frm.set f 28 (v := .int .i64 (IntKind.wrap .i64 (s_1.2 + 1))) (v' := .int .i64 (s_1.2 + 1)) (by kernel_rfl) (congrArg (Value.int .i64) (inR_wrap g_3))
    refine Y19 f 1 fun _ f => ?_
    refine W_end rfl (T_n ?_)
    obtain rfl := sI hF_9
    exact ⟨⟨m_2, (s_1.1, s_1.2 + 1)⟩, Nat.lt_succ_self _, M_1, hM_1, hn_1, f.keep (ks := [0, 1, 5, 11, 12]) (by kernel_rfl), p_1⟩
  ·have k_4 : ¬ (s_1.2 < ((d0.fList.length : Nat) : Int)) := iff_f dI h_3
   have hF_10 := cnd_f h_3 hs_1
   refine wp_exit (T_x (T_x ?_))
   obtain rfl := sI hF_10
   exact ⟨rfl, s_1.1, (sI hn_1).symm, M_1, hM_1, f.keep (ks := [5]) (by kernel_rfl), p_1⟩
 ·rintro _ _ w_4 ⟨rfl, y_1, hq_, M_2, hM_2, f, p_3⟩
  subst b_1
  refine B_x (T_n (R_seq (R_reg ?_)))
  refine Y19 f 1 fun _ f => ?_
  obtain ⟨g_4, hF_11⟩ := nS hF_1
  refine Y19 f 1 fun _ f => ?_
  have f := Frm.set f 30 (v := .int .i64 (IntKind.wrap .i64 (y_1 + 1))) (v' := .int .i64 (y_1 + 1)) (by kernel_rfl) (congrArg (Value.int .i64) (inR_wrap g_4))
  refine Y19 f 1 fun _ f => ?_
  refine W_end rfl (T_n (wp_ret ?_))
  refine E_ret1 f rfl (by kernel_rfl : Vc.look _ 4 = some (.int .i64 (y_1 + 1))) ?_
  obtain rfl := sI hF_11
  exact ⟨_, rfl, M_2, hM_2, p_3, rfl⟩
def tree_depth_k (n : Nat) : Nat → T_api_Value → Int → Option Int
  | 0 => fun _ _ => none
  | k + 1 => tree_depth_b n (tree_depth_k n k)
def tree_depth (n : Nat) (d0 : T_api_Value) (d1 : Int) : Option Int := tree_depth_k n n d0 d1
theorem tree_depth_ok (n : Nat) (M : Mem) (ad0 : Addr) (c0 : List Value) (d0 : T_api_Value) (h0 : Rep M (emb_T_api_Value d0) c0) (q0 : ∀ j v, c0[j]? = some v → M.cell? (ad0.add j) = some v) (d1 : Int) (r : Int) (hF : tree_depth n d0 d1 = some r) : Ok Tryz.prog M 102 [.pointer (some ad0), .int .i64 d1] (fun _ v => v = .int .i64 r) := by
 have key : ∀ (k : Nat) (M : Mem) (ad0 : Addr) (c0 : List Value) (d0 : T_api_Value) (h0 : Rep M (emb_T_api_Value d0) c0) (q0 : ∀ j v, c0[j]? = some v → M.cell? (ad0.add j) = some v) (d1 : Int) (r : Int) (hF : tree_depth_k n k d0 d1 = some r), Ok Tryz.prog M 102 [.pointer (some ad0), .int .i64 d1] (fun _ v => v = .int .i64 r) := by
  intro k
  induction k with
  | zero => intro M ad0 c0 d0 h0 q0 d1 r hF; simp [tree_depth_k] at hF
  | succ k ih => intro M ad0 c0 d0 h0 q0 d1 r hF; exact tree_depth_b_ok n (tree_depth_k n k) ih M ad0 c0 d0 h0 q0 d1 r hF
 exact key n M ad0 c0 d0 h0 q0 d1 r hF
end Go.Proofs.YtalifkcchfkgmaaGreatDoor
end

section
namespace Go.Proofs
open Go.Shelf
def Tryz.lays106_ren : Go.Shelf.Ren := ⟨fun | 106 => 127 | 213 => 146 | 265 => 154 | n => n, fun | 9 => 9 | 3 => 3 | n => n, fun | n => n⟩
theorem Tryz.lays106 : Go.Proofs.Lays.n106 Tryz.prog Tryz.lays106_ren := {
  mixed := by kernel_rfl
  f106 := Tryz.func127.trans (congrArg some (by kernel_rfl))
  f213 := Tryz.func146.trans (congrArg some (by kernel_rfl))
  f265 := Tryz.func154.trans (congrArg some (by kernel_rfl))
  t3 := Tryz.underlying3
  a3 := Tryz.isAgg3
  z3 := Tryz.sizeOf3
  v3 := Tryz.zeroValue3
  t9 := Tryz.underlying9
  a9 := Tryz.isAgg9
  z9 := Tryz.sizeOf9
  v9 := Tryz.zeroValue9 }
open Go.RowKit in
/-- strings.Compare: "Compare returns an integer comparing two strings lexicographically. The result will be 0 if a == b, -1 if a < b, and +1 if a > b.": IT RETURNS 'Lib.compareBytes a b'; the world is as it was. (LAID: no walk: one application.) -/
theorem Tryz.strings_Compare (a b : ByteArray) (w : World) :
    Calls Tryz.prog 127 #[.string a, .string b] w fun e w' => e = .returned (.int .i64 (Lib.compareBytes a.data.toList b.data.toList)) ∧ w' = w := Any.strings_Compare Tryz.lays106 a b w
end Go.Proofs
end

section
namespace Go.Proofs
open Go Go.Shelf
def Tryz.lays196_ren : Go.Shelf.Ren := ⟨fun | 196 => 120 | 259 => 141 | n => n, fun | 46 => 148 | 53 => 171 | 119 => 174 | 138 => 176 | 139 => 177 | n => n, fun | 3 => 0 | 4 => 1 | n => n⟩
theorem Tryz.lays196 : Go.Proofs.Lays.n196 Tryz.prog Tryz.lays196_ren := {
  mixed := by kernel_rfl
  f196 := Tryz.func120.trans (congrArg some (by kernel_rfl))
  f259 := Tryz.func141.trans (congrArg some (by kernel_rfl))
  t0 := Tryz.underlying0
  a0 := Tryz.isAgg0
  z0 := Tryz.sizeOf0
  v0 := Tryz.zeroValue0
  t3 := Tryz.underlying3
  a3 := Tryz.isAgg3
  z3 := Tryz.sizeOf3
  v3 := Tryz.zeroValue3
  t4 := Tryz.underlying4
  a4 := Tryz.isAgg4
  z4 := Tryz.sizeOf4
  v4 := Tryz.zeroValue4
  t5 := Tryz.underlying5
  a5 := Tryz.isAgg5
  z5 := Tryz.sizeOf5
  v5 := Tryz.zeroValue5
  t9 := Tryz.underlying9
  a9 := Tryz.isAgg9
  z9 := Tryz.sizeOf9
  v9 := Tryz.zeroValue9
  t12 := Tryz.underlying12
  a12 := Tryz.isAgg12
  z12 := Tryz.sizeOf12
  v12 := Tryz.zeroValue12
  t46 := Tryz.underlying148
  a46 := Tryz.isAgg148
  z46 := Tryz.sizeOf148
  v46 := Tryz.zeroValue148
  t53 := Tryz.underlying171
  a53 := Tryz.isAgg171
  z53 := Tryz.sizeOf171
  v53 := Tryz.zeroValue171
  t119 := Tryz.underlying174
  a119 := Tryz.isAgg174
  z119 := Tryz.sizeOf174
  t138 := Tryz.underlying176
  a138 := Tryz.isAgg176
  z138 := Tryz.sizeOf176
  v138 := Tryz.zeroValue176
  t139 := Tryz.underlying177
  a139 := Tryz.isAgg177
  z139 := Tryz.sizeOf177
  v139 := Tryz.zeroValue177
  g3 := by kernel_rfl
  g4 := by kernel_rfl }
end Go.Proofs
end

section
namespace Go.Proofs.YtalifkcchfkgmaaGreatDoor
open Go Go.Vc Go.RowKit
def GL (M : Mem) : Prop := Tabs 0 1 M ∧ IntVar 2 M
theorem GL.mono {M M' : Mem} (hM : M.le M') (h : GL M) : GL M' := ⟨h.1.mono hM, h.2.mono hM⟩
def h_ValidString (_ : Nat) (d0 : List UInt8) : Option Bool := need ((d0.length : Int) ≤ 9223372036854775807) (some (Lib.validD d0))
theorem h_ValidString_ok (n : Nat) (M : Mem) (hG : GL M) (d0 : List UInt8) (r : Bool) (hF : h_ValidString n d0 = some r) : Ok Tryz.prog M 120 [S d0] (fun _ v => v = .bool r) := by
  unfold h_ValidString at hF
  obtain ⟨g, hF⟩ := need_some hF
  obtain rfl := Option.some.inj hF
  refine Ok.ofBelow fun M2 w0 H w hM hp => ?_
  exact Any.utf8_ValidString Tryz.lays196 (mkS d0) w (by have : (mkS d0).size = d0.length := rfl; omega) ((hG.1.mono hM).at hp)
def h_Compare (_ : Nat) (d0 d1 : List UInt8) : Option Int := some (Lib.compareBytes d0 d1)
theorem h_Compare_ok (n : Nat) (M : Mem) (d0 d1 : List UInt8) (r : Int) (hF : h_Compare n d0 d1 = some r) : Ok Tryz.prog M 127 [S d0, S d1] (fun _ v => v = .int .i64 r) := by
  obtain rfl := Option.some.inj hF
  exact Ok.ofPure fun w => Tryz.strings_Compare (mkS d0) (mkS d1) w
end Go.Proofs.YtalifkcchfkgmaaGreatDoor
end

section
namespace Go.Proofs.YtalifkcchfkgmaaGreatDoor
open Go Go.Vc Go.RowKit
mutual
/-- A value's parts, each whole ahead of its own. -/
def walkV : T_api_Value → List T_api_Value
  | ⟨k, b, n, t, l, ks⟩ => ⟨k, b, n, t, l, ks⟩ :: walkVs l
def walkVs : List T_api_Value → List T_api_Value
  | [] => []
  | x :: r => walkV x ++ walkVs r
end
theorem walkV_eq (v : T_api_Value) : walkV v = v :: walkVs v.fList := by cases v; rw [walkV]
theorem walkVs_drop {l : List T_api_Value} {i : Nat} {x : T_api_Value} (h : l[i]? = some x) : walkVs (l.drop i) = walkV x ++ walkVs (l.drop (i + 1)) := by
  obtain ⟨hi, hx⟩ := List.getElem?_eq_some_iff.1 h
  rw [List.drop_eq_getElem_cons hi, hx, walkVs]
theorem part_small {v x : T_api_Value} (h : x ∈ v.fList) : SizeOf.sizeOf x < SizeOf.sizeOf v := by
  have := List.sizeOf_lt_of_mem h
  cases v
  simp only [T_api_Value.mk.sizeOf_spec]
  dsimp only at this
  omega
theorem walkV_pos (v : T_api_Value) : 1 ≤ (walkV v).length := by rw [walkV_eq, List.length_cons]; omega
theorem walkVs_len : ∀ l : List T_api_Value, l.length ≤ (walkVs l).length
  | [] => Nat.zero_le _
  | x :: r => by
    have h1 := walkVs_len r
    have h2 := walkV_pos x
    rw [walkVs, List.length_append, List.length_cons]
    omega
theorem walkVs_mem : ∀ {l : List T_api_Value} {x : T_api_Value}, x ∈ l → (walkV x).length ≤ (walkVs l).length
  | y :: r, x, h => by
    rw [walkVs, List.length_append]
    rcases List.mem_cons.1 h with rfl | h
    · omega
    · have := walkVs_mem h
      omega
def valsV (M : Mem) (x : T_api_Value) (vs : List Value) : Prop := ∃ cs, vs = [.agg cs.toArray] ∧ Rep M (emb_T_api_Value x) cs
def WalkPost {σ β : Type} (J : σ → Mem → List Ent → Prop) (Jx : β → Mem → List Ent → Prop) (r : Lp σ β) (w0 : World) (M1 : Mem) (H : List Ent) : Ending → World → Prop := fun e w' =>
  ∃ M' E', M1.le M' ∧ Hp w0 M' (E' ++ H) w' ∧ match r with
    | .nx s' => e = .returned (.bool true) ∧ J s' M' E'
    | .br b => e = .returned (.bool false) ∧ Jx b M' E'
theorem walkPost_out {σ β : Type} {J : σ → Mem → List Ent → Prop} {Jx : β → Mem → List Ent → Prop} {r : Lp σ β} {w0 : World} {M1 : Mem} {H : List Ent} : ¬ LetsOut (bodyPost Tryz.prog Tryz.f117 (WalkPost J Jx r w0 M1 H)) := by
  rintro ⟨a, w, M', E', _, _, h⟩
  cases r with
  | nx s => cases h.1
  | br b => cases h.1
set_option maxRecDepth 100000 in
theorem walkIns (by_ bs l : Nat) {σ β : Type} (Y : σ → T_api_Value → Option (Lp σ β)) (J : σ → Mem → List Ent → Prop) (Jx : β → Mem → List Ent → Prop) (hJ : Grows J) (hY : Yld Tryz.prog l valsV J Jx Y) :
    ∀ (m : Nat) (v : T_api_Value), SizeOf.sizeOf v < m → (walkV v).length ≤ 9223372036854775806 → ∀ (s0 : σ) (r : Lp σ β), foldY Y (walkV v) s0 = some r → ∀ (M : Mem) (ad : Addr) (c0 : List Value), Rep M (emb_T_api_Value v) c0 → (∀ j u, c0[j]? = some u → M.cell? (ad.add j) = some u) →
      M.cell? ⟨by_, 0, none⟩ = some (.func (.yield l) #[] #[]) → M.cell? ⟨bs, 0, none⟩ = some (.func (.func 117) #[] #[.pointer (some ⟨by_, 0, none⟩), .pointer (some ⟨bs, 0, none⟩)]) →
      ∀ w0 M1 E H w, M.le M1 → J s0 M1 E → Hp w0 M1 (E ++ H) w → Calls Tryz.prog 117 [.pointer (some ad), .pointer (some ⟨by_, 0, none⟩), .pointer (some ⟨bs, 0, none⟩)].toArray w (WalkPost J Jx r w0 M1 H)
  | 0, v, hm => fun _ _ _ => absurd hm (by omega)
  | m + 1, v, hm => by
    intro hw0 s0 r hfold M ad c0 h0 q0 hby hbs w0 M1 E H w hM0 hj p0
    replace h0 := Rep.mono hM0 _ _ h0
    replace q0 := fun j u h => hM0.cell (q0 j u h)
    replace hby := hM0.cell hby
    replace hbs := hM0.cell hbs
    have hvl : v.fList.length < 9223372036854775806 := by
      have h1 := walkVs_len v.fList
      rw [walkV_eq, List.length_cons] at hw0
      omega
    rw [walkV_eq] at hfold
    obtain ⟨r1, hy1, hfold⟩ := Option.bind_eq_some_iff.1 hfold
    have hrep := h0
    obtain ⟨A_1, cap_1, A_2, cap_2, rfl, h_1, h_2⟩ := T_api_Value.opn h0
    refine R_enter 30 Tryz.func117 rfl rfl (by simp) (fun a0 f0 => ?_)
    replace f0 : Frm 30 [(0, .pointer (some ad)), (1, .pointer (some ⟨by_, 0, none⟩)), (2, .pointer (some ⟨bs, 0, none⟩))] a0 := f0
    refine R_seq ?_
    refine R_reg ?_
    refine W_run (L' := [(0, .pointer (some ad)), (1, .pointer (some ⟨by_, 0, none⟩)), (2, .pointer (some ⟨bs, 0, none⟩))]) (w' := w) f0 1 [0, 1, 2] (by kernel_rfl) (fun a_1 f_1 => ?_)
    refine W_end rfl ?_
    refine T_n ?_
    refine R_seq ?_
    refine R_seq ?_
    -- the call of yield
    refine RI_out (RI_drawT 4 p0 (by kernel_rfl) (by kernel_rfl) (then_out (then_out walkPost_out)) (by kernel_rfl) (fun w p0 => ?_))
    refine ST_eq (v := .func (.yield l) #[] #[]) f_1 (by kernel_rfl) (by kernel_rfl) rfl rfl (X_load1 (v := .func (.yield l) #[] #[]) rfl (ad := ⟨by_, 0, none⟩) (by kernel_rfl) (by kernel_rfl) (p0.cell hby)) (fun a_2 f_2 => ?_)
    refine ST_eq (v := .pointer (some ad)) f_2 (by kernel_rfl) (by kernel_rfl) rfl rfl (by kernel_rfl) (fun a_3 f_3 => ?_)
    refine ST_eq (v := .pointer (some ad)) f_3 (by kernel_rfl) (by kernel_rfl) rfl rfl (by kernel_rfl) (fun a_4 f_4 => ?_)
    refine ST_eq (v := .agg #[.int .i8 v.fKind, .bool v.fBool, .int .i64 v.fNum, S v.fText, .slice A_1 v.fList.length cap_1, .slice A_2 v.fKeys.length cap_2]) f_4 (by kernel_rfl) (by kernel_rfl) rfl rfl
      (X_loadN (cs := [.int .i8 v.fKind, .bool v.fBool, .int .i64 v.fNum, S v.fText, .slice A_1 v.fList.length cap_1, .slice A_2 v.fKeys.length cap_2]) rfl (ad := ad) (by kernel_rfl) (by kernel_rfl) (fun j u h => p0.cell (q0 j u h))) (fun a_5 f_5 => ?_)
    refine ST_end rfl ?_
    obtain ⟨fn, tmps, asg, bd, hrun, hR⟩ := hY s0 v r1 hy1 w0 M1 E H w _ hj ⟨_, rfl, hrep⟩ p0
    refine WI_round f_5 (by kernel_rfl) (by kernel_rfl) rfl rfl (fun c e => by cases e) (hx := Eq.trans (by kernel_rfl) hrun) hR ?_
    rintro e w_1 ⟨M2, E2, hM2, p_1, hr⟩
    cases r1 with
    | br b =>
      obtain ⟨rfl, hjx⟩ := hr
      refine ⟨_, rfl, fun a_6 f_6 => ?_⟩
      refine list_in (ro := none) (then_out (then_out walkPost_out)) _ (by kernel_rfl) _ _ ?_
      refine W_run (L' := [(0, .pointer (some ad)), (1, .pointer (some ⟨by_, 0, none⟩)), (2, .pointer (some ⟨bs, 0, none⟩)), (11, .bool true)]) (w' := w_1) f_6 1 [0, 1, 2, 11] (by kernel_rfl) (fun a_7 f_7 => ?_)
      refine W_end rfl ?_
      refine T_n ?_
      refine R_cond_t f_7 (by kernel_rfl) (by kernel_rfl) ?_
      refine R_seq ?_
      refine R_reg ?_
      refine W_run (L' := [(4, .bool false)]) (w' := w_1) f_7 1 [4] (by kernel_rfl) (fun a_8 f_8 => ?_)
      refine W_end rfl ?_
      refine T_n ?_
      refine wp_ret ?_
      refine T_r ?_
      refine E_ret1 f_8 rfl (by kernel_rfl : Vc.look _ 4 = some (.bool false)) ?_
      obtain rfl := Option.some.inj hfold
      exact ⟨M2, E2, hM2, p_1, rfl, hjx⟩
    | nx s1 =>
      obtain ⟨rfl, hj1⟩ := hr
      refine ⟨_, rfl, fun a_6 f_6 => ?_⟩
      refine list_in (ro := none) (then_out (then_out walkPost_out)) _ (by kernel_rfl) _ _ ?_
      refine W_run (L' := [(0, .pointer (some ad)), (1, .pointer (some ⟨by_, 0, none⟩)), (2, .pointer (some ⟨bs, 0, none⟩)), (11, .bool false)]) (w' := w_1) f_6 1 [0, 1, 2, 11] (by kernel_rfl) (fun a_7 f_7 => ?_)
      refine W_end rfl ?_
      refine T_n ?_
      refine R_cond_f f_7 (by kernel_rfl) (by kernel_rfl) ?_
      refine wp_skip ?_
      refine T_n ?_
      replace q0 := fun j u h => hM2.cell (q0 j u h)
      replace hby := hM2.cell hby
      replace hbs := hM2.cell hbs
      replace h_1 := h_1.mono hM2
      replace hM0 := hM0.trans hM2
      replace hfold : foldY Y (walkVs v.fList) s1 = some r := hfold
      refine R_seq ?_
      refine R_seq ?_
      refine R_reg ?_
      refine W_run (L' := [(0, .pointer (some ad)), (1, .pointer (some ⟨by_, 0, none⟩)), (2, .pointer (some ⟨bs, 0, none⟩)), (14, .pointer (some (ad.add 4)))]) (w' := w_1) f_7 3 [0, 1, 2, 14] (by kernel_rfl) (fun a_8 f_8 => ?_)
      refine W_eq (v := .slice A_1 v.fList.length cap_1) f_8 (by kernel_rfl) (by kernel_rfl) rfl rfl (X_load1 (v := .slice A_1 v.fList.length cap_1) rfl (ad := ad.add 4) (by kernel_rfl) (by kernel_rfl) (p_1.cell (q0 4 _ rfl))) (fun a_9 f_9 => ?_)
      refine W_run (L' := [(0, .pointer (some ad)), (1, .pointer (some ⟨by_, 0, none⟩)), (2, .pointer (some ⟨bs, 0, none⟩)), (16, .int .i64 ((v.fList.length : Nat) : Int)), (17, .int .i64 0)]) (w' := w_1) f_9 2 [0, 1, 2, 16, 17] (by kernel_rfl) (fun a_10 f_10 => ?_)
      refine W_end rfl ?_
      refine T_n ?_
      refine wp_block ?_
      refine wp_mono (Q := fun e a w => (e = .exit 0 ∧ ∃ s' M' E', r = .nx s' ∧ M1.le M' ∧ J s' M' E' ∧ Frm 30 [(0, .pointer (some ad))] a ∧ Hp w0 M' (E' ++ H) w) ∨ (e = .ret ∧ ∃ b M' E', r = .br b ∧ M1.le M' ∧ Jx b M' E' ∧ Frm 30 [(4, .bool false)] a ∧ Hp w0 M' (E' ++ H) w))
        (R_loop (n := 30) (w0 := w0) (M := M2) (fun (x : Nat × σ × List Ent) => [(0, .pointer (some ad)), (1, .pointer (some ⟨by_, 0, none⟩)), (2, .pointer (some ⟨bs, 0, none⟩)), (16, .int .i64 ((v.fList.length : Nat) : Int)), (17, .int .i64 (x.1 : Int))]) (fun x => x.2.2 ++ H)
          (fun x (MM : Mem) => J x.2.1 MM x.2.2 ∧ foldY Y (walkVs (v.fList.drop x.1)) x.2.1 = some r ∧ x.1 ≤ v.fList.length) (fun x => v.fList.length - x.1) (0, s1, E2) (f_10.keep (ks := [0, 1, 2, 16, 17]) (by kernel_rfl)) p_1 ⟨hj1, by rw [List.drop_zero]; exact hfold, Nat.zero_le _⟩ ?_) ?_
      · rintro ⟨i, s, Es⟩ M_3 a_11 w_2 hM3 ⟨hjs, hfs, hi⟩ f_11 p_2
        dsimp only at hjs hfs hi
        replace f_11 : Frm 30 [(0, .pointer (some ad)), (1, .pointer (some ⟨by_, 0, none⟩)), (2, .pointer (some ⟨bs, 0, none⟩)), (16, .int .i64 ((v.fList.length : Nat) : Int)), (17, .int .i64 (i : Int))] a_11 := f_11
        replace p_2 : Hp w0 M_3 (Es ++ H) w_2 := p_2
        refine R_seq ?_
        refine R_reg ?_
        refine W_run (L' := [(0, .pointer (some ad)), (1, .pointer (some ⟨by_, 0, none⟩)), (2, .pointer (some ⟨bs, 0, none⟩)), (16, .int .i64 ((v.fList.length : Nat) : Int)), (17, .int .i64 (i : Int)), (18, .bool (decide ((i : Int) < ((v.fList.length : Nat) : Int))))]) (w' := w_2) f_11 1 [0, 1, 2, 16, 17, 18] (by kernel_rfl) (fun a_12 f_12 => ?_)
        refine W_end rfl ?_
        refine T_n ?_
        refine R_seq ?_
        refine R_cond f_12 (b := decide ((i : Int) < ((v.fList.length : Nat) : Int))) (by kernel_rfl) (by kernel_rfl) (fun h_3 => ?_) (fun h_3 => ?_)
        · have k_1 : i < v.fList.length := by have := of_decide_eq_true h_3; omega
          refine wp_skip ?_
          refine T_n ?_
          refine R_seq ?_
          refine wp_block ?_
          refine R_seq ?_
          refine R_reg ?_
          refine W_run (L' := [(0, .pointer (some ad)), (1, .pointer (some ⟨by_, 0, none⟩)), (2, .pointer (some ⟨bs, 0, none⟩)), (5, .int .i64 (i : Int)), (16, .int .i64 ((v.fList.length : Nat) : Int)), (17, .int .i64 (i : Int))]) (w' := w_2) f_12 2 [0, 1, 2, 5, 16, 17] (by kernel_rfl) (fun a_13 f_13 => ?_)
          refine W_end rfl ?_
          refine T_n ?_
          have hx : v.fList[i]? = some v.fList[i] := List.getElem?_eq_getElem k_1
          have hgx : getI v.fList (i : Int) = some v.fList[i] := by unfold getI; rw [if_pos (by omega)]; exact hx
          rw [walkVs_drop hx, foldY_app] at hfs
          obtain ⟨r2, hr2, hfs⟩ := Option.bind_eq_some_iff.1 hfs
          obtain ⟨ad_1, c_1, e_1, hl_1, hr_1, hc_1⟩ := Sli.at_ (h_1.mono hM3) hgx
          refine R_seq ?_
          refine R_drawT 7 p_2 (by kernel_rfl) (by kernel_rfl) (fun w_3 p_3 => ?_)
          refine ST_eq (v := .func (.func 117) #[] #[.pointer (some ⟨by_, 0, none⟩), .pointer (some ⟨bs, 0, none⟩)]) f_13 (by kernel_rfl) (by kernel_rfl) rfl rfl (X_load1 (v := .func (.func 117) #[] #[.pointer (some ⟨by_, 0, none⟩), .pointer (some ⟨bs, 0, none⟩)]) rfl (ad := ⟨bs, 0, none⟩) (by kernel_rfl) (by kernel_rfl) (p_3.cell (hM3.cell hbs))) (fun a_14 f_14 => ?_)
          refine ST_eq (v := .pointer (some ad)) f_14 (by kernel_rfl) (by kernel_rfl) rfl rfl (by kernel_rfl) (fun a_15 f_15 => ?_)
          refine ST_eq (v := .pointer (some ad)) f_15 (by kernel_rfl) (by kernel_rfl) rfl rfl (by kernel_rfl) (fun a_16 f_16 => ?_)
          refine ST_eq (v := .pointer (some (ad.add 4))) f_16 (by kernel_rfl) (by kernel_rfl) rfl rfl (by kernel_rfl) (fun a_17 f_17 => ?_)
          refine ST_eq (v := .slice A_1 v.fList.length cap_1) f_17 (by kernel_rfl) (by kernel_rfl) rfl rfl (X_load1 (v := .slice A_1 v.fList.length cap_1) rfl (ad := ad.add 4) (by kernel_rfl) (by kernel_rfl) (p_3.cell (hM3.cell (q0 4 _ rfl)))) (fun a_18 f_18 => ?_)
          refine ST_eq (v := .int .i64 (i : Int)) f_18 (by kernel_rfl) (by kernel_rfl) rfl rfl (by kernel_rfl) (fun a_19 f_19 => ?_)
          refine ST_eq (v := .pointer (some (ad_1.add ((i : Int).toNat * 6)))) f_19 (by kernel_rfl) (by kernel_rfl) rfl rfl (X_indexAddrA e_1 rfl (len := v.fList.length) (cap := cap_1) (k := .i64) (i := (i : Int)) (by kernel_rfl) (by kernel_rfl) (e := 76) (by kernel_rfl) (sz := 6) (by kernel_rfl) (getI_nn hgx) (getI_lt hgx)) (fun a_20 f_20 => ?_)
          refine ST_end rfl ?_
          have hcall := walkIns by_ bs l Y J Jx hJ hY m v.fList[i] (by have := part_small (v := v) (List.getElem_mem k_1); omega) (by
            have h1 := walkVs_mem (List.getElem_mem k_1)
            have h2 := hw0
            rw [walkV_eq, List.length_cons] at h2
            omega) s r2 hr2 M_3 _ c_1 hr_1 hc_1 (hM3.cell hby) (hM3.cell hbs) w0 M_3 Es H w_3 (Mem.le_refl _) hjs p_3
          refine W_call (R := fun v w' => ∃ M' E', M_3.le M' ∧ Hp w0 M' (E' ++ H) w' ∧ match r2 with
            | .nx s' => v = .bool true ∧ J s' M' E'
            | .br b => v = .bool false ∧ Jx b M' E') f_20 (by kernel_rfl) (by kernel_rfl) rfl rfl (by kernel_rfl) (hcall.mono fun e w' ⟨M', E', g1, g2, g3⟩ => ?_) ?_
          · cases r2 with
            | nx s' => exact ⟨_, g3.1, M', E', g1, g2, rfl, g3.2⟩
            | br b => exact ⟨_, g3.1, M', E', g1, g2, rfl, g3.2⟩
          rintro v_1 w_4 ⟨M4, E4, hM4, p_4, g4⟩ a_21 f_21
          cases r2 with
          | br b =>
            obtain ⟨rfl, hjx⟩ := g4
            obtain rfl := Option.some.inj hfs
            refine W_run (L' := [(28, .bool true)]) (w' := w_4) f_21 1 [28] (by kernel_rfl) (fun a_22 f_22 => ?_)
            refine W_end rfl ?_
            refine T_n ?_
            refine R_cond_t f_22 (by kernel_rfl) (by kernel_rfl) ?_
            refine R_seq ?_
            refine R_reg ?_
            refine W_run (L' := [(4, .bool false)]) (w' := w_4) f_22 1 [4] (by kernel_rfl) (fun a_23 f_23 => ?_)
            refine W_end rfl ?_
            refine T_n ?_
            refine wp_ret ?_
            refine B_r ?_
            refine T_r ?_
            refine T_r ?_
            exact .inr ⟨rfl, b, M4, E4, rfl, hM2.trans (hM3.trans hM4), hjx, f_23, p_4⟩
          | nx s2 =>
            obtain ⟨rfl, hj2⟩ := g4
            replace hfs : foldY Y (walkVs (v.fList.drop (i + 1))) s2 = some r := hfs
            refine W_run (L' := [(0, .pointer (some ad)), (1, .pointer (some ⟨by_, 0, none⟩)), (2, .pointer (some ⟨bs, 0, none⟩)), (16, .int .i64 ((v.fList.length : Nat) : Int)), (17, .int .i64 (i : Int)), (28, .bool false)]) (w' := w_4) f_21 1 [0, 1, 2, 16, 17, 28] (by kernel_rfl) (fun a_22 f_22 => ?_)
            refine W_end rfl ?_
            refine T_n ?_
            refine R_cond_f f_22 (by kernel_rfl) (by kernel_rfl) ?_
            refine wp_skip ?_
            refine B_n ?_
            refine T_n ?_
            refine R_reg ?_
            have hin : inR .i64 ((i : Int) + 1) := inR_mk.2 ⟨by omega, by omega⟩
            refine W_run (L' := [(0, .pointer (some ad)), (1, .pointer (some ⟨by_, 0, none⟩)), (2, .pointer (some ⟨bs, 0, none⟩)), (16, .int .i64 ((v.fList.length : Nat) : Int)), (29, .int .i64 (IntKind.wrap .i64 ((i : Int) + 1)))]) (w' := w_4) f_22 1 [0, 1, 2, 16, 29] (by kernel_rfl) (fun a_23 f_23 => ?_)
            have f_24 := Frm.set f_23 29 (v := .int .i64 (IntKind.wrap .i64 ((i : Int) + 1))) (v' := .int .i64 (((i + 1 : Nat) : Int))) (by kernel_rfl) (congrArg (Value.int .i64) ((inR_wrap hin).trans (by omega)))
            have f_25 : Frm 30 [(0, .pointer (some ad)), (1, .pointer (some ⟨by_, 0, none⟩)), (2, .pointer (some ⟨bs, 0, none⟩)), (16, .int .i64 ((v.fList.length : Nat) : Int)), (29, .int .i64 (((i + 1 : Nat) : Int)))] a_23 := f_24.keep (ks := [0, 1, 2, 16, 29]) (by kernel_rfl)
            refine W_run (L' := [(0, .pointer (some ad)), (1, .pointer (some ⟨by_, 0, none⟩)), (2, .pointer (some ⟨bs, 0, none⟩)), (16, .int .i64 ((v.fList.length : Nat) : Int)), (17, .int .i64 (((i + 1 : Nat) : Int)))]) (w' := w_4) f_25 1 [0, 1, 2, 16, 17] (by kernel_rfl) (fun a_26 f_26 => ?_)
            refine W_end rfl ?_
            refine T_n ?_
            exact ⟨(i + 1, s2, E4), by dsimp only; omega, M4, hM3.trans hM4, ⟨hj2, hfs, by dsimp only; omega⟩, f_26, p_4⟩
        · have k_1 : ¬ (i < v.fList.length) := fun h => by
            have := of_decide_eq_false h_3
            omega
          refine wp_exit ?_
          refine T_x ?_
          refine T_x ?_
          have : v.fList.drop i = [] := List.drop_eq_nil_of_le (by omega)
          rw [this] at hfs
          obtain rfl := Option.some.inj hfs
          exact .inl ⟨rfl, s, M_3, Es, rfl, hM2.trans hM3, hjs, f_12.keep (ks := [0]) (by kernel_rfl), p_2⟩
      · rintro _ a_24 w_4 (⟨rfl, s', M', E', rfl, g1, g2, f_29, p_3⟩ | ⟨rfl, b, M', E', rfl, g1, g2, f_29, p_3⟩)
        · refine B_x ?_
          refine T_n ?_
          refine R_seq ?_
          refine R_reg ?_
          refine W_run (L' := [(4, .bool true)]) (w' := w_4) f_29 1 [4] (by kernel_rfl) (fun a_25 f_30 => ?_)
          refine W_end rfl ?_
          refine T_n ?_
          refine wp_ret ?_
          refine E_ret1 f_30 rfl (by kernel_rfl : Vc.look _ 4 = some (.bool true)) ?_
          exact ⟨M', E', g1, p_3, rfl, g2⟩
        · refine B_r ?_
          refine T_r ?_
          refine E_ret1 f_29 rfl (by kernel_rfl : Vc.look _ 4 = some (.bool false)) ?_
          exact ⟨M', E', g1, p_3, rfl, g2⟩
end Go.Proofs.YtalifkcchfkgmaaGreatDoor
end

section
namespace Go.Proofs.YtalifkcchfkgmaaGreatDoor
open Go Go.Vc Go.RowKit
set_option maxRecDepth 100000 in
theorem walk_iter (v : T_api_Value) (hlen : (walkV v).length ≤ 9223372036854775806) (M : Mem) (bv : Nat) (cs : List Value) (hrep : Rep M (emb_T_api_Value v) cs) (hbv : ∀ j u, cs[j]? = some u → M.cell? ((⟨bv, 0, none⟩ : Addr).add j) = some u) :
    IterOk Tryz.prog 116 [.pointer (some ⟨bv, 0, none⟩)] valsV (walkV v) M := by
  refine ⟨Go.Proofs.enters_of Tryz.func116 (by kernel_rfl) rfl, fun σ β Y s0 r hr l J Jx hJ hJx hY w0 M1 E H w hM0 hj p0 => ?_⟩
  refine R_enter 7 Tryz.func116 rfl rfl (by simp) (fun a0 f0 => ?_)
  replace f0 : Frm 7 [(0, .func (.yield l) #[] #[]), (1, .pointer (some ⟨bv, 0, none⟩))] a0 := f0
  refine R_seq ?_
  refine R_reg ?_
  refine W_box (cs := #[.func (.yield l) #[] #[]]) (T := 88) f0 p0 1 [1, 2] (fun b => [(1, .pointer (some ⟨bv, 0, none⟩)), (2, .pointer (some ⟨b, 0, none⟩))]) (fun _ => by kernel_rfl) (fun by_ M2 w hM1 hc p1 a_1 f_1 => ?_)
  replace f_1 : Frm 7 [(1, .pointer (some ⟨bv, 0, none⟩)), (2, .pointer (some ⟨by_, 0, none⟩))] a_1 := f_1
  refine W_end rfl ?_
  refine T_n ?_
  refine R_seq ?_
  refine R_reg ?_
  refine W_alloc f_1 p1 1 [1, 2, 3] (.cells #[.nilFunc] 97 (0, 0)) (fun b => [(1, .pointer (some ⟨bv, 0, none⟩)), (2, .pointer (some ⟨by_, 0, none⟩)), (3, .pointer (some ⟨b, 0, none⟩))]) (fun _ => by kernel_rfl) (fun bs w p2 a_2 f_2 => ?_)
  replace f_2 : Frm 7 [(1, .pointer (some ⟨bv, 0, none⟩)), (2, .pointer (some ⟨by_, 0, none⟩)), (3, .pointer (some ⟨bs, 0, none⟩))] a_2 := f_2
  refine W_end rfl ?_
  refine T_n ?_
  refine R_seq ?_
  refine R_reg ?_
  refine W_run (L' := [(1, .pointer (some ⟨bv, 0, none⟩)), (3, .pointer (some ⟨bs, 0, none⟩)), (4, .func (.func 117) #[] #[.pointer (some ⟨by_, 0, none⟩), .pointer (some ⟨bs, 0, none⟩)])]) (w' := w) f_2 1 [1, 3, 4] (by kernel_rfl) (fun a_3 f_3 => ?_)
  refine W_store1 f_3 p2 0 (by kernel_rfl) (by kernel_rfl) rfl rfl (b := bs) (j := 0) (v := .func (.func 117) #[] #[.pointer (some ⟨by_, 0, none⟩), .pointer (some ⟨bs, 0, none⟩)]) (by kernel_rfl) (by kernel_rfl) rfl (by kernel_rfl) (by exact rfl) (by simp) (by simp)
    (.obj bs (.cells #[.func (.func 117) #[] #[.pointer (some ⟨by_, 0, none⟩), .pointer (some ⟨bs, 0, none⟩)]] 97 (0, 0)) :: (E ++ H)) (by exact rfl) (fun w p3 a_4 f_4 => ?_)
  refine W_end rfl ?_
  refine T_n ?_
  obtain ⟨hM2, p4⟩ := p3.freeze
  have hself : (M2.add bs (.cells #[.func (.func 117) #[] #[.pointer (some ⟨by_, 0, none⟩), .pointer (some ⟨bs, 0, none⟩)]] 97 (0, 0))).cell? ⟨bs, 0, none⟩ = some (.func (.func 117) #[] #[.pointer (some ⟨by_, 0, none⟩), .pointer (some ⟨bs, 0, none⟩)]) := by rw [add_cell]; rfl
  generalize (M2.add bs (.cells #[.func (.func 117) #[] #[.pointer (some ⟨by_, 0, none⟩), .pointer (some ⟨bs, 0, none⟩)]] 97 (0, 0))) = M3 at hM2 p4 hself
  have hM3 := hM1.trans hM2
  refine R_reg ?_
  refine W_eq (v := .func (.func 117) #[] #[.pointer (some ⟨by_, 0, none⟩), .pointer (some ⟨bs, 0, none⟩)]) f_4 (by kernel_rfl) (by kernel_rfl) rfl rfl (X_load1 (v := .func (.func 117) #[] #[.pointer (some ⟨by_, 0, none⟩), .pointer (some ⟨bs, 0, none⟩)]) rfl (ad := ⟨bs, 0, none⟩) (by kernel_rfl) (by kernel_rfl) (p4.cell hself)) (fun a_5 f_5 => ?_)
  have hcall := walkIns by_ bs l Y J Jx hJ hY (SizeOf.sizeOf v + 1) v (Nat.lt_succ_self _) hlen s0 r hr M3 ⟨bv, 0, none⟩ cs (Rep.mono (hM0.trans hM3) _ _ hrep) (fun j u h => (hM0.trans hM3).cell (hbv j u h)) (hM2.cell (hc 0 _ rfl)) hself w0 M3 E H w (Mem.le_refl _) (hJ _ _ _ _ hM3 hj) p4
  refine W_call (R := fun _ w' => ∃ M' E', M3.le M' ∧ Hp w0 M' (E' ++ H) w' ∧ match r with
    | .nx s' => J s' M' E'
    | .br b => Jx b M' E') f_5 (by kernel_rfl) (by kernel_rfl) rfl rfl (by kernel_rfl) (hcall.mono fun e w' ⟨M', E', g1, g2, g3⟩ => ?_) ?_
  · cases r with
    | nx s' => exact ⟨_, g3.1, M', E', g1, g2, g3.2⟩
    | br b => exact ⟨_, g3.1, M', E', g1, g2, g3.2⟩
  rintro v_1 w_4 ⟨M4, E4, hM4, p_4, g4⟩ a_6 f_6
  refine W_end rfl ?_
  refine E_end0 f_6 rfl ?_
  cases r with
  | nx s' => exact ⟨_, rfl, M4, E4, hM3.trans hM4, p_4, g4⟩
  | br b => exact ⟨_, rfl, M4, E4, hM3.trans hM4, p_4, g4⟩
/-- What a call of tree.Walk makes. -/
def WalkRes (v : T_api_Value) (M : Mem) (u : Value) : Prop := ∃ f caps, u = .func (.func f) #[] caps.toArray ∧ IterOk Tryz.prog f caps valsV (walkV v) M
set_option maxRecDepth 100000 in
theorem walk_ok (v : T_api_Value) (hlen : (walkV v).length ≤ 9223372036854775806) (M : Mem) (cs : List Value) (h0 : Rep M (emb_T_api_Value v) cs) : Ok Tryz.prog M 103 [.agg cs.toArray] (fun M' u => WalkRes v M' u) := by
  intro M1 hM0 w0 H w p0
  replace h0 := Rep.mono hM0 _ _ h0
  obtain ⟨A_1, cap_1, A_2, cap_2, rfl, h_1, h_2⟩ := T_api_Value.opn h0
  refine R_enter 4 Tryz.func103 rfl rfl (by simp) (fun a0 f0 => ?_)
  replace f0 : Frm 4 [(0, .agg #[.int .i8 v.fKind, .bool v.fBool, .int .i64 v.fNum, S v.fText, .slice A_1 v.fList.length cap_1, .slice A_2 v.fKeys.length cap_2])] a0 := f0
  refine R_seq ?_
  refine R_reg ?_
  refine W_box (cs := #[.int .i8 v.fKind, .bool v.fBool, .int .i64 v.fNum, S v.fText, .slice A_1 v.fList.length cap_1, .slice A_2 v.fKeys.length cap_2]) (T := 76) f0 p0 1 [1] (fun b => [(1, .pointer (some ⟨b, 0, none⟩))]) (fun _ => by kernel_rfl) (fun bv M2 w hM1 hc p1 a_1 f_1 => ?_)
  replace f_1 : Frm 4 [(1, .pointer (some ⟨bv, 0, none⟩))] a_1 := f_1
  have hc2 := fz_box hc
  refine W_run (L' := [(1, .pointer (some ⟨bv, 0, none⟩))]) (w' := w) f_1 1 [1] (by kernel_rfl) (fun a_2 f_2 => ?_)
  refine W_end rfl ?_
  refine T_n ?_
  refine R_seq ?_
  refine R_reg ?_
  refine W_run (L' := [(2, .func (.func 116) #[] #[.pointer (some ⟨bv, 0, none⟩)])]) (w' := w) f_2 2 [2] (by kernel_rfl) (fun a_3 f_3 => ?_)
  refine W_end rfl ?_
  refine T_n ?_
  refine wp_ret ?_
  refine E_ret1 f_3 rfl (by kernel_rfl : Vc.look _ 2 = some (.func (.func 116) #[] #[.pointer (some ⟨bv, 0, none⟩)])) ?_
  refine ⟨_, rfl, M2, hM1, p1, 116, [.pointer (some ⟨bv, 0, none⟩)], rfl, ?_⟩
  exact walk_iter v hlen M2 bv _ (Rep.mono hM1 _ _ h0) hc2
end Go.Proofs.YtalifkcchfkgmaaGreatDoor
end

section
set_option linter.unusedVariables false
set_option linter.unusedSimpArgs false
namespace Go.Proofs.YtalifkcchfkgmaaGreatDoor
open Go Go.Vc Go.RowKit
def runes_Valid (n : Nat) (d0 : List UInt8) : Option Bool :=
  (h_ValidString n d0).bind fun x_1 =>
  some ((x_1))
theorem runes_Valid_ok (n : Nat) (M : Mem) (hG : GL M) (d0 : List UInt8) (r : Bool) (hF : runes_Valid n d0 = some r) : Ok Tryz.prog M 105 [S d0] (fun _ v => v = .bool r) := by
 unfold runes_Valid at hF
 intro M1 hM0 w0 H w p0
 replace hG := GL.mono hM0 hG
 refine R_enter 5 Tryz.func105 rfl rfl (by simp) fun a0 f0 => ?_
 refine R_seq (R_reg ?_)
 refine Y19 f0 1 fun _ f => ?_
 refine W_end rfl (T_n (R_seq (R_reg ?_)))
 refine Y19 f 1 fun _ f => ?_
 obtain ⟨x_1, hx_1, hF_1⟩ := bS hF
 refine Y18 f p0 (h_ValidString_ok n _ hG d0 x_1 hx_1) fun w_1 p_1 _ f => ?_
 refine Y19 f 1 fun _ f => ?_
 refine W_end rfl (T_n (wp_ret ?_))
 refine E_ret1 f rfl (by kernel_rfl : Vc.look _ 2 = some (.bool x_1)) ?_
 obtain rfl := sI hF_1
 exact ⟨_, rfl, M1, (mR _), p_1, rfl⟩
def tree_alone_1 (n : Nat) (d0 : List UInt8) : Option Bool :=
  (runes_Valid n d0).bind fun x_1 =>
  some ((!x_1))
theorem tree_alone_1_ok (n : Nat) (M : Mem) (hG : GL M) (d0 : List UInt8) (r : Bool) (hF : tree_alone_1 n d0 = some r) : Ok Tryz.prog M 119 [S d0] (fun _ v => v = .bool r) := by
 unfold tree_alone_1 at hF
 intro M1 hM0 w0 H w p0
 replace hG := GL.mono hM0 hG
 refine R_enter 6 Tryz.func119 rfl rfl (by simp) fun a0 f0 => ?_
 refine R_seq (R_reg ?_)
 refine Y19 f0 1 fun _ f => ?_
 refine W_end rfl (T_n (R_seq (R_reg ?_)))
 refine Y19 f 1 fun _ f => ?_
 obtain ⟨x_1, hx_1, hF_1⟩ := bS hF
 refine Y18 f p0 (runes_Valid_ok n _ hG d0 x_1 hx_1) fun w_1 p_1 _ f => ?_
 refine Y19 f 2 fun _ f => ?_
 refine W_end rfl (T_n (wp_ret ?_))
 refine E_ret1 f rfl (by kernel_rfl : Vc.look _ 2 = some (.bool !x_1)) ?_
 obtain rfl := sI hF_1
 exact ⟨_, rfl, M1, (mR _), p_1, rfl⟩
def slices_IndexFuncstring_string_s1 (n : Nat) (d0 : List (List UInt8)) (s_1 : Int) : Option (Lp Int (Sum Int Unit)) :=
    bif (decide (s_1 < ((d0.length : Nat) : Int))) then
      ((getI d0 s_1).bind fun x_1 =>
      (tree_alone_1 n x_1).bind fun x_2 =>
      bif x_2 then
        (some (.br (.inl s_1)))
      else
        need (inR .i64 (s_1 + 1)) <|
        some (.nx (s_1 + 1)))
    else
      some (.br (.inr ()))
def slices_IndexFuncstring_string (n : Nat) (d0 : List (List UInt8)) : Option Int :=
  (loopF (slices_IndexFuncstring_string_s1 n d0) n (0 : Int)).bind fun b_1 =>
  (match b_1 with 
  | .inl y_1 => some (y_1) 
  | .inr y_2 => some ((-1 : Int)))
set_option maxHeartbeats 2000000 in
theorem slices_IndexFuncstring_string_ok (n : Nat) (M : Mem) (hG : GL M) (A0 : Option Addr) (cap0 : Nat) (d0 : List (List UInt8)) (h0 : Sli M 1 Dat.str A0 cap0 d0) (r : Int) (hF : slices_IndexFuncstring_string n d0 = some r) : Ok Tryz.prog M 140 [.slice A0 d0.length cap0, .func (.func 119) #[] #[]] (fun _ v => v = .int .i64 r) := by
 unfold slices_IndexFuncstring_string at hF
 intro M1 hM0 w0 H w p0
 replace hG := GL.mono hM0 hG
 replace h0 := h0.mono hM0
 refine R_enter 19 Tryz.func140 rfl rfl (by simp) fun a0 f0 => ?_
 refine R_seq (R_reg ?_)
 refine Y19 f0 1 fun _ f => ?_
 refine W_end rfl (T_n (R_seq (R_seq (R_reg ?_))))
 refine Y19 f 3 fun _ f => ?_
 refine W_end rfl (T_n (wp_block ?_))
 obtain ⟨b_1, hL_1, hF_1⟩ := bS hF
 refine wp_mono (Q := fun e a w => (e = .ret ∧ (∃ y_1 : Int, b_1 = .inl y_1 ∧ ∃ M_2 : Mem, M1.le M_2 ∧ Frm 19 [(4, .int .i64 y_1)] a ∧ Hp w0 M_2 (H) w)) ∨ (e = .exit 0 ∧ (∃ y_2 : Unit, b_1 = .inr y_2 ∧ ∃ M_3 : Mem, M1.le M_3 ∧ Frm 19 [] a ∧ Hp w0 M_3 (H) w))) (R_loop (n := 19) (w0 := w0) (M := M1) (fun (x : Nat × Int) => match x with | (m_1, s_1) => [(0, .slice A0 d0.length cap0), (1, .func (.func 119) #[] #[]), (7, .int .i64 ((d0.length : Nat) : Int)), (8, .int .i64 s_1)]) (fun (x : Nat × Int) => match x with | (m_1, s_1) => (H)) (fun (x : Nat × Int) (MM : Mem) => match x with | (m_1, s_1) => loopF (slices_IndexFuncstring_string_s1 n d0) m_1 s_1 = some b_1) (fun (x : Nat × Int) => match x with | (m_1, s_1) => m_1) (n, (0 : Int)) (f.keep (ks := [0, 1, 7, 8]) (by kernel_rfl)) p0 hL_1 ?_) ?_
 ·rintro ⟨m_1, s_1⟩ M_1 _ w_1 hM_1 I_1 f p_1
  have I_1L := I_1
  obtain ⟨m_2, r_1, rfl, hs_1, hn_1⟩ := loop_step I_1L
  unfold slices_IndexFuncstring_string_s1 at hs_1
  refine R_seq (R_reg ?_)
  refine Y19 f 1 fun _ f => ?_
  refine W_end rfl (T_n (R_seq ?_))
  refine Y6 f (b := decide (s_1 < ((d0.length : Nat) : Int))) (fun h_1 => ?_) fun h_1 => ?_
  ·have k_1 : s_1 < ((d0.length : Nat) : Int) := dI.1 h_1
   have hF_2 := cnd_t h_1 hs_1
   refine wp_skip (T_n (R_seq (wp_block (R_seq (R_reg ?_)))))
   refine Y19 f 2 fun _ f => ?_
   refine W_end rfl (T_n (R_seq (R_reg ?_)))
   refine Y19 f 3 fun _ f => ?_
   obtain ⟨x_1, hx_1, hF_3⟩ := bS hF_2
   obtain ⟨ad_1, c_1, e_1, hl_1, hr_1, hc_1⟩ := Sli.at_ (h0.mono hM_1) hx_1
   clear hl_1
   obtain rfl : c_1 = [S x_1] := hr_1
   refine Y14 (v := .pointer (some (ad_1.add (s_1.toNat * 1)))) f (Y31 e_1 rfl (len := d0.length) (cap := cap0) (k := .i64) (i := s_1) (e := 9) (sz := 1) (getI_nn hx_1) (getI_lt hx_1)) fun _ f => ?_
   refine Y15 f p_1 hc_1 0 rfl fun _ f => ?_
   obtain ⟨x_2, hx_2, hF_4⟩ := bS hF_3
   refine Y18 f p_1 (tree_alone_1_ok n _ (GL.mono hM_1 hG) x_1 x_2 hx_2) fun w_2 p_2 _ f => ?_
   refine W_end rfl (T_n ?_)
   refine Y6 f (b := x_2) (fun h_2 => ?_) fun h_2 => ?_
   ·have hF_5 := cnd_t h_2 hF_4
    refine R_seq (R_reg ?_)
    refine Y19 f 2 fun _ f => ?_
    refine W_end rfl (T_n (wp_ret (B_r (T_r (T_r ?_)))))
    obtain rfl := sI hF_5
    exact .inl ⟨rfl, s_1, (sI hn_1).symm, M_1, hM_1, f.keep (ks := [4]) (by kernel_rfl), p_2⟩
   ·have hF_6 := cnd_f h_2 hF_4
    refine wp_skip (B_n (T_n (R_reg ?_)))
    obtain ⟨g_1, hF_7⟩ := nS hF_6
    refine Y19 f 1 fun _ f => ?_
    have f := Frm.set f 18 (v := .int .i64 (IntKind.wrap .i64 (s_1 + 1))) (v' := .int .i64 (s_1 + 1)) (by kernel_rfl) (congrArg (Value.int .i64) (inR_wrap g_1))
    refine Y19 f 1 fun _ f => ?_
    refine W_end rfl (T_n ?_)
    obtain rfl := sI hF_7
    exact ⟨⟨m_2, s_1 + 1⟩, Nat.lt_succ_self _, M_1, hM_1, hn_1, f.keep (ks := [0, 1, 7, 8]) (by kernel_rfl), p_2⟩
  ·have k_4 : ¬ (s_1 < ((d0.length : Nat) : Int)) := iff_f dI h_1
   have hF_8 := cnd_f h_1 hs_1
   refine wp_exit (T_x (T_x ?_))
   obtain rfl := sI hF_8
   exact .inr ⟨rfl, (), (sI hn_1).symm, M_1, hM_1, f.keep (ks := []) (by kernel_rfl), p_1⟩
 ·rintro _ _ w_5 (⟨rfl, y_1, rfl, M_2, hM_2, f, p_3⟩ | ⟨rfl, y_2, rfl, M_3, hM_3, f, p_4⟩)
  ·refine B_r (T_r ?_)
   refine E_ret1 f rfl (by kernel_rfl : Vc.look _ 4 = some (.int .i64 y_1)) ?_
   obtain rfl := sI hF_1
   exact ⟨_, rfl, M_2, hM_2, p_3, rfl⟩
  ·refine B_x (T_n (R_seq (R_reg ?_)))
   refine Y19 f 1 fun _ f => ?_
   refine W_end rfl (T_n (wp_ret ?_))
   refine E_ret1 f rfl (by kernel_rfl : Vc.look _ 4 = some (.int .i64 (-1))) ?_
   obtain rfl := sI hF_1
   exact ⟨_, rfl, M_3, hM_3, p_4, rfl⟩
def slices_ContainsFuncstring_string (n : Nat) (d0 : List (List UInt8)) : Option Bool :=
  (slices_IndexFuncstring_string n d0).bind fun x_1 =>
  some ((decide ((0 : Int) ≤ x_1)))
theorem slices_ContainsFuncstring_string_ok (n : Nat) (M : Mem) (hG : GL M) (A0 : Option Addr) (cap0 : Nat) (d0 : List (List UInt8)) (h0 : Sli M 1 Dat.str A0 cap0 d0) (r : Bool) (hF : slices_ContainsFuncstring_string n d0 = some r) : Ok Tryz.prog M 118 [.slice A0 d0.length cap0, .func (.func 119) #[] #[]] (fun _ v => v = .bool r) := by
 unfold slices_ContainsFuncstring_string at hF
 intro M1 hM0 w0 H w p0
 replace hG := GL.mono hM0 hG
 replace h0 := h0.mono hM0
 refine R_enter 9 Tryz.func118 rfl rfl (by simp) fun a0 f0 => ?_
 refine R_seq (R_reg ?_)
 refine Y19 f0 1 fun _ f => ?_
 refine W_end rfl (T_n (R_seq (R_reg ?_)))
 refine Y19 f 2 fun _ f => ?_
 obtain ⟨x_1, hx_1, hF_1⟩ := bS hF
 refine Y18 f p0 (slices_IndexFuncstring_string_ok n _ hG A0 cap0 d0 h0 x_1 hx_1) fun w_1 p_1 _ f => ?_
 refine Y19 f 2 fun _ f => ?_
 refine W_end rfl (T_n (wp_ret ?_))
 refine E_ret1 f rfl (by kernel_rfl : Vc.look _ 4 = some (.bool (decide ((0 : Int) ≤ x_1)))) ?_
 obtain rfl := sI hF_1
 exact ⟨_, rfl, M1, (mR _), p_1, rfl⟩
def tree_alone_s1 (n : Nat) (d0 : T_api_Value) (s_1 : Int × (List ((List UInt8) × Bool))) : Option (Lp (Int × (List ((List UInt8) × Bool))) (Sum (List ((List UInt8) × Bool)) (List ((List UInt8) × Bool)))) :=
    bif (decide (s_1.1 < ((d0.fKeys.length : Nat) : Int))) then
      ((getI d0.fKeys s_1.1).bind fun x_3 =>
      bif ((mget s_1.2 x_3).getD false) then
        (some (.br (.inl s_1.2)))
      else
        need (inR .i64 (s_1.1 + 1)) <|
        some (.nx (s_1.1 + 1, mput s_1.2 x_3 (true))))
    else
      some (.br (.inr s_1.2))
def tree_alone (n : Nat) (d0 : T_api_Value) : Option Int :=
  ((bif (decide (d0.fKind = 0)) then
      (some (.nx ((d0.fBool), d0.fNum, d0.fText, d0.fList, d0.fKeys)))
    else
      bif (decide (d0.fKind = 1)) then
        (some (.nx ((false), d0.fNum, d0.fText, d0.fList, d0.fKeys)))
      else
        bif (decide (d0.fKind = 2)) then
          (some (.nx ((d0.fBool), (0 : Int), d0.fText, d0.fList, d0.fKeys)))
        else
          bif (decide (d0.fKind = 3)) then
            (some (.nx ((d0.fBool), d0.fNum, ([] : List UInt8), d0.fList, d0.fKeys)))
          else
            bif (decide (d0.fKind = 4)) then
              (some (.nx ((d0.fBool), d0.fNum, d0.fText, ([] : List T_api_Value), d0.fKeys)))
            else
              bif (decide (d0.fKind = 5)) then
                (bif (!(decide (((d0.fKeys.length : Nat) : Int) = ((d0.fList.length : Nat) : Int)))) then
                  (((some ((2 : Int)) : Option Int)).map Lp.br)
                else
                  some (.nx ((d0.fBool), d0.fNum, d0.fText, ([] : List T_api_Value), ([] : List (List UInt8)))))
              else
                ((some ((2 : Int)) : Option Int)).map Lp.br : Option (Lp (Bool × Int × List UInt8 × List T_api_Value × List (List UInt8)) Int))).bind fun j => joinF j fun y_1 =>
  ((((bif y_1.1 then
        (some ((true)))
      else
        bif (!(decide (y_1.2.1 = 0))) then
          (some ((true)))
        else
          bif (!(decide (y_1.2.2.1 = []))) then
            (some ((true)))
          else
            need (inR .i64 (((y_1.2.2.2.1.length : Nat) : Int) + ((y_1.2.2.2.2.length : Nat) : Int))) <|
            some ((decide ((0 : Int) < (((y_1.2.2.2.1.length : Nat) : Int) + ((y_1.2.2.2.2.length : Nat) : Int))))) : Option Bool)).bind fun y_2 =>
    bif y_2 then
      (((some ((2 : Int)) : Option Int)).map Lp.br)
    else
      ((bif (decide (d0.fNum < (-9007199254740992))) then
          (some ((true)))
        else
          some ((decide ((9007199254740992 : Int) < d0.fNum))) : Option Bool)).bind fun y_3 =>
      bif y_3 then
        (((some ((20 : Int)) : Option Int)).map Lp.br)
      else
        (runes_Valid n d0.fText).bind fun x_1 =>
        bif !x_1 then
          (((some ((10 : Int)) : Option Int)).map Lp.br)
        else
          (slices_ContainsFuncstring_string n d0.fKeys).bind fun x_2 =>
          bif x_2 then
            (((some ((10 : Int)) : Option Int)).map Lp.br)
          else
            some (.nx ()) : Option (Lp Unit Int))).bind fun j => joinF j fun y_4 =>
  (loopF (tree_alone_s1 n d0) n ((0 : Int), ([] : List ((List UInt8) × Bool)))).bind fun b_2 =>
  (match b_2 with 
  | .inl y_5 => some ((41 : Int)) 
  | .inr y_6 => some ((0 : Int)))
set_option maxHeartbeats 2000000 in
theorem tree_alone_ok (n : Nat) (M : Mem) (hG : GL M) (ad0 : Addr) (c0 : List Value) (d0 : T_api_Value) (h0 : Rep M (emb_T_api_Value d0) c0) (q0 : ∀ j v, c0[j]? = some v → M.cell? (ad0.add j) = some v) (r : Int) (hF : tree_alone n d0 = some r) : Ok Tryz.prog M 104 [.pointer (some ad0)] (fun _ v => v = .int .i64 r) := by
 unfold tree_alone at hF
 intro M1 hM0 w0 H w p0
 replace hG := GL.mono hM0 hG
 replace h0 := Rep.mono hM0 _ _ h0
 replace q0 := fun j v h => hM0.cell (q0 j v h)
 obtain ⟨A_1, cap_1, A_2, cap_2, rfl, h_1, h_2⟩ := T_api_Value.opn h0
 refine R_enter 109 Tryz.func104 rfl rfl (by simp) fun a0 f0 => ?_
 refine R_seq (R_reg ?_)
 refine Y19 f0 1 fun _ f => ?_
 refine W_end rfl (T_n (R_seq (R_reg ?_)))
 refine Y19 f 2 fun _ f => ?_
 refine Y14 (v := .agg #[.int .i8 d0.fKind, .bool d0.fBool, .int .i64 d0.fNum, S d0.fText, .slice A_1 d0.fList.length cap_1, .slice A_2 d0.fKeys.length cap_2]) f (Y33 (cs := [.int .i8 d0.fKind, .bool d0.fBool, .int .i64 d0.fNum, S d0.fText, .slice A_1 d0.fList.length cap_1, .slice A_2 d0.fKeys.length cap_2]) rfl (ad := ad0) (fun j v h => p0.cell (q0 j v h))) fun _ f => ?_
 refine Y12 f p0 (.cells #[.int .i8 0, .bool false, .int .i64 0, S [], .slice none 0 0, .slice none 0 0] 76 (0, 0)) fun b_1 w_1 p_1 _ f => ?_
 refine Y27 (vs := [.int .i8 d0.fKind, .bool d0.fBool, .int .i64 d0.fNum, S d0.fText, .slice A_1 d0.fList.length cap_1, .slice A_2 d0.fKeys.length cap_2]) (j := 0) f p_1 rfl rfl (by simp [Value.oneCell', S]) (by simp) (by decide) (cs' := #[.int .i8 d0.fKind, .bool d0.fBool, .int .i64 d0.fNum, S d0.fText, .slice A_1 d0.fList.length cap_1, .slice A_2 d0.fKeys.length cap_2]) fun w_2 p_2 _ f => ?_
 refine W_end rfl (T_n (R_seq (R_seq (R_reg ?_))))
 refine Y19 f 3 fun _ f => ?_
 refine Y15 f p_2 q0 0 rfl fun _ f => ?_
 refine W_end rfl (T_n ?_)
 obtain ⟨j_1, hj_1, hF_1⟩ := bS hF
 refine R_mid (fun a_33 w_10 => ∃ y_1 : Bool × Int × List UInt8 × List T_api_Value × List (List UInt8), j_1 = .nx y_1 ∧ ∃ M_1 : Mem, M1.le M_1 ∧ ∃ (A_3 : Option Addr), ∃ (cap_3 : Nat), ∃ (A_4 : Option Addr), ∃ (cap_4 : Nat), Sli M_1 6 emb_T_api_Value A_3 cap_3 y_1.2.2.2.1 ∧ Sli M_1 1 Dat.str A_4 cap_4 y_1.2.2.2.2 ∧ Frm 109 [(0, .pointer (some ad0)), (3, .pointer (some (⟨b_1, 0, none⟩)))] a_33 ∧ Hp w0 M_1 ((Ent.obj b_1 (.cells #[.int .i8 d0.fKind, .bool y_1.1, .int .i64 y_1.2.1, S y_1.2.2.1, .slice A_3 y_1.2.2.2.1.length cap_3, .slice A_4 y_1.2.2.2.2.length cap_4] 76 (0, 0))) :: H) w_10) ?_ ?_
 ·refine wp_block (R_seq (R_reg ?_))
  refine Y19 f 2 fun _ f => ?_
  refine W_end rfl (T_n ?_)
  refine Y6 f (b := decide (d0.fKind = 0)) (fun h_3 => ?_) fun h_3 => ?_
  ·have k_1 : d0.fKind = 0 := dI.1 h_3
   have hF_2 := cnd_t h_3 hj_1
   refine wp_skip (B_n (T_n ?_))
   exact ⟨((d0.fBool), d0.fNum, d0.fText, d0.fList, d0.fKeys), (sI hF_2).symm, M1, (mR _), A_1, cap_1, A_2, cap_2, h_1, h_2, f.keep (ks := [0, 3]) (by kernel_rfl), p_2⟩
  ·have k_2 : ¬ (d0.fKind = 0) := iff_f dI h_3
   have hF_3 := cnd_f h_3 hj_1
   refine R_seq (R_reg ?_)
   refine Y19 f 2 fun _ f => ?_
   refine W_end rfl (T_n ?_)
   refine Y6 f (b := decide (d0.fKind = 1)) (fun h_4 => ?_) fun h_4 => ?_
   ·have k_3 : d0.fKind = 1 := dI.1 h_4
    have hF_4 := cnd_t h_4 hF_3
    refine R_reg ?_
    refine Y19 f 1 fun _ f => ?_
    refine Y26 f p_2 0 rfl rfl (b := b_1) (j := 1) (v := .bool false) rfl (by exact rfl) (by simp) (by simp) ((Ent.obj b_1 (.cells #[.int .i8 d0.fKind, .bool false, .int .i64 d0.fNum, S d0.fText, .slice A_1 d0.fList.length cap_1, .slice A_2 d0.fKeys.length cap_2] 76 (0, 0))) :: H) rfl fun w_3 p_3 _ f => ?_
    refine W_end rfl (B_n (T_n ?_))
    exact ⟨((false), d0.fNum, d0.fText, d0.fList, d0.fKeys), (sI hF_4).symm, M1, (mR _), A_1, cap_1, A_2, cap_2, h_1, h_2, f.keep (ks := [0, 3]) (by kernel_rfl), p_3⟩
   ·have k_4 : ¬ (d0.fKind = 1) := iff_f dI h_4
    have hF_5 := cnd_f h_4 hF_3
    refine R_seq (R_reg ?_)
    refine Y19 f 2 fun _ f => ?_
    refine W_end rfl (T_n ?_)
    refine Y6 f (b := decide (d0.fKind = 2)) (fun h_5 => ?_) fun h_5 => ?_
    ·have k_5 : d0.fKind = 2 := dI.1 h_5
     have hF_6 := cnd_t h_5 hF_5
     refine R_reg ?_
     refine Y19 f 1 fun _ f => ?_
     refine Y26 f p_2 0 rfl rfl (b := b_1) (j := 2) (v := .int .i64 0) rfl (by exact rfl) (by simp) (by simp) ((Ent.obj b_1 (.cells #[.int .i8 d0.fKind, .bool d0.fBool, .int .i64 0, S d0.fText, .slice A_1 d0.fList.length cap_1, .slice A_2 d0.fKeys.length cap_2] 76 (0, 0))) :: H) rfl fun w_4 p_4 _ f => ?_
     refine W_end rfl (B_n (T_n ?_))
     exact ⟨((d0.fBool), (0 : Int), d0.fText, d0.fList, d0.fKeys), (sI hF_6).symm, M1, (mR _), A_1, cap_1, A_2, cap_2, h_1, h_2, f.keep (ks := [0, 3]) (by kernel_rfl), p_4⟩
    ·have k_6 : ¬ (d0.fKind = 2) := iff_f dI h_5
     have hF_7 := cnd_f h_5 hF_5
     refine R_seq (R_reg ?_)
     refine Y19 f 2 fun _ f => ?_
     refine W_end rfl (T_n ?_)
     refine Y6 f (b := decide (d0.fKind = 3)) (fun h_6 => ?_) fun h_6 => ?_
     ·have k_7 : d0.fKind = 3 := dI.1 h_6
      have hF_8 := cnd_t h_6 hF_7
      refine R_reg ?_
      refine Y19 f 1 fun _ f => ?_
      refine Y26 f p_2 0 rfl rfl (b := b_1) (j := 3) (v := S []) rfl (by exact rfl) (by simp) (by simp) ((Ent.obj b_1 (.cells #[.int .i8 d0.fKind, .bool d0.fBool, .int .i64 d0.fNum, S [], .slice A_1 d0.fList.length cap_1, .slice A_2 d0.fKeys.length cap_2] 76 (0, 0))) :: H) rfl fun w_5 p_5 _ f => ?_
      refine W_end rfl (B_n (T_n ?_))
      exact ⟨((d0.fBool), d0.fNum, ([] : List UInt8), d0.fList, d0.fKeys), (sI hF_8).symm, M1, (mR _), A_1, cap_1, A_2, cap_2, h_1, h_2, f.keep (ks := [0, 3]) (by kernel_rfl), p_5⟩
     ·have k_8 : ¬ (d0.fKind = 3) := iff_f dI h_6
      have hF_9 := cnd_f h_6 hF_7
      refine R_seq (R_reg ?_)
      refine Y19 f 2 fun _ f => ?_
      refine W_end rfl (T_n ?_)
      refine Y6 f (b := decide (d0.fKind = 4)) (fun h_7 => ?_) fun h_7 => ?_
      ·have k_9 : d0.fKind = 4 := dI.1 h_7
       have hF_10 := cnd_t h_7 hF_9
       refine R_reg ?_
       refine Y19 f 1 fun _ f => ?_
       refine Y26 f p_2 0 rfl rfl (b := b_1) (j := 4) (v := .slice none 0 0) rfl (by exact rfl) (by simp) (by simp) ((Ent.obj b_1 (.cells #[.int .i8 d0.fKind, .bool d0.fBool, .int .i64 d0.fNum, S d0.fText, .slice none 0 0, .slice A_2 d0.fKeys.length cap_2] 76 (0, 0))) :: H) rfl fun w_6 p_6 _ f => ?_
       refine W_end rfl (B_n (T_n ?_))
       exact ⟨((d0.fBool), d0.fNum, d0.fText, ([] : List T_api_Value), d0.fKeys), (sI hF_10).symm, M1, (mR _), none, 0, A_2, cap_2, Sli.nil, h_2, f.keep (ks := [0, 3]) (by kernel_rfl), p_6⟩
      ·have k_10 : ¬ (d0.fKind = 4) := iff_f dI h_7
       have hF_11 := cnd_f h_7 hF_9
       refine R_seq (R_reg ?_)
       refine Y19 f 2 fun _ f => ?_
       refine W_end rfl (T_n ?_)
       refine Y6 f (b := decide (d0.fKind = 5)) (fun h_8 => ?_) fun h_8 => ?_
       ·have k_11 : d0.fKind = 5 := dI.1 h_8
        have hF_12 := cnd_t h_8 hF_11
        refine R_seq (R_seq ?_)
        refine R_draw p_2 (by kernel_rfl) (by kernel_rfl) ?_
        refine Y5 default f 3 fun _ f => ?_
        refine Y4 f q0 5 rfl fun _ f => ?_
        refine Y5 default f 4 fun _ f => ?_
        refine Y4 f q0 4 rfl fun _ f => ?_
        refine Y5 default f 2 fun _ f => ?_
        refine Q_end rfl ?_
        intro w_7 p_7
        refine T_n ?_
        refine Y6 f (b := !(decide (((d0.fKeys.length : Nat) : Int) = ((d0.fList.length : Nat) : Int)))) (fun h_9 => ?_) fun h_9 => ?_
        ·have k_12 : ¬ (((d0.fKeys.length : Nat) : Int) = ((d0.fList.length : Nat) : Int)) := (not_iff dI).1 h_9
         have hF_13 := cnd_t h_9 hF_12
         refine R_seq (R_reg ?_)
         refine Y19 f 1 fun _ f => ?_
         refine W_end rfl (T_n (wp_ret (T_r (B_r ?_))))
         have hF_14 := br_elim hF_13 hF_1
         refine T_r (T_r ?_)
         refine E_ret1 f rfl (by kernel_rfl : Vc.look _ 2 = some (.int .i64 2)) ?_
         obtain rfl := sI hF_14
         exact ⟨_, rfl, M1, (mR _), (p_7.dropN 1), rfl⟩
        ·have k_13 : ¬ (¬ (((d0.fKeys.length : Nat) : Int) = ((d0.fList.length : Nat) : Int))) := iff_f (not_iff dI) h_9
         have hF_15 := cnd_f h_9 hF_12
         refine wp_skip (T_n (R_reg ?_))
         refine Y19 f 1 fun _ f => ?_
         refine Y26 f p_7 0 rfl rfl (b := b_1) (j := 4) (v := .slice none 0 0) rfl (by exact rfl) (by simp) (by simp) ((Ent.obj b_1 (.cells #[.int .i8 d0.fKind, .bool d0.fBool, .int .i64 d0.fNum, S d0.fText, .slice none 0 0, .slice A_2 d0.fKeys.length cap_2] 76 (0, 0))) :: H) rfl fun w_8 p_8 _ f => ?_
         refine Y19 f 1 fun _ f => ?_
         refine Y26 f p_8 0 rfl rfl (b := b_1) (j := 5) (v := .slice none 0 0) rfl (by exact rfl) (by simp) (by simp) ((Ent.obj b_1 (.cells #[.int .i8 d0.fKind, .bool d0.fBool, .int .i64 d0.fNum, S d0.fText, .slice none 0 0, .slice none 0 0] 76 (0, 0))) :: H) rfl fun w_9 p_9 _ f => ?_
         refine W_end rfl (B_n (T_n ?_))
         exact ⟨((d0.fBool), d0.fNum, d0.fText, ([] : List T_api_Value), ([] : List (List UInt8))), (sI hF_15).symm, M1, (mR _), none, 0, none, 0, Sli.nil, Sli.nil, f.keep (ks := [0, 3]) (by kernel_rfl), p_9⟩
       ·have k_14 : ¬ (d0.fKind = 5) := iff_f dI h_8
        have hF_16 := cnd_f h_8 hF_11
        refine R_seq (R_reg ?_)
        refine Y19 f 1 fun _ f => ?_
        refine W_end rfl (T_n (wp_ret (B_r ?_)))
        have hF_17 := br_elim hF_16 hF_1
        refine T_r (T_r ?_)
        refine E_ret1 f rfl (by kernel_rfl : Vc.look _ 2 = some (.int .i64 2)) ?_
        obtain rfl := sI hF_17
        exact ⟨_, rfl, M1, (mR _), (p_2.dropN 1), rfl⟩
 ·rintro a_33 w_10 ⟨y_1, rfl, M_1, hM_1, A_3, cap_3, A_4, cap_4, h_10, h_11, f, p_10⟩
  refine T_n (R_seq (R_reg ?_))
  refine W_newmap S Value.bool f p_10 (by kernel_rfl) (by kernel_rfl) rfl rfl rfl fun bm_1 w_11 p_11 _ f => ?_
  refine Y19 f 1 fun _ f => ?_
  refine W_end rfl (T_n (R_seq ?_))
  obtain ⟨j_2, hj_2, hF_18⟩ := bS hF_1
  refine R_mid (fun a_78 w_16 => ∃ y_4 : Unit, j_2 = .nx y_4 ∧ ∃ M_4 : Mem, M_1.le M_4 ∧ Frm 109 [(0, .pointer (some ad0)), (4, .map (some bm_1))] a_78 ∧ Hp w0 M_4 ((Ent.obj bm_1 (mapO S Value.bool ([] : List ((List UInt8) × Bool)))) :: (Ent.obj b_1 (.cells #[.int .i8 d0.fKind, .bool y_1.1, .int .i64 y_1.2.1, S y_1.2.2.1, .slice A_3 y_1.2.2.2.1.length cap_3, .slice A_4 y_1.2.2.2.2.length cap_4] 76 (0, 0))) :: H) w_16) ?_ ?_
  ·refine wp_block (R_seq ?_)
   obtain ⟨j_3, hj_3, hF_19⟩ := bS hj_2
   refine R_mid (fun a_56 w_12 => ∃ y_2 : Bool, j_3 = y_2 ∧ ∃ M_2 : Mem, M_1.le M_2 ∧ Frm 109 [(0, .pointer (some ad0)), (4, .map (some bm_1)), (44, .bool y_2)] a_56 ∧ Hp w0 M_2 ((Ent.obj bm_1 (mapO S Value.bool ([] : List ((List UInt8) × Bool)))) :: (Ent.obj b_1 (.cells #[.int .i8 d0.fKind, .bool y_1.1, .int .i64 y_1.2.1, S y_1.2.2.1, .slice A_3 y_1.2.2.2.1.length cap_3, .slice A_4 y_1.2.2.2.2.length cap_4] 76 (0, 0))) :: H) w_12) ?_ ?_
   ·refine R_reg ?_
    refine Y19 f 1 fun _ f => ?_
    refine Y14 (v := .bool y_1.1) f (Y32 (v := .bool y_1.1) rfl (ad := ⟨b_1, 1, none⟩) (p_11.ownCell 1 rfl 1)) fun _ f => ?_
    refine Y19 f 1 fun _ f => ?_
    rcases bE (y_1.1) with h_12 | h_12
    ·have hF_20 := cnd_t h_12 hj_3
     have f := Frm.set f 47 (v := .bool y_1.1) (v' := .bool true) (by kernel_rfl) (cB h_12)
     refine Y19 f 20 fun _ f => ?_
     refine W_end rfl (T_n ?_)
     exact ⟨(true), (sI hF_20).symm, M_1, (mR _), f.keep (ks := [0, 4, 44]) (by kernel_rfl), p_11⟩
    ·have hF_21 := cnd_f h_12 hj_3
     have f := Frm.set f 47 (v := .bool y_1.1) (v' := .bool false) (by kernel_rfl) (cB h_12)
     refine Y19 f 1 fun _ f => ?_
     refine Y14 (v := .int .i64 y_1.2.1) f (Y32 (v := .int .i64 y_1.2.1) rfl (ad := ⟨b_1, 2, none⟩) (p_11.ownCell 1 rfl 2)) fun _ f => ?_
     refine Y19 f 3 fun _ f => ?_
     rcases bE (!(decide (y_1.2.1 = 0))) with h_13 | h_13
     ·have k_17 : ¬ (y_1.2.1 = 0) := (not_iff dI).1 h_13
      have hF_22 := cnd_t h_13 hF_21
      have f := Frm.set f 52 (v := .bool (!(decide (y_1.2.1 = 0)))) (v' := .bool true) (by kernel_rfl) (cB h_13)
      refine Y19 f 15 fun _ f => ?_
      refine W_end rfl (T_n ?_)
      exact ⟨(true), (sI hF_22).symm, M_1, (mR _), f.keep (ks := [0, 4, 44]) (by kernel_rfl), p_11⟩
     ·have k_18 : ¬ (¬ (y_1.2.1 = 0)) := iff_f (not_iff dI) h_13
      have hF_23 := cnd_f h_13 hF_21
      have f := Frm.set f 52 (v := .bool (!(decide (y_1.2.1 = 0)))) (v' := .bool false) (by kernel_rfl) (cB h_13)
      refine Y19 f 1 fun _ f => ?_
      refine Y14 (v := S y_1.2.2.1) f (Y32 (v := S y_1.2.2.1) rfl (ad := ⟨b_1, 3, none⟩) (p_11.ownCell 1 rfl 3)) fun _ f => ?_
      refine Y14 (v := .bool (!(decide (y_1.2.2.1 = [])))) f (Y39 rfl (l := y_1.2.2.1) (m := [])) fun _ f => ?_
      refine Y19 f 2 fun _ f => ?_
      rcases bE (!(decide (y_1.2.2.1 = []))) with h_14 | h_14
      ·have k_19 : ¬ (y_1.2.2.1 = []) := (not_iff dI).1 h_14
       have hF_24 := cnd_t h_14 hF_23
       have f := Frm.set f 57 (v := .bool (!(decide (y_1.2.2.1 = [])))) (v' := .bool true) (by kernel_rfl) (cB h_14)
       refine Y19 f 10 fun _ f => ?_
       refine W_end rfl (T_n ?_)
       exact ⟨(true), (sI hF_24).symm, M_1, (mR _), f.keep (ks := [0, 4, 44]) (by kernel_rfl), p_11⟩
      ·have k_20 : ¬ (¬ (y_1.2.2.1 = [])) := iff_f (not_iff dI) h_14
       have hF_25 := cnd_f h_14 hF_23
       have f := Frm.set f 57 (v := .bool (!(decide (y_1.2.2.1 = [])))) (v' := .bool false) (by kernel_rfl) (cB h_14)
       refine Y19 f 1 fun _ f => ?_
       refine Y14 (v := .slice A_3 y_1.2.2.2.1.length cap_3) f (Y32 (v := .slice A_3 y_1.2.2.2.1.length cap_3) rfl (ad := ⟨b_1, 4, none⟩) (p_11.ownCell 1 rfl 4)) fun _ f => ?_
       refine Y19 f 2 fun _ f => ?_
       refine Y14 (v := .slice A_4 y_1.2.2.2.2.length cap_4) f (Y32 (v := .slice A_4 y_1.2.2.2.2.length cap_4) rfl (ad := ⟨b_1, 5, none⟩) (p_11.ownCell 1 rfl 5)) fun _ f => ?_
       refine Y19 f 1 fun _ f => ?_
       obtain ⟨g_1, hF_26⟩ := nS hF_25
       refine Y19 f 1 fun _ f => ?_
       have f := Frm.set f 64 (v := .int .i64 (IntKind.wrap .i64 (((y_1.2.2.2.1.length : Nat) : Int) + ((y_1.2.2.2.2.length : Nat) : Int)))) (v' := .int .i64 (((y_1.2.2.2.1.length : Nat) : Int) + ((y_1.2.2.2.2.length : Nat) : Int))) (by kernel_rfl) (congrArg (Value.int .i64) (inR_wrap g_1))
       refine Y19 f 3 fun _ f => ?_
       refine W_end rfl (T_n ?_)
       exact ⟨(decide ((0 : Int) < (((y_1.2.2.2.1.length : Nat) : Int) + ((y_1.2.2.2.2.length : Nat) : Int)))), (sI hF_26).symm, M_1, (mR _), f.keep (ks := [0, 4, 44]) (by kernel_rfl), p_11⟩
   ·rintro a_56 w_12 ⟨y_2, hq_2, M_2, hM_2, f, p_12⟩
    subst j_3
    refine T_n ?_
    refine Y6 f (b := y_2) (fun h_15 => ?_) fun h_15 => ?_
    ·have hF_27 := cnd_t h_15 hF_19
     refine R_seq (R_reg ?_)
     refine Y19 f 1 fun _ f => ?_
     refine W_end rfl (T_n (wp_ret (B_r ?_)))
     have hF_28 := br_elim hF_27 hF_18
     refine T_r (T_r ?_)
     refine E_ret1 f rfl (by kernel_rfl : Vc.look _ 2 = some (.int .i64 2)) ?_
     obtain rfl := sI hF_28
     exact ⟨_, rfl, M_2, (hM_1.trans hM_2), (p_12.dropN 2), rfl⟩
    ·have hF_29 := cnd_f h_15 hF_19
     refine R_seq ?_
     obtain ⟨j_4, hj_4, hF_30⟩ := bS hF_29
     refine R_mid (fun a_65 w_13 => ∃ y_3 : Bool, j_4 = y_3 ∧ ∃ M_3 : Mem, M_2.le M_3 ∧ Frm 109 [(0, .pointer (some ad0)), (4, .map (some bm_1)), (67, .bool y_3)] a_65 ∧ Hp w0 M_3 ((Ent.obj bm_1 (mapO S Value.bool ([] : List ((List UInt8) × Bool)))) :: (Ent.obj b_1 (.cells #[.int .i8 d0.fKind, .bool y_1.1, .int .i64 y_1.2.1, S y_1.2.2.1, .slice A_3 y_1.2.2.2.1.length cap_3, .slice A_4 y_1.2.2.2.2.length cap_4] 76 (0, 0))) :: H) w_13) ?_ ?_
     ·refine R_reg ?_
      refine Y19 f 3 fun _ f => ?_
      refine Y15 f p_12 (fzu (hM_1.trans hM_2) q0) 2 rfl fun _ f => ?_
      refine Y19 f 2 fun _ f => ?_
      rcases bE (decide (d0.fNum < (-9007199254740992))) with h_16 | h_16
      ·have k_23 : d0.fNum < (-9007199254740992) := dI.1 h_16
       have hF_31 := cnd_t h_16 hj_4
       have f := Frm.set f 73 (v := .bool (decide (d0.fNum < (-9007199254740992)))) (v' := .bool true) (by kernel_rfl) (cB h_16)
       refine Y19 f 7 fun _ f => ?_
       refine W_end rfl (T_n ?_)
       exact ⟨(true), (sI hF_31).symm, M_2, (mR _), f.keep (ks := [0, 4, 67]) (by kernel_rfl), p_12⟩
      ·have k_24 : ¬ (d0.fNum < (-9007199254740992)) := iff_f dI h_16
       have hF_32 := cnd_f h_16 hj_4
       have f := Frm.set f 73 (v := .bool (decide (d0.fNum < (-9007199254740992)))) (v' := .bool false) (by kernel_rfl) (cB h_16)
       refine Y19 f 3 fun _ f => ?_
       refine Y15 f p_12 (fzu (hM_1.trans hM_2) q0) 2 rfl fun _ f => ?_
       refine Y19 f 3 fun _ f => ?_
       refine W_end rfl (T_n ?_)
       exact ⟨(decide ((9007199254740992 : Int) < d0.fNum)), (sI hF_32).symm, M_2, (mR _), f.keep (ks := [0, 4, 67]) (by kernel_rfl), p_12⟩
     ·rintro a_65 w_13 ⟨y_3, hq_3, M_3, hM_3, f, p_13⟩
      subst j_4
      refine T_n ?_
      refine Y6 f (b := y_3) (fun h_17 => ?_) fun h_17 => ?_
      ·have hF_33 := cnd_t h_17 hF_30
       refine R_seq (R_reg ?_)
       refine Y19 f 1 fun _ f => ?_
       refine W_end rfl (T_n (wp_ret (B_r ?_)))
       have hF_34 := br_elim hF_33 hF_18
       refine T_r (T_r ?_)
       refine E_ret1 f rfl (by kernel_rfl : Vc.look _ 2 = some (.int .i64 20)) ?_
       obtain rfl := sI hF_34
       exact ⟨_, rfl, M_3, ((hM_1.trans hM_2).trans hM_3), (p_13.dropN 2), rfl⟩
      ·have hF_35 := cnd_f h_17 hF_30
       refine R_seq (R_reg ?_)
       refine Y19 f 3 fun _ f => ?_
       refine Y15 f p_13 (fzu ((hM_1.trans hM_2).trans hM_3) q0) 3 rfl fun _ f => ?_
       obtain ⟨x_1, hx_1, hF_36⟩ := bS hF_35
       refine Y18 f p_13 (runes_Valid_ok n _ (GL.mono ((hM_1.trans hM_2).trans hM_3) hG) d0.fText x_1 hx_1) fun w_14 p_14 _ f => ?_
       refine Y19 f 2 fun _ f => ?_
       rcases bE (!x_1) with h_18 | h_18
       ·have k_27 : (x_1) = false := by simpa using h_18
        have hF_37 := cnd_t h_18 hF_36
        have f := Frm.set f 87 (v := .bool !x_1) (v' := .bool true) (by kernel_rfl) (cB h_18)
        refine Y19 f 7 fun _ f => ?_
        refine W_end rfl (T_n ?_)
        refine Y8 f ?_
        refine R_seq (R_reg ?_)
        refine Y19 f 1 fun _ f => ?_
        refine W_end rfl (T_n (wp_ret (B_r ?_)))
        have hF_38 := br_elim hF_37 hF_18
        refine T_r (T_r ?_)
        refine E_ret1 f rfl (by kernel_rfl : Vc.look _ 2 = some (.int .i64 10)) ?_
        obtain rfl := sI hF_38
        exact ⟨_, rfl, M_3, ((hM_1.trans hM_2).trans hM_3), (p_14.dropN 2), rfl⟩
       ·have k_28 : (x_1) = true := by simpa using h_18
        have hF_39 := cnd_f h_18 hF_36
        have f := Frm.set f 87 (v := .bool !x_1) (v' := .bool false) (by kernel_rfl) (cB h_18)
        refine Y19 f 3 fun _ f => ?_
        refine Y15 f p_14 (fzu ((hM_1.trans hM_2).trans hM_3) q0) 5 rfl fun _ f => ?_
        obtain ⟨x_2, hx_2, hF_40⟩ := bS hF_39
        refine Y18 f p_14 (slices_ContainsFuncstring_string_ok n _ (GL.mono ((hM_1.trans hM_2).trans hM_3) hG) A_2 cap_2 d0.fKeys (h_2.mono ((hM_1.trans hM_2).trans hM_3)) x_2 hx_2) fun w_15 p_15 _ f => ?_
        refine Y19 f 2 fun _ f => ?_
        refine W_end rfl (T_n ?_)
        refine Y6 f (b := x_2) (fun h_19 => ?_) fun h_19 => ?_
        ·have hF_41 := cnd_t h_19 hF_40
         refine R_seq (R_reg ?_)
         refine Y19 f 1 fun _ f => ?_
         refine W_end rfl (T_n (wp_ret (B_r ?_)))
         have hF_42 := br_elim hF_41 hF_18
         refine T_r (T_r ?_)
         refine E_ret1 f rfl (by kernel_rfl : Vc.look _ 2 = some (.int .i64 10)) ?_
         obtain rfl := sI hF_42
         exact ⟨_, rfl, M_3, ((hM_1.trans hM_2).trans hM_3), (p_15.dropN 2), rfl⟩
        ·have hF_43 := cnd_f h_19 hF_40
         refine wp_skip (B_n (T_n ?_))
         exact ⟨(), (sI hF_43).symm, M_3, (hM_2.trans hM_3), f.keep (ks := [0, 4]) (by kernel_rfl), p_15⟩
  ·rintro a_78 w_16 ⟨y_4, rfl, M_4, hM_4, f, p_16⟩
   refine T_n (R_seq (R_seq (R_reg ?_)))
   refine Y19 f 3 fun _ f => ?_
   refine Y15 f p_16 (fzu (hM_1.trans hM_4) q0) 5 rfl fun _ f => ?_
   refine Y19 f 2 fun _ f => ?_
   refine W_end rfl (T_n (wp_block ?_))
   obtain ⟨b_2, hL_1, hF_44⟩ := bS hF_18
   refine wp_mono (Q := fun e a w => (e = .ret ∧ (∃ y_5 : (List ((List UInt8) × Bool)), b_2 = .inl y_5 ∧ ∃ M_6 : Mem, M_4.le M_6 ∧ Frm 109 [(2, .int .i64 41)] a ∧ Hp w0 M_6 ((Ent.obj bm_1 (mapO S Value.bool y_5)) :: (Ent.obj b_1 (.cells #[.int .i8 d0.fKind, .bool y_1.1, .int .i64 y_1.2.1, S y_1.2.2.1, .slice A_3 y_1.2.2.2.1.length cap_3, .slice A_4 y_1.2.2.2.2.length cap_4] 76 (0, 0))) :: H) w)) ∨ (e = .exit 2 ∧ (∃ y_6 : (List ((List UInt8) × Bool)), b_2 = .inr y_6 ∧ ∃ M_7 : Mem, M_4.le M_7 ∧ Frm 109 [] a ∧ Hp w0 M_7 ((Ent.obj bm_1 (mapO S Value.bool y_6)) :: (Ent.obj b_1 (.cells #[.int .i8 d0.fKind, .bool y_1.1, .int .i64 y_1.2.1, S y_1.2.2.1, .slice A_3 y_1.2.2.2.1.length cap_3, .slice A_4 y_1.2.2.2.2.length cap_4] 76 (0, 0))) :: H) w))) (R_loop (n := 109) (w0 := w0) (M := M_4) (fun (x : Nat × (Int × (List ((List UInt8) × Bool)))) => match x with | (m_1, s_1) => [(4, .map (some bm_1)), (97, .slice A_2 d0.fKeys.length cap_2), (98, .int .i64 ((d0.fKeys.length : Nat) : Int)), (99, .int .i64 s_1.1)]) (fun (x : Nat × (Int × (List ((List UInt8) × Bool)))) => match x with | (m_1, s_1) => ((Ent.obj bm_1 (mapO S Value.bool s_1.2)) :: (Ent.obj b_1 (.cells #[.int .i8 d0.fKind, .bool y_1.1, .int .i64 y_1.2.1, S y_1.2.2.1, .slice A_3 y_1.2.2.2.1.length cap_3, .slice A_4 y_1.2.2.2.2.length cap_4] 76 (0, 0))) :: H)) (fun (x : Nat × (Int × (List ((List UInt8) × Bool)))) (MM : Mem) => match x with | (m_1, s_1) => loopF (tree_alone_s1 n d0) m_1 s_1 = some b_2) (fun (x : Nat × (Int × (List ((List UInt8) × Bool)))) => match x with | (m_1, s_1) => m_1) (n, ((0 : Int), ([] : List ((List UInt8) × Bool)))) (f.keep (ks := [4, 97, 98, 99]) (by kernel_rfl)) p_16 hL_1 ?_) ?_
   ·rintro ⟨m_1, s_1⟩ M_5 _ w_17 hM_5 I_1 f p_17
    have I_1L := I_1
    obtain ⟨m_2, r_1, rfl, hs_1, hn_1⟩ := loop_step I_1L
    unfold tree_alone_s1 at hs_1
    refine R_seq (R_reg ?_)
    refine Y19 f 1 fun _ f => ?_
    refine W_end rfl (T_n (R_seq ?_))
    refine Y6 f (b := decide (s_1.1 < ((d0.fKeys.length : Nat) : Int))) (fun h_20 => ?_) fun h_20 => ?_
    ·have k_31 : s_1.1 < ((d0.fKeys.length : Nat) : Int) := dI.1 h_20
     have hF_45 := cnd_t h_20 hs_1
     refine wp_skip (T_n (R_seq (wp_block (R_seq (R_reg ?_)))))
     obtain ⟨x_3, hx_3, hF_46⟩ := bS hF_45
     obtain ⟨ad_1, c_1, e_1, hl_1, hr_1, hc_1⟩ := Sli.at_ (h_2.mono ((hM_1.trans hM_4).trans hM_5)) hx_3
     clear hl_1
     obtain rfl : c_1 = [S x_3] := hr_1
     refine Y14 (v := .pointer (some (ad_1.add (s_1.1.toNat * 1)))) f (Y31 e_1 rfl (len := d0.fKeys.length) (cap := cap_2) (k := .i64) (i := s_1.1) (e := 9) (sz := 1) (getI_nn hx_3) (getI_lt hx_3)) fun _ f => ?_
     refine Y15 f p_17 hc_1 0 rfl fun _ f => ?_
     refine Y19 f 1 fun _ f => ?_
     refine W_end rfl (T_n (R_seq (R_seq (R_reg ?_))))
     refine Y19 f 2 fun _ f => ?_
     refine Y14 (v := .bool ((mget s_1.2 x_3).getD false)) f (Y34 (ek := S) (ev := Value.bool) (m := s_1.2) (k := x_3) (z := false) (kt := 9) (et := 4) rfl (strKey (by kernel_rfl)) (p_17.ownObj 0 rfl)) fun _ f => ?_
     refine W_end rfl (T_n ?_)
     refine Y6 f (b := (mget s_1.2 x_3).getD false) (fun h_21 => ?_) fun h_21 => ?_
     ·have hF_47 := cnd_t h_21 hF_46
      refine R_seq (R_reg ?_)
      refine Y19 f 1 fun _ f => ?_
      refine W_end rfl (T_n (wp_ret (T_r (B_r (T_r (T_r ?_))))))
      obtain rfl := sI hF_47
      exact .inl ⟨rfl, s_1.2, (sI hn_1).symm, M_5, hM_5, f.keep (ks := [2]) (by kernel_rfl), p_17⟩
     ·have hF_48 := cnd_f h_21 hF_46
      refine wp_skip (T_n (R_reg ?_))
      refine Y19 f 2 fun _ f => ?_
      refine Y24 (ek := S) (ev := Value.bool) (m := s_1.2) (k := x_3) (v := (true)) (kt := 9) (et := 4) f p_17 rfl (.inl rfl) (strKey (by kernel_rfl)) fun w_18 p_18 _ f => ?_
      refine W_end rfl (B_n (T_n (R_reg ?_)))
      obtain ⟨g_2, hF_49⟩ := nS hF_48
      refine Y19 f 1 fun _ f => ?_
      have f := Frm.set f 108 (v := .int .i64 (IntKind.wrap .i64 (s_1.1 + 1))) (v' := .int .i64 (s_1.1 + 1)) (by kernel_rfl) (congrArg (Value.int .i64) (inR_wrap g_2))
      refine Y19 f 1 fun _ f => ?_
      refine W_end rfl (T_n ?_)
      obtain rfl := sI hF_49
      exact ⟨⟨m_2, (s_1.1 + 1, mput s_1.2 x_3 (true))⟩, Nat.lt_succ_self _, M_5, hM_5, hn_1, f.keep (ks := [4, 97, 98, 99]) (by kernel_rfl), p_18⟩
    ·have k_34 : ¬ (s_1.1 < ((d0.fKeys.length : Nat) : Int)) := iff_f dI h_20
     have hF_50 := cnd_f h_20 hs_1
     refine wp_exit (T_x (T_x ?_))
     obtain rfl := sI hF_50
     exact .inr ⟨rfl, s_1.2, (sI hn_1).symm, M_5, hM_5, f.keep (ks := []) (by kernel_rfl), p_17⟩
   ·rintro _ _ w_21 (⟨rfl, y_5, rfl, M_6, hM_6, f, p_19⟩ | ⟨rfl, y_6, rfl, M_7, hM_7, f, p_20⟩)
    ·refine B_r (T_r ?_)
     refine E_ret1 f rfl (by kernel_rfl : Vc.look _ 2 = some (.int .i64 41)) ?_
     obtain rfl := sI hF_44
     exact ⟨_, rfl, M_6, ((hM_1.trans hM_4).trans hM_6), (p_19.dropN 2), rfl⟩
    ·refine B_x (T_n (R_seq (R_reg ?_)))
     refine Y19 f 1 fun _ f => ?_
     refine W_end rfl (T_n (wp_ret ?_))
     refine E_ret1 f rfl (by kernel_rfl : Vc.look _ 2 = some (.int .i64 0)) ?_
     obtain rfl := sI hF_44
     exact ⟨_, rfl, M_7, ((hM_1.trans hM_4).trans hM_7), (p_20.dropN 2), rfl⟩
def tree_Check_s1 (n : Nat) (s_1 : Int) (x_2 : T_api_Value) : Option (Lp Int (Int × Int)) :=
    (tree_alone n x_2).bind fun x_3 =>
    bif (!(decide (x_3 = 0))) then
      (some (.br (s_1, x_3)))
    else
      need (inR .i64 (s_1 + 1)) <|
      some (.nx (s_1 + 1))
def tree_Check (n : Nat) (d0 : T_api_Value) : Option Int :=
  (tree_depth n d0 (24 : Int)).bind fun x_1 =>
  bif (decide ((24 : Int) < x_1)) then
    (some ((30 : Int)))
  else
    need ((walkV d0).length ≤ 9223372036854775806) <|
    (foldY (tree_Check_s1 n) (walkV d0) (0 : Int)).bind fun j_1 =>
    (match j_1 with 
    | .nx s_2 => bif (decide ((4096 : Int) < s_2)) then
        (some ((3 : Int)))
      else
        some ((0 : Int)) 
    | .br b_5 => some (b_5.2))
set_option maxHeartbeats 2000000 in
theorem tree_Check_ok (n : Nat) (M : Mem) (hG : GL M) (c0 : List Value) (d0 : T_api_Value) (h0 : Rep M (emb_T_api_Value d0) c0) (r : Int) (hF : tree_Check n d0 = some r) : Ok Tryz.prog M 82 [.agg c0.toArray] (fun _ v => v = .int .i64 r) := by
 unfold tree_Check at hF
 intro M1 hM0 w0 H w p0
 replace hG := GL.mono hM0 hG
 replace h0 := Rep.mono hM0 _ _ h0
 obtain ⟨A_1, cap_1, A_2, cap_2, rfl, h_1, h_2⟩ := T_api_Value.opn h0
 refine R_enterM 19 Tryz.func82 rfl rfl (by simp) fun a0 f0 => ?_
 refine R_seq (R_reg ?_)
 refine Y13 (cs := #[.int .i8 d0.fKind, .bool d0.fBool, .int .i64 d0.fNum, S d0.fText, .slice A_1 d0.fList.length cap_1, .slice A_2 d0.fKeys.length cap_2]) (T := 76) f0 p0 fun b_1 M_1 w_1 hM_1 hc_1 p_1 _ f => ?_
 have hc_2 := fz_box hc_1
 refine Y12 f p_1 (.cells #[.int .i64 0] 28 (0, 0)) fun b_2 w_2 p_2 _ f => ?_
 refine W_end rfl (T_n (R_seq (R_seq (R_reg ?_))))
 obtain ⟨x_1, hx_1, hF_1⟩ := bS hF
 refine Y18 f p_2 (tree_depth_ok n _ (⟨b_1, 0, none⟩) [.int .i8 d0.fKind, .bool d0.fBool, .int .i64 d0.fNum, S d0.fText, .slice A_1 d0.fList.length cap_1, .slice A_2 d0.fKeys.length cap_2] d0 (T_api_Value.shutx (x := d0) (h_1.mono hM_1) (h_2.mono hM_1)) (fz_at (hc_2) 0 rfl) (24 : Int) x_1 hx_1) fun w_3 p_3 _ f => ?_
 refine Y19 f 1 fun _ f => ?_
 refine W_end rfl (T_n ?_)
 refine Y6 f (b := decide ((24 : Int) < x_1)) (fun h_3 => ?_) fun h_3 => ?_
 ·have k_1 : (24 : Int) < x_1 := dI.1 h_3
  have hF_2 := cnd_t h_3 hF_1
  refine R_seq (R_reg ?_)
  refine Y26 f p_3 0 rfl rfl (b := b_2) (j := 0) (v := .int .i64 30) rfl (by exact rfl) (by simp) (by simp) ((Ent.obj b_2 (.cells #[.int .i64 30] 28 (0, 0))) :: H) rfl fun w_4 p_4 _ f => ?_
  refine W_end rfl (T_n (wp_ret (T_r ?_)))
  refine E_M0 f ?_
  refine V_rv1 rfl (Y9 (v := .int .i64 30) (ad := ⟨b_2, 0, none⟩) f (p_4.ownCell 0 rfl 0)) ?_
  obtain rfl := sI hF_2
  exact ⟨_, rfl, M_1, hM_1, (p_4.dropN 1), rfl⟩
 ·have k_2 : ¬ ((24 : Int) < x_1) := iff_f dI h_3
  have hF_3 := cnd_f h_3 hF_1
  refine wp_skip (T_n (R_seq (R_reg ?_)))
  refine Y12 f p_3 (.cells #[.int .i64 0] 3 (0, 0)) fun b_3 w_5 p_5 _ f => ?_
  refine Y26 f p_5 0 rfl rfl (b := b_3) (j := 0) (v := .int .i64 0) rfl (by exact rfl) (by simp) (by simp) ((Ent.obj b_3 (.cells #[.int .i64 0] 3 (0, 0))) :: (Ent.obj b_2 (.cells #[.int .i64 0] 28 (0, 0))) :: H) rfl fun w_6 p_6 _ f => ?_
  refine W_end rfl (T_n (R_seq (R_seq (R_reg ?_))))
  refine Y14 (v := .agg #[.int .i8 d0.fKind, .bool d0.fBool, .int .i64 d0.fNum, S d0.fText, .slice A_1 d0.fList.length cap_1, .slice A_2 d0.fKeys.length cap_2]) f (Y33 (cs := [.int .i8 d0.fKind, .bool d0.fBool, .int .i64 d0.fNum, S d0.fText, .slice A_1 d0.fList.length cap_1, .slice A_2 d0.fKeys.length cap_2]) rfl (ad := ⟨b_1, 0, none⟩) (fun j v h => p_6.cell (hc_2 j v h))) fun _ f => ?_
  obtain ⟨g_1, hF_4⟩ := nS hF_3
  refine Y16 f p_6 (walk_ok d0 g_1 _ [.int .i8 d0.fKind, .bool d0.fBool, .int .i64 d0.fNum, S d0.fText, .slice A_1 d0.fList.length cap_1, .slice A_2 d0.fKeys.length cap_2] (T_api_Value.shutx (x := d0) (h_1.mono hM_1) (h_2.mono hM_1))) fun _ M_2 w_7 hM_2 p_7 q_1 a_9 f => ?_
  obtain ⟨fv_1, cp_1, rfl, hit_1⟩ := q_1
  refine W_end rfl (T_n (wp_block ?_))
  have f : Frm 19 [(2, .pointer (some (⟨b_2, 0, none⟩))), (3, .pointer (some (⟨b_3, 0, none⟩))), (9, .func (.func fv_1) #[] cp_1.toArray)] a_9 := f.keep (ks := [2, 3, 9]) (by kernel_rfl)
  obtain ⟨j_1, hL_1, hF_5⟩ := bS hF_4
  refine R_range (σ := Int) (β := Int × Int) (vals := valsV) (Y := (tree_Check_s1 n)) (E0 := [Ent.obj b_3 (.cells #[.int .i64 0] 3 (0, 0)), Ent.obj b_2 (.cells #[.int .i64 0] 28 (0, 0))]) (H := H) (w0 := w0) (M := M_2) (f := fv_1) (caps := cp_1) f p_7 (by kernel_rfl) (by kernel_rfl) (by kernel_rfl) hit_1.1 (fun (s_1 : Int) M' E1 => E1 = [Ent.obj b_3 (.cells #[.int .i64 s_1] 3 (0, 0)), Ent.obj b_2 (.cells #[.int .i64 0] 28 (0, 0))]) (fun (y_1 : Int × Int) M' E1 => E1 = [Ent.obj b_3 (.cells #[.int .i64 y_1.1] 3 (0, 0)), Ent.obj b_2 (.cells #[.int .i64 y_1.2] 28 (0, 0))]) (fun (_ : Int × Int) => Jmp.ret) (0 : Int) j_1 rfl (fun s_ M_ M2_ E_ hM h => h) (fun s_ M_ M2_ E_ hM h => h) (fun M_ x_ vs_ h => by obtain ⟨c_, h, _⟩ := h; exact ⟨_, h⟩) (hit_1.2 _ _ _ _ _ hL_1) ?_ ?_ ?_
  ·rintro s_1 x_2 r_1 hs_1 l_1 w0 M_3 E_1 H w_8 _ v_1 hM_3 rfl ⟨cc_1, hv_1, hr_1⟩ p_8 f
   obtain rfl : v_1 = .agg cc_1.toArray := by simpa using hv_1
   unfold tree_Check_s1 at hs_1
   obtain ⟨A_3, cap_3, A_4, cap_4, rfl, h_4, h_5⟩ := T_api_Value.opn hr_1
   refine RI_reg (then_out F_out) (by kernel_rfl) ?_
   refine Y12 f p_8 (.cells #[.int .i8 0, .bool false, .int .i64 0, S [], .slice none 0 0, .slice none 0 0] 76 (0, 0)) fun b_4 w_9 p_9 _ f => ?_
   refine Y27 (vs := [.int .i8 x_2.fKind, .bool x_2.fBool, .int .i64 x_2.fNum, S x_2.fText, .slice A_3 x_2.fList.length cap_3, .slice A_4 x_2.fKeys.length cap_4]) (j := 0) f p_9 rfl rfl (by simp [Value.oneCell', S]) (by simp) (by decide) (cs' := #[.int .i8 x_2.fKind, .bool x_2.fBool, .int .i64 x_2.fNum, S x_2.fText, .slice A_3 x_2.fList.length cap_3, .slice A_4 x_2.fKeys.length cap_4]) fun w_10 p_10 _ f => ?_
   refine W_end rfl (T_n ?_)
   refine ⟨M_3, [Ent.obj b_4 (.cells #[.int .i8 x_2.fKind, .bool x_2.fBool, .int .i64 x_2.fNum, S x_2.fText, .slice A_3 x_2.fList.length cap_3, .slice A_4 x_2.fKeys.length cap_4] 76 (0, 0)), Ent.obj b_3 (.cells #[.int .i64 s_1] 3 (0, 0)), Ent.obj b_2 (.cells #[.int .i64 0] 28 (0, 0))], (mR _), p_10, fun H w_11 p_11 => ?_⟩
   refine RI_block ?_
   refine RI_seq ?_
   refine RI_seq ?_
   refine RI_reg (then_out (then_out (block_out (RB_out)))) (by kernel_rfl) ?_
   obtain ⟨M_4, hM_4, p_12, hc_3⟩ := p_11.fzOwn
   obtain ⟨x_3, hx_2, hF_6⟩ := bS hs_1
   refine Y18 f p_12 (tree_alone_ok n _ (GL.mono (((hM_1.trans hM_2).trans hM_3).trans hM_4) hG) (⟨b_4, 0, none⟩) [.int .i8 x_2.fKind, .bool x_2.fBool, .int .i64 x_2.fNum, S x_2.fText, .slice A_3 x_2.fList.length cap_3, .slice A_4 x_2.fKeys.length cap_4] x_2 (T_api_Value.shutx (x := x_2) (h_4.mono hM_4) (h_5.mono hM_4)) (fz_at (hc_3) 0 rfl) x_3 hx_2) fun w_12 p_13 _ f => ?_
   refine Y19 f 1 fun _ f => ?_
   refine W_end rfl (T_n ?_)
   refine RI_seq ?_
   refine RI_reg (then_out (then_out (block_out (RB_out)))) (by kernel_rfl) ?_
   refine Y19 f 2 fun _ f => ?_
   refine W_end rfl (T_n ?_)
   refine RI_cond f (b := !(decide (x_3 = 0))) (by kernel_rfl) (by kernel_rfl) (fun h_6 => ?_) fun h_6 => ?_
   ·have k_3 : ¬ (x_3 = 0) := (not_iff dI).1 h_6
    have hF_7 := cnd_t h_6 hF_6
    refine RI_seq ?_
    refine RI_reg (then_out (then_out (block_out (RB_out)))) (by kernel_rfl) ?_
    refine Y19 f 1 fun _ f => ?_
    refine Y26 f p_13 1 rfl rfl (b := b_2) (j := 0) (v := .int .i64 x_3) rfl (by exact rfl) (by simp) (by simp) ((Ent.obj b_3 (.cells #[.int .i64 s_1] 3 (0, 0))) :: (Ent.obj b_2 (.cells #[.int .i64 x_3] 28 (0, 0))) :: H) rfl fun w_13 p_14 _ f => ?_
    refine W_end rfl (T_n ?_)
    refine RI_ret ?_
    refine T_r (B_r ?_)
    obtain rfl := sI hF_7
    exact RB_x rfl ⟨M_4, [Ent.obj b_3 (.cells #[.int .i64 s_1] 3 (0, 0)), Ent.obj b_2 (.cells #[.int .i64 x_3] 28 (0, 0))], hM_4, p_14, rfl⟩
   ·have k_4 : ¬ (¬ (x_3 = 0)) := iff_f (not_iff dI) h_6
    have hF_8 := cnd_f h_6 hF_6
    refine RI_skip ?_
    refine T_n ?_
    refine RI_reg (block_out (RB_out)) (by kernel_rfl) ?_
    refine Y14 (v := .int .i64 s_1) f (Y32 (v := .int .i64 s_1) rfl (ad := ⟨b_3, 0, none⟩) (p_13.ownCell 0 rfl 0)) fun _ f => ?_
    obtain ⟨g_2, hF_9⟩ := nS hF_8
    refine Y19 f 1 fun _ f => ?_
    have f := Frm.set f 16 (v := .int .i64 (IntKind.wrap .i64 (s_1 + 1))) (v' := .int .i64 (s_1 + 1)) (by kernel_rfl) (congrArg (Value.int .i64) (inR_wrap g_2))
    refine Y26 f p_13 0 rfl rfl (b := b_3) (j := 0) (v := .int .i64 (s_1 + 1)) rfl (by exact rfl) (by simp) (by simp) ((Ent.obj b_3 (.cells #[.int .i64 (s_1 + 1)] 3 (0, 0))) :: (Ent.obj b_2 (.cells #[.int .i64 0] 28 (0, 0))) :: H) rfl fun w_14 p_15 _ f => ?_
    refine W_end rfl (B_n ?_)
    obtain rfl := sI hF_9
    exact RB_n ⟨M_4, [Ent.obj b_3 (.cells #[.int .i64 (s_1 + 1)] 3 (0, 0)), Ent.obj b_2 (.cells #[.int .i64 0] 28 (0, 0))], hM_4, p_15, rfl⟩
  ·rintro s_2 rfl l_2 D_1 rr_1 M_5 E_2 w_15 _ hM_5 rfl p_16 f
   replace p_16 : Hp w0 M_5 ((Ent.obj D_1 (.deferred (some []))) :: (Ent.obj b_3 (.cells #[.int .i64 s_2] 3 (0, 0))) :: (Ent.obj b_2 (.cells #[.int .i64 0] 28 (0, 0))) :: H) w_15 := p_16.drop
   replace hF_5 : (_ : Option _) = some _ := hF_5
   refine B_n (T_n (R_seq (R_seq (R_reg ?_))))
   refine Y14 (v := .int .i64 s_2) f (Y32 (v := .int .i64 s_2) rfl (ad := ⟨b_3, 0, none⟩) (p_16.ownCell 1 rfl 0)) fun _ f => ?_
   refine Y19 f 1 fun _ f => ?_
   refine W_end rfl (T_n ?_)
   refine Y6 f (b := decide ((4096 : Int) < s_2)) (fun h_7 => ?_) fun h_7 => ?_
   ·have k_5 : (4096 : Int) < s_2 := dI.1 h_7
    have hF_10 := cnd_t h_7 hF_5
    refine R_seq (R_reg ?_)
    refine Y26 f p_16 2 rfl rfl (b := b_2) (j := 0) (v := .int .i64 3) rfl (by exact rfl) (by simp) (by simp) ((Ent.obj D_1 (.deferred (some []))) :: (Ent.obj b_3 (.cells #[.int .i64 s_2] 3 (0, 0))) :: (Ent.obj b_2 (.cells #[.int .i64 3] 28 (0, 0))) :: H) rfl fun w_16 p_17 _ f => ?_
    refine W_end rfl (T_n (wp_ret (T_r ?_)))
    refine E_M1 f p_17 fun w_17 p_18 => ?_
    refine V_rv1 rfl (Y9 (v := .int .i64 3) (ad := ⟨b_2, 0, none⟩) f (p_18.ownCell 1 rfl 0)) ?_
    obtain rfl := sI hF_10
    exact ⟨_, rfl, M_5, ((hM_1.trans hM_2).trans hM_5), (p_18.dropN 2), rfl⟩
   ·have k_6 : ¬ ((4096 : Int) < s_2) := iff_f dI h_7
    have hF_11 := cnd_f h_7 hF_5
    refine wp_skip (T_n (R_seq (R_reg ?_)))
    refine Y26 f p_16 2 rfl rfl (b := b_2) (j := 0) (v := .int .i64 0) rfl (by exact rfl) (by simp) (by simp) ((Ent.obj D_1 (.deferred (some []))) :: (Ent.obj b_3 (.cells #[.int .i64 s_2] 3 (0, 0))) :: (Ent.obj b_2 (.cells #[.int .i64 0] 28 (0, 0))) :: H) rfl fun w_18 p_19 _ f => ?_
    refine W_end rfl (T_n (wp_ret ?_))
    refine E_M1 f p_19 fun w_19 p_20 => ?_
    refine V_rv1 rfl (Y9 (v := .int .i64 0) (ad := ⟨b_2, 0, none⟩) f (p_20.ownCell 1 rfl 0)) ?_
    obtain rfl := sI hF_11
    exact ⟨_, rfl, M_5, ((hM_1.trans hM_2).trans hM_5), (p_20.dropN 2), rfl⟩
  ·rintro b_5 rfl l_3 D_2 rr_2 M_6 E_3 w_20 _ hM_6 hx_3 p_21 f
   obtain rfl := hx_3
   replace p_21 : Hp w0 M_6 ((Ent.obj D_2 (.deferred (some []))) :: (Ent.obj b_3 (.cells #[.int .i64 b_5.1] 3 (0, 0))) :: (Ent.obj b_2 (.cells #[.int .i64 b_5.2] 28 (0, 0))) :: H) w_20 := p_21.drop
   refine B_r (T_r ?_)
   refine E_M1 f p_21 fun w_21 p_22 => ?_
   refine V_rv1 rfl (Y9 (v := .int .i64 b_5.2) (ad := ⟨b_2, 0, none⟩) f (p_22.ownCell 1 rfl 0)) ?_
   obtain rfl := sI hF_5
   exact ⟨_, rfl, M_6, ((hM_1.trans hM_2).trans hM_6), (p_22.dropN 2), rfl⟩
end Go.Proofs.YtalifkcchfkgmaaGreatDoor
end

section
set_option linter.unusedVariables false
set_option linter.unusedSimpArgs false
namespace Go.Vc
open Go Go.RowKit
variable {dd : List Deferred}
/-! ### Known maps of structs that hold rows -/
def idV (v : Value) : Value := v
def RepMap {κ δ : Type} (M : Mem) (emb : δ → Dat) : List (κ × δ) → List (κ × Value) → Prop
  | [], m => m = []
  | p :: r, m => ∃ cs m', m = (p.1, Value.agg cs.toArray) :: m' ∧ Rep M (emb p.2) cs ∧ RepMap M emb r m'
section
variable {κ δ : Type} {M M' : Mem} {emb : δ → Dat}
theorem RepMap.mono (h : M.le M') : ∀ {d : List (κ × δ)} {m : List (κ × Value)}, RepMap M emb d m → RepMap M' emb d m
  | [], _, hr => hr
  | p :: r, m, ⟨cs, m', h1, h2, h3⟩ => ⟨cs, m', h1, Rep.mono h _ _ h2, RepMap.mono h h3⟩
theorem RepMap.nil : RepMap M emb ([] : List (κ × δ)) [] := rfl
variable [DecidableEq κ]
theorem RepMap.put {k : κ} {x : δ} {cs : List Value} (hx : Rep M (emb x) cs) : ∀ {d : List (κ × δ)} {m : List (κ × Value)}, RepMap M emb d m → RepMap M emb (mput d k x) (mput m k (.agg cs.toArray))
  | [], m, h => by
    have : m = [] := h
    subst this
    exact ⟨cs, [], rfl, hx, rfl⟩
  | p :: r, m, ⟨c, m', h1, h2, h3⟩ => by
    subst h1
    unfold mput
    by_cases hk : p.1 = k
    · rw [if_pos hk, if_pos hk]
      exact ⟨cs, m', rfl, hx, h3⟩
    · rw [if_neg hk, if_neg hk]
      exact ⟨c, _, rfl, h2, RepMap.put hx h3⟩
theorem RepMap.isSome {k : κ} : ∀ {d : List (κ × δ)} {m : List (κ × Value)}, RepMap M emb d m → (mget m k).isSome = (mget d k).isSome
  | [], m, h => by
    have : m = [] := h
    subst this; rfl
  | p :: r, m, ⟨c, m', h1, h2, h3⟩ => by
    subst h1
    unfold mget
    by_cases hk : p.1 = k
    · rw [if_pos hk, if_pos hk]; rfl
    · rw [if_neg hk, if_neg hk]; exact RepMap.isSome h3
theorem RepMap.get {k : κ} {z : δ} {zc : List Value} (hz : Rep M (emb z) zc) : ∀ {d : List (κ × δ)} {m : List (κ × Value)}, RepMap M emb d m → ∃ cs, (mget m k).getD (.agg zc.toArray) = .agg cs.toArray ∧ Rep M (emb ((mget d k).getD z)) cs
  | [], m, h => by
    have : m = [] := h
    subst this
    exact ⟨zc, rfl, hz⟩
  | p :: r, m, ⟨c, m', h1, h2, h3⟩ => by
    subst h1
    unfold mget
    by_cases hk : p.1 = k
    · rw [if_pos hk, if_pos hk]; exact ⟨c, rfl, h2⟩
    · rw [if_neg hk, if_neg hk]; exact RepMap.get hz h3
end
theorem Hp.fzObj {w0 w : World} {M : Mem} {H : List Ent} {b : Nat} {o : Obj} (h : Hp w0 M (.obj b o :: H) w) : ∃ M', M.le M' ∧ Hp w0 M' H w ∧ M' b = some o :=
  ⟨_, h.freeze.1, h.freeze.2, by simp [Mem.add]⟩
section
variable {κ : Type} [DecidableEq κ] {P : Program} {ek : κ → Value} {w : World}
theorem X_lookupR2 {o : Oper} {ρ : Operand → Value} {t kt et : TypeId} {x ix : Operand} {b : Nat} {m : List (κ × Value)} {k : κ} {z v : Value} {i : Bool} (hv : (mget m k).getD z = v) (hi : (mget m k).isSome = i) (ho : o.op = .lookup t x ix true) (hx : ρ x = .map (some b)) (hk : ρ ix = ek k) (ht : P.underlying t = some (.map kt et)) (K : KeyLaw P kt ek)
    (hz : (P.info? et).bind (·.zero) = some z) (hb : w.heap[b]? = some (mapO ek idV m)) : (execOp ρ o).run P w = .ok (.value (.tuple #[v, .bool i])) w := by
  subst hv; subst hi
  exact X_lookup2 (ev := idV) ho hx hk ht K hz hb
end
/-! ### All orders of a list -/
section
variable {α : Type}
def insAll (x : α) : List α → List (List α)
  | [] => [[x]]
  | y :: l => (x :: y :: l) :: (insAll x l).map (y :: ·)
def permsL : List α → List (List α)
  | [] => [[]]
  | x :: l => (permsL l).flatMap (insAll x)
theorem mem_insAll {x : α} : ∀ (a b : List α), a ++ x :: b ∈ insAll x (a ++ b)
  | [], [] => by simp [insAll]
  | [], y :: b => by simp [insAll]
  | y :: a, b => by
    simp only [List.cons_append, insAll, List.mem_cons, List.mem_map]
    exact .inr ⟨_, mem_insAll a b, rfl⟩
theorem insAll_perm {x : α} : ∀ {l r : List α}, r ∈ insAll x l → r.Perm (x :: l)
  | [], r, h => by simp [insAll] at h; subst h; exact .refl _
  | y :: l, r, h => by
    simp only [insAll, List.mem_cons, List.mem_map] at h
    rcases h with rfl | ⟨r', h1, rfl⟩
    · exact .refl _
    · exact ((insAll_perm h1).cons y).trans (.swap x y l)
theorem permsL_of : ∀ {all l : List α}, l.Perm all → l ∈ permsL all
  | [], l, h => by simp [permsL, h.eq_nil]
  | x :: all, l, h => by
    obtain ⟨a, b, rfl⟩ := List.append_of_mem (h.symm.subset List.mem_cons_self)
    have h2 : (a ++ b).Perm all := List.Perm.cons_inv (a := x) (List.perm_middle.symm.trans h)
    exact List.mem_flatMap.2 ⟨_, permsL_of h2, mem_insAll a b⟩
theorem permsL_perm : ∀ {all l : List α}, l ∈ permsL all → l.Perm all
  | [], l, h => by simp [permsL] at h; subst h; exact .refl _
  | x :: all, l, h => by
    obtain ⟨r, h1, h2⟩ := List.mem_flatMap.1 h
    exact (insAll_perm h2).trans ((permsL_perm h1).cons x)
end
/-! ### Going over a list; whatever the order -/
section
variable {π σ β : Type}
def foldO (E : σ → Option (Lp σ β)) (Y : π → σ → Option (Lp σ β)) : List π → σ → Option β
  | [], s => (E s).bind fun r => match r with | .nx _ => none | .br b => some b
  | p :: l, s => (Y p s).bind fun r => match r with | .nx s' => foldO E Y l s' | .br b => some b
/-- the same in all orders -/
def foldP [DecidableEq β] (E : σ → Option (Lp σ β)) (Y : π → σ → Option (Lp σ β)) (all : List π) (s : σ) : Option β :=
  need (∀ l ∈ permsL all, foldO E Y l s = foldO E Y all s) (foldO E Y all s)
def todoD (m : List π) (seen : Array Nat) : List (π × Nat) := m.zipIdx.filter fun p => !seen.contains p.2
def leftD (m : List π) (seen : Array Nat) : List π := (todoD m seen).map (·.1)
theorem leftD_start (m : List π) : leftD m #[] = m := by
  unfold leftD todoD
  have : (m.zipIdx.filter fun p => !(#[] : Array Nat).contains p.2) = m.zipIdx := List.filter_eq_self.2 (fun p _ => by simp)
  rw [this]; simp
variable {E : σ → Option (Lp σ β)} {Y : π → σ → Option (Lp σ β)} {m : List π} {seen : Array Nat} {s : σ} {b : β}
theorem foldP_start [DecidableEq β] (h : foldP E Y m s = some b) : ∀ l, l.Perm (leftD m #[]) → foldO E Y l s = some b := by
  intro l hl
  rw [leftD_start] at hl
  obtain ⟨h1, h2⟩ := need_some h
  rw [h1 l (permsL_of hl)]; exact h2
theorem foldP_run [DecidableEq β] (h : ∀ l, l.Perm m → foldO E Y l s = some b) : foldP E Y m s = some b := by
  unfold foldP
  rw [need_t (fun l hl => by rw [h l (permsL_perm hl), h m (.refl _)]), h m (.refl _)]
theorem foldO_end (h : ∀ l, l.Perm (leftD m seen) → foldO E Y l s = some b) (h0 : leftD m seen = []) : ∃ r, E s = some r ∧ (match r with | .nx _ => none | .br b => some b) = some b := by
  have := h [] (by rw [h0])
  exact Option.bind_eq_some_iff.1 this
theorem perm_pick {j : Nat} {p : π} : ∀ {Z : List (π × Nat)}, (Z.map (·.2)).Nodup → (p, j) ∈ Z → Z.Perm ((p, j) :: Z.filter fun q => !(q.2 == j))
  | [], _, h => by simp at h
  | z :: Z, hn, h => by
    simp only [List.map_cons, List.nodup_cons] at hn
    rcases List.mem_cons.1 h with rfl | h
    · rw [List.filter_cons_of_neg (by simp)]
      have : (Z.filter fun q => !(q.2 == j)) = Z := List.filter_eq_self.2 (fun q hq => by
        have : q.2 ≠ j := fun e => hn.1 (List.mem_map.2 ⟨q, hq, e⟩)
        simp [this])
      rw [this]
    · have hz : z.2 ≠ j := fun e => hn.1 (e ▸ List.mem_map.2 ⟨_, h, rfl⟩)
      rw [List.filter_cons_of_pos (by simp [hz])]
      exact ((perm_pick hn.2 h).cons z).trans (.swap _ _ _)
theorem zipIdx_nodup : ∀ (m : List π) (n : Nat), ((m.zipIdx n).map (·.2)).Nodup ∧ ∀ q ∈ m.zipIdx n, n ≤ q.2
  | [], n => ⟨by simp, by simp⟩
  | x :: m, n => by
    obtain ⟨h1, h2⟩ := zipIdx_nodup m (n + 1)
    simp only [List.zipIdx_cons, List.map_cons, List.nodup_cons, List.mem_cons]
    refine ⟨⟨fun h => ?_, h1⟩, fun q hq => ?_⟩
    · obtain ⟨q, hq, e⟩ := List.mem_map.1 h
      have := h2 q hq; omega
    · rcases hq with rfl | hq
      · exact Nat.le_refl _
      · have := h2 q hq; omega
theorem todoD_push {p : π} {j : Nat} (h : (p, j) ∈ todoD m seen) : (todoD m seen).Perm ((p, j) :: todoD m (seen.push j)) := by
  have hn : ((todoD m seen).map (·.2)).Nodup := List.Nodup.sublist (List.Sublist.map _ List.filter_sublist) (zipIdx_nodup m 0).1
  have := perm_pick hn h
  have e : todoD m (seen.push j) = (todoD m seen).filter fun q => !(q.2 == j) := by
    unfold todoD
    rw [List.filter_filter]
    congr 1
    funext q
    by_cases hq : q.2 = j <;> simp [hq, Array.contains_push]
  rw [e]; exact this
theorem leftD_push {p : π} {j : Nat} (h : (p, j) ∈ todoD m seen) : (leftD m seen).Perm (p :: leftD m (seen.push j)) := (todoD_push h).map _
theorem leftD_lt {p : π} {j : Nat} (h : (p, j) ∈ todoD m seen) : (leftD m (seen.push j)).length < (leftD m seen).length := by
  rw [(leftD_push h).length_eq]; simp
theorem foldO_go {p : π} {j : Nat} (hj : (p, j) ∈ todoD m seen) (h : ∀ l, l.Perm (leftD m seen) → foldO E Y l s = some b) :
    ∃ r, Y p s = some r ∧ (match r with | .nx s' => ∀ l, l.Perm (leftD m (seen.push j)) → foldO E Y l s' = some b | .br b' => some b' = some b) := by
  have h2 : ∀ l, l.Perm (leftD m (seen.push j)) → foldO E Y (p :: l) s = some b := fun l hl => h _ ((hl.cons p).trans (leftD_push hj).symm)
  obtain ⟨r, h3, h4⟩ := Option.bind_eq_some_iff.1 (h2 _ (.refl _))
  refine ⟨r, h3, ?_⟩
  cases r with
  | nx s' =>
    intro l hl
    have := h2 l hl
    unfold foldO at this
    rw [h3] at this
    exact this
  | br b' => exact h4
end
/-! ### The iterator -/
section
variable {κ V : Type} {ek : κ → Value} {ev : V → Value} {P : Program} {ops : Array Oper} {n : Nat} {Q : Exit → Act → World → Prop} {L : Fr} {a : Act} {w0 w : World} {M : Mem} {H : List Ent}
def KMapAt (M : Mem) (o : Option Nat) (ek : κ → Value) (ev : V → Value) (m : List (κ × V)) : Prop := (∃ b, o = some b ∧ M b = some (mapO ek ev m)) ∨ (o = none ∧ m = [])
theorem KMapAt.mono {M M' : Mem} (h : M.le M') {o : Option Nat} {m : List (κ × V)} : KMapAt M o ek ev m → KMapAt M' o ek ev m
  | .inl ⟨b, h1, h2⟩ => .inl ⟨b, h1, h _ _ h2⟩
  | .inr h1 => .inr h1
theorem todo_mapO (m : List (κ × V)) (seen : Array Nat) : todo (m.map fun p => (p.1, ev p.2)) seen = (todoD m seen).map fun q => ((q.1.1, ev q.1.2), q.2) := by
  unfold todo todoD
  rw [List.zipIdx_map, List.filter_map]
  rfl
theorem W_rangeM {o : Oper} {rest : List Oper} {d : Nat} {t kt et : TypeId} {x : Operand} {ob : Option Nat} {m : List (κ × V)} (hK : KMapAt M ob ek ev m) (hf : Frm n L a dd) (hp : Hp w0 M H w) (hw : wantedL ops L o = some true) (hr : readyL L o = true)
    (hd : o.dst = some d) (hdn : Nat.blt d n = true) (ho : o.op = .range t x) (hx : Vc.ev L x = .map ob) (ht : P.underlying t = some (.map kt et))
    (hk : ∀ r w', Hp w0 M (.obj r (.mapIter ob m.length #[] m.length) :: H) w' → ∀ a', Frm n ((d, .pointer (some ⟨r, 0, none⟩)) :: L) a' dd → wpList P ops Q rest a' w') : wpList P ops Q (o :: rest) a w := by
  rcases hK with ⟨b, rfl, hb⟩ | ⟨rfl, rfl⟩
  · refine W_range (enc := ek) (m := m.map fun (p : κ × V) => (p.1, ev p.2)) hf hp hw hr hd hdn ho hx ht (hp.mem _ (mapO ek ev m) hb) ?_
    rw [List.length_map]; exact hk
  · exact W_range_nil hf hp hw hr hd hdn ho hx ht hk
theorem X_next_nil' {ρ : Operand → Value} {o : Oper} {x : Operand} {r : Nat} {seen : Array Nat} (ho : o.op = .next x false) (hx : ρ x = .pointer (some ⟨r, 0, none⟩)) (hr : w.heap[r]? = some (.mapIter none 0 seen 0)) :
    (execOp ρ o).run P w = .ok (.value (.tuple #[.bool false])) w := by
  have hg : (getObj r).run P w = .ok (.mapIter none 0 seen 0) w := run_getObj hr (by intro _ _ _ h; cases h)
  unfold execOp
  simp only [ho, hx, Instr.next, Sem.run_bind, hg, Result.andThen_ok]
  rfl
theorem W_nextM {o : Oper} {rest : List Oper} {d : Nat} {x : Operand} {r : Nat} {ob : Option Nat} {m : List (κ × V)} {seen : Array Nat} (hK : KMapAt M ob ek ev m) (hf : Frm n L a dd) (hp : Hp w0 M (.obj r (.mapIter ob m.length seen m.length) :: H) w) (hw : wantedL ops L o = some true) (hr : readyL L o = true)
    (hd : o.dst = some d) (hdn : Nat.blt d n = true) (ho : o.op = .next x false) (hx : Vc.ev L x = .pointer (some ⟨r, 0, none⟩))
    (hover : leftD m seen = [] → ∀ w', Hp w0 M (.obj r (.mapIter ob m.length seen m.length) :: H) w' → ∀ a', Frm n ((d, .tuple #[.bool false]) :: L) a' dd → wpList P ops Q rest a' w')
    (hstep : ∀ (p : κ × V) (j : Nat), (p, j) ∈ todoD m seen → ∀ w', Hp w0 M (.obj r (.mapIter ob m.length (seen.push j) m.length) :: H) w' → ∀ a', Frm n ((d, .tuple #[.bool true, ek p.1, ev p.2]) :: L) a' dd → wpList P ops Q rest a' w') :
    wpList P ops Q (o :: rest) a w := by
  rcases hK with ⟨b, rfl, hb⟩ | ⟨rfl, rfl⟩
  · have hl : (m.map fun p => (p.1, ev p.2)).length = m.length := List.length_map ..
    have hp' := hp
    rw [← hl] at hp'
    refine W_next (enc := ek) (m := m.map fun (p : κ × V) => (p.1, ev p.2)) hf hp' hw hr hd hdn ho hx (hp.mem _ (mapO ek ev m) hb) ?_ ?_
    · rw [todo_mapO, hl]
      intro h0
      exact hover (by unfold leftD; rw [List.map_eq_nil_iff] at h0 ⊢; exact h0)
    · rw [todo_mapO, hl]
      intro q hq
      obtain ⟨z, hz, rfl⟩ := List.mem_map.1 hq
      exact hstep z.1 z.2 hz
  · exact W_eq hf hw hr hd hdn (X_next_nil' ho hx (hp.ownObj 0 rfl)) (hover rfl w hp)
theorem todoD_get {π : Type} {m : List π} {seen : Array Nat} {p : π} {j : Nat} (h : (p, j) ∈ todoD m seen) : m[j]? = some p := by
  obtain ⟨h1, h2⟩ := List.mem_filter.1 h
  have h3 := List.mem_zipIdx h1
  obtain ⟨a, b, c⟩ := h3
  simp only [Nat.sub_zero] at c
  rw [c]
  exact List.getElem?_eq_getElem _
theorem X_entryM {ρ : Operand → Value} {o : Oper} {x : Operand} {r j : Nat} {ob : Option Nat} {m : List (κ × V)} {seen : Array Nat} {p : κ × V} (hK : KMapAt M ob ek ev m) (hp : Hp w0 M H w) (hj : (p, j) ∈ todoD m seen) (i : Nat) (he : H[i]? = some (.obj r (.mapIter ob m.length (seen.push j) m.length)))
    (ho : o.op = .entry x) (hx : ρ x = .pointer (some ⟨r, 0, none⟩)) : (execOp ρ o).run P w = .ok (.value (.tuple #[ek p.1, ev p.2])) w := by
  rcases hK with ⟨b, rfl, hb⟩ | ⟨rfl, rfl⟩
  · have hl : (m.map fun p => (p.1, ev p.2)).length = m.length := List.length_map ..
    have hr := hp.ownObj i he
    rw [← hl] at hr
    exact X_entry (enc := ek) (m := m.map fun (p : κ × V) => (p.1, ev p.2)) (p := (p.1, ev p.2)) ho hx hr (hp.mem _ (mapO ek ev m) hb) (by rw [List.getElem?_map, todoD_get hj]; rfl)
  · simp [todoD] at hj
end
end Go.Vc
end

section
namespace Go.Proofs.YtalifkcchfkgmaaGreatDoor
open Go Go.Vc Go.RowKit
def kDisk : List UInt8 := [68, 105, 115, 107]
def kNet : List UInt8 := [78, 101, 116]
def kNode : List UInt8 := [78, 111, 100, 101]
def kRule : List UInt8 := [82, 117, 108, 101]
def dDisk : List (List UInt8 × T_api_Spec) := [([83, 105, 122, 101], ⟨[83, 105, 122, 101], 2, false⟩), ([84, 97, 103, 115], ⟨[84, 97, 103, 115], 4, false⟩), ([75, 105, 110, 100], ⟨[75, 105, 110, 100], 3, true⟩)]
def dNet : List (List UInt8 × T_api_Spec) := [([76, 97, 98, 101, 108], ⟨[76, 97, 98, 101, 108], 3, false⟩), ([82, 97, 110, 103, 101], ⟨[82, 97, 110, 103, 101], 3, true⟩)]
def dNode : List (List UInt8 × T_api_Spec) := [([67, 111, 117, 110, 116], ⟨[67, 111, 117, 110, 116], 2, false⟩), ([68, 105, 115, 107], ⟨[68, 105, 115, 107], 3, false⟩), ([73, 109, 97, 103, 101], ⟨[73, 109, 97, 103, 101], 3, true⟩), ([78, 101, 116], ⟨[78, 101, 116], 3, true⟩)]
def dRule : List (List UInt8 × T_api_Spec) := [([78, 111, 100, 101], ⟨[78, 111, 100, 101], 3, false⟩), ([80, 111, 114, 116], ⟨[80, 111, 114, 116], 2, true⟩)]
/-- a type's properties, as they are laid -/
def propsD (kind : List UInt8) : List (List UInt8 × T_api_Spec) := bif decide (kDisk = kind) then dDisk else bif decide (kNet = kind) then dNet else bif decide (kNode = kind) then dNode else bif decide (kRule = kind) then dRule else []
def kindIn (kind : List UInt8) : Bool := decide (kDisk = kind) || (decide (kNet = kind) || (decide (kNode = kind) || decide (kRule = kind)))
def specE (x : T_api_Spec) : Value := .agg #[S x.fName, .int .i8 x.fKind, .bool x.fReplace]
def mapE (o : Option Nat) : Value := .map o
def allB (b1 b2 b3 b4 : Nat) : List (List UInt8 × Option Nat) := [(kDisk, some b1), (kNet, some b2), (kNode, some b3), (kRule, some b4)]
def blkOf (b1 b2 b3 b4 : Nat) (kind : List UInt8) : Option Nat := bif decide (kDisk = kind) then some b1 else bif decide (kNet = kind) then some b2 else bif decide (kNode = kind) then some b3 else bif decide (kRule = kind) then some b4 else none
structure AllAt (M : Mem) (b0 b1 b2 b3 b4 : Nat) : Prop where
  h0 : M b0 = some (mapO S mapE (allB b1 b2 b3 b4))
  h1 : M b1 = some (mapO S specE dDisk)
  h2 : M b2 = some (mapO S specE dNet)
  h3 : M b3 = some (mapO S specE dNode)
  h4 : M b4 = some (mapO S specE dRule)
theorem AllAt.mono {M M' : Mem} {b0 b1 b2 b3 b4 : Nat} (hM : M.le M') (h : AllAt M b0 b1 b2 b3 b4) : AllAt M' b0 b1 b2 b3 b4 := ⟨hM _ _ h.h0, hM _ _ h.h1, hM _ _ h.h2, hM _ _ h.h3, hM _ _ h.h4⟩
theorem mget_allB (b1 b2 b3 b4 : Nat) (kind : List UInt8) : (mget (allB b1 b2 b3 b4) kind).getD none = blkOf b1 b2 b3 b4 kind ∧ (mget (allB b1 b2 b3 b4) kind).isSome = kindIn kind := by
  unfold allB blkOf kindIn mget mget mget mget mget
  dsimp only
  by_cases h1 : kDisk = kind
  · rw [if_pos h1, decide_eq_true h1]; exact ⟨rfl, rfl⟩
  rw [if_neg h1, decide_eq_false h1, cond_false, Bool.false_or]
  by_cases h2 : kNet = kind
  · rw [if_pos h2, decide_eq_true h2]; exact ⟨rfl, rfl⟩
  rw [if_neg h2, decide_eq_false h2, cond_false, Bool.false_or]
  by_cases h3 : kNode = kind
  · rw [if_pos h3, decide_eq_true h3]; exact ⟨rfl, rfl⟩
  rw [if_neg h3, decide_eq_false h3, cond_false, Bool.false_or]
  by_cases h4 : kRule = kind
  · rw [if_pos h4, decide_eq_true h4]; exact ⟨rfl, rfl⟩
  rw [if_neg h4, decide_eq_false h4]
  exact ⟨rfl, rfl⟩
section
variable {P : Program} {ρ : Operand → Value} {o : Oper} {w0 w : World} {M : Mem} {H : List Ent} {b0 b1 b2 b3 b4 : Nat}
theorem X_all2 {t kt et : TypeId} {x ix : Operand} {k : List UInt8} (hA : AllAt M b0 b1 b2 b3 b4) (hp : Hp w0 M H w) (ho : o.op = .lookup t x ix true) (hx : ρ x = .map (some b0)) (hk : ρ ix = S k) (ht : P.underlying t = some (.map kt et)) (K : KeyLaw P kt S) (hz : (P.info? et).bind (·.zero) = some (.map none)) :
    (execOp ρ o).run P w = .ok (.value (.tuple #[.map (blkOf b1 b2 b3 b4 k), .bool (kindIn k)])) w := by
  have := X_lookup2 (ek := S) (ev := mapE) (m := allB b1 b2 b3 b4) (k := k) (z := none) ho hx hk ht K hz (hp.mem _ _ hA.h0)
  rw [(mget_allB b1 b2 b3 b4 k).1, (mget_allB b1 b2 b3 b4 k).2] at this
  exact this
theorem X_all1 {t kt et : TypeId} {x ix : Operand} {k : List UInt8} (hA : AllAt M b0 b1 b2 b3 b4) (hp : Hp w0 M H w) (ho : o.op = .lookup t x ix false) (hx : ρ x = .map (some b0)) (hk : ρ ix = S k) (ht : P.underlying t = some (.map kt et)) (K : KeyLaw P kt S) (hz : (P.info? et).bind (·.zero) = some (.map none)) :
    (execOp ρ o).run P w = .ok (.value (.map (blkOf b1 b2 b3 b4 k))) w := by
  have := X_lookup1 (ek := S) (ev := mapE) (m := allB b1 b2 b3 b4) (k := k) (z := none) ho hx hk ht K hz (hp.mem _ _ hA.h0)
  rw [(mget_allB b1 b2 b3 b4 k).1] at this
  exact this
/-- what stands at a type's map -/
theorem blk_at (hA : AllAt M b0 b1 b2 b3 b4) (kind : List UInt8) : (∃ b, blkOf b1 b2 b3 b4 kind = some b ∧ M b = some (mapO S specE (propsD kind))) ∨ (blkOf b1 b2 b3 b4 kind = none ∧ propsD kind = [] ∧ kindIn kind = false) := by
  unfold blkOf propsD kindIn
  by_cases h1 : kDisk = kind
  · rw [decide_eq_true h1]; exact .inl ⟨b1, rfl, hA.h1⟩
  rw [decide_eq_false h1, cond_false, cond_false, Bool.false_or]
  by_cases h2 : kNet = kind
  · rw [decide_eq_true h2]; exact .inl ⟨b2, rfl, hA.h2⟩
  rw [decide_eq_false h2, cond_false, cond_false, Bool.false_or]
  by_cases h3 : kNode = kind
  · rw [decide_eq_true h3]; exact .inl ⟨b3, rfl, hA.h3⟩
  rw [decide_eq_false h3, cond_false, cond_false, Bool.false_or]
  by_cases h4 : kRule = kind
  · rw [decide_eq_true h4]; exact .inl ⟨b4, rfl, hA.h4⟩
  rw [decide_eq_false h4]
  exact .inr ⟨rfl, rfl, rfl⟩
theorem kmap_of (hA : AllAt M b0 b1 b2 b3 b4) (kind : List UInt8) : KMapAt M (blkOf b1 b2 b3 b4 kind) S specE (propsD kind) := by
  rcases blk_at hA kind with h | ⟨h1, h2, _⟩
  · exact .inl h
  · exact .inr ⟨h1, h2⟩
/-- a property -/
def specAt (kind prop : List UInt8) : Option T_api_Spec := mget (propsD kind) prop
theorem X_prop2 {t kt et : TypeId} {x ix : Operand} {k kind : List UInt8} {z : T_api_Spec} (hA : AllAt M b0 b1 b2 b3 b4) (hp : Hp w0 M H w) (ho : o.op = .lookup t x ix true) (hx : ρ x = .map (blkOf b1 b2 b3 b4 kind)) (hk : ρ ix = S k) (ht : P.underlying t = some (.map kt et)) (K : KeyLaw P kt S) (hz : (P.info? et).bind (·.zero) = some (specE z)) :
    (execOp ρ o).run P w = .ok (.value (.tuple #[specE ((specAt kind k).getD z), .bool (specAt kind k).isSome])) w := by
  rcases blk_at hA kind with ⟨b, h1, h2⟩ | ⟨h1, h2, _⟩
  · rw [h1] at hx
    exact X_lookup2 (ek := S) (ev := specE) (m := propsD kind) (k := k) (z := z) ho hx hk ht K hz (hp.mem _ _ h2)
  · rw [h1] at hx
    have := X_lookup_nil (ok := true) (enc := S) (k := k) ho hx hk ht K hz (w := w)
    rw [this]
    unfold specAt
    rw [h2]
    rfl
theorem X_prop1 {t kt et : TypeId} {x ix : Operand} {k kind : List UInt8} {z : T_api_Spec} (hA : AllAt M b0 b1 b2 b3 b4) (hp : Hp w0 M H w) (ho : o.op = .lookup t x ix false) (hx : ρ x = .map (blkOf b1 b2 b3 b4 kind)) (hk : ρ ix = S k) (ht : P.underlying t = some (.map kt et)) (K : KeyLaw P kt S) (hz : (P.info? et).bind (·.zero) = some (specE z)) :
    (execOp ρ o).run P w = .ok (.value (specE ((specAt kind k).getD z))) w := by
  rcases blk_at hA kind with ⟨b, h1, h2⟩ | ⟨h1, h2, _⟩
  · rw [h1] at hx
    exact X_lookup1 (ek := S) (ev := specE) (m := propsD kind) (k := k) (z := z) ho hx hk ht K hz (hp.mem _ _ h2)
  · rw [h1] at hx
    have := X_lookup_nil (ok := false) (enc := S) (k := k) ho hx hk ht K hz (w := w)
    rw [this]
    unfold specAt
    rw [h2]
    rfl
end
end Go.Proofs.YtalifkcchfkgmaaGreatDoor
end

section
set_option linter.unusedVariables false
set_option linter.unusedSimpArgs false
namespace Go.Proofs.YtalifkcchfkgmaaGreatDoor
open Go Go.Vc Go.RowKit
theorem X_lookupL {P : Program} {o : Oper} {ρ : Operand → Value} {w : World} {κ V : Type} [DecidableEq κ] {ek : κ → Value} {ev : V → Value} {t kt et : TypeId} {x ix : Operand} {b : Nat} {m : List (κ × V)} {k : κ} {z v : V} (ho : o.op = .lookup t x ix false) (hx : ρ x = .map (some b)) (hk : ρ ix = ek k) (ht : P.underlying t = some (.map kt et)) (K : KeyLaw P kt ek)
    (hz : (P.info? et).bind (·.zero) = some (ev z)) (hv : (mget m k).getD z = v) (hb : w.heap[b]? = some (mapO ek ev m)) : (execOp ρ o).run P w = .ok (.value (ev v)) w := by
  subst hv
  exact X_lookup1 ho hx hk ht K hz hb
theorem W_mapputL {P : Program} {ops : Array Oper} {n : Nat} {Q : Exit → Act → World → Prop} {L : Fr} {a : Act} {w0 w : World} {M : Mem} {H : List Ent} {κ V : Type} [DecidableEq κ] {ek : κ → Value} {ev : V → Value} {o : Oper} {rest : List Oper} {t kt et : TypeId} {x ix y : Operand} {b : Nat} {m m2 : List (κ × V)} {k : κ} {v : V} (hm : mput m k v = m2) (hf : Frm n L a) (hp : Hp w0 M (.obj b (mapO ek ev m) :: H) w) (hw : wantedL ops L o = some true) (hr : readyL L o = true) (hd : o.dst = none)
    (ho : o.op = .mapUpdate t x ix y ∨ o.op = .insert t x ix y) (hx : Vc.ev L x = .map (some b)) (hk : Vc.ev L ix = ek k) (hv : Vc.ev L y = ev v) (ht : P.underlying t = some (.map kt et)) (K : KeyLaw P kt ek)
    (hq : ∀ w', Hp w0 M (.obj b (mapO ek ev m2) :: H) w' → ∀ a', Frm n L a' → wpList P ops Q rest a' w') : wpList P ops Q (o :: rest) a w := by
  subst hm
  exact W_mapput hf hp hw hr hd ho hx hk hv ht K hq
theorem fzObj {w0 w : World} {M : Mem} {H : List Ent} {b : Nat} {o : Obj} (h : Hp w0 M (.obj b o :: H) w) : ∃ M', M.le M' ∧ Hp w0 M' H w ∧ M' b = some o :=
  ⟨_, h.freeze.1, h.freeze.2, by simp [Mem.add]⟩
theorem rounds_go {P : Program} {Q : Exit → Act → World → Prop} {c : Code} {n : Nat} {a : Act} {w : World} (h : c.wp P (Exit.then (Code.rounds P c Q n) Q) a w) : Code.rounds P c Q (n + 1) a w := h
set_option maxRecDepth 100000 in
set_option maxHeartbeats 4000000 in
theorem all_ok (M : Mem) : Ok Tryz.prog M 53 [] (fun M' v => ∃ b0 b1 b2 b3 b4, v = .map (some b0) ∧ AllAt M' b0 b1 b2 b3 b4) := by
  intro M1 hM0 w0 H w p0
  refine R_enter 47 Tryz.func53 rfl rfl (by simp) (fun a0 f0 => ?_)
  refine R_seq ?_
  refine R_reg ?_
  refine V_run f0 1 (by kernel_rfl) (fun a_1 f_1 => ?_)
  refine W_end rfl ?_
  refine T_n ?_
  refine R_seq ?_
  refine R_reg ?_
  refine W_newmap S mapE f_1 p0 (by kernel_rfl) (by kernel_rfl) rfl rfl rfl (fun bm_1 w_1 p_1 a_2 f_2 => ?_)
  refine W_newmap S specE f_2 p_1 (by kernel_rfl) (by kernel_rfl) rfl rfl rfl (fun bm_2 w_2 p_2 a_3 f_3 => ?_)
  have p_3 := p_2.pl [1]
  refine W_mapputL (ek := S) (ev := mapE) (m := ([] : List (List UInt8 × Option Nat))) (k := [68, 105, 115, 107]) (v := some bm_2) (m2 := [([68, 105, 115, 107], some bm_2)]) (kt := 9) (et := 90) (by kernel_rfl) f_3 p_3 (by kernel_rfl) (by kernel_rfl) rfl (.inr rfl) (by kernel_rfl) (by kernel_rfl) (by kernel_rfl) (by kernel_rfl) (strKey (by kernel_rfl)) (fun w_3 p_4 a_4 f_4 => ?_)
  refine W_newmap S specE f_4 p_4 (by kernel_rfl) (by kernel_rfl) rfl rfl rfl (fun bm_3 w_4 p_5 a_5 f_5 => ?_)
  have p_6 := p_5.pl [1]
  refine W_mapputL (ek := S) (ev := mapE) (m := [([68, 105, 115, 107], some bm_2)]) (k := [78, 101, 116]) (v := some bm_3) (m2 := [([68, 105, 115, 107], some bm_2), ([78, 101, 116], some bm_3)]) (kt := 9) (et := 90) (by kernel_rfl) f_5 p_6 (by kernel_rfl) (by kernel_rfl) rfl (.inr rfl) (by kernel_rfl) (by kernel_rfl) (by kernel_rfl) (by kernel_rfl) (strKey (by kernel_rfl)) (fun w_5 p_7 a_6 f_6 => ?_)
  refine W_newmap S specE f_6 p_7 (by kernel_rfl) (by kernel_rfl) rfl rfl rfl (fun bm_4 w_6 p_8 a_7 f_7 => ?_)
  have p_9 := p_8.pl [1]
  refine W_mapputL (ek := S) (ev := mapE) (m := [([68, 105, 115, 107], some bm_2), ([78, 101, 116], some bm_3)]) (k := [78, 111, 100, 101]) (v := some bm_4) (m2 := [([68, 105, 115, 107], some bm_2), ([78, 101, 116], some bm_3), ([78, 111, 100, 101], some bm_4)]) (kt := 9) (et := 90) (by kernel_rfl) f_7 p_9 (by kernel_rfl) (by kernel_rfl) rfl (.inr rfl) (by kernel_rfl) (by kernel_rfl) (by kernel_rfl) (by kernel_rfl) (strKey (by kernel_rfl)) (fun w_7 p_10 a_8 f_8 => ?_)
  refine W_newmap S specE f_8 p_10 (by kernel_rfl) (by kernel_rfl) rfl rfl rfl (fun bm_5 w_8 p_11 a_9 f_9 => ?_)
  have p_12 := p_11.pl [1]
  refine W_mapputL (ek := S) (ev := mapE) (m := [([68, 105, 115, 107], some bm_2), ([78, 101, 116], some bm_3), ([78, 111, 100, 101], some bm_4)]) (k := [82, 117, 108, 101]) (v := some bm_5) (m2 := [([68, 105, 115, 107], some bm_2), ([78, 101, 116], some bm_3), ([78, 111, 100, 101], some bm_4), ([82, 117, 108, 101], some bm_5)]) (kt := 9) (et := 90) (by kernel_rfl) f_9 p_12 (by kernel_rfl) (by kernel_rfl) rfl (.inr rfl) (by kernel_rfl) (by kernel_rfl) (by kernel_rfl) (by kernel_rfl) (strKey (by kernel_rfl)) (fun w_9 p_13 a_10 f_10 => ?_)
  refine V_run f_10 2 (by kernel_rfl) (fun a_11 f_11 => ?_)
  refine W_end rfl ?_
  refine T_n ?_
  refine R_seq ?_
  refine R_seq ?_
  refine R_reg ?_
  refine V_run f_11 24 (by kernel_rfl) (fun a_12 f_12 => ?_)
  refine W_end rfl ?_
  refine T_n ?_
  refine wp_block ?_
  refine wp_loop_rounds 12 ?_
  refine rounds_go ?_
  refine R_seq ?_
  refine R_reg ?_
  refine V_run f_12 1 (by kernel_rfl) (fun a_13 f_13 => ?_)
  refine W_end rfl ?_
  refine T_n ?_
  refine R_seq ?_
  refine R_cond_t f_13 (by kernel_rfl) (by kernel_rfl) ?_
  refine wp_skip ?_
  refine T_n ?_
  refine R_seq ?_
  refine wp_block ?_
  refine R_seq ?_
  refine R_reg ?_
  refine V_run f_13 1 (by kernel_rfl) (fun a_14 f_14 => ?_)
  refine V_alloc f_14 p_13 (.cells #[S [], S [], .int .i8 0, .bool false] 119 (0, 0)) (by kernel_rfl) (fun _ => by kernel_rfl) (fun b_1 w_10 p_14 a_15 f_15 => ?_)
  refine W_storeN (vs := [S [68, 105, 115, 107], S [83, 105, 122, 101], .int .i8 2, .bool false]) (j := 0) f_15 p_14 (by kernel_rfl) (by kernel_rfl) rfl rfl (by kernel_rfl) (by kernel_rfl) (by simp [Value.oneCell', S]) (by kernel_rfl) (by simp) (by decide) (cs' := #[S [68, 105, 115, 107], S [83, 105, 122, 101], .int .i8 2, .bool false]) rfl (fun w_11 p_15 a_16 f_16 => ?_)
  refine W_end rfl ?_
  refine T_n ?_
  refine R_reg ?_
  refine V_run f_16 2 (by kernel_rfl) (fun a_17 f_17 => ?_)
  refine V_eq (v := S [68, 105, 115, 107]) f_17 (by kernel_rfl) (X_load1 (v := S [68, 105, 115, 107]) rfl (ad := ⟨b_1, 0, none⟩) (by kernel_rfl) (by kernel_rfl) (p_15.ownCell 0 rfl 0)) (fun a_18 f_18 => ?_)
  refine V_eq (v := .map (some bm_2)) f_18 (by kernel_rfl) (X_lookupL (ek := S) (ev := mapE) (m := [([68, 105, 115, 107], some bm_2), ([78, 101, 116], some bm_3), ([78, 111, 100, 101], some bm_4), ([82, 117, 108, 101], some bm_5)]) (k := [68, 105, 115, 107]) (z := none) (v := some bm_2) (kt := 9) (et := 90) rfl (by kernel_rfl) (by kernel_rfl) (by kernel_rfl) (strKey (by kernel_rfl)) (by kernel_rfl) (by kernel_rfl) (p_15.ownObj 1 rfl)) (fun a_19 f_19 => ?_)
  refine V_run f_19 2 (by kernel_rfl) (fun a_20 f_20 => ?_)
  refine V_eq (v := S [83, 105, 122, 101]) f_20 (by kernel_rfl) (X_load1 (v := S [83, 105, 122, 101]) rfl (ad := ⟨b_1, 1, none⟩) (by kernel_rfl) (by kernel_rfl) (p_15.ownCell 0 rfl 1)) (fun a_21 f_21 => ?_)
  refine V_run f_21 1 (by kernel_rfl) (fun a_22 f_22 => ?_)
  refine V_eq (v := .agg #[S [83, 105, 122, 101], .int .i8 2, .bool false]) f_22 (by kernel_rfl) (X_loadN (cs := [S [83, 105, 122, 101], .int .i8 2, .bool false]) rfl (ad := ⟨b_1, 1, none⟩) (by kernel_rfl) (by kernel_rfl) (own_cells (p_15.ownCell 0 rfl) 1 rfl)) (fun a_23 f_23 => ?_)
  have p_16 := p_15.pl [5]
  refine W_mapputL (ek := S) (ev := specE) (m := ([] : List (List UInt8 × T_api_Spec))) (k := [83, 105, 122, 101]) (v := ⟨[83, 105, 122, 101], 2, false⟩) (m2 := [([83, 105, 122, 101], ⟨[83, 105, 122, 101], 2, false⟩)]) (kt := 9) (et := 64) (by kernel_rfl) f_23 p_16 (by kernel_rfl) (by kernel_rfl) rfl (.inl rfl) (by kernel_rfl) (by kernel_rfl) (by kernel_rfl) (by kernel_rfl) (strKey (by kernel_rfl)) (fun w_12 p_17 a_24 f_24 => ?_)
  refine W_end rfl ?_
  refine B_n ?_
  refine T_n ?_
  refine R_reg ?_
  refine V_run f_24 2 (by kernel_rfl) (fun a_25 f_25 => ?_)
  refine W_end rfl ?_
  refine T_n ?_
  refine rounds_go ?_
  refine R_seq ?_
  refine R_reg ?_
  refine V_run f_25 1 (by kernel_rfl) (fun a_26 f_26 => ?_)
  refine W_end rfl ?_
  refine T_n ?_
  refine R_seq ?_
  refine R_cond_t f_26 (by kernel_rfl) (by kernel_rfl) ?_
  refine wp_skip ?_
  refine T_n ?_
  refine R_seq ?_
  refine wp_block ?_
  refine R_seq ?_
  refine R_reg ?_
  refine V_run f_26 1 (by kernel_rfl) (fun a_27 f_27 => ?_)
  refine V_alloc f_27 p_17 (.cells #[S [], S [], .int .i8 0, .bool false] 119 (0, 0)) (by kernel_rfl) (fun _ => by kernel_rfl) (fun b_2 w_13 p_18 a_28 f_28 => ?_)
  refine W_storeN (vs := [S [68, 105, 115, 107], S [84, 97, 103, 115], .int .i8 4, .bool false]) (j := 0) f_28 p_18 (by kernel_rfl) (by kernel_rfl) rfl rfl (by kernel_rfl) (by kernel_rfl) (by simp [Value.oneCell', S]) (by kernel_rfl) (by simp) (by decide) (cs' := #[S [68, 105, 115, 107], S [84, 97, 103, 115], .int .i8 4, .bool false]) rfl (fun w_14 p_19 a_29 f_29 => ?_)
  refine W_end rfl ?_
  refine T_n ?_
  refine R_reg ?_
  refine V_run f_29 2 (by kernel_rfl) (fun a_30 f_30 => ?_)
  refine V_eq (v := S [68, 105, 115, 107]) f_30 (by kernel_rfl) (X_load1 (v := S [68, 105, 115, 107]) rfl (ad := ⟨b_2, 0, none⟩) (by kernel_rfl) (by kernel_rfl) (p_19.ownCell 0 rfl 0)) (fun a_31 f_31 => ?_)
  refine V_eq (v := .map (some bm_2)) f_31 (by kernel_rfl) (X_lookupL (ek := S) (ev := mapE) (m := [([68, 105, 115, 107], some bm_2), ([78, 101, 116], some bm_3), ([78, 111, 100, 101], some bm_4), ([82, 117, 108, 101], some bm_5)]) (k := [68, 105, 115, 107]) (z := none) (v := some bm_2) (kt := 9) (et := 90) rfl (by kernel_rfl) (by kernel_rfl) (by kernel_rfl) (strKey (by kernel_rfl)) (by kernel_rfl) (by kernel_rfl) (p_19.ownObj 3 rfl)) (fun a_32 f_32 => ?_)
  refine V_run f_32 2 (by kernel_rfl) (fun a_33 f_33 => ?_)
  refine V_eq (v := S [84, 97, 103, 115]) f_33 (by kernel_rfl) (X_load1 (v := S [84, 97, 103, 115]) rfl (ad := ⟨b_2, 1, none⟩) (by kernel_rfl) (by kernel_rfl) (p_19.ownCell 0 rfl 1)) (fun a_34 f_34 => ?_)
  refine V_run f_34 1 (by kernel_rfl) (fun a_35 f_35 => ?_)
  refine V_eq (v := .agg #[S [84, 97, 103, 115], .int .i8 4, .bool false]) f_35 (by kernel_rfl) (X_loadN (cs := [S [84, 97, 103, 115], .int .i8 4, .bool false]) rfl (ad := ⟨b_2, 1, none⟩) (by kernel_rfl) (by kernel_rfl) (own_cells (p_19.ownCell 0 rfl) 1 rfl)) (fun a_36 f_36 => ?_)
  have p_20 := p_19.pl [1]
  refine W_mapputL (ek := S) (ev := specE) (m := [([83, 105, 122, 101], ⟨[83, 105, 122, 101], 2, false⟩)]) (k := [84, 97, 103, 115]) (v := ⟨[84, 97, 103, 115], 4, false⟩) (m2 := [([83, 105, 122, 101], ⟨[83, 105, 122, 101], 2, false⟩), ([84, 97, 103, 115], ⟨[84, 97, 103, 115], 4, false⟩)]) (kt := 9) (et := 64) (by kernel_rfl) f_36 p_20 (by kernel_rfl) (by kernel_rfl) rfl (.inl rfl) (by kernel_rfl) (by kernel_rfl) (by kernel_rfl) (by kernel_rfl) (strKey (by kernel_rfl)) (fun w_15 p_21 a_37 f_37 => ?_)
  refine W_end rfl ?_
  refine B_n ?_
  refine T_n ?_
  refine R_reg ?_
  refine V_run f_37 2 (by kernel_rfl) (fun a_38 f_38 => ?_)
  refine W_end rfl ?_
  refine T_n ?_
  refine rounds_go ?_
  refine R_seq ?_
  refine R_reg ?_
  refine V_run f_38 1 (by kernel_rfl) (fun a_39 f_39 => ?_)
  refine W_end rfl ?_
  refine T_n ?_
  refine R_seq ?_
  refine R_cond_t f_39 (by kernel_rfl) (by kernel_rfl) ?_
  refine wp_skip ?_
  refine T_n ?_
  refine R_seq ?_
  refine wp_block ?_
  refine R_seq ?_
  refine R_reg ?_
  refine V_run f_39 1 (by kernel_rfl) (fun a_40 f_40 => ?_)
  refine V_alloc f_40 p_21 (.cells #[S [], S [], .int .i8 0, .bool false] 119 (0, 0)) (by kernel_rfl) (fun _ => by kernel_rfl) (fun b_3 w_16 p_22 a_41 f_41 => ?_)
  refine W_storeN (vs := [S [68, 105, 115, 107], S [75, 105, 110, 100], .int .i8 3, .bool true]) (j := 0) f_41 p_22 (by kernel_rfl) (by kernel_rfl) rfl rfl (by kernel_rfl) (by kernel_rfl) (by simp [Value.oneCell', S]) (by kernel_rfl) (by simp) (by decide) (cs' := #[S [68, 105, 115, 107], S [75, 105, 110, 100], .int .i8 3, .bool true]) rfl (fun w_17 p_23 a_42 f_42 => ?_)
  refine W_end rfl ?_
  refine T_n ?_
  refine R_reg ?_
  refine V_run f_42 2 (by kernel_rfl) (fun a_43 f_43 => ?_)
  refine V_eq (v := S [68, 105, 115, 107]) f_43 (by kernel_rfl) (X_load1 (v := S [68, 105, 115, 107]) rfl (ad := ⟨b_3, 0, none⟩) (by kernel_rfl) (by kernel_rfl) (p_23.ownCell 0 rfl 0)) (fun a_44 f_44 => ?_)
  refine V_eq (v := .map (some bm_2)) f_44 (by kernel_rfl) (X_lookupL (ek := S) (ev := mapE) (m := [([68, 105, 115, 107], some bm_2), ([78, 101, 116], some bm_3), ([78, 111, 100, 101], some bm_4), ([82, 117, 108, 101], some bm_5)]) (k := [68, 105, 115, 107]) (z := none) (v := some bm_2) (kt := 9) (et := 90) rfl (by kernel_rfl) (by kernel_rfl) (by kernel_rfl) (strKey (by kernel_rfl)) (by kernel_rfl) (by kernel_rfl) (p_23.ownObj 4 rfl)) (fun a_45 f_45 => ?_)
  refine V_run f_45 2 (by kernel_rfl) (fun a_46 f_46 => ?_)
  refine V_eq (v := S [75, 105, 110, 100]) f_46 (by kernel_rfl) (X_load1 (v := S [75, 105, 110, 100]) rfl (ad := ⟨b_3, 1, none⟩) (by kernel_rfl) (by kernel_rfl) (p_23.ownCell 0 rfl 1)) (fun a_47 f_47 => ?_)
  refine V_run f_47 1 (by kernel_rfl) (fun a_48 f_48 => ?_)
  refine V_eq (v := .agg #[S [75, 105, 110, 100], .int .i8 3, .bool true]) f_48 (by kernel_rfl) (X_loadN (cs := [S [75, 105, 110, 100], .int .i8 3, .bool true]) rfl (ad := ⟨b_3, 1, none⟩) (by kernel_rfl) (by kernel_rfl) (own_cells (p_23.ownCell 0 rfl) 1 rfl)) (fun a_49 f_49 => ?_)
  have p_24 := p_23.pl [1]
  refine W_mapputL (ek := S) (ev := specE) (m := [([83, 105, 122, 101], ⟨[83, 105, 122, 101], 2, false⟩), ([84, 97, 103, 115], ⟨[84, 97, 103, 115], 4, false⟩)]) (k := [75, 105, 110, 100]) (v := ⟨[75, 105, 110, 100], 3, true⟩) (m2 := [([83, 105, 122, 101], ⟨[83, 105, 122, 101], 2, false⟩), ([84, 97, 103, 115], ⟨[84, 97, 103, 115], 4, false⟩), ([75, 105, 110, 100], ⟨[75, 105, 110, 100], 3, true⟩)]) (kt := 9) (et := 64) (by kernel_rfl) f_49 p_24 (by kernel_rfl) (by kernel_rfl) rfl (.inl rfl) (by kernel_rfl) (by kernel_rfl) (by kernel_rfl) (by kernel_rfl) (strKey (by kernel_rfl)) (fun w_18 p_25 a_50 f_50 => ?_)
  refine W_end rfl ?_
  refine B_n ?_
  refine T_n ?_
  refine R_reg ?_
  refine V_run f_50 2 (by kernel_rfl) (fun a_51 f_51 => ?_)
  refine W_end rfl ?_
  refine T_n ?_
  refine rounds_go ?_
  refine R_seq ?_
  refine R_reg ?_
  refine V_run f_51 1 (by kernel_rfl) (fun a_52 f_52 => ?_)
  refine W_end rfl ?_
  refine T_n ?_
  refine R_seq ?_
  refine R_cond_t f_52 (by kernel_rfl) (by kernel_rfl) ?_
  refine wp_skip ?_
  refine T_n ?_
  refine R_seq ?_
  refine wp_block ?_
  refine R_seq ?_
  refine R_reg ?_
  refine V_run f_52 1 (by kernel_rfl) (fun a_53 f_53 => ?_)
  refine V_alloc f_53 p_25 (.cells #[S [], S [], .int .i8 0, .bool false] 119 (0, 0)) (by kernel_rfl) (fun _ => by kernel_rfl) (fun b_4 w_19 p_26 a_54 f_54 => ?_)
  refine W_storeN (vs := [S [78, 101, 116], S [76, 97, 98, 101, 108], .int .i8 3, .bool false]) (j := 0) f_54 p_26 (by kernel_rfl) (by kernel_rfl) rfl rfl (by kernel_rfl) (by kernel_rfl) (by simp [Value.oneCell', S]) (by kernel_rfl) (by simp) (by decide) (cs' := #[S [78, 101, 116], S [76, 97, 98, 101, 108], .int .i8 3, .bool false]) rfl (fun w_20 p_27 a_55 f_55 => ?_)
  refine W_end rfl ?_
  refine T_n ?_
  refine R_reg ?_
  refine V_run f_55 2 (by kernel_rfl) (fun a_56 f_56 => ?_)
  refine V_eq (v := S [78, 101, 116]) f_56 (by kernel_rfl) (X_load1 (v := S [78, 101, 116]) rfl (ad := ⟨b_4, 0, none⟩) (by kernel_rfl) (by kernel_rfl) (p_27.ownCell 0 rfl 0)) (fun a_57 f_57 => ?_)
  refine V_eq (v := .map (some bm_3)) f_57 (by kernel_rfl) (X_lookupL (ek := S) (ev := mapE) (m := [([68, 105, 115, 107], some bm_2), ([78, 101, 116], some bm_3), ([78, 111, 100, 101], some bm_4), ([82, 117, 108, 101], some bm_5)]) (k := [78, 101, 116]) (z := none) (v := some bm_3) (kt := 9) (et := 90) rfl (by kernel_rfl) (by kernel_rfl) (by kernel_rfl) (strKey (by kernel_rfl)) (by kernel_rfl) (by kernel_rfl) (p_27.ownObj 5 rfl)) (fun a_58 f_58 => ?_)
  refine V_run f_58 2 (by kernel_rfl) (fun a_59 f_59 => ?_)
  refine V_eq (v := S [76, 97, 98, 101, 108]) f_59 (by kernel_rfl) (X_load1 (v := S [76, 97, 98, 101, 108]) rfl (ad := ⟨b_4, 1, none⟩) (by kernel_rfl) (by kernel_rfl) (p_27.ownCell 0 rfl 1)) (fun a_60 f_60 => ?_)
  refine V_run f_60 1 (by kernel_rfl) (fun a_61 f_61 => ?_)
  refine V_eq (v := .agg #[S [76, 97, 98, 101, 108], .int .i8 3, .bool false]) f_61 (by kernel_rfl) (X_loadN (cs := [S [76, 97, 98, 101, 108], .int .i8 3, .bool false]) rfl (ad := ⟨b_4, 1, none⟩) (by kernel_rfl) (by kernel_rfl) (own_cells (p_27.ownCell 0 rfl) 1 rfl)) (fun a_62 f_62 => ?_)
  have p_28 := p_27.pl [8]
  refine W_mapputL (ek := S) (ev := specE) (m := ([] : List (List UInt8 × T_api_Spec))) (k := [76, 97, 98, 101, 108]) (v := ⟨[76, 97, 98, 101, 108], 3, false⟩) (m2 := [([76, 97, 98, 101, 108], ⟨[76, 97, 98, 101, 108], 3, false⟩)]) (kt := 9) (et := 64) (by kernel_rfl) f_62 p_28 (by kernel_rfl) (by kernel_rfl) rfl (.inl rfl) (by kernel_rfl) (by kernel_rfl) (by kernel_rfl) (by kernel_rfl) (strKey (by kernel_rfl)) (fun w_21 p_29 a_63 f_63 => ?_)
  refine W_end rfl ?_
  refine B_n ?_
  refine T_n ?_
  refine R_reg ?_
  refine V_run f_63 2 (by kernel_rfl) (fun a_64 f_64 => ?_)
  refine W_end rfl ?_
  refine T_n ?_
  refine rounds_go ?_
  refine R_seq ?_
  refine R_reg ?_
  refine V_run f_64 1 (by kernel_rfl) (fun a_65 f_65 => ?_)
  refine W_end rfl ?_
  refine T_n ?_
  refine R_seq ?_
  refine R_cond_t f_65 (by kernel_rfl) (by kernel_rfl) ?_
  refine wp_skip ?_
  refine T_n ?_
  refine R_seq ?_
  refine wp_block ?_
  refine R_seq ?_
  refine R_reg ?_
  refine V_run f_65 1 (by kernel_rfl) (fun a_66 f_66 => ?_)
  refine V_alloc f_66 p_29 (.cells #[S [], S [], .int .i8 0, .bool false] 119 (0, 0)) (by kernel_rfl) (fun _ => by kernel_rfl) (fun b_5 w_22 p_30 a_67 f_67 => ?_)
  refine W_storeN (vs := [S [78, 101, 116], S [82, 97, 110, 103, 101], .int .i8 3, .bool true]) (j := 0) f_67 p_30 (by kernel_rfl) (by kernel_rfl) rfl rfl (by kernel_rfl) (by kernel_rfl) (by simp [Value.oneCell', S]) (by kernel_rfl) (by simp) (by decide) (cs' := #[S [78, 101, 116], S [82, 97, 110, 103, 101], .int .i8 3, .bool true]) rfl (fun w_23 p_31 a_68 f_68 => ?_)
  refine W_end rfl ?_
  refine T_n ?_
  refine R_reg ?_
  refine V_run f_68 2 (by kernel_rfl) (fun a_69 f_69 => ?_)
  refine V_eq (v := S [78, 101, 116]) f_69 (by kernel_rfl) (X_load1 (v := S [78, 101, 116]) rfl (ad := ⟨b_5, 0, none⟩) (by kernel_rfl) (by kernel_rfl) (p_31.ownCell 0 rfl 0)) (fun a_70 f_70 => ?_)
  refine V_eq (v := .map (some bm_3)) f_70 (by kernel_rfl) (X_lookupL (ek := S) (ev := mapE) (m := [([68, 105, 115, 107], some bm_2), ([78, 101, 116], some bm_3), ([78, 111, 100, 101], some bm_4), ([82, 117, 108, 101], some bm_5)]) (k := [78, 101, 116]) (z := none) (v := some bm_3) (kt := 9) (et := 90) rfl (by kernel_rfl) (by kernel_rfl) (by kernel_rfl) (strKey (by kernel_rfl)) (by kernel_rfl) (by kernel_rfl) (p_31.ownObj 7 rfl)) (fun a_71 f_71 => ?_)
  refine V_run f_71 2 (by kernel_rfl) (fun a_72 f_72 => ?_)
  refine V_eq (v := S [82, 97, 110, 103, 101]) f_72 (by kernel_rfl) (X_load1 (v := S [82, 97, 110, 103, 101]) rfl (ad := ⟨b_5, 1, none⟩) (by kernel_rfl) (by kernel_rfl) (p_31.ownCell 0 rfl 1)) (fun a_73 f_73 => ?_)
  refine V_run f_73 1 (by kernel_rfl) (fun a_74 f_74 => ?_)
  refine V_eq (v := .agg #[S [82, 97, 110, 103, 101], .int .i8 3, .bool true]) f_74 (by kernel_rfl) (X_loadN (cs := [S [82, 97, 110, 103, 101], .int .i8 3, .bool true]) rfl (ad := ⟨b_5, 1, none⟩) (by kernel_rfl) (by kernel_rfl) (own_cells (p_31.ownCell 0 rfl) 1 rfl)) (fun a_75 f_75 => ?_)
  have p_32 := p_31.pl [1]
  refine W_mapputL (ek := S) (ev := specE) (m := [([76, 97, 98, 101, 108], ⟨[76, 97, 98, 101, 108], 3, false⟩)]) (k := [82, 97, 110, 103, 101]) (v := ⟨[82, 97, 110, 103, 101], 3, true⟩) (m2 := [([76, 97, 98, 101, 108], ⟨[76, 97, 98, 101, 108], 3, false⟩), ([82, 97, 110, 103, 101], ⟨[82, 97, 110, 103, 101], 3, true⟩)]) (kt := 9) (et := 64) (by kernel_rfl) f_75 p_32 (by kernel_rfl) (by kernel_rfl) rfl (.inl rfl) (by kernel_rfl) (by kernel_rfl) (by kernel_rfl) (by kernel_rfl) (strKey (by kernel_rfl)) (fun w_24 p_33 a_76 f_76 => ?_)
  refine W_end rfl ?_
  refine B_n ?_
  refine T_n ?_
  refine R_reg ?_
  refine V_run f_76 2 (by kernel_rfl) (fun a_77 f_77 => ?_)
  refine W_end rfl ?_
  refine T_n ?_
  refine rounds_go ?_
  refine R_seq ?_
  refine R_reg ?_
  refine V_run f_77 1 (by kernel_rfl) (fun a_78 f_78 => ?_)
  refine W_end rfl ?_
  refine T_n ?_
  refine R_seq ?_
  refine R_cond_t f_78 (by kernel_rfl) (by kernel_rfl) ?_
  refine wp_skip ?_
  refine T_n ?_
  refine R_seq ?_
  refine wp_block ?_
  refine R_seq ?_
  refine R_reg ?_
  refine V_run f_78 1 (by kernel_rfl) (fun a_79 f_79 => ?_)
  refine V_alloc f_79 p_33 (.cells #[S [], S [], .int .i8 0, .bool false] 119 (0, 0)) (by kernel_rfl) (fun _ => by kernel_rfl) (fun b_6 w_25 p_34 a_80 f_80 => ?_)
  refine W_storeN (vs := [S [78, 111, 100, 101], S [67, 111, 117, 110, 116], .int .i8 2, .bool false]) (j := 0) f_80 p_34 (by kernel_rfl) (by kernel_rfl) rfl rfl (by kernel_rfl) (by kernel_rfl) (by simp [Value.oneCell', S]) (by kernel_rfl) (by simp) (by decide) (cs' := #[S [78, 111, 100, 101], S [67, 111, 117, 110, 116], .int .i8 2, .bool false]) rfl (fun w_26 p_35 a_81 f_81 => ?_)
  refine W_end rfl ?_
  refine T_n ?_
  refine R_reg ?_
  refine V_run f_81 2 (by kernel_rfl) (fun a_82 f_82 => ?_)
  refine V_eq (v := S [78, 111, 100, 101]) f_82 (by kernel_rfl) (X_load1 (v := S [78, 111, 100, 101]) rfl (ad := ⟨b_6, 0, none⟩) (by kernel_rfl) (by kernel_rfl) (p_35.ownCell 0 rfl 0)) (fun a_83 f_83 => ?_)
  refine V_eq (v := .map (some bm_4)) f_83 (by kernel_rfl) (X_lookupL (ek := S) (ev := mapE) (m := [([68, 105, 115, 107], some bm_2), ([78, 101, 116], some bm_3), ([78, 111, 100, 101], some bm_4), ([82, 117, 108, 101], some bm_5)]) (k := [78, 111, 100, 101]) (z := none) (v := some bm_4) (kt := 9) (et := 90) rfl (by kernel_rfl) (by kernel_rfl) (by kernel_rfl) (strKey (by kernel_rfl)) (by kernel_rfl) (by kernel_rfl) (p_35.ownObj 8 rfl)) (fun a_84 f_84 => ?_)
  refine V_run f_84 2 (by kernel_rfl) (fun a_85 f_85 => ?_)
  refine V_eq (v := S [67, 111, 117, 110, 116]) f_85 (by kernel_rfl) (X_load1 (v := S [67, 111, 117, 110, 116]) rfl (ad := ⟨b_6, 1, none⟩) (by kernel_rfl) (by kernel_rfl) (p_35.ownCell 0 rfl 1)) (fun a_86 f_86 => ?_)
  refine V_run f_86 1 (by kernel_rfl) (fun a_87 f_87 => ?_)
  refine V_eq (v := .agg #[S [67, 111, 117, 110, 116], .int .i8 2, .bool false]) f_87 (by kernel_rfl) (X_loadN (cs := [S [67, 111, 117, 110, 116], .int .i8 2, .bool false]) rfl (ad := ⟨b_6, 1, none⟩) (by kernel_rfl) (by kernel_rfl) (own_cells (p_35.ownCell 0 rfl) 1 rfl)) (fun a_88 f_88 => ?_)
  have p_36 := p_35.pl [10]
  refine W_mapputL (ek := S) (ev := specE) (m := ([] : List (List UInt8 × T_api_Spec))) (k := [67, 111, 117, 110, 116]) (v := ⟨[67, 111, 117, 110, 116], 2, false⟩) (m2 := [([67, 111, 117, 110, 116], ⟨[67, 111, 117, 110, 116], 2, false⟩)]) (kt := 9) (et := 64) (by kernel_rfl) f_88 p_36 (by kernel_rfl) (by kernel_rfl) rfl (.inl rfl) (by kernel_rfl) (by kernel_rfl) (by kernel_rfl) (by kernel_rfl) (strKey (by kernel_rfl)) (fun w_27 p_37 a_89 f_89 => ?_)
  refine W_end rfl ?_
  refine B_n ?_
  refine T_n ?_
  refine R_reg ?_
  refine V_run f_89 2 (by kernel_rfl) (fun a_90 f_90 => ?_)
  refine W_end rfl ?_
  refine T_n ?_
  refine rounds_go ?_
  refine R_seq ?_
  refine R_reg ?_
  refine V_run f_90 1 (by kernel_rfl) (fun a_91 f_91 => ?_)
  refine W_end rfl ?_
  refine T_n ?_
  refine R_seq ?_
  refine R_cond_t f_91 (by kernel_rfl) (by kernel_rfl) ?_
  refine wp_skip ?_
  refine T_n ?_
  refine R_seq ?_
  refine wp_block ?_
  refine R_seq ?_
  refine R_reg ?_
  refine V_run f_91 1 (by kernel_rfl) (fun a_92 f_92 => ?_)
  refine V_alloc f_92 p_37 (.cells #[S [], S [], .int .i8 0, .bool false] 119 (0, 0)) (by kernel_rfl) (fun _ => by kernel_rfl) (fun b_7 w_28 p_38 a_93 f_93 => ?_)
  refine W_storeN (vs := [S [78, 111, 100, 101], S [68, 105, 115, 107], .int .i8 3, .bool false]) (j := 0) f_93 p_38 (by kernel_rfl) (by kernel_rfl) rfl rfl (by kernel_rfl) (by kernel_rfl) (by simp [Value.oneCell', S]) (by kernel_rfl) (by simp) (by decide) (cs' := #[S [78, 111, 100, 101], S [68, 105, 115, 107], .int .i8 3, .bool false]) rfl (fun w_29 p_39 a_94 f_94 => ?_)
  refine W_end rfl ?_
  refine T_n ?_
  refine R_reg ?_
  refine V_run f_94 2 (by kernel_rfl) (fun a_95 f_95 => ?_)
  refine V_eq (v := S [78, 111, 100, 101]) f_95 (by kernel_rfl) (X_load1 (v := S [78, 111, 100, 101]) rfl (ad := ⟨b_7, 0, none⟩) (by kernel_rfl) (by kernel_rfl) (p_39.ownCell 0 rfl 0)) (fun a_96 f_96 => ?_)
  refine V_eq (v := .map (some bm_4)) f_96 (by kernel_rfl) (X_lookupL (ek := S) (ev := mapE) (m := [([68, 105, 115, 107], some bm_2), ([78, 101, 116], some bm_3), ([78, 111, 100, 101], some bm_4), ([82, 117, 108, 101], some bm_5)]) (k := [78, 111, 100, 101]) (z := none) (v := some bm_4) (kt := 9) (et := 90) rfl (by kernel_rfl) (by kernel_rfl) (by kernel_rfl) (strKey (by kernel_rfl)) (by kernel_rfl) (by kernel_rfl) (p_39.ownObj 10 rfl)) (fun a_97 f_97 => ?_)
  refine V_run f_97 2 (by kernel_rfl) (fun a_98 f_98 => ?_)
  refine V_eq (v := S [68, 105, 115, 107]) f_98 (by kernel_rfl) (X_load1 (v := S [68, 105, 115, 107]) rfl (ad := ⟨b_7, 1, none⟩) (by kernel_rfl) (by kernel_rfl) (p_39.ownCell 0 rfl 1)) (fun a_99 f_99 => ?_)
  refine V_run f_99 1 (by kernel_rfl) (fun a_100 f_100 => ?_)
  refine V_eq (v := .agg #[S [68, 105, 115, 107], .int .i8 3, .bool false]) f_100 (by kernel_rfl) (X_loadN (cs := [S [68, 105, 115, 107], .int .i8 3, .bool false]) rfl (ad := ⟨b_7, 1, none⟩) (by kernel_rfl) (by kernel_rfl) (own_cells (p_39.ownCell 0 rfl) 1 rfl)) (fun a_101 f_101 => ?_)
  have p_40 := p_39.pl [1]
  refine W_mapputL (ek := S) (ev := specE) (m := [([67, 111, 117, 110, 116], ⟨[67, 111, 117, 110, 116], 2, false⟩)]) (k := [68, 105, 115, 107]) (v := ⟨[68, 105, 115, 107], 3, false⟩) (m2 := [([67, 111, 117, 110, 116], ⟨[67, 111, 117, 110, 116], 2, false⟩), ([68, 105, 115, 107], ⟨[68, 105, 115, 107], 3, false⟩)]) (kt := 9) (et := 64) (by kernel_rfl) f_101 p_40 (by kernel_rfl) (by kernel_rfl) rfl (.inl rfl) (by kernel_rfl) (by kernel_rfl) (by kernel_rfl) (by kernel_rfl) (strKey (by kernel_rfl)) (fun w_30 p_41 a_102 f_102 => ?_)
  refine W_end rfl ?_
  refine B_n ?_
  refine T_n ?_
  refine R_reg ?_
  refine V_run f_102 2 (by kernel_rfl) (fun a_103 f_103 => ?_)
  refine W_end rfl ?_
  refine T_n ?_
  refine rounds_go ?_
  refine R_seq ?_
  refine R_reg ?_
  refine V_run f_103 1 (by kernel_rfl) (fun a_104 f_104 => ?_)
  refine W_end rfl ?_
  refine T_n ?_
  refine R_seq ?_
  refine R_cond_t f_104 (by kernel_rfl) (by kernel_rfl) ?_
  refine wp_skip ?_
  refine T_n ?_
  refine R_seq ?_
  refine wp_block ?_
  refine R_seq ?_
  refine R_reg ?_
  refine V_run f_104 1 (by kernel_rfl) (fun a_105 f_105 => ?_)
  refine V_alloc f_105 p_41 (.cells #[S [], S [], .int .i8 0, .bool false] 119 (0, 0)) (by kernel_rfl) (fun _ => by kernel_rfl) (fun b_8 w_31 p_42 a_106 f_106 => ?_)
  refine W_storeN (vs := [S [78, 111, 100, 101], S [73, 109, 97, 103, 101], .int .i8 3, .bool true]) (j := 0) f_106 p_42 (by kernel_rfl) (by kernel_rfl) rfl rfl (by kernel_rfl) (by kernel_rfl) (by simp [Value.oneCell', S]) (by kernel_rfl) (by simp) (by decide) (cs' := #[S [78, 111, 100, 101], S [73, 109, 97, 103, 101], .int .i8 3, .bool true]) rfl (fun w_32 p_43 a_107 f_107 => ?_)
  refine W_end rfl ?_
  refine T_n ?_
  refine R_reg ?_
  refine V_run f_107 2 (by kernel_rfl) (fun a_108 f_108 => ?_)
  refine V_eq (v := S [78, 111, 100, 101]) f_108 (by kernel_rfl) (X_load1 (v := S [78, 111, 100, 101]) rfl (ad := ⟨b_8, 0, none⟩) (by kernel_rfl) (by kernel_rfl) (p_43.ownCell 0 rfl 0)) (fun a_109 f_109 => ?_)
  refine V_eq (v := .map (some bm_4)) f_109 (by kernel_rfl) (X_lookupL (ek := S) (ev := mapE) (m := [([68, 105, 115, 107], some bm_2), ([78, 101, 116], some bm_3), ([78, 111, 100, 101], some bm_4), ([82, 117, 108, 101], some bm_5)]) (k := [78, 111, 100, 101]) (z := none) (v := some bm_4) (kt := 9) (et := 90) rfl (by kernel_rfl) (by kernel_rfl) (by kernel_rfl) (strKey (by kernel_rfl)) (by kernel_rfl) (by kernel_rfl) (p_43.ownObj 11 rfl)) (fun a_110 f_110 => ?_)
  refine V_run f_110 2 (by kernel_rfl) (fun a_111 f_111 => ?_)
  refine V_eq (v := S [73, 109, 97, 103, 101]) f_111 (by kernel_rfl) (X_load1 (v := S [73, 109, 97, 103, 101]) rfl (ad := ⟨b_8, 1, none⟩) (by kernel_rfl) (by kernel_rfl) (p_43.ownCell 0 rfl 1)) (fun a_112 f_112 => ?_)
  refine V_run f_112 1 (by kernel_rfl) (fun a_113 f_113 => ?_)
  refine V_eq (v := .agg #[S [73, 109, 97, 103, 101], .int .i8 3, .bool true]) f_113 (by kernel_rfl) (X_loadN (cs := [S [73, 109, 97, 103, 101], .int .i8 3, .bool true]) rfl (ad := ⟨b_8, 1, none⟩) (by kernel_rfl) (by kernel_rfl) (own_cells (p_43.ownCell 0 rfl) 1 rfl)) (fun a_114 f_114 => ?_)
  have p_44 := p_43.pl [1]
  refine W_mapputL (ek := S) (ev := specE) (m := [([67, 111, 117, 110, 116], ⟨[67, 111, 117, 110, 116], 2, false⟩), ([68, 105, 115, 107], ⟨[68, 105, 115, 107], 3, false⟩)]) (k := [73, 109, 97, 103, 101]) (v := ⟨[73, 109, 97, 103, 101], 3, true⟩) (m2 := [([67, 111, 117, 110, 116], ⟨[67, 111, 117, 110, 116], 2, false⟩), ([68, 105, 115, 107], ⟨[68, 105, 115, 107], 3, false⟩), ([73, 109, 97, 103, 101], ⟨[73, 109, 97, 103, 101], 3, true⟩)]) (kt := 9) (et := 64) (by kernel_rfl) f_114 p_44 (by kernel_rfl) (by kernel_rfl) rfl (.inl rfl) (by kernel_rfl) (by kernel_rfl) (by kernel_rfl) (by kernel_rfl) (strKey (by kernel_rfl)) (fun w_33 p_45 a_115 f_115 => ?_)
  refine W_end rfl ?_
  refine B_n ?_
  refine T_n ?_
  refine R_reg ?_
  refine V_run f_115 2 (by kernel_rfl) (fun a_116 f_116 => ?_)
  refine W_end rfl ?_
  refine T_n ?_
  refine rounds_go ?_
  refine R_seq ?_
  refine R_reg ?_
  refine V_run f_116 1 (by kernel_rfl) (fun a_117 f_117 => ?_)
  refine W_end rfl ?_
  refine T_n ?_
  refine R_seq ?_
  refine R_cond_t f_117 (by kernel_rfl) (by kernel_rfl) ?_
  refine wp_skip ?_
  refine T_n ?_
  refine R_seq ?_
  refine wp_block ?_
  refine R_seq ?_
  refine R_reg ?_
  refine V_run f_117 1 (by kernel_rfl) (fun a_118 f_118 => ?_)
  refine V_alloc f_118 p_45 (.cells #[S [], S [], .int .i8 0, .bool false] 119 (0, 0)) (by kernel_rfl) (fun _ => by kernel_rfl) (fun b_9 w_34 p_46 a_119 f_119 => ?_)
  refine W_storeN (vs := [S [78, 111, 100, 101], S [78, 101, 116], .int .i8 3, .bool true]) (j := 0) f_119 p_46 (by kernel_rfl) (by kernel_rfl) rfl rfl (by kernel_rfl) (by kernel_rfl) (by simp [Value.oneCell', S]) (by kernel_rfl) (by simp) (by decide) (cs' := #[S [78, 111, 100, 101], S [78, 101, 116], .int .i8 3, .bool true]) rfl (fun w_35 p_47 a_120 f_120 => ?_)
  refine W_end rfl ?_
  refine T_n ?_
  refine R_reg ?_
  refine V_run f_120 2 (by kernel_rfl) (fun a_121 f_121 => ?_)
  refine V_eq (v := S [78, 111, 100, 101]) f_121 (by kernel_rfl) (X_load1 (v := S [78, 111, 100, 101]) rfl (ad := ⟨b_9, 0, none⟩) (by kernel_rfl) (by kernel_rfl) (p_47.ownCell 0 rfl 0)) (fun a_122 f_122 => ?_)
  refine V_eq (v := .map (some bm_4)) f_122 (by kernel_rfl) (X_lookupL (ek := S) (ev := mapE) (m := [([68, 105, 115, 107], some bm_2), ([78, 101, 116], some bm_3), ([78, 111, 100, 101], some bm_4), ([82, 117, 108, 101], some bm_5)]) (k := [78, 111, 100, 101]) (z := none) (v := some bm_4) (kt := 9) (et := 90) rfl (by kernel_rfl) (by kernel_rfl) (by kernel_rfl) (strKey (by kernel_rfl)) (by kernel_rfl) (by kernel_rfl) (p_47.ownObj 12 rfl)) (fun a_123 f_123 => ?_)
  refine V_run f_123 2 (by kernel_rfl) (fun a_124 f_124 => ?_)
  refine V_eq (v := S [78, 101, 116]) f_124 (by kernel_rfl) (X_load1 (v := S [78, 101, 116]) rfl (ad := ⟨b_9, 1, none⟩) (by kernel_rfl) (by kernel_rfl) (p_47.ownCell 0 rfl 1)) (fun a_125 f_125 => ?_)
  refine V_run f_125 1 (by kernel_rfl) (fun a_126 f_126 => ?_)
  refine V_eq (v := .agg #[S [78, 101, 116], .int .i8 3, .bool true]) f_126 (by kernel_rfl) (X_loadN (cs := [S [78, 101, 116], .int .i8 3, .bool true]) rfl (ad := ⟨b_9, 1, none⟩) (by kernel_rfl) (by kernel_rfl) (own_cells (p_47.ownCell 0 rfl) 1 rfl)) (fun a_127 f_127 => ?_)
  have p_48 := p_47.pl [1]
  refine W_mapputL (ek := S) (ev := specE) (m := [([67, 111, 117, 110, 116], ⟨[67, 111, 117, 110, 116], 2, false⟩), ([68, 105, 115, 107], ⟨[68, 105, 115, 107], 3, false⟩), ([73, 109, 97, 103, 101], ⟨[73, 109, 97, 103, 101], 3, true⟩)]) (k := [78, 101, 116]) (v := ⟨[78, 101, 116], 3, true⟩) (m2 := [([67, 111, 117, 110, 116], ⟨[67, 111, 117, 110, 116], 2, false⟩), ([68, 105, 115, 107], ⟨[68, 105, 115, 107], 3, false⟩), ([73, 109, 97, 103, 101], ⟨[73, 109, 97, 103, 101], 3, true⟩), ([78, 101, 116], ⟨[78, 101, 116], 3, true⟩)]) (kt := 9) (et := 64) (by kernel_rfl) f_127 p_48 (by kernel_rfl) (by kernel_rfl) rfl (.inl rfl) (by kernel_rfl) (by kernel_rfl) (by kernel_rfl) (by kernel_rfl) (strKey (by kernel_rfl)) (fun w_36 p_49 a_128 f_128 => ?_)
  refine W_end rfl ?_
  refine B_n ?_
  refine T_n ?_
  refine R_reg ?_
  refine V_run f_128 2 (by kernel_rfl) (fun a_129 f_129 => ?_)
  refine W_end rfl ?_
  refine T_n ?_
  refine rounds_go ?_
  refine R_seq ?_
  refine R_reg ?_
  refine V_run f_129 1 (by kernel_rfl) (fun a_130 f_130 => ?_)
  refine W_end rfl ?_
  refine T_n ?_
  refine R_seq ?_
  refine R_cond_t f_130 (by kernel_rfl) (by kernel_rfl) ?_
  refine wp_skip ?_
  refine T_n ?_
  refine R_seq ?_
  refine wp_block ?_
  refine R_seq ?_
  refine R_reg ?_
  refine V_run f_130 1 (by kernel_rfl) (fun a_131 f_131 => ?_)
  refine V_alloc f_131 p_49 (.cells #[S [], S [], .int .i8 0, .bool false] 119 (0, 0)) (by kernel_rfl) (fun _ => by kernel_rfl) (fun b_10 w_37 p_50 a_132 f_132 => ?_)
  refine W_storeN (vs := [S [82, 117, 108, 101], S [78, 111, 100, 101], .int .i8 3, .bool false]) (j := 0) f_132 p_50 (by kernel_rfl) (by kernel_rfl) rfl rfl (by kernel_rfl) (by kernel_rfl) (by simp [Value.oneCell', S]) (by kernel_rfl) (by simp) (by decide) (cs' := #[S [82, 117, 108, 101], S [78, 111, 100, 101], .int .i8 3, .bool false]) rfl (fun w_38 p_51 a_133 f_133 => ?_)
  refine W_end rfl ?_
  refine T_n ?_
  refine R_reg ?_
  refine V_run f_133 2 (by kernel_rfl) (fun a_134 f_134 => ?_)
  refine V_eq (v := S [82, 117, 108, 101]) f_134 (by kernel_rfl) (X_load1 (v := S [82, 117, 108, 101]) rfl (ad := ⟨b_10, 0, none⟩) (by kernel_rfl) (by kernel_rfl) (p_51.ownCell 0 rfl 0)) (fun a_135 f_135 => ?_)
  refine V_eq (v := .map (some bm_5)) f_135 (by kernel_rfl) (X_lookupL (ek := S) (ev := mapE) (m := [([68, 105, 115, 107], some bm_2), ([78, 101, 116], some bm_3), ([78, 111, 100, 101], some bm_4), ([82, 117, 108, 101], some bm_5)]) (k := [82, 117, 108, 101]) (z := none) (v := some bm_5) (kt := 9) (et := 90) rfl (by kernel_rfl) (by kernel_rfl) (by kernel_rfl) (strKey (by kernel_rfl)) (by kernel_rfl) (by kernel_rfl) (p_51.ownObj 13 rfl)) (fun a_136 f_136 => ?_)
  refine V_run f_136 2 (by kernel_rfl) (fun a_137 f_137 => ?_)
  refine V_eq (v := S [78, 111, 100, 101]) f_137 (by kernel_rfl) (X_load1 (v := S [78, 111, 100, 101]) rfl (ad := ⟨b_10, 1, none⟩) (by kernel_rfl) (by kernel_rfl) (p_51.ownCell 0 rfl 1)) (fun a_138 f_138 => ?_)
  refine V_run f_138 1 (by kernel_rfl) (fun a_139 f_139 => ?_)
  refine V_eq (v := .agg #[S [78, 111, 100, 101], .int .i8 3, .bool false]) f_139 (by kernel_rfl) (X_loadN (cs := [S [78, 111, 100, 101], .int .i8 3, .bool false]) rfl (ad := ⟨b_10, 1, none⟩) (by kernel_rfl) (by kernel_rfl) (own_cells (p_51.ownCell 0 rfl) 1 rfl)) (fun a_140 f_140 => ?_)
  have p_52 := p_51.pl [14]
  refine W_mapputL (ek := S) (ev := specE) (m := ([] : List (List UInt8 × T_api_Spec))) (k := [78, 111, 100, 101]) (v := ⟨[78, 111, 100, 101], 3, false⟩) (m2 := [([78, 111, 100, 101], ⟨[78, 111, 100, 101], 3, false⟩)]) (kt := 9) (et := 64) (by kernel_rfl) f_140 p_52 (by kernel_rfl) (by kernel_rfl) rfl (.inl rfl) (by kernel_rfl) (by kernel_rfl) (by kernel_rfl) (by kernel_rfl) (strKey (by kernel_rfl)) (fun w_39 p_53 a_141 f_141 => ?_)
  refine W_end rfl ?_
  refine B_n ?_
  refine T_n ?_
  refine R_reg ?_
  refine V_run f_141 2 (by kernel_rfl) (fun a_142 f_142 => ?_)
  refine W_end rfl ?_
  refine T_n ?_
  refine rounds_go ?_
  refine R_seq ?_
  refine R_reg ?_
  refine V_run f_142 1 (by kernel_rfl) (fun a_143 f_143 => ?_)
  refine W_end rfl ?_
  refine T_n ?_
  refine R_seq ?_
  refine R_cond_t f_143 (by kernel_rfl) (by kernel_rfl) ?_
  refine wp_skip ?_
  refine T_n ?_
  refine R_seq ?_
  refine wp_block ?_
  refine R_seq ?_
  refine R_reg ?_
  refine V_run f_143 1 (by kernel_rfl) (fun a_144 f_144 => ?_)
  refine V_alloc f_144 p_53 (.cells #[S [], S [], .int .i8 0, .bool false] 119 (0, 0)) (by kernel_rfl) (fun _ => by kernel_rfl) (fun b_11 w_40 p_54 a_145 f_145 => ?_)
  refine W_storeN (vs := [S [82, 117, 108, 101], S [80, 111, 114, 116], .int .i8 2, .bool true]) (j := 0) f_145 p_54 (by kernel_rfl) (by kernel_rfl) rfl rfl (by kernel_rfl) (by kernel_rfl) (by simp [Value.oneCell', S]) (by kernel_rfl) (by simp) (by decide) (cs' := #[S [82, 117, 108, 101], S [80, 111, 114, 116], .int .i8 2, .bool true]) rfl (fun w_41 p_55 a_146 f_146 => ?_)
  refine W_end rfl ?_
  refine T_n ?_
  refine R_reg ?_
  refine V_run f_146 2 (by kernel_rfl) (fun a_147 f_147 => ?_)
  refine V_eq (v := S [82, 117, 108, 101]) f_147 (by kernel_rfl) (X_load1 (v := S [82, 117, 108, 101]) rfl (ad := ⟨b_11, 0, none⟩) (by kernel_rfl) (by kernel_rfl) (p_55.ownCell 0 rfl 0)) (fun a_148 f_148 => ?_)
  refine V_eq (v := .map (some bm_5)) f_148 (by kernel_rfl) (X_lookupL (ek := S) (ev := mapE) (m := [([68, 105, 115, 107], some bm_2), ([78, 101, 116], some bm_3), ([78, 111, 100, 101], some bm_4), ([82, 117, 108, 101], some bm_5)]) (k := [82, 117, 108, 101]) (z := none) (v := some bm_5) (kt := 9) (et := 90) rfl (by kernel_rfl) (by kernel_rfl) (by kernel_rfl) (strKey (by kernel_rfl)) (by kernel_rfl) (by kernel_rfl) (p_55.ownObj 15 rfl)) (fun a_149 f_149 => ?_)
  refine V_run f_149 2 (by kernel_rfl) (fun a_150 f_150 => ?_)
  refine V_eq (v := S [80, 111, 114, 116]) f_150 (by kernel_rfl) (X_load1 (v := S [80, 111, 114, 116]) rfl (ad := ⟨b_11, 1, none⟩) (by kernel_rfl) (by kernel_rfl) (p_55.ownCell 0 rfl 1)) (fun a_151 f_151 => ?_)
  refine V_run f_151 1 (by kernel_rfl) (fun a_152 f_152 => ?_)
  refine V_eq (v := .agg #[S [80, 111, 114, 116], .int .i8 2, .bool true]) f_152 (by kernel_rfl) (X_loadN (cs := [S [80, 111, 114, 116], .int .i8 2, .bool true]) rfl (ad := ⟨b_11, 1, none⟩) (by kernel_rfl) (by kernel_rfl) (own_cells (p_55.ownCell 0 rfl) 1 rfl)) (fun a_153 f_153 => ?_)
  have p_56 := p_55.pl [1]
  refine W_mapputL (ek := S) (ev := specE) (m := [([78, 111, 100, 101], ⟨[78, 111, 100, 101], 3, false⟩)]) (k := [80, 111, 114, 116]) (v := ⟨[80, 111, 114, 116], 2, true⟩) (m2 := [([78, 111, 100, 101], ⟨[78, 111, 100, 101], 3, false⟩), ([80, 111, 114, 116], ⟨[80, 111, 114, 116], 2, true⟩)]) (kt := 9) (et := 64) (by kernel_rfl) f_153 p_56 (by kernel_rfl) (by kernel_rfl) rfl (.inl rfl) (by kernel_rfl) (by kernel_rfl) (by kernel_rfl) (by kernel_rfl) (strKey (by kernel_rfl)) (fun w_42 p_57 a_154 f_154 => ?_)
  refine W_end rfl ?_
  refine B_n ?_
  refine T_n ?_
  refine R_reg ?_
  refine V_run f_154 2 (by kernel_rfl) (fun a_155 f_155 => ?_)
  refine W_end rfl ?_
  refine T_n ?_
  refine rounds_go ?_
  refine R_seq ?_
  refine R_reg ?_
  refine V_run f_155 1 (by kernel_rfl) (fun a_156 f_156 => ?_)
  refine W_end rfl ?_
  refine T_n ?_
  refine R_seq ?_
  refine R_cond_f f_156 (by kernel_rfl) (by kernel_rfl) ?_
  refine wp_exit ?_
  refine T_x ?_
  refine T_x ?_
  refine B_x ?_
  refine T_n ?_
  refine R_seq ?_
  refine R_reg ?_
  refine V_run f_156 2 (by kernel_rfl) (fun a_157 f_157 => ?_)
  refine W_end rfl ?_
  refine T_n ?_
  refine wp_ret ?_
  have p_58 := p_57.pl [15]
  obtain ⟨M_1, hM_1, p_59, h_1⟩ := fzObj p_58
  have p_60 := p_59.pl [11]
  obtain ⟨M_2, hM_2, p_61, h_2⟩ := fzObj p_60
  have p_62 := p_61.pl [8]
  obtain ⟨M_3, hM_3, p_63, h_3⟩ := fzObj p_62
  have p_64 := p_63.pl [3]
  obtain ⟨M_4, hM_4, p_65, h_4⟩ := fzObj p_64
  obtain ⟨M_5, hM_5, p_66, h_5⟩ := fzObj p_65
  refine E_ret1 f_157 rfl (by kernel_rfl : Vc.look _ 0 = some (.map (some bm_1))) ?_
  exact ⟨_, rfl, M_5, ((((hM_1.trans hM_2).trans hM_3).trans hM_4).trans hM_5), (p_66.dropN 11), bm_1, bm_2, bm_3, bm_4, bm_5, rfl, ⟨((((hM_2.trans hM_3).trans hM_4).trans hM_5) _ _ h_1), (((hM_3.trans hM_4).trans hM_5) _ _ h_2), ((hM_4.trans hM_5) _ _ h_3), (hM_5 _ _ h_4), h_5⟩⟩
end Go.Proofs.YtalifkcchfkgmaaGreatDoor
end

section
namespace Go.Proofs
open Go.Shelf
def Tryz.keys81_ren : Go.Shelf.Ren := ⟨fun | 7 => 81 | 10 => 101 | n => n, fun | 23 => 90 | 26 => 9 | 3 => 64 | 28 => 123 | 0 => 0 | 27 => 122 | 33 => 125 | 4 => 4 | n => n, fun | n => n⟩
theorem Tryz.keys81 : Go.Proofs.SlLaysZ.n7 Tryz.prog Tryz.keys81_ren := {
  mixed := by kernel_rfl
  f7 := ⟨Tryz.f81.name, by decide, Tryz.func81.trans (congrArg some (by kernel_rfl))⟩
  f10 := ⟨Tryz.f101.name, by decide, Tryz.func101.trans (congrArg some (by kernel_rfl))⟩
  t0 := Tryz.underlying0
  a0 := Tryz.isAgg0
  z0 := Tryz.sizeOf0
  v0 := Tryz.zeroValue0
  t4 := Tryz.underlying4
  a4 := Tryz.isAgg4
  z4 := Tryz.sizeOf4
  v4 := Tryz.zeroValue4
  t23 := Tryz.underlying90
  a23 := Tryz.isAgg90
  z23 := Tryz.sizeOf90
  v23 := Tryz.zeroValue90
  t26 := Tryz.underlying9
  a26 := Tryz.isAgg9
  z26 := Tryz.sizeOf9
  v26 := Tryz.zeroValue9
  t27 := Tryz.underlying122
  a27 := Tryz.isAgg122
  z27 := Tryz.sizeOf122
  v27 := Tryz.zeroValue122
  t28 := Tryz.underlying123
  a28 := Tryz.isAgg123
  z28 := Tryz.sizeOf123
  v28 := Tryz.zeroValue123
  t33 := Tryz.underlying125
  a33 := Tryz.isAgg125
  z33 := Tryz.sizeOf125
  v33 := Tryz.zeroValue125 }
def Tryz.sorted80_ren : Go.Shelf.Ren := ⟨fun | 6 => 80 | 8 => 99 | 9 => 100 | 11 => 113 | 13 => 115 | 12 => 114 | 23 => 138 | 24 => 139 | 14 => 129 | 15 => 130 | 16 => 131 | 17 => 132 | 18 => 133 | 19 => 134 | 20 => 135 | 21 => 136 | 22 => 137 | 25 => 147 | 26 => 148 | 27 => 149 | 28 => 150 | 29 => 151 | 30 => 152 | 31 => 155 | n => n, fun | 26 => 9 | 28 => 123 | 24 => 74 | 0 => 0 | 3 => 3 | 37 => 148 | 48 => 169 | 50 => 171 | 4 => 4 | 40 => 162 | 39 => 161 | 45 => 49 | 5 => 5 | 9 => 9 | 51 => 180 | 55 => 184 | 57 => 187 | 58 => 151 | 33 => 125 | n => n, fun | n => n⟩
theorem Tryz.sorted80 : Go.Proofs.SlLaysZ.n6 Tryz.prog Tryz.sorted80_ren := {
  mixed := by kernel_rfl
  f6 := ⟨Tryz.f80.name, by decide, Tryz.func80.trans (congrArg some (by kernel_rfl))⟩
  f8 := ⟨Tryz.f99.name, by decide, Tryz.func99.trans (congrArg some (by kernel_rfl))⟩
  f11 := ⟨Tryz.f113.name, by decide, Tryz.func113.trans (congrArg some (by kernel_rfl))⟩
  t0 := Tryz.underlying0
  a0 := Tryz.isAgg0
  z0 := Tryz.sizeOf0
  v0 := Tryz.zeroValue0
  t24 := Tryz.underlying74
  a24 := Tryz.isAgg74
  z24 := Tryz.sizeOf74
  v24 := Tryz.zeroValue74
  t26 := Tryz.underlying9
  a26 := Tryz.isAgg9
  z26 := Tryz.sizeOf9
  v26 := Tryz.zeroValue9
  t28 := Tryz.underlying123
  a28 := Tryz.isAgg123
  z28 := Tryz.sizeOf123
  v28 := Tryz.zeroValue123
  i26 := by kernel_rfl }
def Tryz.sort100_ren : Go.Shelf.Ren := ⟨fun | 6 => 100 | 8 => 115 | 9 => 114 | 19 => 138 | 20 => 139 | 21 => 129 | 22 => 130 | 23 => 131 | 24 => 132 | 25 => 133 | 26 => 134 | 27 => 135 | 28 => 136 | 29 => 137 | 36 => 147 | 31 => 148 | 32 => 149 | 37 => 150 | 38 => 151 | 39 => 152 | 41 => 155 | n => n, fun | 27 => 74 | 29 => 9 | 3 => 3 | 32 => 148 | 26 => 74 | 0 => 0 | 44 => 169 | 46 => 171 | 4 => 4 | 36 => 162 | 35 => 161 | 41 => 49 | 5 => 5 | 9 => 9 | 53 => 180 | 57 => 184 | 63 => 187 | 64 => 151 | n => n, fun | n => n⟩
theorem Tryz.sort100 : Go.Proofs.SlLaysM.n6 Tryz.prog Tryz.sort100_ren := {
  mixed := by kernel_rfl
  f6 := ⟨Tryz.f100.name, by decide, Tryz.func100.trans (congrArg some (by kernel_rfl))⟩
  f8 := Tryz.func115.trans (congrArg some (by kernel_rfl))
  f9 := ⟨Tryz.f114.name, by decide, Tryz.func114.trans (congrArg some (by kernel_rfl))⟩
  f19 := Tryz.func138.trans (congrArg some (by kernel_rfl))
  f20 := Tryz.func139.trans (congrArg some (by kernel_rfl))
  f21 := ⟨Tryz.f129.name, by decide, Tryz.func129.trans (congrArg some (by kernel_rfl))⟩
  f22 := ⟨Tryz.f130.name, by decide, Tryz.func130.trans (congrArg some (by kernel_rfl))⟩
  f23 := ⟨Tryz.f131.name, by decide, Tryz.func131.trans (congrArg some (by kernel_rfl))⟩
  f24 := ⟨Tryz.f132.name, by decide, Tryz.func132.trans (congrArg some (by kernel_rfl))⟩
  f25 := ⟨Tryz.f133.name, by decide, Tryz.func133.trans (congrArg some (by kernel_rfl))⟩
  f26 := ⟨Tryz.f134.name, by decide, Tryz.func134.trans (congrArg some (by kernel_rfl))⟩
  f27 := ⟨Tryz.f135.name, by decide, Tryz.func135.trans (congrArg some (by kernel_rfl))⟩
  f28 := ⟨Tryz.f136.name, by decide, Tryz.func136.trans (congrArg some (by kernel_rfl))⟩
  f29 := ⟨Tryz.f137.name, by decide, Tryz.func137.trans (congrArg some (by kernel_rfl))⟩
  f31 := Tryz.func148.trans (congrArg some (by kernel_rfl))
  f32 := Tryz.func149.trans (congrArg some (by kernel_rfl))
  f36 := ⟨Tryz.f147.name, by decide, Tryz.func147.trans (congrArg some (by kernel_rfl))⟩
  f37 := ⟨Tryz.f150.name, by decide, Tryz.func150.trans (congrArg some (by kernel_rfl))⟩
  f38 := ⟨Tryz.f151.name, by decide, Tryz.func151.trans (congrArg some (by kernel_rfl))⟩
  f39 := ⟨Tryz.f152.name, by decide, Tryz.func152.trans (congrArg some (by kernel_rfl))⟩
  f41 := ⟨Tryz.f155.name, by decide, Tryz.func155.trans (congrArg some (by kernel_rfl))⟩
  t0 := Tryz.underlying0
  a0 := Tryz.isAgg0
  z0 := Tryz.sizeOf0
  v0 := Tryz.zeroValue0
  t3 := Tryz.underlying3
  a3 := Tryz.isAgg3
  z3 := Tryz.sizeOf3
  v3 := Tryz.zeroValue3
  t4 := Tryz.underlying4
  a4 := Tryz.isAgg4
  z4 := Tryz.sizeOf4
  v4 := Tryz.zeroValue4
  t5 := Tryz.underlying5
  a5 := Tryz.isAgg5
  z5 := Tryz.sizeOf5
  v5 := Tryz.zeroValue5
  t9 := Tryz.underlying9
  a9 := Tryz.isAgg9
  z9 := Tryz.sizeOf9
  v9 := Tryz.zeroValue9
  t26 := Tryz.underlying74
  a26 := Tryz.isAgg74
  z26 := Tryz.sizeOf74
  v26 := Tryz.zeroValue74
  t27 := Tryz.underlying74
  a27 := Tryz.isAgg74
  z27 := Tryz.sizeOf74
  v27 := Tryz.zeroValue74
  t29 := Tryz.underlying9
  a29 := Tryz.isAgg9
  z29 := Tryz.sizeOf9
  v29 := Tryz.zeroValue9
  t32 := Tryz.underlying148
  a32 := Tryz.isAgg148
  z32 := Tryz.sizeOf148
  v32 := Tryz.zeroValue148
  t35 := Tryz.underlying161
  a35 := Tryz.isAgg161
  z35 := Tryz.sizeOf161
  v35 := Tryz.zeroValue161
  t36 := Tryz.underlying162
  a36 := Tryz.isAgg162
  z36 := Tryz.sizeOf162
  v36 := Tryz.zeroValue162
  t41 := Tryz.underlying49
  a41 := Tryz.isAgg49
  z41 := Tryz.sizeOf49
  v41 := Tryz.zeroValue49
  t44 := Tryz.underlying169
  a44 := Tryz.isAgg169
  z44 := Tryz.sizeOf169
  v44 := Tryz.zeroValue169
  t46 := Tryz.underlying171
  a46 := Tryz.isAgg171
  z46 := Tryz.sizeOf171
  v46 := Tryz.zeroValue171
  t53 := Tryz.underlying180
  a53 := Tryz.isAgg180
  z53 := Tryz.sizeOf180
  v53 := Tryz.zeroValue180
  t57 := Tryz.underlying184
  a57 := Tryz.isAgg184
  z57 := Tryz.sizeOf184
  v57 := Tryz.zeroValue184
  t63 := Tryz.underlying187
  a63 := Tryz.isAgg187
  z63 := Tryz.sizeOf187
  v63 := Tryz.zeroValue187
  t64 := Tryz.underlying151
  a64 := Tryz.isAgg151
  z64 := Tryz.sizeOf151
  v64 := Tryz.zeroValue151 }
def Tryz.keys98_ren : Go.Shelf.Ren := ⟨fun | 7 => 98 | 10 => 112 | n => n, fun | 23 => 92 | 26 => 9 | 3 => 90 | 28 => 123 | 0 => 0 | 27 => 122 | 33 => 125 | 4 => 4 | n => n, fun | n => n⟩
theorem Tryz.keys98 : Go.Proofs.SlLaysZ.n7 Tryz.prog Tryz.keys98_ren := {
  mixed := by kernel_rfl
  f7 := ⟨Tryz.f98.name, by decide, Tryz.func98.trans (congrArg some (by kernel_rfl))⟩
  f10 := ⟨Tryz.f112.name, by decide, Tryz.func112.trans (congrArg some (by kernel_rfl))⟩
  t0 := Tryz.underlying0
  a0 := Tryz.isAgg0
  z0 := Tryz.sizeOf0
  v0 := Tryz.zeroValue0
  t4 := Tryz.underlying4
  a4 := Tryz.isAgg4
  z4 := Tryz.sizeOf4
  v4 := Tryz.zeroValue4
  t23 := Tryz.underlying92
  a23 := Tryz.isAgg92
  z23 := Tryz.sizeOf92
  v23 := Tryz.zeroValue92
  t26 := Tryz.underlying9
  a26 := Tryz.isAgg9
  z26 := Tryz.sizeOf9
  v26 := Tryz.zeroValue9
  t27 := Tryz.underlying122
  a27 := Tryz.isAgg122
  z27 := Tryz.sizeOf122
  v27 := Tryz.zeroValue122
  t28 := Tryz.underlying123
  a28 := Tryz.isAgg123
  z28 := Tryz.sizeOf123
  v28 := Tryz.zeroValue123
  t33 := Tryz.underlying125
  a33 := Tryz.isAgg125
  z33 := Tryz.sizeOf125
  v33 := Tryz.zeroValue125 }
end Go.Proofs
end

section
set_option linter.unusedVariables false
set_option linter.unusedSimpArgs false
namespace Go.Proofs
open Go.RowKit Go.Maps Go.Sort Go.Shelf
/-- slices.Sort's two contracts at this dump, at the fence that asks nothing. -/
theorem Tryz.sorts80 (m : Nat) : AnyZ.SortsIn Tryz.prog Tryz.sorted80_ren Fence.wide m :=
  ⟨fun blk off cap ss W hH hblk hsz => callsIn_wide.2 (AnyM.slices_Sort_string Tryz.sort100 blk off cap ss W hH hblk hsz),
   fun p cap W => callsIn_wide.2 (AnyM.slices_Sort_string_none Tryz.sort100 p cap W)⟩
/-- **maps.Keys[map[string]hoarding/api.Spec,string,hoarding/api.Spec], at whatever map, the nil one too:** a function value over ONE NEW BLOCK, which holds the map. -/
theorem Tryz.maps_Keys_81 (mb : Option Nat) (W : World) : CallsIn Fence.wide 5 Tryz.prog 81 #[.map mb] W fun e w' => e = .returned (.func (.func 101) #[] #[.pointer (some ⟨W.heap.size, 0, none⟩)]) ∧ w' = W.alloc (.cells #[.map mb] 90) :=
  AnyZ.keys_in Tryz.keys81 Fence.wide 5 trivial rfl mb W
set_option maxHeartbeats 1000000 in
/-- **slices.Sorted[string] AT WHAT maps.Keys[map[string]hoarding/api.Spec,string,hoarding/api.Spec] HANDED BACK FOR A MAP THAT IS NOT nil** ('w': the world AHEAD of maps.Keys' call): A NEW SLICE THAT HOLDS THE MAP's KEYS, SORTED; nil just where it has none; nothing that lay before has turned. -/
theorem Tryz.slices_Sorted_keys_80_81 {H : Type} (b nn : Nat) (D0 : DataW H) (R : Value → Option (DataW H × List MemPlace)) (w : World) (hown : w.ownsMap Tryz.prog 9 R b nn D0) (hmax : Maps.size D0 ≤ maxLen) (hbytes : Maps.size D0 * 16 ≤ 140737488355328) :
    CallsIn Fence.wide 5 Tryz.prog 80 #[.func (.func 101) #[] #[.pointer (some ⟨w.heap.size, 0, none⟩)]] (w.alloc (.cells #[.map (some b)] 90)) fun e w' => ∃ (v : Value) (ss : List (List UInt8)), e = .returned v ∧ ss.Perm (strKeys D0) ∧
      w'.ownsRow (w.alloc (.cells #[.map (some b)] 90)).heap.size 9 1 v ss.length ((ss.mergeSort (fun x y => decide (x ≤ y))).map encStr) ∧ (v = .slice none 0 0 ↔ ss = []) ∧ Below (w.alloc (.cells #[.map (some b)] 90)).heap.size (w.alloc (.cells #[.map (some b)] 90)) w' := by
  have hbl := hown.lt
  have hseq : SeqGives Fence.wide 2 Tryz.prog 101 #[.pointer (some ⟨w.heap.size, 0, none⟩)] encStr (fun ss => ss.Perm (strKeys D0)) (Maps.size D0) (w.alloc (.cells #[.map (some b)] 90)) :=
    AnyZ.keys_gives (ρ := Tryz.keys81_ren) { Tryz.keys81 with } Fence.wide _ trivial rfl (by omega) w.heap.size b nn D0 _ (by simp) (by simp) (by
      obtain ⟨es, clock, hb, Ft, hs, hD⟩ := hown
      exact ⟨es, clock, (Below.heap_alloc _ _ b hbl).trans hb, Ft, hs, hD⟩)
  exact AnyZ.sorted_in Tryz.sorted80 Fence.wide 5 trivial trivial trivial trivial rfl (by omega) (Tryz.sorts80 _) (enters_of Tryz.func100 (by kernel_rfl) rfl) 101 #[.pointer (some ⟨w.heap.size, 0, none⟩)] trivial (enters_of Tryz.func101 (by kernel_rfl) rfl) _ _ hmax hbytes _ hseq
set_option maxHeartbeats 1000000 in
/-- **.. AND FOR THE nil MAP: nil.** -/
theorem Tryz.slices_Sorted_keys_nil_80_81 (w : World) :
    CallsIn Fence.wide 5 Tryz.prog 80 #[.func (.func 101) #[] #[.pointer (some ⟨w.heap.size, 0, none⟩)]] (w.alloc (.cells #[.map none] 90)) fun e w' => ∃ (v : Value) (ss : List (List UInt8)), e = .returned v ∧ ss = [] ∧
      w'.ownsRow (w.alloc (.cells #[.map none] 90)).heap.size 9 1 v ss.length ((ss.mergeSort (fun x y => decide (x ≤ y))).map encStr) ∧ (v = .slice none 0 0 ↔ ss = []) ∧ Below (w.alloc (.cells #[.map none] 90)).heap.size (w.alloc (.cells #[.map none] 90)) w' := by
  have hseq : SeqGives Fence.wide 2 Tryz.prog 101 #[.pointer (some ⟨w.heap.size, 0, none⟩)] encStr (fun ss : List (List UInt8) => ss = []) 0 (w.alloc (.cells #[.map none] 90)) :=
    AnyZ.keys_gives_nil (ρ := Tryz.keys81_ren) { Tryz.keys81 with } Fence.wide _ trivial rfl w.heap.size _ (by simp) (by simp)
  exact AnyZ.sorted_in Tryz.sorted80 Fence.wide 5 trivial trivial trivial trivial rfl (by omega) (Tryz.sorts80 _) (enters_of Tryz.func100 (by kernel_rfl) rfl) 101 #[.pointer (some ⟨w.heap.size, 0, none⟩)] trivial (enters_of Tryz.func101 (by kernel_rfl) rfl) _ 0 (Nat.zero_le _) (by omega) _ hseq
/-- **maps.Keys[map[string]map[string]hoarding/api.Spec,string,map[string]hoarding/api.Spec], at whatever map, the nil one too:** a function value over ONE NEW BLOCK, which holds the map. -/
theorem Tryz.maps_Keys_98 (mb : Option Nat) (W : World) : CallsIn Fence.wide 5 Tryz.prog 98 #[.map mb] W fun e w' => e = .returned (.func (.func 112) #[] #[.pointer (some ⟨W.heap.size, 0, none⟩)]) ∧ w' = W.alloc (.cells #[.map mb] 92) :=
  AnyZ.keys_in Tryz.keys98 Fence.wide 5 trivial rfl mb W
set_option maxHeartbeats 1000000 in
/-- **slices.Sorted[string] AT WHAT maps.Keys[map[string]map[string]hoarding/api.Spec,string,map[string]hoarding/api.Spec] HANDED BACK FOR A MAP THAT IS NOT nil** ('w': the world AHEAD of maps.Keys' call): A NEW SLICE THAT HOLDS THE MAP's KEYS, SORTED; nil just where it has none; nothing that lay before has turned. -/
theorem Tryz.slices_Sorted_keys_80_98 {H : Type} (b nn : Nat) (D0 : DataW H) (R : Value → Option (DataW H × List MemPlace)) (w : World) (hown : w.ownsMap Tryz.prog 9 R b nn D0) (hmax : Maps.size D0 ≤ maxLen) (hbytes : Maps.size D0 * 16 ≤ 140737488355328) :
    CallsIn Fence.wide 5 Tryz.prog 80 #[.func (.func 112) #[] #[.pointer (some ⟨w.heap.size, 0, none⟩)]] (w.alloc (.cells #[.map (some b)] 92)) fun e w' => ∃ (v : Value) (ss : List (List UInt8)), e = .returned v ∧ ss.Perm (strKeys D0) ∧
      w'.ownsRow (w.alloc (.cells #[.map (some b)] 92)).heap.size 9 1 v ss.length ((ss.mergeSort (fun x y => decide (x ≤ y))).map encStr) ∧ (v = .slice none 0 0 ↔ ss = []) ∧ Below (w.alloc (.cells #[.map (some b)] 92)).heap.size (w.alloc (.cells #[.map (some b)] 92)) w' := by
  have hbl := hown.lt
  have hseq : SeqGives Fence.wide 2 Tryz.prog 112 #[.pointer (some ⟨w.heap.size, 0, none⟩)] encStr (fun ss => ss.Perm (strKeys D0)) (Maps.size D0) (w.alloc (.cells #[.map (some b)] 92)) :=
    AnyZ.keys_gives (ρ := Tryz.keys98_ren) { Tryz.keys98 with } Fence.wide _ trivial rfl (by omega) w.heap.size b nn D0 _ (by simp) (by simp) (by
      obtain ⟨es, clock, hb, Ft, hs, hD⟩ := hown
      exact ⟨es, clock, (Below.heap_alloc _ _ b hbl).trans hb, Ft, hs, hD⟩)
  exact AnyZ.sorted_in Tryz.sorted80 Fence.wide 5 trivial trivial trivial trivial rfl (by omega) (Tryz.sorts80 _) (enters_of Tryz.func100 (by kernel_rfl) rfl) 112 #[.pointer (some ⟨w.heap.size, 0, none⟩)] trivial (enters_of Tryz.func112 (by kernel_rfl) rfl) _ _ hmax hbytes _ hseq
end Go.Proofs
end

section
set_option linter.unusedVariables false
set_option linter.unusedSimpArgs false
namespace Go.Proofs.YtalifkcchfkgmaaGreatDoor
open Go Go.Vc Go.RowKit Go.Maps Go.Sort
def namesS (kind : List UInt8) : List (List UInt8) := bif decide (kDisk = kind) then [[75, 105, 110, 100], [83, 105, 122, 101], [84, 97, 103, 115]] else bif decide (kNet = kind) then [[76, 97, 98, 101, 108], [82, 97, 110, 103, 101]] else bif decide (kNode = kind) then [[67, 111, 117, 110, 116], [68, 105, 115, 107], [73, 109, 97, 103, 101], [78, 101, 116]] else bif decide (kRule = kind) then [[78, 111, 100, 101], [80, 111, 114, 116]] else []
def kindsS : List (List UInt8) := [kDisk, kNet, kNode, kRule]
/-- how a map's value reads: no matter -/
def RU : Value → Option (DataW Empty × List MemPlace) := fun _ => some (.nil, [])
def entsO {V : Type} (ev : V → Value) (d : List (List UInt8 × V)) : List MapEntry := (d.map fun p => (p.1, ev p.2)).zipIdx.map (mEnt S)
theorem S_inj {a b : List UInt8} (h : S a = S b) : a = b := by
  have := congrArg (fun v => match v with | .string s => s.data.toList | _ => []) h
  simpa [S, mkS] using this
theorem fit_mapO {P : Program} {k : TypeId} (hk : P.underlying k = some .string) {V : Type} (ev : V → Value) (d : List (List UInt8 × V)) (hn : (d.map (·.1)).Nodup) (hl : d.length ≤ maxLen) (hkl : ∀ p ∈ d, p.1.length ≤ maxLen) :
    WideElems.Fit P k RU (entsO ev d).toArray d.length := by
  refine ⟨by simp [entsO]; exact hl, ⟨fun x hx => ?_, ?_, ?_⟩, fun x hx => ?_⟩
  · simp only [entsO, List.toList_toArray, List.mem_map] at hx
    obtain ⟨⟨p, i⟩, hp, rfl⟩ := hx
    have := List.mem_zipIdx hp
    simp [mEnt] at this ⊢
    omega
  · have : ((entsO ev d).toArray.toList.map (·.born)) = List.range' 0 d.length := by
      simp only [entsO, List.map_map]
      have h := List.zipIdx_map_snd 0 (d.map fun p => (p.1, ev p.2))
      rw [List.length_map] at h
      exact h
    rw [this]
    exact List.nodup_range'
  · have : ((entsO ev d).toArray.toList.map (·.key)) = d.map fun p => S p.1 := by
      simp only [entsO, List.map_map]
      have h := congrArg (List.map fun p : List UInt8 × Value => S p.1) (List.zipIdx_map_fst 0 (d.map fun p => (p.1, ev p.2)))
      rw [List.map_map, List.map_map] at h
      exact h
    rw [this]
    have h := List.Pairwise.map (f := S) (S := fun a b => a ≠ b) (fun a b (hab : a ≠ b) e => hab (S_inj e)) hn
    rwa [List.map_map] at h
  · simp only [entsO, List.toList_toArray, List.mem_map] at hx
    obtain ⟨⟨p, i⟩, hp, rfl⟩ := hx
    have h1 := List.fst_mem_of_mem_zipIdx hp
    obtain ⟨q, hq, rfl⟩ := List.mem_map.1 h1
    have hle := hkl q hq
    refine ⟨(.string q.1, .nil), ?_⟩
    have hs : (mkS q.1).size ≤ maxLen := hle
    simp [WideElems.rd, mEnt, keyOf, hk, mapKey, S, RU]
    have hs2 : ({ data := q.fst.toArray } : ByteArray).size ≤ maxLen := hs
    rw [if_pos hs2]; rfl
def datO {P : Program} {k : TypeId} {V : Type} (ev : V → Value) (d : List (List UInt8 × V)) : DataW Empty := .map (((entsO ev d).map (WideElems.rg P k RU)).foldr DataW.insert [])
theorem owns_mapO {P : Program} {k : TypeId} (hk : P.underlying k = some .string) {V : Type} {ev : V → Value} {d : List (List UInt8 × V)} {w : World} {b : Nat} (hb : w.heap[b]? = some (mapO S ev d)) (hn : (d.map (·.1)).Nodup) (hl : d.length ≤ maxLen) (hkl : ∀ p ∈ d, p.1.length ≤ maxLen) :
    w.ownsMap P k RU b d.length (datO (P := P) (k := k) ev d) := by
  refine ⟨(entsO ev d).toArray, d.length, ?_, fit_mapO hk ev d hn hl hkl, by simp [entsO], rfl⟩
  rw [hb]
  unfold mapO mObj entsO
  rw [List.length_map]
theorem repStrs {M : Mem} : ∀ T : List (List UInt8), RepSeq M (T.map Dat.str) (T.map encStr)
  | [] => rfl
  | t :: r => ⟨[S t], r.map encStr, rfl, rfl, repStrs r⟩
theorem leB_sorted {T : List (List UInt8)} (h : T.Pairwise fun a b => leB a b = true) {ss : List (List UInt8)} (hp : ss.Perm T) : ss.mergeSort leB = T := by
  rw [mergeSort_of_perm hp]
  exact List.mergeSort_of_pairwise h
/-- the contract out of the walk -/
theorem rising_of {M : Mem} {b fid : Nat} {o : Obj} {T : List (List UInt8)} (hb : M b = some o) (hT : T.Pairwise fun a b => leB a b = true)
    (h : ∀ w : World, w.heap[b]? = some o → Calls Tryz.prog fid [.map (some b)].toArray w fun e w' => ∃ (v : Value) (ss : List (List UInt8)), e = .returned v ∧ ss.Perm T ∧ w'.ownsRow w.heap.size 9 1 v ss.length ((ss.mergeSort leB).map encStr) ∧ Below w.heap.size w w') :
    Ok Tryz.prog M fid [.map (some b)] (fun M' v => ∃ A cap, v = .slice A T.length cap ∧ Sli M' 1 Dat.str A cap T) := by
  intro M2 hM w0 H w hp
  refine (h w (hp.mem _ _ (hM _ _ hb))).mono ?_
  rintro e w' ⟨v, ss, rfl, hperm, hrow, hbel⟩
  rw [leB_sorted hT hperm, hperm.length_eq] at hrow
  have p2 := hp.newRow hrow ⟨hbel.os, hbel.tape, hbel.output, hbel.size, fun k hk _ => hbel.block k hk⟩
  obtain ⟨A, cap, M', hv, hM', p3, hs⟩ := p2.rowSli (f := Dat.str) (xs := T) szd_str (repStrs T)
  exact ⟨v, rfl, M', hM', p3, A, cap, hv, hs⟩
theorem perm_P {V : Type} {ev : V → Value} {d : List (List UInt8 × V)} {T K : List (List UInt8)} {ss : List (List UInt8)} (h : ss.Perm (strKeys (datO (P := Tryz.prog) (k := 9) ev d))) (e : strKeys (datO (P := Tryz.prog) (k := 9) ev d) = K) (hK : K.Perm T) : ss.Perm T := by rw [e] at h; exact h.trans hK
set_option maxHeartbeats 1000000 in
/-- the walk of schema.rising over a type's properties -/
theorem walkP {d : List (List UInt8 × T_api_Spec)} {T K : List (List UInt8)} (hn : (d.map (·.1)).Nodup) (hl : d.length ≤ maxLen) (hkl : ∀ p ∈ d, p.1.length ≤ maxLen) (e : strKeys (datO (P := Tryz.prog) (k := 9) specE d) = K) (hK : K.Perm T) (hs1 : Maps.size (datO (P := Tryz.prog) (k := 9) specE d) ≤ maxLen) (hs2 : Maps.size (datO (P := Tryz.prog) (k := 9) specE d) * 16 ≤ 140737488355328) (b : Nat) (w : World) (hb : w.heap[b]? = some (mapO S specE d)) :
    Calls Tryz.prog 54 [.map (some b)].toArray w fun e w' => ∃ (v : Value) (ss : List (List UInt8)), e = .returned v ∧ ss.Perm T ∧ w'.ownsRow w.heap.size 9 1 v ss.length ((ss.mergeSort leB).map encStr) ∧ Below w.heap.size w w' := by
  have hown := owns_mapO (P := Tryz.prog) (k := 9) Tryz.underlying9 (ev := specE) hb hn hl hkl
  refine (callsIn_wide (n := 6)).1 ?_
  have hfK : Fence.wide.fn 81 := trivial
  have hfS : Fence.wide.fn 80 := trivial
  refine callsIn_of_wp Tryz.func54 rfl trivial ?_ rfl
  simp only [Tryz.ntmps54, List.size_toArray, List.length_cons, List.length_nil, Nat.reduceAdd, Nat.reduceSub, Array.replicate_succ, Array.replicate_zero, List.push_toArray, List.append_toArray, List.nil_append, List.cons_append]
  gi_wp2_with (first
    | (gi_at_call 81; refine (Tryz.maps_Keys_81 _ _).mono ?_; rintro e w' ⟨rfl, rfl⟩)
    | (gi_at_call 80; refine (Tryz.slices_Sorted_keys_80_81 b _ _ RU w hown hs1 hs2).mono ?_; rintro e w' ⟨v, ss, rfl, hS, hrow, hnil, hb⟩))
  go_ret
  exact ⟨v, ss, rfl, perm_P hS e hK, ownsRow_base_a hrow (by simp), ((Below.refl _ w).alloc (Nat.le_refl _) _).trans (hb.mono (by simp))⟩
set_option maxHeartbeats 1000000 in
/-- .. over the types -/
theorem walkA {d : List (List UInt8 × Option Nat)} {T K : List (List UInt8)} (hn : (d.map (·.1)).Nodup) (hl : d.length ≤ maxLen) (hkl : ∀ p ∈ d, p.1.length ≤ maxLen) (e : strKeys (datO (P := Tryz.prog) (k := 9) mapE d) = K) (hK : K.Perm T) (hs1 : Maps.size (datO (P := Tryz.prog) (k := 9) mapE d) ≤ maxLen) (hs2 : Maps.size (datO (P := Tryz.prog) (k := 9) mapE d) * 16 ≤ 140737488355328) (b : Nat) (w : World) (hb : w.heap[b]? = some (mapO S mapE d)) :
    Calls Tryz.prog 79 [.map (some b)].toArray w fun e w' => ∃ (v : Value) (ss : List (List UInt8)), e = .returned v ∧ ss.Perm T ∧ w'.ownsRow w.heap.size 9 1 v ss.length ((ss.mergeSort leB).map encStr) ∧ Below w.heap.size w w' := by
  have hown := owns_mapO (P := Tryz.prog) (k := 9) Tryz.underlying9 (ev := mapE) hb hn hl hkl
  refine (callsIn_wide (n := 6)).1 ?_
  have hfK : Fence.wide.fn 98 := trivial
  have hfS : Fence.wide.fn 80 := trivial
  refine callsIn_of_wp Tryz.func79 rfl trivial ?_ rfl
  simp only [Tryz.ntmps79, List.size_toArray, List.length_cons, List.length_nil, Nat.reduceAdd, Nat.reduceSub, Array.replicate_succ, Array.replicate_zero, List.push_toArray, List.append_toArray, List.nil_append, List.cons_append]
  gi_wp2_with (first
    | (gi_at_call 98; refine (Tryz.maps_Keys_98 _ _).mono ?_; rintro e w' ⟨rfl, rfl⟩)
    | (gi_at_call 80; refine (Tryz.slices_Sorted_keys_80_98 b _ _ RU w hown hs1 hs2).mono ?_; rintro e w' ⟨v, ss, rfl, hS, hrow, hnil, hb⟩))
  go_ret
  exact ⟨v, ss, rfl, perm_P hS e hK, ownsRow_base_a hrow (by simp), ((Below.refl _ w).alloc (Nat.le_refl _) _).trans (hb.mono (by simp))⟩
theorem risingA_ok {M : Mem} {b0 b1 b2 b3 b4 : Nat} (hA : AllAt M b0 b1 b2 b3 b4) : Ok Tryz.prog M 79 [.map (some b0)] (fun M' v => ∃ A cap, v = .slice A kindsS.length cap ∧ Sli M' 1 Dat.str A cap kindsS) :=
  rising_of hA.h0 (by unfold kindsS; decide) fun w hb => walkA (K := kindsS) (by simp [allB, kDisk, kNet, kNode, kRule]) (by simp [allB, maxLen]) (by simp [allB, kDisk, kNet, kNode, kRule, maxLen]) (by kernel_rfl) (List.Perm.refl _) (of_decide_eq_true (by kernel_rfl)) (of_decide_eq_true (by kernel_rfl)) b0 w hb
set_option maxHeartbeats 1000000 in
/-- .. over none -/
theorem walkN (w : World) : Calls Tryz.prog 54 [.map none].toArray w fun e w' => e = .returned (.slice none 0 0) ∧ Below w.heap.size w w' := by
  refine (callsIn_wide (n := 6)).1 ?_
  have hfK : Fence.wide.fn 81 := trivial
  have hfS : Fence.wide.fn 80 := trivial
  refine callsIn_of_wp Tryz.func54 rfl trivial ?_ rfl
  simp only [Tryz.ntmps54, List.size_toArray, List.length_cons, List.length_nil, Nat.reduceAdd, Nat.reduceSub, Array.replicate_succ, Array.replicate_zero, List.push_toArray, List.append_toArray, List.nil_append, List.cons_append]
  gi_wp2_with (first
    | (gi_at_call 81; refine (Tryz.maps_Keys_81 _ _).mono ?_; rintro e w' ⟨rfl, rfl⟩)
    | (gi_at_call 80; refine (Tryz.slices_Sorted_keys_nil_80_81 w).mono ?_; rintro e w' ⟨v, ss, rfl, hS, hrow, hnil, hb⟩))
  go_ret
  exact ⟨by rw [hnil.2 hS]; rfl, ((Below.refl _ w).alloc (Nat.le_refl _) _).trans (hb.mono (by simp))⟩
theorem risingP_ok {M : Mem} {b0 b1 b2 b3 b4 : Nat} (kind : List UInt8) (hA : AllAt M b0 b1 b2 b3 b4) : Ok Tryz.prog M 54 [.map (blkOf b1 b2 b3 b4 kind)] (fun M' v => ∃ A cap, v = .slice A (namesS kind).length cap ∧ Sli M' 1 Dat.str A cap (namesS kind)) := by
  unfold blkOf namesS
  by_cases h1 : kDisk = kind
  · rw [decide_eq_true h1, cond_true, cond_true]
    exact rising_of hA.h1 (by decide) fun w hb => walkP (K := [[75, 105, 110, 100], [83, 105, 122, 101], [84, 97, 103, 115]]) (by simp [dDisk]) (by simp [dDisk, maxLen]) (by simp [dDisk, maxLen]) (by kernel_rfl) (List.Perm.refl _) (of_decide_eq_true (by kernel_rfl)) (of_decide_eq_true (by kernel_rfl)) b1 w hb
  rw [decide_eq_false h1, cond_false, cond_false]
  by_cases h2 : kNet = kind
  · rw [decide_eq_true h2, cond_true, cond_true]
    exact rising_of hA.h2 (by decide) fun w hb => walkP (K := [[76, 97, 98, 101, 108], [82, 97, 110, 103, 101]]) (by simp [dNet]) (by simp [dNet, maxLen]) (by simp [dNet, maxLen]) (by kernel_rfl) (List.Perm.refl _) (of_decide_eq_true (by kernel_rfl)) (of_decide_eq_true (by kernel_rfl)) b2 w hb
  rw [decide_eq_false h2, cond_false, cond_false]
  by_cases h3 : kNode = kind
  · rw [decide_eq_true h3, cond_true, cond_true]
    exact rising_of hA.h3 (by decide) fun w hb => walkP (K := [[67, 111, 117, 110, 116], [68, 105, 115, 107], [73, 109, 97, 103, 101], [78, 101, 116]]) (by simp [dNode]) (by simp [dNode, maxLen]) (by simp [dNode, maxLen]) (by kernel_rfl) (List.Perm.refl _) (of_decide_eq_true (by kernel_rfl)) (of_decide_eq_true (by kernel_rfl)) b3 w hb
  rw [decide_eq_false h3, cond_false, cond_false]
  by_cases h4 : kRule = kind
  · rw [decide_eq_true h4, cond_true, cond_true]
    exact rising_of hA.h4 (by decide) fun w hb => walkP (K := [[78, 111, 100, 101], [80, 111, 114, 116]]) (by simp [dRule]) (by simp [dRule, maxLen]) (by simp [dRule, maxLen]) (by kernel_rfl) (List.Perm.refl _) (of_decide_eq_true (by kernel_rfl)) (of_decide_eq_true (by kernel_rfl)) b4 w hb
  rw [decide_eq_false h4, cond_false, cond_false]
  intro M2 hM w0 H w hp
  refine (walkN w).mono ?_
  rintro e w' ⟨rfl, hb⟩
  exact ⟨_, rfl, M2, Mem.le_refl _, hp.newer hb, none, 0, rfl, Sli.nil⟩
end Go.Proofs.YtalifkcchfkgmaaGreatDoor
end

section
set_option linter.unusedVariables false
set_option linter.unusedSimpArgs false
namespace Go.Proofs.YtalifkcchfkgmaaGreatDoor
open Go Go.Vc Go.RowKit
def schema_Find (n : Nat) (d0 : List UInt8) (d1 : List UInt8) : Option (T_api_Spec × Bool) :=
  some ((((specAt d0 d1).getD z_T_api_Spec), ((specAt d0 d1).isSome)))
theorem schema_Find_ok (n : Nat) (M : Mem) (hG : GL M) (d0 : List UInt8) (d1 : List UInt8) (r : T_api_Spec × Bool) (hF : schema_Find n d0 d1 = some r) : Ok Tryz.prog M 28 [S d0, S d1] (fun M' v => ∃ (c0 : List Value), v = .tuple #[.agg c0.toArray, .bool r.2] ∧ Rep M' (emb_T_api_Spec r.1) c0) := by
 unfold schema_Find at hF
 intro M1 hM0 w0 H w p0
 replace hG := GL.mono hM0 hG
 refine R_enter 18 Tryz.func28 rfl rfl (by simp) fun a0 f0 => ?_
 refine R_seq (R_reg ?_)
 refine Y12 f0 p0 (.cells #[S [], .int .i8 0, .bool false] 64 (0, 0)) fun b_1 w_1 p_1 _ f => ?_
 refine Y19 f 1 fun _ f => ?_
 refine W_end rfl (T_n (R_seq (R_reg ?_)))
 refine Y16 f p_1 (all_ok _) fun _ M_1 w_2 hM_1 p_2 q_1 _ f => ?_
 obtain ⟨b_2, b_3, b_4, b_5, b_6, rfl, hA_1⟩ := q_1
 refine Y19 f 1 fun _ f => ?_
 refine Y14 (v := .map (blkOf b_3 b_4 b_5 b_6 d0)) f (X_all1 (k := d0) (kt := 9) (et := 90) hA_1 p_2 rfl (by kernel_rfl) (by kernel_rfl) (by kernel_rfl) (strKey (by kernel_rfl)) (by kernel_rfl)) fun _ f => ?_
 refine Y19 f 1 fun _ f => ?_
 refine Y14 (v := .tuple #[.agg #[S ((specAt d0 d1).getD z_T_api_Spec).fName, .int .i8 ((specAt d0 d1).getD z_T_api_Spec).fKind, .bool ((specAt d0 d1).getD z_T_api_Spec).fReplace], .bool (specAt d0 d1).isSome]) f (X_prop2 (k := d1) (kind := d0) (z := z_T_api_Spec) (kt := 9) (et := 64) hA_1 p_2 rfl (by kernel_rfl) (by kernel_rfl) (by kernel_rfl) (strKey (by kernel_rfl)) (by kernel_rfl)) fun _ f => ?_
 refine Y19 f 3 fun _ f => ?_
 refine Y12 f p_2 (.cells #[S [], .int .i8 0, .bool false] 64 (0, 0)) fun b_7 w_3 p_3 _ f => ?_
 refine Y27 (vs := [S ((specAt d0 d1).getD z_T_api_Spec).fName, .int .i8 ((specAt d0 d1).getD z_T_api_Spec).fKind, .bool ((specAt d0 d1).getD z_T_api_Spec).fReplace]) (j := 0) f p_3 rfl rfl (by simp [Value.oneCell', S]) (by simp) (by decide) (cs' := #[S ((specAt d0 d1).getD z_T_api_Spec).fName, .int .i8 ((specAt d0 d1).getD z_T_api_Spec).fKind, .bool ((specAt d0 d1).getD z_T_api_Spec).fReplace]) fun w_4 p_4 _ f => ?_
 refine Y19 f 1 fun _ f => ?_
 refine W_end rfl (T_n (R_seq (R_reg ?_)))
 refine Y14 (v := .agg #[S ((specAt d0 d1).getD z_T_api_Spec).fName, .int .i8 ((specAt d0 d1).getD z_T_api_Spec).fKind, .bool ((specAt d0 d1).getD z_T_api_Spec).fReplace]) f (Y33 (cs := [S ((specAt d0 d1).getD z_T_api_Spec).fName, .int .i8 ((specAt d0 d1).getD z_T_api_Spec).fKind, .bool ((specAt d0 d1).getD z_T_api_Spec).fReplace]) rfl (ad := ⟨b_7, 0, none⟩) (own_cells (p_4.ownCell 0 rfl) 0 rfl)) fun _ f => ?_
 refine Y19 f 1 fun _ f => ?_
 have p_5 := p_4.pl [1]
 refine Y27 (vs := [S ((specAt d0 d1).getD z_T_api_Spec).fName, .int .i8 ((specAt d0 d1).getD z_T_api_Spec).fKind, .bool ((specAt d0 d1).getD z_T_api_Spec).fReplace]) (j := 0) f p_5 rfl rfl (by simp [Value.oneCell', S]) (by simp) (by decide) (cs' := #[S ((specAt d0 d1).getD z_T_api_Spec).fName, .int .i8 ((specAt d0 d1).getD z_T_api_Spec).fKind, .bool ((specAt d0 d1).getD z_T_api_Spec).fReplace]) fun w_5 p_6 _ f => ?_
 refine Y19 f 1 fun _ f => ?_
 refine W_end rfl (T_n (wp_ret ?_))
 refine E_rv2 f rfl (Y10 (cs := [S ((specAt d0 d1).getD z_T_api_Spec).fName, .int .i8 ((specAt d0 d1).getD z_T_api_Spec).fKind, .bool ((specAt d0 d1).getD z_T_api_Spec).fReplace]) (ad := ⟨b_1, 0, none⟩) f (own_cells (p_6.ownCell 0 rfl) 0 rfl)) (Y11 (v := .bool (specAt d0 d1).isSome) f) ?_
 obtain rfl := sI hF
 exact ⟨_, rfl, M_1, hM_1, (p_6.dropN 2), ⟨[S ((specAt d0 d1).getD z_T_api_Spec).fName, .int .i8 ((specAt d0 d1).getD z_T_api_Spec).fKind, .bool ((specAt d0 d1).getD z_T_api_Spec).fReplace], rfl, (T_api_Spec.shutx (x := ((specAt d0 d1).getD z_T_api_Spec)) )⟩⟩
def schema_Attr (n : Nat) (d0 : List UInt8) (d1 : List UInt8) (d2 : List UInt8) : Option (List UInt8 × Int) :=
  bif (!(kindIn d0)) then
    (some ((([] : List UInt8), (90 : Int))))
  else
    bif (decide (d2 = [65, 114, 110])) then
      (need (d0.length + [58].length ≤ 9223372036854775807) <|
      need ((d0 ++ [58]).length + d1.length ≤ 9223372036854775807) <|
      some (((d0 ++ [58]) ++ d1, (0 : Int))))
    else
      bif (decide (d2 = [90, 111, 110, 101])) then
        (need (inR .i64 ((max (d1.length : Int) (1 : Int)) - 1)) <|
        need (0 ≤ ((max (d1.length : Int) (1 : Int)) - 1) ∧ ((max (d1.length : Int) (1 : Int)) - 1) ≤ d1.length) <|
        some ((d1.drop ((max (d1.length : Int) (1 : Int)) - 1).toNat, (0 : Int))))
      else
        some ((([] : List UInt8), (91 : Int)))
set_option maxHeartbeats 2000000 in
theorem schema_Attr_ok (n : Nat) (M : Mem) (hG : GL M) (d0 : List UInt8) (d1 : List UInt8) (d2 : List UInt8) (r : List UInt8 × Int) (hF : schema_Attr n d0 d1 d2 = some r) : Ok Tryz.prog M 30 [S d0, S d1, S d2] (fun _ v => v = .tuple #[S r.1, .int .i64 r.2]) := by
 unfold schema_Attr at hF
 intro M1 hM0 w0 H w p0
 replace hG := GL.mono hM0 hG
 refine R_enter 33 Tryz.func30 rfl rfl (by simp) fun a0 f0 => ?_
 refine R_seq (R_reg ?_)
 refine Y19 f0 2 fun _ f => ?_
 refine W_end rfl (T_n (R_seq (R_seq (R_reg ?_))))
 refine Y16 f p0 (all_ok _) fun _ M_1 w_1 hM_1 p_1 q_1 _ f => ?_
 obtain ⟨b_1, b_2, b_3, b_4, b_5, rfl, hA_1⟩ := q_1
 refine Y19 f 1 fun _ f => ?_
 refine Y14 (v := .tuple #[.map (blkOf b_2 b_3 b_4 b_5 d0), .bool (kindIn d0)]) f (X_all2 (k := d0) (kt := 9) (et := 90) hA_1 p_1 rfl (by kernel_rfl) (by kernel_rfl) (by kernel_rfl) (strKey (by kernel_rfl)) (by kernel_rfl)) fun _ f => ?_
 refine Y19 f 5 fun _ f => ?_
 refine W_end rfl (T_n (R_seq (R_reg ?_)))
 refine Y19 f 2 fun _ f => ?_
 refine W_end rfl (T_n ?_)
 refine Y6 f (b := !(kindIn d0)) (fun h_1 => ?_) fun h_1 => ?_
 ·have k_1 : (kindIn d0) = false := by simpa using h_1
  have hF_1 := cnd_t h_1 hF
  refine R_seq (R_reg ?_)
  refine Y19 f 2 fun _ f => ?_
  refine W_end rfl (T_n (wp_ret (T_r ?_)))
  refine E_ret2 f rfl (by kernel_rfl : Vc.look _ 6 = some (S [])) (by kernel_rfl : Vc.look _ 7 = some (.int .i64 90)) ?_
  obtain rfl := sI hF_1
  exact ⟨_, rfl, M_1, hM_1, p_1, rfl⟩
 ·have k_2 : (kindIn d0) = true := by simpa using h_1
  have hF_2 := cnd_f h_1 hF
  refine wp_skip (T_n (R_seq (R_seq (R_reg ?_))))
  refine Y19 f 1 fun _ f => ?_
  refine W_end rfl (T_n (wp_block (R_seq (R_reg ?_))))
  refine Y14 (v := .bool (decide (d2 = [65, 114, 110]))) f (Y38 rfl (l := d2) (m := [65, 114, 110])) fun _ f => ?_
  refine Y19 f 1 fun _ f => ?_
  refine W_end rfl (T_n ?_)
  refine Y6 f (b := decide (d2 = [65, 114, 110])) (fun h_2 => ?_) fun h_2 => ?_
  ·have k_3 : d2 = [65, 114, 110] := dI.1 h_2
   have hF_3 := cnd_t h_2 hF_2
   refine R_seq (R_reg ?_)
   refine Y19 f 1 fun _ f => ?_
   obtain ⟨g_1, hF_4⟩ := nS hF_3
   refine Y14 (v := S (d0 ++ [58])) f (Y29 rfl (l := d0) (m := [58]) g_1) fun _ f => ?_
   refine Y19 f 1 fun _ f => ?_
   obtain ⟨g_2, hF_5⟩ := nS hF_4
   refine Y14 (v := S ((d0 ++ [58]) ++ d1)) f (Y29 rfl (l := d0 ++ [58]) (m := d1) g_2) fun _ f => ?_
   refine Y19 f 2 fun _ f => ?_
   refine W_end rfl (T_n (wp_ret (B_r (T_r ?_))))
   refine E_ret2 f rfl (by kernel_rfl : Vc.look _ 6 = some (S ((d0 ++ [58]) ++ d1))) (by kernel_rfl : Vc.look _ 7 = some (.int .i64 0)) ?_
   obtain rfl := sI hF_5
   exact ⟨_, rfl, M_1, hM_1, p_1, rfl⟩
  ·have k_4 : ¬ (d2 = [65, 114, 110]) := iff_f dI h_2
   have hF_6 := cnd_f h_2 hF_2
   refine R_seq (R_reg ?_)
   refine Y14 (v := .bool (decide (d2 = [90, 111, 110, 101]))) f (Y38 rfl (l := d2) (m := [90, 111, 110, 101])) fun _ f => ?_
   refine Y19 f 1 fun _ f => ?_
   refine W_end rfl (T_n ?_)
   refine Y6 f (b := decide (d2 = [90, 111, 110, 101])) (fun h_3 => ?_) fun h_3 => ?_
   ·have k_5 : d2 = [90, 111, 110, 101] := dI.1 h_3
    have hF_7 := cnd_t h_3 hF_6
    refine R_seq (R_reg ?_)
    refine Y19 f 3 fun _ f => ?_
    refine Y14 (v := .int .i64 (max (d1.length : Int) (1 : Int))) f (X_max (k := .i64) (a := (d1.length : Int)) (b := (1 : Int)) rfl (by kernel_rfl) (by kernel_rfl)) fun _ f => ?_
    obtain ⟨g_3, hF_8⟩ := nS hF_7
    refine Y19 f 1 fun _ f => ?_
    have f := Frm.set f 31 (v := .int .i64 (IntKind.wrap .i64 ((max (d1.length : Int) (1 : Int)) - 1))) (v' := .int .i64 ((max (d1.length : Int) (1 : Int)) - 1)) (by kernel_rfl) (congrArg (Value.int .i64) (inR_wrap g_3))
    obtain ⟨g_4, hF_9⟩ := nS hF_8
    refine Y14 (v := S (d1.drop ((max (d1.length : Int) (1 : Int)) - 1).toNat)) f (X_strFrom rfl (l := d1) (k := .i64) (a := (max (d1.length : Int) (1 : Int)) - 1) (by kernel_rfl) (by kernel_rfl) (by kernel_rfl) g_4.1 g_4.2) fun _ f => ?_
    refine Y19 f 2 fun _ f => ?_
    refine W_end rfl (T_n (wp_ret (B_r (T_r ?_))))
    refine E_ret2 f rfl (by kernel_rfl : Vc.look _ 6 = some (S (d1.drop ((max (d1.length : Int) (1 : Int)) - 1).toNat))) (by kernel_rfl : Vc.look _ 7 = some (.int .i64 0)) ?_
    obtain rfl := sI hF_9
    exact ⟨_, rfl, M_1, hM_1, p_1, rfl⟩
   ·have k_6 : ¬ (d2 = [90, 111, 110, 101]) := iff_f dI h_3
    have hF_10 := cnd_f h_3 hF_6
    refine wp_skip (B_n (T_n (R_seq (R_reg ?_))))
    refine Y19 f 2 fun _ f => ?_
    refine W_end rfl (T_n (wp_ret ?_))
    refine E_ret2 f rfl (by kernel_rfl : Vc.look _ 6 = some (S [])) (by kernel_rfl : Vc.look _ 7 = some (.int .i64 91)) ?_
    obtain rfl := sI hF_10
    exact ⟨_, rfl, M_1, hM_1, p_1, rfl⟩
def schema_Types (n : Nat) : Option (List (List UInt8)) :=
  some ((kindsS))
theorem schema_Types_ok (n : Nat) (M : Mem) (hG : GL M) (r : List (List UInt8)) (hF : schema_Types n = some r) : Ok Tryz.prog M 52 [] (fun M' v => ∃ (A0 : Option Addr) (k0 : Nat), v = .slice A0 r.length k0 ∧ Sli M' 1 Dat.str A0 k0 r) := by
 unfold schema_Types at hF
 intro M1 hM0 w0 H w p0
 replace hG := GL.mono hM0 hG
 refine R_enter 3 Tryz.func52 rfl rfl (by simp) fun a0 f0 => ?_
 refine R_seq (R_reg ?_)
 refine Y19 f0 1 fun _ f => ?_
 refine W_end rfl (T_n (R_seq (R_reg ?_)))
 refine Y16 f p0 (all_ok _) fun _ M_1 w_1 hM_1 p_1 q_1 _ f => ?_
 obtain ⟨b_1, b_2, b_3, b_4, b_5, rfl, hA_1⟩ := q_1
 refine Y16 f p_1 (risingA_ok hA_1) fun _ M_2 w_2 hM_2 p_2 q_2 _ f => ?_
 obtain ⟨A_1, cap_1, rfl, h_1⟩ := q_2
 refine Y19 f 1 fun _ f => ?_
 refine W_end rfl (T_n (wp_ret ?_))
 refine E_ret1 f rfl (by kernel_rfl : Vc.look _ 0 = some (.slice A_1 (kindsS).length cap_1)) ?_
 obtain rfl := sI hF
 exact ⟨_, rfl, M_2, (hM_1.trans hM_2), p_2, ⟨A_1, cap_1, rfl, h_1⟩⟩
def schema_Specs_s1 (n : Nat) (d0 : List UInt8) (s_1 : List T_api_Spec × Int) : Option (Lp (List T_api_Spec × Int) (List T_api_Spec)) :=
    bif (decide (s_1.2 < (((namesS d0).length : Nat) : Int))) then
      ((getI (namesS d0) s_1.2).bind fun x_1 =>
      need ((s_1.1.length + 1) * 24 ≤ 140737488355328) <|
      need (inR .i64 (s_1.2 + 1)) <|
      some (.nx (s_1.1 ++ [(⟨((specAt d0 x_1).getD z_T_api_Spec).fName, ((specAt d0 x_1).getD z_T_api_Spec).fKind, (((specAt d0 x_1).getD z_T_api_Spec).fReplace)⟩ : T_api_Spec)], s_1.2 + 1)))
    else
      some (.br s_1.1)
def schema_Specs (n : Nat) (d0 : List UInt8) : Option (List T_api_Spec × Int) :=
  bif (!(kindIn d0)) then
    (some ((([] : List T_api_Spec), (90 : Int))))
  else
    (loopF (schema_Specs_s1 n d0) n (([] : List T_api_Spec), (0 : Int))).bind fun y_1 =>
    some ((y_1, (0 : Int)))
set_option maxHeartbeats 2000000 in
theorem schema_Specs_ok (n : Nat) (M : Mem) (hG : GL M) (d0 : List UInt8) (r : List T_api_Spec × Int) (hF : schema_Specs n d0 = some r) : OkH Tryz.prog M [] 26 [S d0] (fun M' E' v => ∃ (A0 : Option Addr) (k0 : Nat) (s0 : List Value), v = .tuple #[.slice A0 r.1.length k0, .int .i64 r.2] ∧ E' = [.row 64 3 (.slice A0 r.1.length k0) r.1.length s0] ∧ RepSeq M' (r.1.map emb_T_api_Spec) s0) := by
 unfold schema_Specs at hF
 intro M1 hM0 w0 H w p0
 replace hG := GL.mono hM0 hG
 refine R_enter 31 Tryz.func26 rfl rfl (by simp) fun a0 f0 => ?_
 refine R_seq (R_reg ?_)
 refine Y19 f0 2 fun _ f => ?_
 refine W_end rfl (T_n (R_seq (R_reg ?_)))
 refine Y16 f p0 (all_ok _) fun _ M_1 w_1 hM_1 p_1 q_1 _ f => ?_
 obtain ⟨b_1, b_2, b_3, b_4, b_5, rfl, hA_1⟩ := q_1
 refine Y19 f 1 fun _ f => ?_
 refine Y14 (v := .tuple #[.map (blkOf b_2 b_3 b_4 b_5 d0), .bool (kindIn d0)]) f (X_all2 (k := d0) (kt := 9) (et := 90) hA_1 p_1 rfl (by kernel_rfl) (by kernel_rfl) (by kernel_rfl) (strKey (by kernel_rfl)) (by kernel_rfl)) fun _ f => ?_
 refine Y19 f 5 fun _ f => ?_
 refine W_end rfl (T_n (R_seq (R_seq (R_reg ?_))))
 refine Y19 f 2 fun _ f => ?_
 refine W_end rfl (T_n ?_)
 refine Y6 f (b := !(kindIn d0)) (fun h_1 => ?_) fun h_1 => ?_
 ·have k_1 : (kindIn d0) = false := by simpa using h_1
  have hF_1 := cnd_t h_1 hF
  refine R_seq (R_reg ?_)
  refine Y19 f 2 fun _ f => ?_
  refine W_end rfl (T_n (wp_ret (T_r ?_)))
  obtain ⟨A_1, cap_1, hv_1⟩ : ∃ A cap, Value.slice none 0 0 = .slice A ([] : List T_api_Spec).length cap := ⟨none, 0, rfl⟩
  have p_2 : Hp w0 M_1 ((Ent.row 64 3 (.slice A_1 ([] : List T_api_Spec).length cap_1) ([] : List T_api_Spec).length []) :: H) w_1 := by rw [← hv_1]; exact p_1.nilRow 64 3
  have f := Frm.set f 2 (v := .slice none 0 0) (v' := .slice A_1 ([] : List T_api_Spec).length cap_1) (by kernel_rfl) (hv_1)
  have hr_1 : RepSeq M_1 (([] : List T_api_Spec).map emb_T_api_Spec) [] := rfl
  refine E_ret2 f rfl (by kernel_rfl : Vc.look _ 2 = some (.slice A_1 ([] : List T_api_Spec).length cap_1)) (by kernel_rfl : Vc.look _ 3 = some (.int .i64 90)) ?_
  obtain rfl := sI hF_1
  exact ⟨_, rfl, M_1, _, hM_1, p_2, ⟨A_1, cap_1, [], rfl, rfl, hr_1⟩⟩
 ·have k_2 : (kindIn d0) = true := by simpa using h_1
  have hF_2 := cnd_f h_1 hF
  refine wp_skip (T_n (R_seq (R_seq (R_reg ?_))))
  refine Y19 f 1 fun _ f => ?_
  refine Y16 f p_1 (risingP_ok d0 hA_1) fun _ M_2 w_2 hM_2 p_3 q_2 _ f => ?_
  obtain ⟨A_2, cap_2, rfl, h_2⟩ := q_2
  refine Y19 f 2 fun _ f => ?_
  refine W_end rfl (T_n (wp_block ?_))
  obtain ⟨A_3, cap_3, hv_2⟩ : ∃ A cap, Value.slice none 0 0 = .slice A ([] : List T_api_Spec).length cap := ⟨none, 0, rfl⟩
  have p_4 : Hp w0 M_2 ((Ent.row 64 3 (.slice A_3 ([] : List T_api_Spec).length cap_3) ([] : List T_api_Spec).length []) :: H) w_2 := by rw [← hv_2]; exact p_3.nilRow 64 3
  have f := Frm.set f 2 (v := .slice none 0 0) (v' := .slice A_3 ([] : List T_api_Spec).length cap_3) (by kernel_rfl) (hv_2)
  have hr_2 : RepSeq M_2 (([] : List T_api_Spec).map emb_T_api_Spec) [] := rfl
  obtain ⟨b_6, hL_1, hF_3⟩ := bS hF_2
  refine wp_mono (Q := fun e a w => (e = .exit 0 ∧ (∃ y_1 : List T_api_Spec, b_6 = y_1 ∧ ∃ M_4 : Mem, M_2.le M_4 ∧ ∃ (A_6 : Option Addr), ∃ (cap_6 : Nat), ∃ (cs_3 : List Value), RepSeq M_4 (y_1.map emb_T_api_Spec) cs_3 ∧ Frm 31 [(2, .slice A_6 y_1.length cap_6)] a ∧ Hp w0 M_4 ((Ent.row 64 3 (.slice A_6 y_1.length cap_6) y_1.length cs_3) :: H) w))) (R_loop (n := 31) (w0 := w0) (M := M_2) (fun (x : Nat × (List T_api_Spec × Int) × (Option Addr) × Nat × (List Value)) => match x with | (m_1, s_1, A_4, cap_4, cs_1) => [(2, .slice A_4 s_1.1.length cap_4), (4, .map (blkOf b_2 b_3 b_4 b_5 d0)), (17, .slice A_2 (namesS d0).length cap_2), (18, .int .i64 (((namesS d0).length : Nat) : Int)), (19, .int .i64 s_1.2)]) (fun (x : Nat × (List T_api_Spec × Int) × (Option Addr) × Nat × (List Value)) => match x with | (m_1, s_1, A_4, cap_4, cs_1) => ((Ent.row 64 3 (.slice A_4 s_1.1.length cap_4) s_1.1.length cs_1) :: H)) (fun (x : Nat × (List T_api_Spec × Int) × (Option Addr) × Nat × (List Value)) (MM : Mem) => match x with | (m_1, s_1, A_4, cap_4, cs_1) => loopF (schema_Specs_s1 n d0) m_1 s_1 = some b_6 ∧ RepSeq MM (s_1.1.map emb_T_api_Spec) cs_1) (fun (x : Nat × (List T_api_Spec × Int) × (Option Addr) × Nat × (List Value)) => match x with | (m_1, s_1, A_4, cap_4, cs_1) => m_1) (n, (([] : List T_api_Spec), (0 : Int)), A_3, cap_3, []) (f.keep (ks := [2, 4, 17, 18, 19]) (by kernel_rfl)) p_4 ⟨hL_1, hr_2⟩ ?_) ?_
  ·rintro ⟨m_1, s_1, A_4, cap_4, cs_1⟩ M_3 _ w_3 hM_3 I_1 f p_5
   obtain ⟨I_1L, hr_3⟩ := I_1
   obtain ⟨m_2, r_1, rfl, hs_1, hn_1⟩ := loop_step I_1L
   unfold schema_Specs_s1 at hs_1
   refine R_seq (R_reg ?_)
   refine Y19 f 1 fun _ f => ?_
   refine W_end rfl (T_n (R_seq ?_))
   refine Y6 f (b := decide (s_1.2 < (((namesS d0).length : Nat) : Int))) (fun h_3 => ?_) fun h_3 => ?_
   ·have k_3 : s_1.2 < (((namesS d0).length : Nat) : Int) := dI.1 h_3
    have hF_4 := cnd_t h_3 hs_1
    refine wp_skip (T_n (R_seq (wp_block (R_seq (R_reg ?_)))))
    obtain ⟨x_1, hx_1, hF_5⟩ := bS hF_4
    obtain ⟨ad_1, c_1, e_1, hl_1, hr_4, hc_1⟩ := Sli.at_ (h_2.mono hM_3) hx_1
    clear hl_1
    obtain rfl : c_1 = [S x_1] := hr_4
    refine Y14 (v := .pointer (some (ad_1.add (s_1.2.toNat * 1)))) f (Y31 e_1 rfl (len := (namesS d0).length) (cap := cap_2) (k := .i64) (i := s_1.2) (e := 9) (sz := 1) (getI_nn hx_1) (getI_lt hx_1)) fun _ f => ?_
    refine Y15 f p_5 hc_1 0 rfl fun _ f => ?_
    refine Y19 f 1 fun _ f => ?_
    refine W_end rfl (T_n (R_reg ?_))
    refine Y19 f 3 fun _ f => ?_
    refine Y14 (v := .agg #[S ((specAt d0 x_1).getD z_T_api_Spec).fName, .int .i8 ((specAt d0 x_1).getD z_T_api_Spec).fKind, .bool ((specAt d0 x_1).getD z_T_api_Spec).fReplace]) f (X_prop1 (k := x_1) (kind := d0) (z := z_T_api_Spec) (kt := 9) (et := 64) (hA_1.mono (hM_2.trans hM_3)) p_5 rfl (by kernel_rfl) (by kernel_rfl) (by kernel_rfl) (strKey (by kernel_rfl)) (by kernel_rfl)) fun _ f => ?_
    refine V_allocS (k := 1) (c := 1) f p_5 (.cells #[S ((specAt d0 x_1).getD z_T_api_Spec).fName, .int .i8 ((specAt d0 x_1).getD z_T_api_Spec).fKind, .bool ((specAt d0 x_1).getD z_T_api_Spec).fReplace] 64 (0, 0)) (by kernel_rfl) (fun _ => by kernel_rfl) fun b_7 w_4 p_6 _ f => ?_
    have p_7 := p_6.pl [1]
    obtain ⟨g_1, hF_6⟩ := nS hF_5
    refine Y20 (z := .agg #[S [], .int .i8 0, .bool false]) (f := emb_T_api_Spec) (xs := s_1.1) (ys := [(⟨((specAt d0 x_1).getD z_T_api_Spec).fName, ((specAt d0 x_1).getD z_T_api_Spec).fKind, (((specAt d0 x_1).getD z_T_api_Spec).fReplace)⟩ : T_api_Spec)]) (news := [S ((specAt d0 x_1).getD z_T_api_Spec).fName, .int .i8 ((specAt d0 x_1).getD z_T_api_Spec).fKind, .bool ((specAt d0 x_1).getD z_T_api_Spec).fReplace]) (ad := ⟨b_7, 0, none⟩) (m := 1) (c := 1) f p_7 hr_3 (by exact ⟨_, _, rfl, T_api_Spec.shut, rfl⟩) rfl rfl rfl rfl (own_cells (p_7.ownCell 1 rfl) 0 rfl) (by exact g_1) (by have hg_ := g_1; first | omega | (simp only [List.length_cons, List.length_nil] at *; omega)) fun A_5 cap_5 cs_2 w_5 p_8 hr_5 _ f => ?_
    have p_9 := p_8.pl [1]
    have p_10 := p_9.drop
    refine Y19 f 1 fun _ f => ?_
    refine W_end rfl (B_n (T_n (R_reg ?_)))
    obtain ⟨g_2, hF_7⟩ := nS hF_6
    refine Y19 f 1 fun _ f => ?_
    have f := Frm.set f 29 (v := .int .i64 (IntKind.wrap .i64 (s_1.2 + 1))) (v' := .int .i64 (s_1.2 + 1)) (by kernel_rfl) (congrArg (Value.int .i64) (inR_wrap g_2))
    refine Y19 f 1 fun _ f => ?_
    refine W_end rfl (T_n ?_)
    obtain rfl := sI hF_7
    exact ⟨⟨m_2, (s_1.1 ++ [(⟨((specAt d0 x_1).getD z_T_api_Spec).fName, ((specAt d0 x_1).getD z_T_api_Spec).fKind, (((specAt d0 x_1).getD z_T_api_Spec).fReplace)⟩ : T_api_Spec)], s_1.2 + 1), A_5, cap_5, cs_2⟩, Nat.lt_succ_self _, M_3, hM_3, ⟨hn_1, hr_5⟩, f.keep (ks := [2, 4, 17, 18, 19]) (by kernel_rfl), p_10⟩
   ·have k_4 : ¬ (s_1.2 < (((namesS d0).length : Nat) : Int)) := iff_f dI h_3
    have hF_8 := cnd_f h_3 hs_1
    refine wp_exit (T_x (T_x ?_))
    obtain rfl := sI hF_8
    exact ⟨rfl, s_1.1, (sI hn_1).symm, M_3, hM_3, A_4, cap_4, cs_1, hr_3, f.keep (ks := [2]) (by kernel_rfl), p_5⟩
  ·rintro _ _ w_7 ⟨rfl, y_1, hq_, M_4, hM_4, A_6, cap_6, cs_3, hr_6, f, p_11⟩
   subst b_6
   refine B_x (T_n (R_seq (R_reg ?_)))
   refine Y19 f 3 fun _ f => ?_
   refine W_end rfl (T_n (wp_ret ?_))
   refine E_ret2 f rfl (by kernel_rfl : Vc.look _ 2 = some (.slice A_6 y_1.length cap_6)) (by kernel_rfl : Vc.look _ 3 = some (.int .i64 0)) ?_
   obtain rfl := sI hF_3
   exact ⟨_, rfl, M_4, _, ((hM_1.trans hM_2).trans hM_4), p_11, ⟨A_6, cap_6, cs_3, rfl, rfl, hr_6⟩⟩
end Go.Proofs.YtalifkcchfkgmaaGreatDoor
end
