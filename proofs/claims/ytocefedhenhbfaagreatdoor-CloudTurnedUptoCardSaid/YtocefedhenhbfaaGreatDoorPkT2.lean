/-
  Texts of this claim, packed (what nothing names is left out): VkF, Ty, Q1, Q2a, WalkIt, Vu, Q2b, Shelf, Lay, Hd, Sort1, Q2d, Q2e, Q3a, WalkIt2, Q4b, LayS, Sort2. Own work, partly printed by own programs. No condition.
-/
import Derived.Test.YtocefedhenhbfaaGreatDoorPkT1
import Derived.Test.YtocefedhenhbfaaGreatDoorRows
import Derived.Shelf.Abstract
import Derived.Lib.MapLaws
import Derived.Lib.ValidLaws
import Derived.Shelf.Strings.Builder1
import Derived.Shelf.Strings.Builder2
import Derived.Shelf.Small.Bits
import Derived.Shelf.Small.Strs
import Derived.Shelf.Strconv.Itoa0
import Derived.Shelf.Bits.Mul64
import Derived.Ground.Names2Prog
import Derived.Shelf.Slices.SearchI
import Derived.Ground.SlsfProg
import Derived.Shelf.SlSortCmp.Insertion
import Derived.Shelf.SlSortCmp.SiftDown1
import Derived.Shelf.SlSortCmp.HeapSort1
import Derived.Shelf.SlSortCmp.Insertion1
import Derived.Shelf.SlSortCmp.Median1
import Derived.Shelf.SlSortCmp.Pivot1
import Derived.Shelf.SlSortCmp.ReverseRange1
import Derived.Shelf.SlSortCmp.PartialInsertion1
import Derived.Shelf.SlSortCmp.PartitionEqual1
import Derived.Shelf.SlSortCmp.Partition1
import Derived.Shelf.SlSortCmp.Pdq1
import Derived.Shelf.SlSortCmp.Whole1
import Derived.Shelf.SlSortCmp.NoneTotal
import Derived.Test.YtocefedhenhbfaaGreatDoorProg
import Derived.Shelf.Lays
import Derived.Shelf.Unicode.ValidAny
import Derived.Lib.Bytealg
import Derived.Shelf.SlLaysF
set_option linter.unusedVariables false
set_option linter.unusedSimpArgs false
set_option maxHeartbeats 2000000
section
namespace Go.Vc
open Go Go.RowKit
variable {dd : List Deferred}
def takeAt : Nat → List Ent → Option (Ent × List Ent)
  | 0, e :: H => some (e, H)
  | i + 1, e :: H => (takeAt i H).map fun r => (r.1, e :: r.2)
  | _, [] => none
def pullE (i : Nat) (H : List Ent) : List Ent := match takeAt i H with | some r => r.1 :: r.2 | none => H
def pulls : List Nat → List Ent → List Ent
  | [], H => H
  | i :: is, H => pulls is (pullE i H)
theorem takeAt_perm : ∀ (i : Nat) (H : List Ent) (r : Ent × List Ent), takeAt i H = some r → H.Perm (r.1 :: r.2)
 | 0, [], r, h => by simp [takeAt] at h
 | 0, e :: H, r, h => by simp only [takeAt, Option.some.injEq] at h; subst h; exact List.Perm.refl _
 | i + 1, [], r, h => by simp [takeAt] at h
 | i + 1, e :: H, r, h => by
  simp only [takeAt] at h
  obtain ⟨s, hs, rfl⟩ := Option.map_eq_some_iff.1 h
  exact ((takeAt_perm i H s hs).cons e).trans (List.Perm.swap _ _ _)
theorem pulls_perm : ∀ (is : List Nat) (H : List Ent), H.Perm (pulls is H)
 | [], H => List.Perm.refl _
 | i :: is, H => by
  unfold pulls
  refine List.Perm.trans ?_ (pulls_perm is _)
  unfold pullE
  split
  ·rename_i r hr; exact takeAt_perm i H r hr
  ·exact List.Perm.refl _
theorem Hp.pl {w0 w : World} {M : Mem} {H : List Ent} (h : Hp w0 M H w) (is : List Nat) : Hp w0 M (pulls is H) w := h.perm (pulls_perm is H)
theorem fzu {M M' : Mem} {base : Addr} {cs : List Value} (hM : M.le M') (h : ∀ j u, cs[j]? = some u → M.cell? (base.add j) = some u) : ∀ j u, cs[j]? = some u → M'.cell? (base.add j) = some u := fun j u e => hM.cell (h j u e)
def runF (P : Program) (ops : Array Oper) (n : Nat) (l : List Oper) (L : Fr) (w : World) : Fr := match runL P ops n l L w with | some r => r.1 | none => []
section
variable {P : Program} {ops : Array Oper} {n : Nat} {Q : Exit → Act → World → Prop} {L : Fr} {a : Act} {w0 w : World} {M : Mem} {H : List Ent}
theorem V_run {l : List Oper} (hf : Frm n L a dd) (m : Nat) (h : (runL P ops n (l.take m) L w).map (·.2) = some w) (hk : ∀ a', Frm n (runF P ops n (l.take m) L w) a' dd → wpList P ops Q (l.drop m) a' w) : wpList P ops Q l a w := by
 obtain ⟨r, h1, h2⟩ := Option.map_eq_some_iff.1 h
 have e : runF P ops n (l.take m) L w = r.1 := by unfold runF; rw [h1]
 rw [e] at hk
 have := run_sound (Q := Q) (l.drop m) (l.take m) L w a hf r.1 w (by rw [h1, ← h2]) hk
 rwa [List.take_append_drop] at this
theorem Y {l : List Oper} (hf : Frm n L a dd) (m : Nat) (hk : ∀ a', Frm n (runF P ops n (l.take m) L w) a' dd → wpList P ops Q (l.drop m) a' w) (h : (runL P ops n (l.take m) L w).map (·.2) = some w := by kernel_rfl) : wpList P ops Q l a w := V_run hf m h hk
def okO (ops : Array Oper) (n : Nat) (L : Fr) (o : Oper) : Bool := match wantedL ops L o with
  | some true => readyL L o && (match o.dst with | some d => Nat.blt d n | none => false)
  | _ => false
def dstO (o : Oper) : Nat := o.dst.getD 0
theorem okO_spec {o : Oper} (h : okO ops n L o = true) : wantedL ops L o = some true ∧ readyL L o = true ∧ o.dst = some (dstO o) ∧ Nat.blt (dstO o) n = true := by
 unfold okO at h
 split at h
 ·rename_i hw
  simp only [Bool.and_eq_true] at h
  refine ⟨hw, h.1, ?_⟩
  obtain ⟨_, h⟩ := h
  unfold dstO
  split at h
  ·rename_i d hd; rw [hd]; exact ⟨rfl, h⟩
  ·cases h
 ·cases h
def ldO (P : Program) (L : Fr) (o : Oper) : Option Value := match o.op with | .load t x => bif one1 P t then some (ev L x) else none | _ => none
theorem ldO_spec {o : Oper} {v : Value} (h : ldO P L o = some v) : ∃ t x, o.op = .load t x ∧ one1 P t = true ∧ ev L x = v := by
 unfold ldO at h
 split at h
 ·rename_i t x he
  cases ht : one1 P t with
  | false => rw [ht] at h; cases h
  | true => rw [ht] at h; exact ⟨t, x, he, ht, Option.some.inj h⟩
 ·cases h
theorem V_ld {o : Oper} {rest : List Oper} {base : Addr} {cs : List Value} {v : Value} (hf : Frm n L a dd) (hp : Hp w0 M H w) (hc : ∀ j u, cs[j]? = some u → M.cell? (base.add j) = some u) (i : Nat) (hv : cs[i]? = some v)
  (hB : okO ops n L o = true) (hx : ldO P L o = some (.pointer (some (base.add i)))) (hk : ∀ a', Frm n ((dstO o, v) :: L) a' dd → wpList P ops Q rest a' w) : wpList P ops Q (o :: rest) a w := by
 obtain ⟨h1, h2, h3, h4⟩ := okO_spec hB
 obtain ⟨t, x, e1, e2, e3⟩ := ldO_spec hx
 exact W_eq hf h1 h2 h3 h4 (X_load1 e1 e3 e2 (hp.cell (hc i v hv))) hk
theorem Y15 {o : Oper} {rest : List Oper} {base : Addr} {cs : List Value} {v : Value} (hf : Frm n L a dd) (hp : Hp w0 M H w) (hc : ∀ j u, cs[j]? = some u → M.cell? (base.add j) = some u) (i : Nat) (hv : cs[i]? = some v) (hk : ∀ a', Frm n ((dstO o, v) :: L) a' dd → wpList P ops Q rest a' w) (hB : okO ops n L o = true := by kernel_rfl) (hx : ldO P L o = some (.pointer (some (base.add i))) := by kernel_rfl) : wpList P ops Q (o :: rest) a w := V_ld hf hp hc i hv hB hx hk
theorem V_eq {w' : World} {o : Oper} {rest : List Oper} {v : Value} (hf : Frm n L a dd) (hB : okO ops n L o = true) (hx : (execOp (ev L) o).run P w = .ok (.value v) w') (hk : ∀ a', Frm n ((dstO o, v) :: L) a' dd → wpList P ops Q rest a' w') : wpList P ops Q (o :: rest) a w := by
 obtain ⟨h1, h2, h3, h4⟩ := okO_spec hB
 exact W_eq hf h1 h2 h3 h4 hx hk
theorem Z {w' : World} {o : Oper} {rest : List Oper} {v : Value} (hf : Frm n L a dd) (hx : (execOp (ev L) o).run P w = .ok (.value v) w') (hk : ∀ a', Frm n ((dstO o, v) :: L) a' dd → wpList P ops Q rest a' w') (hB : okO ops n L o = true := by kernel_rfl) : wpList P ops Q (o :: rest) a w := V_eq hf hB hx hk
theorem V_okv {o : Oper} {rest : List Oper} {f : FuncId} {args : List Value} {v : Value} (hf : Frm n L a dd) (hp : Hp w0 M H w) (hc : Ok P M f args fun _ u => u = v) (hB : okO ops n L o = true) (hx : ∀ w, (execOp (ev L) o).run P w = .ok (.enter f args.toArray) w)
  (hk : ∀ w', Hp w0 M H w' → ∀ a', Frm n ((dstO o, v) :: L) a' dd → wpList P ops Q rest a' w') : wpList P ops Q (o :: rest) a w := by
 obtain ⟨h1, h2, h3, h4⟩ := okO_spec hB
 exact W_okv hf hp h1 h2 h3 h4 hx hc hk
theorem Y18 {o : Oper} {rest : List Oper} {f : FuncId} {args : List Value} {v : Value} (hf : Frm n L a dd) (hp : Hp w0 M H w) (hc : Ok P M f args fun _ u => u = v) (hk : ∀ w', Hp w0 M H w' → ∀ a', Frm n ((dstO o, v) :: L) a' dd → wpList P ops Q rest a' w') (hB : okO ops n L o = true := by kernel_rfl) (hx : ∀ w, (execOp (ev L) o).run P w = .ok (.enter f args.toArray) w := by intro _; kernel_rfl) : wpList P ops Q (o :: rest) a w := V_okv hf hp hc hB hx hk
theorem V_ok {o : Oper} {rest : List Oper} {f : FuncId} {args : List Value} {Post : Mem → Value → Prop} (hf : Frm n L a dd) (hp : Hp w0 M H w) (hc : Ok P M f args Post) (hB : okO ops n L o = true) (hx : ∀ w, (execOp (ev L) o).run P w = .ok (.enter f args.toArray) w)
  (hk : ∀ v M' w', M.le M' → Hp w0 M' H w' → Post M' v → ∀ a', Frm n ((dstO o, v) :: L) a' dd → wpList P ops Q rest a' w') : wpList P ops Q (o :: rest) a w := by
 obtain ⟨h1, h2, h3, h4⟩ := okO_spec hB
 exact W_ok hf hp h1 h2 h3 h4 hx hc hk
theorem Y16 {o : Oper} {rest : List Oper} {f : FuncId} {args : List Value} {Post : Mem → Value → Prop} (hf : Frm n L a dd) (hp : Hp w0 M H w) (hc : Ok P M f args Post) (hk : ∀ v M' w', M.le M' → Hp w0 M' H w' → Post M' v → ∀ a', Frm n ((dstO o, v) :: L) a' dd → wpList P ops Q rest a' w') (hB : okO ops n L o = true := by kernel_rfl) (hx : ∀ w, (execOp (ev L) o).run P w = .ok (.enter f args.toArray) w := by intro _; kernel_rfl) : wpList P ops Q (o :: rest) a w := V_ok hf hp hc hB hx hk
theorem V_okH {o : Oper} {rest : List Oper} {f : FuncId} {args : List Value} {E : List Ent} {Post : Mem → List Ent → Value → Prop} (hf : Frm n L a dd) (hp : Hp w0 M (E ++ H) w) (hc : OkH P M E f args Post) (hB : okO ops n L o = true) (hx : ∀ w, (execOp (ev L) o).run P w = .ok (.enter f args.toArray) w)
  (hk : ∀ v M' E' w', M.le M' → Hp w0 M' (E' ++ H) w' → Post M' E' v → ∀ a', Frm n ((dstO o, v) :: L) a' dd → wpList P ops Q rest a' w') : wpList P ops Q (o :: rest) a w := by
 obtain ⟨h1, h2, h3, h4⟩ := okO_spec hB
 exact W_okH hf hp h1 h2 h3 h4 hx hc hk
theorem Y17 {o : Oper} {rest : List Oper} {f : FuncId} {args : List Value} {E : List Ent} {Post : Mem → List Ent → Value → Prop} (hf : Frm n L a dd) (hp : Hp w0 M (E ++ H) w) (hc : OkH P M E f args Post) (hk : ∀ v M' E' w', M.le M' → Hp w0 M' (E' ++ H) w' → Post M' E' v → ∀ a', Frm n ((dstO o, v) :: L) a' dd → wpList P ops Q rest a' w') (hB : okO ops n L o = true := by kernel_rfl) (hx : ∀ w, (execOp (ev L) o).run P w = .ok (.enter f args.toArray) w := by intro _; kernel_rfl) : wpList P ops Q (o :: rest) a w := V_okH hf hp hc hB hx hk
theorem V_alloc {o : Oper} {rest : List Oper} (hf : Frm n L a dd) (hp : Hp w0 M H w) (ob : Obj) (hB : okO ops n L o = true) (h : ∀ w, (execOp (ev L) o).run P w = .ok (.value (.pointer (some ⟨w.heap.size, 0, none⟩))) (w.alloc ob))
  (hk : ∀ b w', Hp w0 M (.obj b ob :: H) w' → ∀ a', Frm n ((dstO o, .pointer (some ⟨b, 0, none⟩)) :: L) a' dd → wpList P ops Q rest a' w') : wpList P ops Q (o :: rest) a w :=
 V_eq hf hB (h w) (hk w.heap.size (w.alloc ob) (hp.alloc ob))
theorem Y12 {o : Oper} {rest : List Oper} (hf : Frm n L a dd) (hp : Hp w0 M H w) (ob : Obj) (hk : ∀ b w', Hp w0 M (.obj b ob :: H) w' → ∀ a', Frm n ((dstO o, .pointer (some ⟨b, 0, none⟩)) :: L) a' dd → wpList P ops Q rest a' w') (hB : okO ops n L o = true := by kernel_rfl) (h : ∀ w, (execOp (ev L) o).run P w = .ok (.value (.pointer (some ⟨w.heap.size, 0, none⟩))) (w.alloc ob) := by intro _; kernel_rfl) : wpList P ops Q (o :: rest) a w := V_alloc hf hp ob hB h hk
theorem V_allocS {o : Oper} {rest : List Oper} (hf : Frm n L a dd) (hp : Hp w0 M H w) (ob : Obj) (k c : Nat) (hB : okO ops n L o = true) (h : ∀ w, (execOp (ev L) o).run P w = .ok (.value (.slice (some ⟨w.heap.size, 0, none⟩) k c)) (w.alloc ob))
  (hk : ∀ b w', Hp w0 M (.obj b ob :: H) w' → ∀ a', Frm n ((dstO o, .slice (some ⟨b, 0, none⟩) k c) :: L) a' dd → wpList P ops Q rest a' w') : wpList P ops Q (o :: rest) a w :=
 V_eq hf hB (h w) (hk w.heap.size (w.alloc ob) (hp.alloc ob))
theorem V_box {o : Oper} {rest : List Oper} {cs : Array Value} {T : TypeId} (hf : Frm n L a dd) (hp : Hp w0 M H w) (hB : okO ops n L o = true) (h : ∀ w, (execOp (ev L) o).run P w = .ok (.value (.pointer (some ⟨w.heap.size, 0, none⟩))) (w.alloc (.cells cs T (0, 0))))
  (hk : ∀ b M' w', M.le M' → (∀ j v, cs[j]? = some v → M'.cell? ⟨b, j, none⟩ = some v) → Hp w0 M' H w' → ∀ a', Frm n ((dstO o, .pointer (some ⟨b, 0, none⟩)) :: L) a' dd → wpList P ops Q rest a' w') : wpList P ops Q (o :: rest) a w :=
 V_alloc hf hp _ hB h fun b w' hp' => hk b _ w' hp'.freeze.1 (fun j v hv => by rw [add_cell, hv]) hp'.freeze.2
theorem Y13 {o : Oper} {rest : List Oper} {cs : Array Value} {T : TypeId} (hf : Frm n L a dd) (hp : Hp w0 M H w) (hk : ∀ b M' w', M.le M' → (∀ j v, cs[j]? = some v → M'.cell? ⟨b, j, none⟩ = some v) → Hp w0 M' H w' → ∀ a', Frm n ((dstO o, .pointer (some ⟨b, 0, none⟩)) :: L) a' dd → wpList P ops Q rest a' w') (hB : okO ops n L o = true := by kernel_rfl) (h : ∀ w, (execOp (ev L) o).run P w = .ok (.value (.pointer (some ⟨w.heap.size, 0, none⟩))) (w.alloc (.cells cs T (0, 0))) := by intro _; kernel_rfl) : wpList P ops Q (o :: rest) a w := V_box hf hp hB h hk
end
def runQ (P : Program) (ops : Array Oper) (n : Nat) : List Oper → Fr → World → Option (Fr × List World)
  | [], L, _ => some (L, [])
  | o :: os, L, w => match o.dst with
    | none => none
    | some d => bif Nat.blt d n then
        (match wantedL ops L o with
        | none => none
        | some false => (runQ P ops n os ((d, undef) :: L) w).map fun r => (r.1, w :: r.2)
        | some true => bif readyL L o then
            (match (execOp (ev L) o).run P w with
            | .ok (.value v) w' => (runQ P ops n os ((d, v) :: L) w').map fun r => (r.1, w' :: r.2)
            | _ => none) else none) else none
def qF (P : Program) (ops : Array Oper) (n : Nat) (l : List Oper) (L : Fr) (w : World) : Fr := match runQ P ops n l L w with | some r => r.1 | none => []
theorem runQ_len {P : Program} {ops : Array Oper} {n : Nat} : ∀ (l : List Oper) (L : Fr) (w : World) (r : Fr × List World), runQ P ops n l L w = some r → ∃ pre, r.1 = pre ++ L ∧ pre.length = l.length
 | [], L, w, r, h => by simp only [runQ, Option.some.injEq] at h; subst h; exact ⟨[], rfl, rfl⟩
 | o :: os, L, w, r, h => by
  unfold runQ at h
  split at h
  ·cases h
  rename_i d hd
  cases hb : Nat.blt d n with
  | false => rw [hb] at h; cases h
  | true =>
   rw [hb, cond_true] at h
   have fin : ∀ (v : Value) (w1 : World) (s : Fr × List World), runQ P ops n os ((d, v) :: L) w1 = some s → ∃ pre, s.1 = pre ++ L ∧ pre.length = (o :: os).length := fun v w1 s hs => by
    obtain ⟨pre, h1, h2⟩ := runQ_len os _ _ s hs
    exact ⟨pre ++ [(d, v)], by rw [h1, List.append_assoc]; rfl, by simp [h2]⟩
   split at h
   ·cases h
   ·obtain ⟨s, hs, rfl⟩ := Option.map_eq_some_iff.1 h
    exact fin _ _ s hs
   ·cases hr : readyL L o with
    | false => rw [hr] at h; cases h
    | true =>
     rw [hr, cond_true] at h
     split at h
     ·obtain ⟨s, hs, rfl⟩ := Option.map_eq_some_iff.1 h
      exact fin _ _ s hs
     ·cases h
theorem runQ_step {P : Program} {ops : Array Oper} {n : Nat} {o : Oper} {os : List Oper} {L L' : Fr} {wd : World} (h : ∀ w, runQ P ops n (o :: os) L w = some (L', List.replicate (o :: os).length w)) :
  ∃ d, o.dst = some d ∧ d < n ∧ ((wantedL ops L o = some false ∧ ∀ w, runQ P ops n os ((d, undef) :: L) w = some (L', List.replicate os.length w)) ∨
   (wantedL ops L o = some true ∧ readyL L o = true ∧ ∃ v, (∀ w, (execOp (ev L) o).run P w = .ok (.value v) w) ∧ ∀ w, runQ P ops n os ((d, v) :: L) w = some (L', List.replicate os.length w))) := by
 have h0 := h wd
 cases hd : o.dst with
 | none => unfold runQ at h0; simp only [hd] at h0; cases h0
 | some d =>
  cases hb : Nat.blt d n with
  | false => unfold runQ at h0; simp only [hd, hb, cond_false] at h0; cases h0
  | true =>
   refine ⟨d, rfl, by simpa [Nat.blt_eq] using hb, ?_⟩
   cases hw : wantedL ops L o with
   | none => unfold runQ at h0; simp only [hd, hb, cond_true, hw] at h0; cases h0
   | some b =>
    cases b with
    | false =>
     refine .inl ⟨rfl, fun w => ?_⟩
     have h1 := h w
     unfold runQ at h1
     simp only [hd, hb, cond_true, hw] at h1
     obtain ⟨s, hs, e⟩ := Option.map_eq_some_iff.1 h1
     obtain ⟨s1, s2⟩ := s
     simp only [List.length_cons, List.replicate_succ, Prod.mk.injEq, List.cons.injEq] at e
     rw [hs, e.1, e.2.2]
    | true =>
     cases hr : readyL L o with
     | false => unfold runQ at h0; simp only [hd, hb, cond_true, hw, hr, cond_false] at h0; cases h0
     | true =>
      have key : ∀ w, ∃ v, (execOp (ev L) o).run P w = .ok (.value v) w ∧ runQ P ops n os ((d, v) :: L) w = some (L', List.replicate os.length w) := fun w => by
       have h1 := h w
       unfold runQ at h1
       simp only [hd, hb, cond_true, hw, hr] at h1
       split at h1
       ·rename_i v w' hx
        obtain ⟨s, hs, e⟩ := Option.map_eq_some_iff.1 h1
        obtain ⟨s1, s2⟩ := s
        simp only [List.length_cons, List.replicate_succ, Prod.mk.injEq, List.cons.injEq] at e
        obtain ⟨e1, e2, e3⟩ := e
        subst e2
        exact ⟨v, hx, by rw [hs, e1, e3]⟩
       ·cases h1
      obtain ⟨v, hv1, hv2⟩ := key wd
      have same : ∀ w u, runQ P ops n os ((d, u) :: L) w = some (L', List.replicate os.length w) → u = v := fun w u hu => by
       obtain ⟨p1, q1, r1⟩ := runQ_len os _ _ _ hv2
       obtain ⟨p2, q2, r2⟩ := runQ_len os _ _ _ hu
       have e : p1 ++ ((d, v) :: L) = p2 ++ ((d, u) :: L) := q1.symm.trans q2
       have := (List.append_inj e (r1.trans r2.symm)).2
       simp only [List.cons.injEq, Prod.mk.injEq] at this
       exact this.1.2.symm
      refine .inr ⟨rfl, rfl, v, fun w => ?_, fun w => ?_⟩
      ·obtain ⟨u, h1, h2⟩ := key w
       rw [h1, same w u h2]
      ·obtain ⟨u, h1, h2⟩ := key w
       rw [← same w u h2]; exact h2
section
variable {P : Program} {ops : Array Oper} {n : Nat} {C : World → Prop} {K : Act → Prop} {L : Fr} {a : Act} {w0 : World} {M : Mem} {H : List Ent}
theorem Q_runs (wd : World) : ∀ (l rest : List Oper) (L L' : Fr) (a : Act), Frm n L a dd → (∀ w, runQ P ops n l L w = some (L', List.replicate l.length w)) → (∀ a', Frm n L' a' dd → wpQuiet P ops C K rest a') → wpQuiet P ops C K (l ++ rest) a
 | [], rest, L, L', a, hf, h, hk => by
  have := h wd
  simp only [runQ, Option.some.injEq, Prod.mk.injEq] at this
  exact hk a (this.1 ▸ hf)
 | o :: os, rest, L, L', a, hf, h, hk => by
  obtain ⟨d, h1, h2, h3⟩ := runQ_step (wd := wd) h
  have hdn : Nat.blt d n = true := by simpa [Nat.blt_eq] using h2
  rcases h3 with ⟨hw, h4⟩ | ⟨hw, hr, v, hx, h4⟩
  ·exact Q_not hf hw h1 hdn fun a' fa => Q_runs wd os rest _ L' a' fa h4 hk
  ·exact Q_eq hf hw hr h1 hdn (fun w _ => hx w) fun a' fa => Q_runs wd os rest _ L' a' fa h4 hk
theorem Q_run {l : List Oper} (wd : World) (hf : Frm n L a dd) (m : Nat) (h : ∀ w, runQ P ops n (l.take m) L w = some (qF P ops n (l.take m) L wd, List.replicate (l.take m).length w)) (hk : ∀ a', Frm n (qF P ops n (l.take m) L wd) a' dd → wpQuiet P ops C K (l.drop m) a') : wpQuiet P ops C K l a := by
 have := Q_runs (C := C) (K := K) wd (l.take m) (l.drop m) L _ a hf h hk
 rwa [List.take_append_drop] at this
theorem Y5 {l : List Oper} (wd : World) (hf : Frm n L a dd) (m : Nat) (hk : ∀ a', Frm n (qF P ops n (l.take m) L wd) a' dd → wpQuiet P ops C K (l.drop m) a') (h : ∀ w, runQ P ops n (l.take m) L w = some (qF P ops n (l.take m) L wd, List.replicate (l.take m).length w) := by intro _; kernel_rfl) : wpQuiet P ops C K l a := Q_run wd hf m h hk
theorem Q_ld {o : Oper} {rest : List Oper} {base : Addr} {cs : List Value} {v : Value} (hf : Frm n L a dd) (hc : ∀ j u, cs[j]? = some u → M.cell? (base.add j) = some u) (i : Nat) (hv : cs[i]? = some v)
  (hB : okO ops n L o = true) (hx : ldO P L o = some (.pointer (some (base.add i)))) (hk : ∀ a', Frm n ((dstO o, v) :: L) a' dd → wpQuiet P ops (fun w => Hp w0 M H w) K rest a') : wpQuiet P ops (fun w => Hp w0 M H w) K (o :: rest) a := by
 obtain ⟨h1, h2, h3, h4⟩ := okO_spec hB
 obtain ⟨t, x, e1, e2, e3⟩ := ldO_spec hx
 exact Q_eq hf h1 h2 h3 h4 (fun w hp => X_load1 e1 e3 e2 (hp.cell (hc i v hv))) hk
theorem Y4 {o : Oper} {rest : List Oper} {base : Addr} {cs : List Value} {v : Value} (hf : Frm n L a dd) (hc : ∀ j u, cs[j]? = some u → M.cell? (base.add j) = some u) (i : Nat) (hv : cs[i]? = some v) (hk : ∀ a', Frm n ((dstO o, v) :: L) a' dd → wpQuiet P ops (fun w => Hp w0 M H w) K rest a') (hB : okO ops n L o = true := by kernel_rfl) (hx : ldO P L o = some (.pointer (some (base.add i))) := by kernel_rfl) : wpQuiet P ops (fun w => Hp w0 M H w) K (o :: rest) a := Q_ld hf hc i hv hB hx hk
theorem QV_eq {o : Oper} {rest : List Oper} {v : Value} (hf : Frm n L a dd) (hB : okO ops n L o = true) (hx : ∀ w, C w → (execOp (ev L) o).run P w = .ok (.value v) w) (hk : ∀ a', Frm n ((dstO o, v) :: L) a' dd → wpQuiet P ops C K rest a') : wpQuiet P ops C K (o :: rest) a := by
 obtain ⟨h1, h2, h3, h4⟩ := okO_spec hB
 exact Q_eq hf h1 h2 h3 h4 hx hk
theorem Y2 {o : Oper} {rest : List Oper} {v : Value} (hf : Frm n L a dd) (hx : ∀ w, C w → (execOp (ev L) o).run P w = .ok (.value v) w) (hk : ∀ a', Frm n ((dstO o, v) :: L) a' dd → wpQuiet P ops C K rest a') (hB : okO ops n L o = true := by kernel_rfl) : wpQuiet P ops C K (o :: rest) a := QV_eq hf hB hx hk
theorem QV_okv {o : Oper} {rest : List Oper} {f : FuncId} {args : List Value} {v : Value} (hf : Frm n L a dd) (hc : Ok P M f args fun _ u => u = v) (hB : okO ops n L o = true) (hx : ∀ w, (execOp (ev L) o).run P w = .ok (.enter f args.toArray) w)
  (hk : ∀ a', Frm n ((dstO o, v) :: L) a' dd → wpQuiet P ops (fun w => Hp w0 M H w) K rest a') : wpQuiet P ops (fun w => Hp w0 M H w) K (o :: rest) a := by
 obtain ⟨h1, h2, h3, h4⟩ := okO_spec hB
 exact Q_okv hf h1 h2 h3 h4 hx hc hk
theorem Y3 {o : Oper} {rest : List Oper} {f : FuncId} {args : List Value} {v : Value} (hf : Frm n L a dd) (hc : Ok P M f args fun _ u => u = v) (hk : ∀ a', Frm n ((dstO o, v) :: L) a' dd → wpQuiet P ops (fun w => Hp w0 M H w) K rest a') (hB : okO ops n L o = true := by kernel_rfl) (hx : ∀ w, (execOp (ev L) o).run P w = .ok (.enter f args.toArray) w := by intro _; kernel_rfl) : wpQuiet P ops (fun w => Hp w0 M H w) K (o :: rest) a := QV_okv hf hc hB hx hk
end
section
variable {P : Program} {ops : Array Oper} {n : Nat} {Q : Exit → Act → World → Prop} {L : Fr} {a : Act} {w0 : World} {M : Mem} {Hr : List Ent} {i : Mem × List Ent}
theorem M_runs (wd : World) : ∀ (l : List Oper) (rest : List (Bool × Oper)) (L L' : Fr) (a : Act), Frm n L a → (∀ w, runQ P ops n l L w = some (L', List.replicate l.length w)) → (∀ a', Frm n L' a' → wpMix P ops Q (Cla w0 M Hr) rest a' i) → wpMix P ops Q (Cla w0 M Hr) (l.map (fun o => (true, o)) ++ rest) a i
 | [], rest, L, L', a, hf, h, hk => by
  have := h wd
  simp only [runQ, Option.some.injEq, Prod.mk.injEq] at this
  exact hk a (this.1 ▸ hf)
 | o :: os, rest, L, L', a, hf, h, hk => by
  obtain ⟨d, h1, h2, h3⟩ := runQ_step (wd := wd) h
  have hdn : Nat.blt d n = true := by simpa [Nat.blt_eq] using h2
  rcases h3 with ⟨hw, h4⟩ | ⟨hw, hr, v, hx, h4⟩
  ·exact M_not hf hw h1 hdn fun a' fa => M_runs wd os rest _ L' a' fa h4 hk
  ·exact M_eq hf hw hr h1 hdn (fun w _ => hx w) fun a' fa => M_runs wd os rest _ L' a' fa h4 hk
def qops (l : List (Bool × Oper)) : List Oper := l.map (·.2)
def allQ (l : List (Bool × Oper)) : Bool := l.all (·.1)
theorem qops_map {l : List (Bool × Oper)} (h : allQ l = true) : (qops l).map (fun o => (true, o)) = l := by
 induction l with
 | nil => rfl
 | cons p r ih =>
  obtain ⟨b, o⟩ := p
  simp only [allQ, List.all_cons, Bool.and_eq_true] at h
  obtain ⟨rfl, h2⟩ := h
  show (true, o) :: (qops r).map _ = _
  rw [ih h2]
theorem M_run {l : List (Bool × Oper)} (wd : World) (hf : Frm n L a) (m : Nat) (hq : allQ (l.take m) = true) (h : ∀ w, runQ P ops n (qops (l.take m)) L w = some (qF P ops n (qops (l.take m)) L wd, List.replicate (qops (l.take m)).length w)) (hk : ∀ a', Frm n (qF P ops n (qops (l.take m)) L wd) a' → wpMix P ops Q (Cla w0 M Hr) (l.drop m) a' i) : wpMix P ops Q (Cla w0 M Hr) l a i := by
 have := M_runs (Q := Q) (w0 := w0) (M := M) (Hr := Hr) (i := i) wd (qops (l.take m)) (l.drop m) L _ a hf h hk
 rwa [qops_map hq, List.take_append_drop] at this
theorem Y0 {l : List (Bool × Oper)} (wd : World) (hf : Frm n L a) (m : Nat) (hk : ∀ a', Frm n (qF P ops n (qops (l.take m)) L wd) a' → wpMix P ops Q (Cla w0 M Hr) (l.drop m) a' i) (hq : allQ (l.take m) = true := by kernel_rfl) (h : ∀ w, runQ P ops n (qops (l.take m)) L w = some (qF P ops n (qops (l.take m)) L wd, List.replicate (qops (l.take m)).length w) := by intro _; kernel_rfl) : wpMix P ops Q (Cla w0 M Hr) l a i := M_run wd hf m hq h hk
end
section
variable {P : Program} {l : List Oper} {ks : List Nat} {n : Nat} {Q : Exit → Act → World → Prop} {L : Fr} {a : Act} {w0 w : World} {M : Mem} {Hr : List Ent} {i : Mem × List Ent}
theorem N_goN {p : Plan} {M1 : Mem} {H : List Ent} (k : Nat) (hM : M.le M1) (hp : Hp w0 M1 H w) (hH : H.drop k = Hr) (h : wpPlan P l ks Q (Cla w0 M Hr) p a (M1, H.take k)) :
  mixQ Q (fun a' w' => ∃ i', Cla w0 M Hr i' w' ∧ wpPlan P l ks Q (Cla w0 M Hr) p a' i') .normal a w := by
 subst hH
 exact ⟨(M1, H.take k), ⟨hM, by rw [List.take_append_drop]; exact hp⟩, h⟩
end
theorem sI {α : Type} {a b : α} (h : some a = some b) : a = b := Option.some.inj h
theorem dI {p : Prop} [Decidable p] : decide p = true ↔ p := decide_eq_true_iff
theorem bS {α β : Type} {x : Option α} {f : α → Option β} {r : β} (h : x.bind f = some r) : ∃ v, x = some v ∧ f v = some r := bind_some' h
theorem bE (b : Bool) : b = true ∨ b = false := Bool.eq_false_or_eq_true b
theorem mR (M : Mem) : M.le M := Mem.le_refl M
theorem nS {α : Type} {p : Prop} [Decidable p] {y : Option α} {r : α} (h : need p y = some r) : p ∧ y = some r := need_some h
theorem Frm.st {n : Nat} {L : Fr} {a : Act} {dd : List Deferred} {v v' : Value} (h : Frm n L a dd) (k : Nat) (e : v = v') (hl : Go.Vc.look L k = some v := by kernel_rfl) : Frm n ((k, v') :: L) a dd := h.set k hl e
theorem Frm.kp {n : Nat} {L K : Fr} {a : Act} {dd : List Deferred} (h : Frm n L a dd) (hk : Go.Vc.keep (K.map (·.1)) L = some K := by kernel_rfl) : Frm n K a dd := h.keep hk
theorem cE {α : Type} {b : Bool} {x y r : α} (h : (bif b then x else y) = r) : (b = true ∧ x = r) ∨ (b = false ∧ y = r) := by
  cases b
  · exact .inr ⟨rfl, h⟩
  · exact .inl ⟨rfl, h⟩
theorem cB {a b : Bool} (h : a = b) : Value.bool a = Value.bool b := congrArg Value.bool h
theorem iW {k : IntKind} {x : Int} (h : inR k x) : Value.int k (k.wrap x) = Value.int k x := congrArg (Value.int k) (inR_wrap h)
end Go.Vc
end

section
namespace Go.Proofs.YtocefedhenhbfaaGreatDoor
open Go Go.Vc Go.RowKit
structure TE0 where
  fKind : Int
  fBool : Bool
  fNum : Int
  fText : List UInt8
  fList : List TE0
  fKeys : List (List UInt8)
mutual
def emb_TE0 : TE0 → Dat
  | ⟨x0, x1, x2, x3, x4, x5⟩ => .struct [(Dat.int .i8) x0, Dat.bool x1, (Dat.int .i64) x2, Dat.str x3, .list 6 (embs_TE0 x4), (eL 1 Dat.str) x5]
def embs_TE0 : List TE0 → List Dat
  | [] => []
  | x :: r => emb_TE0 x :: embs_TE0 r
end
theorem embs_TE0_eq : ∀ l : List TE0, embs_TE0 l = l.map emb_TE0
 | [] => by simp [embs_TE0]
 | x :: r => by simp [embs_TE0, embs_TE0_eq r]
theorem emb_TE0_eq (x : TE0) : emb_TE0 x = .struct [(Dat.int .i8) x.fKind, Dat.bool x.fBool, (Dat.int .i64) x.fNum, Dat.str x.fText, (eL 6 emb_TE0) x.fList, (eL 1 Dat.str) x.fKeys] := by
 cases x
 simp [emb_TE0, eL, embs_TE0_eq]
theorem szd_TE0 (x : TE0) : Szd 6 (emb_TE0 x) := by rw [emb_TE0_eq]; exact (szd_cons ((szd_int .i8) _) (szd_cons (szd_bool _) (szd_cons ((szd_int .i64) _) (szd_cons (szd_str _) (szd_cons ((fun _ => szd_list _ _) _) (szd_cons ((fun _ => szd_list _ _) _) szd_nil))))))
theorem TE0.opn {M : Mem} {x : TE0} {cs : List Value} (h : Rep M (emb_TE0 x) cs) : ∃ (A4 : Option Addr) (c4 : Nat) (A5 : Option Addr) (c5 : Nat), cs = [.int .i8 x.fKind, .bool x.fBool, .int .i64 x.fNum, S x.fText, .slice A4 x.fList.length c4, .slice A5 x.fKeys.length c5] ∧ Sli M 6 emb_TE0 A4 c4 x.fList ∧ Sli M 1 Dat.str A5 c5 x.fKeys := by
 rw [emb_TE0_eq] at h
 obtain ⟨cq_0, dq_0, eq_0, hq_0, gq_0⟩ := h
 have yq_0 : cq_0 = _ := hq_0
 obtain ⟨cq_1, dq_1, eq_1, hq_1, gq_1⟩ := gq_0
 have yq_1 : cq_1 = _ := hq_1
 obtain ⟨cq_2, dq_2, eq_2, hq_2, gq_2⟩ := gq_1
 have yq_2 : cq_2 = _ := hq_2
 obtain ⟨cq_3, dq_3, eq_3, hq_3, gq_3⟩ := gq_2
 have yq_3 : cq_3 = _ := hq_3
 obtain ⟨cq_4, dq_4, eq_4, hq_4, gq_4⟩ := gq_3
 obtain ⟨Aq_4, kq_4, yq_4, zq_4⟩ := Rep.sli hq_4
 obtain ⟨cq_5, dq_5, eq_5, hq_5, gq_5⟩ := gq_4
 obtain ⟨Aq_5, kq_5, yq_5, zq_5⟩ := Rep.sli hq_5
 have lq : dq_5 = [] := gq_5
 exact ⟨Aq_4, kq_4, Aq_5, kq_5, by simp [eq_0, yq_0, eq_1, yq_1, eq_2, yq_2, eq_3, yq_3, eq_4, yq_4, eq_5, yq_5, lq], zq_4, zq_5⟩
theorem TE0.shut {M : Mem} {a0 : Int} {a1 : Bool} {a2 : Int} {a3 : List UInt8} {a4 : List TE0} {a5 : List (List UInt8)} {A4 : Option Addr} {c4 : Nat} {A5 : Option Addr} {c5 : Nat} (h4 : Sli M 6 emb_TE0 A4 c4 a4) (h5 : Sli M 1 Dat.str A5 c5 a5) : Rep M (emb_TE0 ⟨a0, a1, a2, a3, a4, a5⟩) [.int .i8 a0, .bool a1, .int .i64 a2, S a3, .slice A4 a4.length c4, .slice A5 a5.length c5] := by
 rw [emb_TE0_eq]; exact ⟨_, _, rfl, rfl, ⟨_, _, rfl, rfl, ⟨_, _, rfl, rfl, ⟨_, _, rfl, rfl, ⟨_, _, rfl, (Sli.rep h4), ⟨_, _, rfl, (Sli.rep h5), rfl⟩⟩⟩⟩⟩⟩
theorem TE0.shutx {M : Mem} {x : TE0} {A4 : Option Addr} {c4 : Nat} {A5 : Option Addr} {c5 : Nat} (h4 : Sli M 6 emb_TE0 A4 c4 x.fList) (h5 : Sli M 1 Dat.str A5 c5 x.fKeys) : Rep M (emb_TE0 x) [.int .i8 x.fKind, .bool x.fBool, .int .i64 x.fNum, S x.fText, .slice A4 x.fList.length c4, .slice A5 x.fKeys.length c5] := by
 have h := TE0.shut (M := M) (a0 := x.fKind) (a1 := x.fBool) (a2 := x.fNum) (a3 := x.fText) (a4 := x.fList) (a5 := x.fKeys) h4 h5
 rw [emb_TE0_eq] at h ⊢
 exact h
structure TC0 where
  fName : List UInt8
  fUnknown : Bool
  fV : TE0
def emb_TC0 : TC0 → Dat
  | ⟨x0, x1, x2⟩ => .struct [Dat.str x0, Dat.bool x1, emb_TE0 x2]
theorem emb_TC0_eq (x : TC0) : emb_TC0 x = .struct [Dat.str x.fName, Dat.bool x.fUnknown, emb_TE0 x.fV] := by
 cases x
 simp [emb_TC0, eL]
theorem szd_TC0 (x : TC0) : Szd 8 (emb_TC0 x) := by rw [emb_TC0_eq]; exact (szd_cons (szd_str _) (szd_cons (szd_bool _) (szd_cons (szd_TE0 _) szd_nil)))
theorem TC0.opn {M : Mem} {x : TC0} {cs : List Value} (h : Rep M (emb_TC0 x) cs) : ∃ (A6 : Option Addr) (c6 : Nat) (A7 : Option Addr) (c7 : Nat), cs = [S x.fName, .bool x.fUnknown, .int .i8 x.fV.fKind, .bool x.fV.fBool, .int .i64 x.fV.fNum, S x.fV.fText, .slice A6 x.fV.fList.length c6, .slice A7 x.fV.fKeys.length c7] ∧ Sli M 6 emb_TE0 A6 c6 x.fV.fList ∧ Sli M 1 Dat.str A7 c7 x.fV.fKeys := by
 rw [emb_TC0_eq] at h
 obtain ⟨cq_0, dq_0, eq_0, hq_0, gq_0⟩ := h
 have yq_0 : cq_0 = _ := hq_0
 obtain ⟨cq_1, dq_1, eq_1, hq_1, gq_1⟩ := gq_0
 have yq_1 : cq_1 = _ := hq_1
 obtain ⟨cq_2, dq_2, eq_2, hq_2, gq_2⟩ := gq_1
 rw [emb_TE0_eq] at hq_2
 obtain ⟨cq_2_0, dq_2_0, eq_2_0, hq_2_0, gq_2_0⟩ := hq_2
 have yq_2_0 : cq_2_0 = _ := hq_2_0
 obtain ⟨cq_2_1, dq_2_1, eq_2_1, hq_2_1, gq_2_1⟩ := gq_2_0
 have yq_2_1 : cq_2_1 = _ := hq_2_1
 obtain ⟨cq_2_2, dq_2_2, eq_2_2, hq_2_2, gq_2_2⟩ := gq_2_1
 have yq_2_2 : cq_2_2 = _ := hq_2_2
 obtain ⟨cq_2_3, dq_2_3, eq_2_3, hq_2_3, gq_2_3⟩ := gq_2_2
 have yq_2_3 : cq_2_3 = _ := hq_2_3
 obtain ⟨cq_2_4, dq_2_4, eq_2_4, hq_2_4, gq_2_4⟩ := gq_2_3
 obtain ⟨Aq_2_4, kq_2_4, yq_2_4, zq_2_4⟩ := Rep.sli hq_2_4
 obtain ⟨cq_2_5, dq_2_5, eq_2_5, hq_2_5, gq_2_5⟩ := gq_2_4
 obtain ⟨Aq_2_5, kq_2_5, yq_2_5, zq_2_5⟩ := Rep.sli hq_2_5
 have lq_2 : dq_2_5 = [] := gq_2_5
 have lq : dq_2 = [] := gq_2
 exact ⟨Aq_2_4, kq_2_4, Aq_2_5, kq_2_5, by simp [eq_0, yq_0, eq_1, yq_1, eq_2, eq_2_0, yq_2_0, eq_2_1, yq_2_1, eq_2_2, yq_2_2, eq_2_3, yq_2_3, eq_2_4, yq_2_4, eq_2_5, yq_2_5, lq_2, lq], zq_2_4, zq_2_5⟩
theorem TC0.shut {M : Mem} {a0 : List UInt8} {a1 : Bool} {a2 : Int} {a3 : Bool} {a4 : Int} {a5 : List UInt8} {a6 : List TE0} {a7 : List (List UInt8)} {A6 : Option Addr} {c6 : Nat} {A7 : Option Addr} {c7 : Nat} (h6 : Sli M 6 emb_TE0 A6 c6 a6) (h7 : Sli M 1 Dat.str A7 c7 a7) : Rep M (emb_TC0 ⟨a0, a1, ⟨a2, a3, a4, a5, a6, a7⟩⟩) [S a0, .bool a1, .int .i8 a2, .bool a3, .int .i64 a4, S a5, .slice A6 a6.length c6, .slice A7 a7.length c7] := by
 rw [emb_TC0_eq]; exact ⟨_, _, rfl, rfl, ⟨_, _, rfl, rfl, ⟨_, _, rfl, (by rw [emb_TE0_eq]; exact ⟨_, _, rfl, rfl, ⟨_, _, rfl, rfl, ⟨_, _, rfl, rfl, ⟨_, _, rfl, rfl, ⟨_, _, rfl, (Sli.rep h6), ⟨_, _, rfl, (Sli.rep h7), rfl⟩⟩⟩⟩⟩⟩), rfl⟩⟩⟩
theorem TC0.shutx {M : Mem} {x : TC0} {A6 : Option Addr} {c6 : Nat} {A7 : Option Addr} {c7 : Nat} (h6 : Sli M 6 emb_TE0 A6 c6 x.fV.fList) (h7 : Sli M 1 Dat.str A7 c7 x.fV.fKeys) : Rep M (emb_TC0 x) [S x.fName, .bool x.fUnknown, .int .i8 x.fV.fKind, .bool x.fV.fBool, .int .i64 x.fV.fNum, S x.fV.fText, .slice A6 x.fV.fList.length c6, .slice A7 x.fV.fKeys.length c7] := by
 obtain ⟨u0, u1, ⟨u2, u3, u4, u5, u6, u7⟩⟩ := x
 exact TC0.shut h6 h7
structure TD0 where
  fPhys : List UInt8
  fType : List UInt8
  fProps : List TC0
def emb_TD0 : TD0 → Dat
  | ⟨x0, x1, x2⟩ => .struct [Dat.str x0, Dat.str x1, (eL 8 emb_TC0) x2]
theorem emb_TD0_eq (x : TD0) : emb_TD0 x = .struct [Dat.str x.fPhys, Dat.str x.fType, (eL 8 emb_TC0) x.fProps] := by
 cases x
 simp [emb_TD0, eL]
theorem szd_TD0 (x : TD0) : Szd 3 (emb_TD0 x) := by rw [emb_TD0_eq]; exact (szd_cons (szd_str _) (szd_cons (szd_str _) (szd_cons ((fun _ => szd_list _ _) _) szd_nil)))
theorem TD0.opn {M : Mem} {x : TD0} {cs : List Value} (h : Rep M (emb_TD0 x) cs) : ∃ (A2 : Option Addr) (c2 : Nat), cs = [S x.fPhys, S x.fType, .slice A2 x.fProps.length c2] ∧ Sli M 8 emb_TC0 A2 c2 x.fProps := by
 rw [emb_TD0_eq] at h
 obtain ⟨cq_0, dq_0, eq_0, hq_0, gq_0⟩ := h
 have yq_0 : cq_0 = _ := hq_0
 obtain ⟨cq_1, dq_1, eq_1, hq_1, gq_1⟩ := gq_0
 have yq_1 : cq_1 = _ := hq_1
 obtain ⟨cq_2, dq_2, eq_2, hq_2, gq_2⟩ := gq_1
 obtain ⟨Aq_2, kq_2, yq_2, zq_2⟩ := Rep.sli hq_2
 have lq : dq_2 = [] := gq_2
 exact ⟨Aq_2, kq_2, by simp [eq_0, yq_0, eq_1, yq_1, eq_2, yq_2, lq], zq_2⟩
theorem TD0.shut {M : Mem} {a0 : List UInt8} {a1 : List UInt8} {a2 : List TC0} {A2 : Option Addr} {c2 : Nat} (h2 : Sli M 8 emb_TC0 A2 c2 a2) : Rep M (emb_TD0 ⟨a0, a1, a2⟩) [S a0, S a1, .slice A2 a2.length c2] := by
 rw [emb_TD0_eq]; exact ⟨_, _, rfl, rfl, ⟨_, _, rfl, rfl, ⟨_, _, rfl, (Sli.rep h2), rfl⟩⟩⟩
theorem TD0.shutx {M : Mem} {x : TD0} {A2 : Option Addr} {c2 : Nat} (h2 : Sli M 8 emb_TC0 A2 c2 x.fProps) : Rep M (emb_TD0 x) [S x.fPhys, S x.fType, .slice A2 x.fProps.length c2] := by
 have h := TD0.shut (M := M) (a0 := x.fPhys) (a1 := x.fType) (a2 := x.fProps) h2
 rw [emb_TD0_eq] at h ⊢
 exact h
structure TF0 where
  fToken : Int
  fKind : Int
  fPhys : List UInt8
  fType : List UInt8
  fProps : List TC0
def emb_TF0 : TF0 → Dat
  | ⟨x0, x1, x2, x3, x4⟩ => .struct [(Dat.int .i64) x0, (Dat.int .i8) x1, Dat.str x2, Dat.str x3, (eL 8 emb_TC0) x4]
theorem emb_TF0_eq (x : TF0) : emb_TF0 x = .struct [(Dat.int .i64) x.fToken, (Dat.int .i8) x.fKind, Dat.str x.fPhys, Dat.str x.fType, (eL 8 emb_TC0) x.fProps] := by
 cases x
 simp [emb_TF0, eL]
theorem szd_TF0 (x : TF0) : Szd 5 (emb_TF0 x) := by rw [emb_TF0_eq]; exact (szd_cons ((szd_int .i64) _) (szd_cons ((szd_int .i8) _) (szd_cons (szd_str _) (szd_cons (szd_str _) (szd_cons ((fun _ => szd_list _ _) _) szd_nil)))))
theorem TF0.opn {M : Mem} {x : TF0} {cs : List Value} (h : Rep M (emb_TF0 x) cs) : ∃ (A4 : Option Addr) (c4 : Nat), cs = [.int .i64 x.fToken, .int .i8 x.fKind, S x.fPhys, S x.fType, .slice A4 x.fProps.length c4] ∧ Sli M 8 emb_TC0 A4 c4 x.fProps := by
 rw [emb_TF0_eq] at h
 obtain ⟨cq_0, dq_0, eq_0, hq_0, gq_0⟩ := h
 have yq_0 : cq_0 = _ := hq_0
 obtain ⟨cq_1, dq_1, eq_1, hq_1, gq_1⟩ := gq_0
 have yq_1 : cq_1 = _ := hq_1
 obtain ⟨cq_2, dq_2, eq_2, hq_2, gq_2⟩ := gq_1
 have yq_2 : cq_2 = _ := hq_2
 obtain ⟨cq_3, dq_3, eq_3, hq_3, gq_3⟩ := gq_2
 have yq_3 : cq_3 = _ := hq_3
 obtain ⟨cq_4, dq_4, eq_4, hq_4, gq_4⟩ := gq_3
 obtain ⟨Aq_4, kq_4, yq_4, zq_4⟩ := Rep.sli hq_4
 have lq : dq_4 = [] := gq_4
 exact ⟨Aq_4, kq_4, by simp [eq_0, yq_0, eq_1, yq_1, eq_2, yq_2, eq_3, yq_3, eq_4, yq_4, lq], zq_4⟩
theorem TF0.shut {M : Mem} {a0 : Int} {a1 : Int} {a2 : List UInt8} {a3 : List UInt8} {a4 : List TC0} {A4 : Option Addr} {c4 : Nat} (h4 : Sli M 8 emb_TC0 A4 c4 a4) : Rep M (emb_TF0 ⟨a0, a1, a2, a3, a4⟩) [.int .i64 a0, .int .i8 a1, S a2, S a3, .slice A4 a4.length c4] := by
 rw [emb_TF0_eq]; exact ⟨_, _, rfl, rfl, ⟨_, _, rfl, rfl, ⟨_, _, rfl, rfl, ⟨_, _, rfl, rfl, ⟨_, _, rfl, (Sli.rep h4), rfl⟩⟩⟩⟩⟩
structure TB0 where
  fEnded : Bool
  fOk : Bool
  fPhys : List UInt8
  deriving DecidableEq, Inhabited
def emb_TB0 : TB0 → Dat
  | ⟨x0, x1, x2⟩ => .struct [Dat.bool x0, Dat.bool x1, Dat.str x2]
theorem emb_TB0_eq (x : TB0) : emb_TB0 x = .struct [Dat.bool x.fEnded, Dat.bool x.fOk, Dat.str x.fPhys] := by
 cases x
 simp [emb_TB0, eL]
theorem TB0.opn {M : Mem} {x : TB0} {cs : List Value} (h : Rep M (emb_TB0 x) cs) : cs = [.bool x.fEnded, .bool x.fOk, S x.fPhys] := by
 rw [emb_TB0_eq] at h
 obtain ⟨cq_0, dq_0, eq_0, hq_0, gq_0⟩ := h
 have yq_0 : cq_0 = _ := hq_0
 obtain ⟨cq_1, dq_1, eq_1, hq_1, gq_1⟩ := gq_0
 have yq_1 : cq_1 = _ := hq_1
 obtain ⟨cq_2, dq_2, eq_2, hq_2, gq_2⟩ := gq_1
 have yq_2 : cq_2 = _ := hq_2
 have lq : dq_2 = [] := gq_2
 simp [eq_0, yq_0, eq_1, yq_1, eq_2, yq_2, lq]
theorem TB0.shut {M : Mem} {a0 : Bool} {a1 : Bool} {a2 : List UInt8}   : Rep M (emb_TB0 ⟨a0, a1, a2⟩) [.bool a0, .bool a1, S a2] := by
 rw [emb_TB0_eq]; exact ⟨_, _, rfl, rfl, ⟨_, _, rfl, rfl, ⟨_, _, rfl, rfl, rfl⟩⟩⟩
structure TG0 where
  fName : List UInt8
  fKind : Int
  fReplace : Bool
  deriving DecidableEq, Inhabited
def emb_TG0 : TG0 → Dat
  | ⟨x0, x1, x2⟩ => .struct [Dat.str x0, (Dat.int .i8) x1, Dat.bool x2]
theorem emb_TG0_eq (x : TG0) : emb_TG0 x = .struct [Dat.str x.fName, (Dat.int .i8) x.fKind, Dat.bool x.fReplace] := by
 cases x
 simp [emb_TG0, eL]
theorem TG0.opn {M : Mem} {x : TG0} {cs : List Value} (h : Rep M (emb_TG0 x) cs) : cs = [S x.fName, .int .i8 x.fKind, .bool x.fReplace] := by
 rw [emb_TG0_eq] at h
 obtain ⟨cq_0, dq_0, eq_0, hq_0, gq_0⟩ := h
 have yq_0 : cq_0 = _ := hq_0
 obtain ⟨cq_1, dq_1, eq_1, hq_1, gq_1⟩ := gq_0
 have yq_1 : cq_1 = _ := hq_1
 obtain ⟨cq_2, dq_2, eq_2, hq_2, gq_2⟩ := gq_1
 have yq_2 : cq_2 = _ := hq_2
 have lq : dq_2 = [] := gq_2
 simp [eq_0, yq_0, eq_1, yq_1, eq_2, yq_2, lq]
theorem TG0.shut {M : Mem} {a0 : List UInt8} {a1 : Int} {a2 : Bool}   : Rep M (emb_TG0 ⟨a0, a1, a2⟩) [S a0, .int .i8 a1, .bool a2] := by
 rw [emb_TG0_eq]; exact ⟨_, _, rfl, rfl, ⟨_, _, rfl, rfl, ⟨_, _, rfl, rfl, rfl⟩⟩⟩
theorem TG0.shutx {M : Mem} {x : TG0}   : Rep M (emb_TG0 x) [S x.fName, .int .i8 x.fKind, .bool x.fReplace] := by
 have h := TG0.shut (M := M) (a0 := x.fName) (a1 := x.fKind) (a2 := x.fReplace)
 rw [emb_TG0_eq] at h ⊢
 exact h
structure TA0 where
  fL : List TD0
  fMade : Int
def emb_TA0 : TA0 → Dat
  | ⟨x0, x1⟩ => .struct [(eL 3 emb_TD0) x0, (Dat.int .i64) x1]
theorem emb_TA0_eq (x : TA0) : emb_TA0 x = .struct [(eL 3 emb_TD0) x.fL, (Dat.int .i64) x.fMade] := by
 cases x
 simp [emb_TA0, eL]
theorem TA0.opn {M : Mem} {x : TA0} {cs : List Value} (h : Rep M (emb_TA0 x) cs) : ∃ (A0 : Option Addr) (c0 : Nat), cs = [.slice A0 x.fL.length c0, .int .i64 x.fMade] ∧ Sli M 3 emb_TD0 A0 c0 x.fL := by
 rw [emb_TA0_eq] at h
 obtain ⟨cq_0, dq_0, eq_0, hq_0, gq_0⟩ := h
 obtain ⟨Aq_0, kq_0, yq_0, zq_0⟩ := Rep.sli hq_0
 obtain ⟨cq_1, dq_1, eq_1, hq_1, gq_1⟩ := gq_0
 have yq_1 : cq_1 = _ := hq_1
 have lq : dq_1 = [] := gq_1
 exact ⟨Aq_0, kq_0, by simp [eq_0, yq_0, eq_1, yq_1, lq], zq_0⟩
theorem TA0.shut {M : Mem} {a0 : List TD0} {a1 : Int} {A0 : Option Addr} {c0 : Nat} (h0 : Sli M 3 emb_TD0 A0 c0 a0) : Rep M (emb_TA0 ⟨a0, a1⟩) [.slice A0 a0.length c0, .int .i64 a1] := by
 rw [emb_TA0_eq]; exact ⟨_, _, rfl, (Sli.rep h0), ⟨_, _, rfl, rfl, rfl⟩⟩
abbrev z_TE0 : TE0 := (⟨(0 : Int), (false), (0 : Int), ([] : List UInt8), ([] : List TE0), ([] : List (List UInt8))⟩ : TE0)
abbrev z_TC0 : TC0 := (⟨([] : List UInt8), (false), (⟨(0 : Int), (false), (0 : Int), ([] : List UInt8), ([] : List TE0), ([] : List (List UInt8))⟩ : TE0)⟩ : TC0)
abbrev z_TD0 : TD0 := (⟨([] : List UInt8), ([] : List UInt8), ([] : List TC0)⟩ : TD0)
abbrev z_TF0 : TF0 := (⟨(0 : Int), (0 : Int), ([] : List UInt8), ([] : List UInt8), ([] : List TC0)⟩ : TF0)
abbrev z_TB0 : TB0 := (⟨(false), (false), ([] : List UInt8)⟩ : TB0)
abbrev z_TG0 : TG0 := (⟨([] : List UInt8), (0 : Int), (false)⟩ : TG0)
abbrev z_TA0 : TA0 := (⟨([] : List TD0), (0 : Int)⟩ : TA0)
def ref01_One_s1 (n : Nat) (d0 : List UInt8) (d1 : Int) (G5 : Int × Int × Int) (K1 : Int × Int) : Option (Lp (Int × Int) (Sum Unit Int)) :=
    bif (decide (K1.2 < G5.1)) then
      (need (inR .i64 (d1 + K1.2)) <|
      (getI d0 (d1 + K1.2)).bind fun c_2 =>
      ((bif (decide (((c_2).toNat : Int) < 128)) then
          (some ((true)))
        else
          some ((decide ((191 : Int) < ((c_2).toNat : Int)))) : Option Bool)).bind fun G6 =>
      bif G6 then
        (some (.br (.inl ())))
      else
        need (inR .i64 ((64 : Int) * K1.1)) <|
        need (inR .i64 (((64 : Int) * K1.1) + ((c_2).toNat : Int))) <|
        need (inR .i64 ((((64 : Int) * K1.1) + ((c_2).toNat : Int)) - 128)) <|
        need (inR .i64 (K1.2 + 1)) <|
        some (.nx ((((64 : Int) * K1.1) + ((c_2).toNat : Int)) - 128, K1.2 + 1)))
    else
      some (.br (.inr K1.1))
def ref01_One (n : Nat) (d0 : List UInt8) (d1 : Int) : Option (Int × Int) :=
  ((bif (decide (d1 < 0)) then
      (some ((true)))
    else
      some ((decide ((d0.length : Int) ≤ d1))) : Option Bool)).bind fun G1 =>
  bif G1 then
    (some (((0 : Int), (0 : Int))))
  else
    (getI d0 d1).bind fun c_1 =>
    ((bif (decide (((c_1).toNat : Int) < 128)) then
        (((some ((((c_1).toNat : Int), (1 : Int))) : Option (Int × Int))).map Lp.br)
      else
        ((bif (decide ((192 : Int) ≤ ((c_1).toNat : Int))) then
            (some ((decide (((c_1).toNat : Int) < 224))))
          else
            some ((false)) : Option Bool)).bind fun G2 =>
        bif G2 then
          (some (.nx ((2 : Int), bAnd .i64 ((c_1).toNat : Int) (31 : Int), (128 : Int))))
        else
          ((bif (decide ((224 : Int) ≤ ((c_1).toNat : Int))) then
              (some ((decide (((c_1).toNat : Int) < 240))))
            else
              some ((false)) : Option Bool)).bind fun G3 =>
          bif G3 then
            (some (.nx ((3 : Int), bAnd .i64 ((c_1).toNat : Int) (15 : Int), (2048 : Int))))
          else
            ((bif (decide ((240 : Int) ≤ ((c_1).toNat : Int))) then
                (some ((decide (((c_1).toNat : Int) < 248))))
              else
                some ((false)) : Option Bool)).bind fun G4 =>
            bif G4 then
              (some (.nx ((4 : Int), bAnd .i64 ((c_1).toNat : Int) (7 : Int), (65536 : Int))))
            else
              ((some (((0 : Int), (0 : Int))) : Option (Int × Int))).map Lp.br : Option (Lp (Int × Int × Int) (Int × Int)))).bind fun j => joinF j fun G5 =>
    need (inR .i64 (d1 + G5.1)) <|
    bif (decide ((d0.length : Int) < (d1 + G5.1))) then
      (some (((0 : Int), (0 : Int))))
    else
      (loopF (ref01_One_s1 n d0 d1 G5) n (G5.2.1, (1 : Int))).bind fun Q1 =>
      (match Q1 with 
      | .inl G7 => some (((0 : Int), (0 : Int))) 
      | .inr G8 => ((bif (decide (G8 < G5.2.2)) then
            (some ((true)))
          else
            bif (decide ((1114111 : Int) < G8)) then
              (some ((true)))
            else
              bif (decide ((55296 : Int) ≤ G8)) then
                (some ((decide (G8 ≤ 57343))))
              else
                some ((false)) : Option Bool)).bind fun G9 =>
        bif G9 then
          (some (((0 : Int), (0 : Int))))
        else
          some ((G8, G5.1)))
set_option maxRecDepth 20000 in
theorem ref01_One_ok (n : Nat) (M : Mem) (d0 : List UInt8) (d1 : Int) (r : Int × Int) (hF : ref01_One n d0 d1 = some r) : Ok Tryz.prog M 58 [S d0, .int .i64 d1] (fun _ v => v = .tuple #[.int .i64 r.1, .int .i64 r.2]) := by
 unfold ref01_One at hF
 intro M1 hM0 w0 H w p0
 refine R_enter 101 Tryz.func58 rfl rfl (by simp) fun a0 f0 => RR (Y f0 2 fun _ f => eT (R_seq (R_seq ?_)))
 obtain ⟨j_1, hj_1, F1⟩ := bS hF
 refine R_mid (fun a_5 W1 => ∃ G1 : Bool, j_1 = G1 ∧ ∃ V1 : Mem, M1.le V1 ∧ Frm 101 [(0, S d0), (1, .int .i64 d1), (19, .bool G1)] a_5 ∧ Hp w0 V1 (H) W1) ?_ ?_
 ·refine R_reg (Y f 3 fun _ f => ?_)
  rcases cE hj_1 with ⟨B1, F2⟩ | ⟨B1, F3⟩
  ·have U1 := dI.1 B1
   have f := f.st 14 (cB B1)
   refine Y f 5 fun _ f => eT ?_
   exact ⟨(true), (sI F2).symm, M1, (mR _), f.kp, p0⟩
  ·have U2 := iff_f dI B1
   have f := f.st 14 (cB B1)
   refine Y f 5 fun _ f => eT ?_
   exact ⟨(decide ((d0.length : Int) ≤ d1)), (sI F3).symm, M1, (mR _), f.kp, p0⟩
 ·rintro a_5 W1 ⟨G1, hq_1, V1, J1, f, N1⟩
  subst j_1
  refine T_n (RcF f F1 (fun B2 F4 => ?_) fun B2 F5 => ?_)
  ·refine RR (Y f 2 fun _ f => eT (wp_ret (T_r (E_ret2 f rfl (by kernel_rfl : Vc.look _ 4 = some (.int .i64 0)) (by kernel_rfl : Vc.look _ 5 = some (.int .i64 0)) ?_))))
   obtain rfl := sI F4
   exact ⟨_, rfl, V1, J1, N1, rfl⟩
  ·refine wp_skip (T_n (RR (Y f 2 fun _ f => ?_)))
   obtain ⟨c_1, S1, F6⟩ := bS F5
   refine Z f (Y39 rfl (l := d0) (k := .i64) (i := d1) (getI_nn S1) (getI_lt S1)) fun _ f => ?_
   have f := Frm.set f 22 (v := .int .u8 ((d0.getD d1.toNat 0).toNat : Int)) (v' := .int .u8 ((c_1).toNat : Int)) (by kernel_rfl) (congrArg (fun c : UInt8 => Value.int .u8 ((c.toNat : Nat) : Int)) (getI_getD S1))
   refine Y f 1 fun _ f => ?_
   have f := Frm.set f 23 (v := .int .i64 (IntKind.wrap .i64 (((c_1).toNat : Int)))) (v' := .int .i64 ((c_1).toNat : Int)) (by kernel_rfl) (congrArg (Value.int .i64) (wrap_byte _ (by simp) _))
   refine Y f 1 fun _ f => eT (RR (Y f 4 fun _ f => eT (R_seq ?_)))
   obtain ⟨j_2, hj_2, F7⟩ := bS F6
   refine R_mid (fun a_36 W5 => ∃ G5 : Int × Int × Int, j_2 = .nx G5 ∧ ∃ V5 : Mem, V1.le V5 ∧ Frm 101 [(0, S d0), (1, .int .i64 d1), (7, .int .i64 G5.1), (8, .int .i64 G5.2.1), (9, .int .i64 G5.2.2)] a_36 ∧ Hp w0 V5 (H) W5) ?_ ?_
   ·refine wp_block (RR (Y f 3 fun _ f => eT (RcF f hj_2 (fun B3 F8 => ?_) fun B3 F10 => ?_)))
    ·have U5 := dI.1 B3
     refine RR (Y f 3 fun _ f => eT (wp_ret (B_r ?_)))
     have F9 := br_elim F8 F7
     refine T_r (T_r (E_ret2 f rfl (by kernel_rfl : Vc.look _ 4 = some (.int .i64 ((c_1).toNat : Int))) (by kernel_rfl : Vc.look _ 5 = some (.int .i64 1)) ?_))
     obtain rfl := sI F9
     exact ⟨_, rfl, V1, J1, N1, rfl⟩
    ·have U6 := iff_f dI B3
     refine R_seq ?_
     obtain ⟨j_3, hj_3, F11⟩ := bS F10
     refine R_mid (fun a_17 W2 => ∃ G2 : Bool, j_3 = G2 ∧ ∃ V2 : Mem, V1.le V2 ∧ Frm 101 [(0, S d0), (1, .int .i64 d1), (6, .int .i64 ((c_1).toNat : Int)), (29, .bool G2)] a_17 ∧ Hp w0 V2 (H) W2) ?_ ?_
     ·refine R_reg (Y f 3 fun _ f => ?_)
      rcases cE hj_3 with ⟨B4, F12⟩ | ⟨B4, F13⟩
      ·have U7 := dI.1 B4
       have f := f.st 32 (cB B4)
       refine Y f 4 fun _ f => eT ?_
       exact ⟨(decide (((c_1).toNat : Int) < 224)), (sI F12).symm, V1, (mR _), f.kp, N1⟩
      ·have U8 := iff_f dI B4
       have f := f.st 32 (cB B4)
       refine Y f 4 fun _ f => eT ?_
       exact ⟨(false), (sI F13).symm, V1, (mR _), f.kp, N1⟩
     ·rintro a_17 W2 ⟨G2, hq_2, V2, J2, f, N2⟩
      subst j_3
      refine T_n (RcF f F11 (fun B5 F14 => ?_) fun B5 F15 => ?_)
      ·refine RR (Y f 1 fun _ f => eT (RR (Y f 3 fun _ f => eT (R_reg (Y f 1 fun _ f => W_end rfl (B_n (T_n ?_)))))))
       exact ⟨((2 : Int), bAnd .i64 ((c_1).toNat : Int) (31 : Int), (128 : Int)), (sI F14).symm, V2, J2, f.kp, N2⟩
      ·refine R_seq ?_
       obtain ⟨j_4, hj_4, F16⟩ := bS F15
       refine R_mid (fun a_24 W3 => ∃ G3 : Bool, j_4 = G3 ∧ ∃ V3 : Mem, V2.le V3 ∧ Frm 101 [(0, S d0), (1, .int .i64 d1), (6, .int .i64 ((c_1).toNat : Int)), (38, .bool G3)] a_24 ∧ Hp w0 V3 (H) W3) ?_ ?_
       ·refine R_reg (Y f 3 fun _ f => ?_)
        rcases cE hj_4 with ⟨B6, F17⟩ | ⟨B6, F18⟩
        ·have U11 := dI.1 B6
         have f := f.st 41 (cB B6)
         refine Y f 4 fun _ f => eT ?_
         exact ⟨(decide (((c_1).toNat : Int) < 240)), (sI F17).symm, V2, (mR _), f.kp, N2⟩
        ·have U12 := iff_f dI B6
         have f := f.st 41 (cB B6)
         refine Y f 4 fun _ f => eT ?_
         exact ⟨(false), (sI F18).symm, V2, (mR _), f.kp, N2⟩
       ·rintro a_24 W3 ⟨G3, hq_3, V3, J3, f, N3⟩
        subst j_4
        refine T_n (RcF f F16 (fun B7 F19 => ?_) fun B7 F20 => ?_)
        ·refine RR (Y f 1 fun _ f => eT (RR (Y f 3 fun _ f => eT (R_reg (Y f 1 fun _ f => W_end rfl (B_n (T_n ?_)))))))
         exact ⟨((3 : Int), bAnd .i64 ((c_1).toNat : Int) (15 : Int), (2048 : Int)), (sI F19).symm, V3, (J2.trans J3), f.kp, N3⟩
        ·refine R_seq ?_
         obtain ⟨j_5, hj_5, F21⟩ := bS F20
         refine R_mid (fun a_31 W4 => ∃ G4 : Bool, j_5 = G4 ∧ ∃ V4 : Mem, V3.le V4 ∧ Frm 101 [(0, S d0), (1, .int .i64 d1), (6, .int .i64 ((c_1).toNat : Int)), (47, .bool G4)] a_31 ∧ Hp w0 V4 (H) W4) ?_ ?_
         ·refine R_reg (Y f 3 fun _ f => ?_)
          rcases cE hj_5 with ⟨B8, F22⟩ | ⟨B8, F23⟩
          ·have U15 := dI.1 B8
           have f := f.st 50 (cB B8)
           refine Y f 4 fun _ f => eT ?_
           exact ⟨(decide (((c_1).toNat : Int) < 248)), (sI F22).symm, V3, (mR _), f.kp, N3⟩
          ·have U16 := iff_f dI B8
           have f := f.st 50 (cB B8)
           refine Y f 4 fun _ f => eT ?_
           exact ⟨(false), (sI F23).symm, V3, (mR _), f.kp, N3⟩
         ·rintro a_31 W4 ⟨G4, hq_4, V4, J4, f, N4⟩
          subst j_5
          refine T_n (RcF f F21 (fun B9 F24 => ?_) fun B9 F25 => ?_)
          ·refine RR (Y f 1 fun _ f => eT (RR (Y f 3 fun _ f => eT (R_reg (Y f 1 fun _ f => W_end rfl (B_n (T_n ?_)))))))
           exact ⟨((4 : Int), bAnd .i64 ((c_1).toNat : Int) (7 : Int), (65536 : Int)), (sI F24).symm, V4, ((J2.trans J3).trans J4), f.kp, N4⟩
          ·refine RR (Y f 2 fun _ f => eT (wp_ret (B_r ?_)))
           have F26 := br_elim F25 F7
           refine T_r (T_r (E_ret2 f rfl (by kernel_rfl : Vc.look _ 4 = some (.int .i64 0)) (by kernel_rfl : Vc.look _ 5 = some (.int .i64 0)) ?_))
           obtain rfl := sI F26
           exact ⟨_, rfl, V4, (((J1.trans J2).trans J3).trans J4), N4, rfl⟩
   ·rintro a_36 W5 ⟨G5, rfl, V5, J5, f, N5⟩
    refine T_n (R_seq (RR (Y f 2 fun _ f => ?_)))
    obtain ⟨O1, F27⟩ := nS F7
    refine Y f 1 fun _ f => ?_
    have f := f.st 58 (iW O1)
    refine Y f 3 fun _ f => eT (RcF f F27 (fun B10 F28 => ?_) fun B10 F29 => ?_)
    ·have U19 := dI.1 B10
     refine RR (Y f 2 fun _ f => eT (wp_ret (T_r (E_ret2 f rfl (by kernel_rfl : Vc.look _ 4 = some (.int .i64 0)) (by kernel_rfl : Vc.look _ 5 = some (.int .i64 0)) ?_))))
     obtain rfl := sI F28
     exact ⟨_, rfl, V5, (J1.trans J5), N5, rfl⟩
    ·have U20 := iff_f dI B10
     refine wp_skip (T_n (R_seq (RR (Y f 1 fun _ f => eT (wp_block ?_)))))
     obtain ⟨Q1, hL_1, F30⟩ := bS F29
     refine wp_mono (Q := fun e a w => (e = .ret ∧ (∃ G7 : Unit, Q1 = .inl G7 ∧ ∃ V8 : Mem, V5.le V8 ∧ Frm 101 [(4, .int .i64 0), (5, .int .i64 0)] a ∧ Hp w0 V8 (H) w)) ∨ (e = .exit 1 ∧ (∃ G8 : Int, Q1 = .inr G8 ∧ ∃ V9 : Mem, V5.le V9 ∧ Frm 101 [(7, .int .i64 G5.1), (8, .int .i64 G8), (9, .int .i64 G5.2.2)] a ∧ Hp w0 V9 (H) w))) (R_loop (n := 101) (w0 := w0) (M := V5) (fun (x : Nat × (Int × Int)) => match x with | (I1, K1) => [(0, S d0), (1, .int .i64 d1), (7, .int .i64 G5.1), (8, .int .i64 K1.1), (9, .int .i64 G5.2.2), (10, .int .i64 K1.2)]) (fun (x : Nat × (Int × Int)) => match x with | (I1, K1) => (H)) (fun (x : Nat × (Int × Int)) (MM : Mem) => match x with | (I1, K1) => loopF (ref01_One_s1 n d0 d1 G5) I1 K1 = some Q1) (fun (x : Nat × (Int × Int)) => match x with | (I1, K1) => I1) (n, (G5.2.1, (1 : Int))) (f.kp) N5 hL_1 ?_) ?_
     ·rintro ⟨I1, K1⟩ V6 _ W6 J6 I_1 f N6
      have I_1L := I_1
      obtain ⟨I2, r_1, rfl, hs_1, T1⟩ := loop_step I_1L
      unfold ref01_One_s1 at hs_1
      refine R_seq (RR (Y f 3 fun _ f => eT (RcF f hs_1 (fun B11 F31 => ?_) fun B11 F43 => ?_)))
      ·have U21 := dI.1 B11
       refine wp_skip (T_n (R_seq (wp_block (RR (Y f 3 fun _ f => ?_)))))
       obtain ⟨O2, F32⟩ := nS F31
       refine Y f 1 fun _ f => ?_
       have f := f.st 70 (iW O2)
       obtain ⟨c_2, S2, F33⟩ := bS F32
       refine Z f (Y39 rfl (l := d0) (k := .i64) (i := d1 + K1.2) (getI_nn S2) (getI_lt S2)) fun _ f => ?_
       have f := Frm.set f 71 (v := .int .u8 ((d0.getD (d1 + K1.2).toNat 0).toNat : Int)) (v' := .int .u8 ((c_2).toNat : Int)) (by kernel_rfl) (congrArg (fun c : UInt8 => Value.int .u8 ((c.toNat : Nat) : Int)) (getI_getD S2))
       refine Y f 1 fun _ f => ?_
       have f := Frm.set f 72 (v := .int .i64 (IntKind.wrap .i64 (((c_2).toNat : Int)))) (v' := .int .i64 ((c_2).toNat : Int)) (by kernel_rfl) (congrArg (Value.int .i64) (wrap_byte _ (by simp) _))
       refine Y f 1 fun _ f => eT (R_seq (R_seq ?_))
       obtain ⟨j_6, hj_6, F34⟩ := bS F33
       refine R_mid (fun a_52 W7 => ∃ G6 : Bool, j_6 = G6 ∧ ∃ V7 : Mem, V6.le V7 ∧ Frm 101 [(0, S d0), (1, .int .i64 d1), (7, .int .i64 G5.1), (8, .int .i64 K1.1), (9, .int .i64 G5.2.2), (10, .int .i64 K1.2), (11, .int .i64 ((c_2).toNat : Int)), (78, .bool G6)] a_52 ∧ Hp w0 V7 (H) W7) ?_ ?_
       ·refine R_reg (Y f 3 fun _ f => ?_)
        rcases cE hj_6 with ⟨B12, F35⟩ | ⟨B12, F36⟩
        ·have U22 := dI.1 B12
         have f := f.st 75 (cB B12)
         refine Y f 3 fun _ f => eT ?_
         exact ⟨(true), (sI F35).symm, V6, (mR _), f.kp, N6⟩
        ·have U23 := iff_f dI B12
         have f := f.st 75 (cB B12)
         refine Y f 3 fun _ f => eT ?_
         exact ⟨(decide ((191 : Int) < ((c_2).toNat : Int))), (sI F36).symm, V6, (mR _), f.kp, N6⟩
       ·rintro a_52 W7 ⟨G6, hq_6, V7, J7, f, N7⟩
        subst j_6
        refine T_n (RcF f F34 (fun B13 F37 => ?_) fun B13 F38 => ?_)
        ·refine RR (Y f 2 fun _ f => eT (wp_ret (T_r (B_r (T_r (T_r ?_))))))
         obtain rfl := sI F37
         exact .inl ⟨rfl, (), (sI T1).symm, V7, (J6.trans J7), f.kp, N7⟩
        ·refine wp_skip (T_n (R_reg (Y f 1 fun _ f => ?_)))
         obtain ⟨O3, F39⟩ := nS F38
         refine Y f 1 fun _ f => ?_
         have f := f.st 80 (iW O3)
         refine Y f 1 fun _ f => ?_
         obtain ⟨O4, F40⟩ := nS F39
         refine Y f 1 fun _ f => ?_
         have f := f.st 82 (iW O4)
         obtain ⟨O5, F41⟩ := nS F40
         refine Y f 1 fun _ f => ?_
         have f := f.st 83 (iW O5)
         refine Y f 1 fun _ f => W_end rfl (B_n (T_n (R_reg (Y f 1 fun _ f => ?_))))
         obtain ⟨O6, F42⟩ := nS F41
         refine Y f 1 fun _ f => ?_
         have f := f.st 66 (iW O6)
         refine Y f 1 fun _ f => eT ?_
         obtain rfl := sI F42
         exact ⟨⟨I2, ((((64 : Int) * K1.1) + ((c_2).toNat : Int)) - 128, K1.2 + 1)⟩, Nat.lt_succ_self _, V7, (J6.trans J7), T1, f.kp, N7⟩
      ·have U26 := iff_f dI B11
       refine wp_exit (T_x (T_x ?_))
       obtain rfl := sI F43
       exact .inr ⟨rfl, K1.1, (sI T1).symm, V6, J6, f.kp, N6⟩
     ·rintro _ _ W10 (⟨rfl, G7, rfl, V8, J8, f, N8⟩ | ⟨rfl, G8, rfl, V9, J9, f, N9⟩)
      ·refine B_r (T_r (E_ret2 f rfl (by kernel_rfl : Vc.look _ 4 = some (.int .i64 0)) (by kernel_rfl : Vc.look _ 5 = some (.int .i64 0)) ?_))
       obtain rfl := sI F30
       exact ⟨_, rfl, V8, ((J1.trans J5).trans J8), N8, rfl⟩
      ·refine B_x (T_n (R_seq (R_seq ?_)))
       obtain ⟨j_7, hj_7, F44⟩ := bS F30
       refine R_mid (fun a_73 W11 => ∃ G9 : Bool, j_7 = G9 ∧ ∃ V10 : Mem, V9.le V10 ∧ Frm 101 [(7, .int .i64 G5.1), (8, .int .i64 G8), (98, .bool G9)] a_73 ∧ Hp w0 V10 (H) W11) ?_ ?_
       ·refine R_reg (Y f 4 fun _ f => ?_)
        rcases cE hj_7 with ⟨B14, F45⟩ | ⟨B14, F46⟩
        ·have U27 := dI.1 B14
         have f := f.st 87 (cB B14)
         refine Y f 11 fun _ f => eT ?_
         exact ⟨(true), (sI F45).symm, V9, (mR _), f.kp, N9⟩
        ·have U28 := iff_f dI B14
         have f := f.st 87 (cB B14)
         refine Y f 4 fun _ f => ?_
         rcases cE F46 with ⟨B15, F47⟩ | ⟨B15, F48⟩
         ·have U29 := dI.1 B15
          have f := f.st 91 (cB B15)
          refine Y f 7 fun _ f => eT ?_
          exact ⟨(true), (sI F47).symm, V9, (mR _), f.kp, N9⟩
         ·have U30 := iff_f dI B15
          have f := f.st 91 (cB B15)
          refine Y f 3 fun _ f => ?_
          rcases cE F48 with ⟨B16, F49⟩ | ⟨B16, F50⟩
          ·have U31 := dI.1 B16
           have f := f.st 94 (cB B16)
           refine Y f 4 fun _ f => eT ?_
           exact ⟨(decide (G8 ≤ 57343)), (sI F49).symm, V9, (mR _), f.kp, N9⟩
          ·have U32 := iff_f dI B16
           have f := f.st 94 (cB B16)
           refine Y f 4 fun _ f => eT ?_
           exact ⟨(false), (sI F50).symm, V9, (mR _), f.kp, N9⟩
       ·rintro a_73 W11 ⟨G9, hq_7, V10, J10, f, N10⟩
        subst j_7
        refine T_n (RcF f F44 (fun B17 F51 => ?_) fun B17 F52 => ?_)
        ·refine RR (Y f 2 fun _ f => eT (wp_ret (T_r (E_ret2 f rfl (by kernel_rfl : Vc.look _ 4 = some (.int .i64 0)) (by kernel_rfl : Vc.look _ 5 = some (.int .i64 0)) ?_))))
         obtain rfl := sI F51
         exact ⟨_, rfl, V10, (((J1.trans J5).trans J9).trans J10), N10, rfl⟩
        ·refine wp_skip (T_n (RR (Y f 4 fun _ f => eT (wp_ret (E_ret2 f rfl (by kernel_rfl : Vc.look _ 4 = some (.int .i64 G8)) (by kernel_rfl : Vc.look _ 5 = some (.int .i64 G5.1)) ?_)))))
         obtain rfl := sI F52
         exact ⟨_, rfl, V10, (((J1.trans J5).trans J9).trans J10), N10, rfl⟩
def ref01_Valid_s1 (n : Nat) (d0 : List UInt8) (K1 : Int) : Option (Lp Int (Sum Unit Unit)) :=
    bif (decide (K1 < (d0.length : Int))) then
      ((ref01_One n d0 K1).bind fun X1 =>
      bif (decide (X1.2 = 0)) then
        (some (.br (.inl ())))
      else
        need (inR .i64 (K1 + X1.2)) <|
        some (.nx (K1 + X1.2)))
    else
      some (.br (.inr ()))
def ref01_Valid (n : Nat) (d0 : List UInt8) : Option Bool :=
  (loopF (ref01_Valid_s1 n d0) n (0 : Int)).bind fun Q1 =>
  (match Q1 with 
  | .inl G1 => some ((false)) 
  | .inr G2 => some ((true)))
theorem ref01_Valid_ok (n : Nat) (M : Mem) (d0 : List UInt8) (r : Bool) (hF : ref01_Valid n d0 = some r) : Ok Tryz.prog M 39 [S d0] (fun _ v => v = .bool r) := by
 unfold ref01_Valid at hF
 intro M1 hM0 w0 H w p0
 refine R_enter 21 Tryz.func39 rfl rfl (by simp) fun a0 f0 => RR (Y f0 1 fun _ f => eT (RR (Y f 1 fun _ f => eT (R_seq (wp_block ?_)))))
 obtain ⟨Q1, hL_1, F1⟩ := bS hF
 refine wp_mono (Q := fun e a w => (e = .ret ∧ (∃ G1 : Unit, Q1 = .inl G1 ∧ ∃ V2 : Mem, M1.le V2 ∧ Frm 21 [(2, .bool false)] a ∧ Hp w0 V2 (H) w)) ∨ (e = .exit 0 ∧ (∃ G2 : Unit, Q1 = .inr G2 ∧ ∃ V3 : Mem, M1.le V3 ∧ Frm 21 [] a ∧ Hp w0 V3 (H) w))) (R_loop (n := 21) (w0 := w0) (M := M1) (fun (x : Nat × Int) => match x with | (I1, K1) => [(0, S d0), (3, .int .i64 K1)]) (fun (x : Nat × Int) => match x with | (I1, K1) => (H)) (fun (x : Nat × Int) (MM : Mem) => match x with | (I1, K1) => loopF (ref01_Valid_s1 n d0) I1 K1 = some Q1) (fun (x : Nat × Int) => match x with | (I1, K1) => I1) (n, (0 : Int)) (f.kp) p0 hL_1 ?_) ?_
 ·rintro ⟨I1, K1⟩ V1 _ W1 J1 I_1 f N1
  have I_1L := I_1
  obtain ⟨I2, r_1, rfl, hs_1, T1⟩ := loop_step I_1L
  unfold ref01_Valid_s1 at hs_1
  refine R_seq (RR (Y f 4 fun _ f => eT (RcF f hs_1 (fun B1 F2 => ?_) fun B1 F7 => ?_)))
  ·have U1 := dI.1 B1
   refine wp_skip (T_n (wp_block (RR (Y f 2 fun _ f => ?_))))
   obtain ⟨X1, S1, F3⟩ := bS F2
   refine Y18 f N1 (ref01_One_ok n _ d0 K1 X1 S1) fun W2 N2 _ f => Y f 5 fun _ f => eT (R_seq (RR (Y f 2 fun _ f => eT (RcF f F3 (fun B2 F4 => ?_) fun B2 F5 => ?_))))
   ·have U2 := dI.1 B2
    refine RR (Y f 1 fun _ f => eT (wp_ret (T_r (B_r (T_r ?_)))))
    obtain rfl := sI F4
    exact .inl ⟨rfl, (), (sI T1).symm, V1, J1, f.kp, N2⟩
   ·have U3 := iff_f dI B2
    refine wp_skip (T_n (R_reg (Y f 2 fun _ f => ?_)))
    obtain ⟨O1, F6⟩ := nS F5
    refine Y f 1 fun _ f => ?_
    have f := f.st 20 (iW O1)
    refine Y f 1 fun _ f => W_end rfl (B_n (T_n ?_))
    obtain rfl := sI F6
    exact ⟨⟨I2, K1 + X1.2⟩, Nat.lt_succ_self _, V1, J1, T1, f.kp, N2⟩
  ·have U4 := iff_f dI B1
   refine wp_exit (T_x (T_x ?_))
   obtain rfl := sI F7
   exact .inr ⟨rfl, (), (sI T1).symm, V1, J1, f.kp, N1⟩
 ·rintro _ _ W5 (⟨rfl, G1, rfl, V2, J2, f, N3⟩ | ⟨rfl, G2, rfl, V3, J3, f, N4⟩)
  ·refine B_r (T_r (E_ret1 f rfl (by kernel_rfl : Vc.look _ 2 = some (.bool false)) ?_))
   obtain rfl := sI F1
   exact ⟨_, rfl, V2, J2, N3, rfl⟩
  ·refine B_x (T_n (RR (Y f 1 fun _ f => eT (wp_ret (E_ret1 f rfl (by kernel_rfl : Vc.look _ 2 = some (.bool true)) ?_)))))
   obtain rfl := sI F1
   exact ⟨_, rfl, V3, J3, N4, rfl⟩
def ref03_weight_s1 (n : Nat) (d0 : TE0) (K1 : Int × Int) : Option (Lp (Int × Int) Int) :=
    bif (decide (K1.2 < ((d0.fKeys.length : Nat) : Int))) then
      ((getI d0.fKeys K1.2).bind fun X1 =>
      need (inR .i64 (K1.1 + (min (X1.length : Int) (10000 : Int)))) <|
      need (inR .i64 (K1.2 + 1)) <|
      some (.nx (K1.1 + (min (X1.length : Int) (10000 : Int)), K1.2 + 1)))
    else
      some (.br K1.1)
def ref03_weight_s2 (n : Nat) (rec_ref03_weight : TE0 → Int → Option Int) (d0 : TE0) (d1 : Int) (K2 : Int × Int) : Option (Lp (Int × Int) Int) :=
    ((bif (decide (K2.2 < ((d0.fList.length : Nat) : Int))) then
        (some ((decide (K2.1 ≤ 10000))))
      else
        some ((false)) : Option Bool)).bind fun G3 =>
    bif G3 then
      ((getI d0.fList K2.2).bind fun X2 =>
      need (inR .i64 (d1 - 1)) <|
      (rec_ref03_weight X2 (d1 - 1)).bind fun X3 =>
      need (inR .i64 (K2.1 + X3)) <|
      need (inR .i64 (K2.2 + 1)) <|
      some (.nx (K2.1 + X3, K2.2 + 1)))
    else
      some (.br K2.1)
def ref03_weight_b (n : Nat) (rec_ref03_weight : TE0 → Int → Option Int) (d0 : TE0) (d1 : Int) : Option Int :=
  ((bif (decide (d1 = 0)) then
      (some ((true)))
    else
      bif (decide ((3000 : Int) < ((d0.fList.length : Nat) : Int))) then
        (some ((true)))
      else
        some ((decide ((3000 : Int) < ((d0.fKeys.length : Nat) : Int)))) : Option Bool)).bind fun G1 =>
  bif G1 then
    (some ((10000 : Int)))
  else
    need (inR .i64 ((1 : Int) + (min (d0.fText.length : Int) (10000 : Int)))) <|
    (loopF (ref03_weight_s1 n d0) n ((1 : Int) + (min (d0.fText.length : Int) (10000 : Int)), (0 : Int))).bind fun G2 =>
    (loopF (ref03_weight_s2 n rec_ref03_weight d0 d1) n (G2, (0 : Int))).bind fun G4 =>
    some (G4)
set_option maxRecDepth 20000 in
theorem ref03_weight_b_ok (n : Nat) (rec_ref03_weight : TE0 → Int → Option Int) (hrec_ref03_weight : ∀ (M : Mem) (c0 : List Value) (d0 : TE0) (h0 : Rep M (emb_TE0 d0) c0) (d1 : Int) (r : Int) (hF : rec_ref03_weight d0 d1 = some r), Ok Tryz.prog M 31 [.agg c0.toArray, .int .i64 d1] (fun _ v => v = .int .i64 r)) (M : Mem) (c0 : List Value) (d0 : TE0) (h0 : Rep M (emb_TE0 d0) c0) (d1 : Int) (r : Int) (hF : ref03_weight_b n rec_ref03_weight d0 d1 = some r) : Ok Tryz.prog M 31 [.agg c0.toArray, .int .i64 d1] (fun _ v => v = .int .i64 r) := by
 unfold ref03_weight_b at hF
 intro M1 hM0 w0 H w p0
 replace h0 := Rep.mono hM0 _ _ h0
 obtain ⟨Z1, P1, Z2, P2, rfl, B1, B2⟩ := TE0.opn h0
 refine R_enter 65 Tryz.func31 rfl rfl (by simp) fun a0 f0 => RR (Y13 (cs := #[.int .i8 d0.fKind, .bool d0.fBool, .int .i64 d0.fNum, S d0.fText, .slice Z1 d0.fList.length P1, .slice Z2 d0.fKeys.length P2]) (T := 26) f0 p0 fun Q1 V1 W1 J1 R1 N1 _ f => ?_)
 have R2 := fz_box R1
 refine Y f 1 fun _ f => eT (R_seq (R_seq ?_))
 obtain ⟨j_1, hj_1, F1⟩ := bS hF
 refine R_mid (fun a_12 W2 => ∃ G1 : Bool, j_1 = G1 ∧ ∃ V2 : Mem, V1.le V2 ∧ Frm 65 [(1, .int .i64 d1), (2, .pointer (some (⟨Q1, 0, none⟩))), (21, .bool G1)] a_12 ∧ Hp w0 V2 (H) W2) ?_ ?_
 ·refine R_reg (Y f 3 fun _ f => ?_)
  rcases cE hj_1 with ⟨B3, F2⟩ | ⟨B3, F3⟩
  ·have U1 := dI.1 B3
   have f := f.st 10 (cB B3)
   refine Y f 11 fun _ f => eT ?_
   exact ⟨(true), (sI F2).symm, V1, (mR _), f.kp, N1⟩
  ·have U2 := iff_f dI B3
   have f := f.st 10 (cB B3)
   refine Y f 1 fun _ f => Y15 f N1 R2 4 rfl fun _ f => Y f 4 fun _ f => ?_
   rcases cE F3 with ⟨B4, F4⟩ | ⟨B4, F5⟩
   ·have U3 := dI.1 B4
    have f := f.st 16 (cB B4)
    refine Y f 5 fun _ f => eT ?_
    exact ⟨(true), (sI F4).symm, V1, (mR _), f.kp, N1⟩
   ·have U4 := iff_f dI B4
    have f := f.st 16 (cB B4)
    refine Y f 1 fun _ f => Y15 f N1 R2 5 rfl fun _ f => Y f 3 fun _ f => eT ?_
    exact ⟨(decide ((3000 : Int) < ((d0.fKeys.length : Nat) : Int))), (sI F5).symm, V1, (mR _), f.kp, N1⟩
 ·rintro a_12 W2 ⟨G1, hq_1, V2, J2, f, N2⟩
  subst j_1
  refine T_n (RcF f F1 (fun B5 F6 => ?_) fun B5 F7 => ?_)
  ·refine RR (Y f 1 fun _ f => eT (wp_ret (T_r (E_ret1 f rfl (by kernel_rfl : Vc.look _ 4 = some (.int .i64 10000)) ?_))))
   obtain rfl := sI F6
   exact ⟨_, rfl, V2, (J1.trans J2), N2, rfl⟩
  ·refine wp_skip (T_n (RR (Y f 1 fun _ f => Y15 f N2 (fzu J2 R2) 3 rfl fun _ f => Y f 1 fun _ f => Z (v := .int .i64 (min (d0.fText.length : Int) (10000 : Int))) f (X_min (k := .i64) (a := (d0.fText.length : Int)) (b := (10000 : Int)) rfl (by kernel_rfl) (by kernel_rfl)) fun _ f => ?_)))
   obtain ⟨O1, F8⟩ := nS F7
   refine Y f 1 fun _ f => ?_
   have f := f.st 26 (iW O1)
   refine Y f 1 fun _ f => eT (R_seq (RR (Y f 1 fun _ f => eT (wp_block ?_))))
   obtain ⟨Q2, hL_1, F9⟩ := bS F8
   refine wp_mono (Q := fun e a w => (e = .exit 0 ∧ (∃ G2 : Int, Q2 = G2 ∧ ∃ V4 : Mem, V2.le V4 ∧ Frm 65 [(1, .int .i64 d1), (2, .pointer (some (⟨Q1, 0, none⟩))), (5, .int .i64 G2)] a ∧ Hp w0 V4 (H) w))) (R_loop (n := 65) (w0 := w0) (M := V2) (fun (x : Nat × (Int × Int)) => match x with | (I1, K1) => [(1, .int .i64 d1), (2, .pointer (some (⟨Q1, 0, none⟩))), (5, .int .i64 K1.1), (6, .int .i64 K1.2)]) (fun (x : Nat × (Int × Int)) => match x with | (I1, K1) => (H)) (fun (x : Nat × (Int × Int)) (MM : Mem) => match x with | (I1, K1) => loopF (ref03_weight_s1 n d0) I1 K1 = some Q2) (fun (x : Nat × (Int × Int)) => match x with | (I1, K1) => I1) (n, ((1 : Int) + (min (d0.fText.length : Int) (10000 : Int)), (0 : Int))) (f.kp) N2 hL_1 ?_) ?_
   ·rintro ⟨I1, K1⟩ V3 _ W3 J3 I_1 f N3
    have I_1L := I_1
    obtain ⟨I2, r_1, rfl, hs_1, T1⟩ := loop_step I_1L
    unfold ref03_weight_s1 at hs_1
    refine R_seq (RR (Y f 2 fun _ f => Y15 f N3 (fzu (J2.trans J3) R2) 5 rfl fun _ f => Y f 2 fun _ f => eT (RcF f hs_1 (fun B6 F10 => ?_) fun B6 F14 => ?_)))
    ·have U7 := dI.1 B6
     refine wp_skip (T_n (R_seq (wp_block (R_reg (Y f 2 fun _ f => Y15 f N3 (fzu (J2.trans J3) R2) 5 rfl fun _ f => Y f 1 fun _ f => ?_)))))
     obtain ⟨X1, S1, F11⟩ := bS F10
     obtain ⟨C1, c_1, e_1, -, D1, R3⟩ := Sli.at_ (B2.mono ((J1.trans J2).trans J3)) S1
     obtain rfl : c_1 = [S X1] := D1
     refine Z f (Y32 e_1 rfl (len := d0.fKeys.length) (cap := P2) (k := .i64) (i := K1.2) (e := 9) (sz := 1) (getI_nn S1) (getI_lt S1)) fun _ f => Y15 f N3 R3 0 rfl fun _ f => Y f 1 fun _ f => Z (v := .int .i64 (min (X1.length : Int) (10000 : Int))) f (X_min (k := .i64) (a := (X1.length : Int)) (b := (10000 : Int)) rfl (by kernel_rfl) (by kernel_rfl)) fun _ f => ?_
     obtain ⟨O2, F12⟩ := nS F11
     refine Y f 1 fun _ f => ?_
     have f := f.st 42 (iW O2)
     refine Y f 1 fun _ f => W_end rfl (B_n (T_n (R_reg (Y f 1 fun _ f => ?_))))
     obtain ⟨O3, F13⟩ := nS F12
     refine Y f 1 fun _ f => ?_
     have f := f.st 33 (iW O3)
     refine Y f 1 fun _ f => eT ?_
     obtain rfl := sI F13
     exact ⟨⟨I2, (K1.1 + (min (X1.length : Int) (10000 : Int)), K1.2 + 1)⟩, Nat.lt_succ_self _, V3, J3, T1, f.kp, N3⟩
    ·have U8 := iff_f dI B6
     refine wp_exit (T_x (T_x ?_))
     obtain rfl := sI F14
     exact ⟨rfl, K1.1, (sI T1).symm, V3, J3, f.kp, N3⟩
   ·rintro _ _ W5 ⟨rfl, G2, hq_, V4, J4, f, N4⟩
    subst Q2
    refine B_x (T_n (R_seq (RR (Y f 1 fun _ f => eT (wp_block ?_)))))
    obtain ⟨Q3, hL_2, F15⟩ := bS F9
    refine wp_mono (Q := fun e a w => (e = .exit 2 ∧ (∃ G4 : Int, Q3 = G4 ∧ ∃ V7 : Mem, V4.le V7 ∧ Frm 65 [(5, .int .i64 G4)] a ∧ Hp w0 V7 (H) w))) (R_loop (n := 65) (w0 := w0) (M := V4) (fun (x : Nat × (Int × Int)) => match x with | (I3, K2) => [(1, .int .i64 d1), (2, .pointer (some (⟨Q1, 0, none⟩))), (5, .int .i64 K2.1), (7, .int .i64 K2.2)]) (fun (x : Nat × (Int × Int)) => match x with | (I3, K2) => (H)) (fun (x : Nat × (Int × Int)) (MM : Mem) => match x with | (I3, K2) => loopF (ref03_weight_s2 n rec_ref03_weight d0 d1) I3 K2 = some Q3) (fun (x : Nat × (Int × Int)) => match x with | (I3, K2) => I3) (n, (G2, (0 : Int))) (f.kp) N4 hL_2 ?_) ?_
    ·rintro ⟨I3, K2⟩ V5 _ W6 J5 I_2 f N5
     have I_2L := I_2
     obtain ⟨I4, r_2, rfl, hs_2, T2⟩ := loop_step I_2L
     unfold ref03_weight_s2 at hs_2
     refine R_seq (R_seq ?_)
     obtain ⟨j_2, hj_2, F16⟩ := bS hs_2
     refine R_mid (fun a_46 W7 => ∃ G3 : Bool, j_2 = G3 ∧ ∃ V6 : Mem, V5.le V6 ∧ Frm 65 [(1, .int .i64 d1), (2, .pointer (some (⟨Q1, 0, none⟩))), (5, .int .i64 K2.1), (7, .int .i64 K2.2), (51, .bool G3)] a_46 ∧ Hp w0 V6 (H) W7) ?_ ?_
     ·refine R_reg (Y f 2 fun _ f => Y15 f N5 (fzu ((J2.trans J4).trans J5) R2) 4 rfl fun _ f => Y f 3 fun _ f => ?_)
      rcases cE hj_2 with ⟨B7, F17⟩ | ⟨B7, F18⟩
      ·have U9 := dI.1 B7
       have f := f.st 48 (cB B7)
       refine Y f 3 fun _ f => eT ?_
       exact ⟨(decide (K2.1 ≤ 10000)), (sI F17).symm, V5, (mR _), f.kp, N5⟩
      ·have U10 := iff_f dI B7
       have f := f.st 48 (cB B7)
       refine Y f 3 fun _ f => eT ?_
       exact ⟨(false), (sI F18).symm, V5, (mR _), f.kp, N5⟩
     ·rintro a_46 W7 ⟨G3, hq_2, V6, J6, f, N6⟩
      subst j_2
      refine T_n (RcF f F16 (fun B8 F19 => ?_) fun B8 F25 => ?_)
      ·refine wp_skip (T_n (R_seq (wp_block (R_reg (Y f 2 fun _ f => Y15 f N6 (fzu (((J2.trans J4).trans J5).trans J6) R2) 4 rfl fun _ f => Y f 1 fun _ f => ?_)))))
       obtain ⟨X2, S2, F20⟩ := bS F19
       obtain ⟨C2, c_2, e_2, -, D2, R4⟩ := Sli.at_ (B1.mono ((((J1.trans J2).trans J4).trans J5).trans J6)) S2
       obtain ⟨Z3, P3, Z4, P4, rfl, B9, B10⟩ := TE0.opn D2
       refine Z f (Y32 e_2 rfl (len := d0.fList.length) (cap := P1) (k := .i64) (i := K2.2) (e := 26) (sz := 6) (getI_nn S2) (getI_lt S2)) fun _ f => Z (v := .agg #[.int .i8 X2.fKind, .bool X2.fBool, .int .i64 X2.fNum, S X2.fText, .slice Z3 X2.fList.length P3, .slice Z4 X2.fKeys.length P4]) f (Y34 (cs := [.int .i8 X2.fKind, .bool X2.fBool, .int .i64 X2.fNum, S X2.fText, .slice Z3 X2.fList.length P3, .slice Z4 X2.fKeys.length P4]) rfl (ad := C2.add (K2.2.toNat * 6)) (fun j v h => N6.cell (R4 j v h))) fun _ f => Y f 1 fun _ f => ?_
       obtain ⟨O4, F21⟩ := nS F20
       refine Y f 1 fun _ f => ?_
       have f := f.st 61 (iW O4)
       obtain ⟨X3, S3, F22⟩ := bS F21
       refine Y18 f N6 (hrec_ref03_weight _ _ X2 (TE0.shutx (x := X2) B9 B10) (d1 - 1) X3 S3) fun W8 N7 _ f => ?_
       obtain ⟨O5, F23⟩ := nS F22
       refine Y f 1 fun _ f => ?_
       have f := f.st 63 (iW O5)
       refine Y f 1 fun _ f => W_end rfl (B_n (T_n (R_reg (Y f 1 fun _ f => ?_))))
       obtain ⟨O6, F24⟩ := nS F23
       refine Y f 1 fun _ f => ?_
       have f := f.st 53 (iW O6)
       refine Y f 1 fun _ f => eT ?_
       obtain rfl := sI F24
       exact ⟨⟨I4, (K2.1 + X3, K2.2 + 1)⟩, Nat.lt_succ_self _, V6, (J5.trans J6), T2, f.kp, N7⟩
      ·refine wp_exit (T_x (T_x ?_))
       obtain rfl := sI F25
       exact ⟨rfl, K2.1, (sI T2).symm, V6, (J5.trans J6), f.kp, N6⟩
    ·rintro _ _ W10 ⟨rfl, G4, hq_, V7, J7, f, N8⟩
     subst Q3
     refine B_x (T_n (RR (Y f 2 fun _ f => eT (wp_ret (E_ret1 f rfl (by kernel_rfl : Vc.look _ 4 = some (.int .i64 G4)) ?_)))))
     obtain rfl := sI F15
     exact ⟨_, rfl, V7, (((J1.trans J2).trans J4).trans J7), N8, rfl⟩
def ref03_weight_k (n : Nat) : Nat → TE0 → Int → Option Int
  | 0 => fun _ _ => none
  | k + 1 => ref03_weight_b n (ref03_weight_k n k)
def ref03_weight (n : Nat) (d0 : TE0) (d1 : Int) : Option Int := ref03_weight_k n n d0 d1
theorem ref03_weight_ok (n : Nat) (M : Mem) (c0 : List Value) (d0 : TE0) (h0 : Rep M (emb_TE0 d0) c0) (d1 : Int) (r : Int) (hF : ref03_weight n d0 d1 = some r) : Ok Tryz.prog M 31 [.agg c0.toArray, .int .i64 d1] (fun _ v => v = .int .i64 r) := by
 have key : ∀ (k : Nat) (M : Mem) (c0 : List Value) (d0 : TE0) (h0 : Rep M (emb_TE0 d0) c0) (d1 : Int) (r : Int) (hF : ref03_weight_k n k d0 d1 = some r), Ok Tryz.prog M 31 [.agg c0.toArray, .int .i64 d1] (fun _ v => v = .int .i64 r) := by
  intro k
  induction k with
  | zero => intro M c0 d0 h0 d1 r hF; simp [ref03_weight_k] at hF
  | succ k ih => intro M c0 d0 h0 d1 r hF; exact ref03_weight_b_ok n (ref03_weight_k n k) ih M c0 d0 h0 d1 r hF
 exact key n M c0 d0 h0 d1 r hF
def ref03_Great (n : Nat) (d0 : TE0) : Option Bool :=
  (ref03_weight n d0 (30 : Int)).bind fun X1 =>
  some ((decide ((5000 : Int) < X1)))
theorem ref03_Great_ok (n : Nat) (M : Mem) (c0 : List Value) (d0 : TE0) (h0 : Rep M (emb_TE0 d0) c0) (r : Bool) (hF : ref03_Great n d0 = some r) : Ok Tryz.prog M 7 [.agg c0.toArray] (fun _ v => v = .bool r) := by
 unfold ref03_Great at hF
 intro M1 hM0 w0 H w p0
 replace h0 := Rep.mono hM0 _ _ h0
 obtain ⟨Z1, P1, Z2, P2, rfl, B1, B2⟩ := TE0.opn h0
 refine R_enter 6 Tryz.func7 rfl rfl (by simp) fun a0 f0 => RR (Y13 (cs := #[.int .i8 d0.fKind, .bool d0.fBool, .int .i64 d0.fNum, S d0.fText, .slice Z1 d0.fList.length P1, .slice Z2 d0.fKeys.length P2]) (T := 26) f0 p0 fun Q1 V1 W1 J1 R1 N1 _ f => ?_)
 have R2 := fz_box R1
 refine Y f 1 fun _ f => eT (RR (Z (v := .agg #[.int .i8 d0.fKind, .bool d0.fBool, .int .i64 d0.fNum, S d0.fText, .slice Z1 d0.fList.length P1, .slice Z2 d0.fKeys.length P2]) f (Y34 (cs := [.int .i8 d0.fKind, .bool d0.fBool, .int .i64 d0.fNum, S d0.fText, .slice Z1 d0.fList.length P1, .slice Z2 d0.fKeys.length P2]) rfl (ad := ⟨Q1, 0, none⟩) (fun j v h => N1.cell (R2 j v h))) fun _ f => ?_))
 obtain ⟨X1, S1, F1⟩ := bS hF
 refine Y18 f N1 (ref03_weight_ok n _ _ d0 (TE0.shutx (x := d0) (B1.mono J1) (B2.mono J1)) (30 : Int) X1 S1) fun W2 N2 _ f => Y f 2 fun _ f => eT (wp_ret (E_ret1 f rfl (by kernel_rfl : Vc.look _ 2 = some (.bool (decide ((5000 : Int) < X1)))) ?_))
 obtain rfl := sI F1
 exact ⟨_, rfl, V1, J1, N2, rfl⟩
mutual
def walkV : TE0 → List TE0
  | ⟨k, b, n, t, l, ks⟩ => ⟨k, b, n, t, l, ks⟩ :: walkVs l
def walkVs : List TE0 → List TE0
  | [] => []
  | x :: r => walkV x ++ walkVs r
end
theorem walkV_eq (v : TE0) : walkV v = v :: walkVs v.fList := by cases v; rw [walkV]
theorem walkVs_drop {l : List TE0} {i : Nat} {x : TE0} (h : l[i]? = some x) : walkVs (l.drop i) = walkV x ++ walkVs (l.drop (i + 1)) := by
 obtain ⟨hi, hx⟩ := List.getElem?_eq_some_iff.1 h
 rw [List.drop_eq_getElem_cons hi, hx, walkVs]
theorem part_small {v x : TE0} (h : x ∈ v.fList) : SizeOf.sizeOf x < SizeOf.sizeOf v := by
 have := List.sizeOf_lt_of_mem h
 cases v
 simp only [TE0.mk.sizeOf_spec]
 dsimp only at this
 omega
theorem walkV_pos (v : TE0) : 1 ≤ (walkV v).length := by rw [walkV_eq, List.length_cons]; omega
theorem walkVs_len : ∀ l : List TE0, l.length ≤ (walkVs l).length
 | [] => Nat.zero_le _
 | x :: r => by
  have h1 := walkVs_len r
  have h2 := walkV_pos x
  rw [walkVs, List.length_append, List.length_cons]
  omega
theorem walkVs_mem : ∀ {l : List TE0} {x : TE0}, x ∈ l → (walkV x).length ≤ (walkVs l).length
 | y :: r, x, h => by
  rw [walkVs, List.length_append]
  rcases List.mem_cons.1 h with rfl | h
  ·omega
  ·have := walkVs_mem h
   omega
def valsV (M : Mem) (x : TE0) (vs : List Value) : Prop := ∃ cs, vs = [.agg cs.toArray] ∧ Rep M (emb_TE0 x) cs
def WalkPost {σ β : Type} (J : σ → Mem → List Ent → Prop) (Jx : β → Mem → List Ent → Prop) (r : Lp σ β) (w0 : World) (M1 : Mem) (H : List Ent) : Ending → World → Prop := fun e w' =>
  ∃ M' E', M1.le M' ∧ Hp w0 M' (E' ++ H) w' ∧ match r with
    | .nx s' => e = .returned (.bool true) ∧ J s' M' E'
    | .br b => e = .returned (.bool false) ∧ Jx b M' E'
theorem walkPost_out {σ β : Type} {J : σ → Mem → List Ent → Prop} {Jx : β → Mem → List Ent → Prop} {r : Lp σ β} {w0 : World} {M1 : Mem} {H : List Ent} : ¬ LetsOut (bodyPost Tryz.prog Tryz.f93 (WalkPost J Jx r w0 M1 H)) := by
 rintro ⟨a, w, M', E', _, _, h⟩
 cases r with
 | nx s => cases h.1
 | br b => cases h.1
set_option maxRecDepth 100000 in
theorem walkIns (by_ bs l : Nat) {σ β : Type} (Y : σ → TE0 → Option (Lp σ β)) (J : σ → Mem → List Ent → Prop) (Jx : β → Mem → List Ent → Prop) (hJ : Grows J) (hY : Yld Tryz.prog l valsV J Jx Y) :
  ∀ (m : Nat) (v : TE0), SizeOf.sizeOf v < m → (walkV v).length ≤ 9223372036854775806 → ∀ (s0 : σ) (r : Lp σ β), foldY Y (walkV v) s0 = some r → ∀ (M : Mem) (ad : Addr) (c0 : List Value), Rep M (emb_TE0 v) c0 → (∀ j u, c0[j]? = some u → M.cell? (ad.add j) = some u) →
   M.cell? ⟨by_, 0, none⟩ = some (.func (.yield l) #[] #[]) → M.cell? ⟨bs, 0, none⟩ = some (.func (.func 93) #[] #[.pointer (some ⟨by_, 0, none⟩), .pointer (some ⟨bs, 0, none⟩)]) →
   ∀ w0 M1 E H w, M.le M1 → J s0 M1 E → Hp w0 M1 (E ++ H) w → Calls Tryz.prog 93 [.pointer (some ad), .pointer (some ⟨by_, 0, none⟩), .pointer (some ⟨bs, 0, none⟩)].toArray w (WalkPost J Jx r w0 M1 H)
 | 0, v, hm => fun _ _ _ => absurd hm (by omega)
 | m + 1, v, hm => by
  intro hw0 s0 r hfold M ad c0 h0 q0 hby hbs w0 M1 E H w hM0 hj p0
  replace h0 := Rep.mono hM0 _ _ h0
  replace q0 := fun j u h => hM0.cell (q0 j u h)
  replace hby := hM0.cell hby
  replace hbs := hM0.cell hbs
  have hvl : v.fList.length < 9223372036854775806 := by
   have h1 := walkVs_len v.fList
   rw [walkV_eq, List.length_cons] at hw0
   omega
  rw [walkV_eq] at hfold
  obtain ⟨r1, hy1, hfold⟩ := Option.bind_eq_some_iff.1 hfold
  have hrep := h0
  obtain ⟨A_1, cap_1, A_2, cap_2, rfl, h_1, h_2⟩ := TE0.opn h0
  refine R_enter 30 Tryz.func93 rfl rfl (by simp) (fun a0 f0 => ?_)
  replace f0 : Frm 30 [(0, .pointer (some ad)), (1, .pointer (some ⟨by_, 0, none⟩)), (2, .pointer (some ⟨bs, 0, none⟩))] a0 := f0
  refine R_seq ?_
  refine R_reg ?_
  refine W_run (L' := [(0, .pointer (some ad)), (1, .pointer (some ⟨by_, 0, none⟩)), (2, .pointer (some ⟨bs, 0, none⟩))]) (w' := w) f0 1 [0, 1, 2] (by kernel_rfl) (fun a_1 f_1 => ?_)
  refine W_end rfl ?_
  refine T_n ?_
  refine R_seq ?_
  refine R_seq ?_
  -- the call of yield
  refine RI_out (RI_drawT 4 p0 (by kernel_rfl) (by kernel_rfl) (then_out (then_out walkPost_out)) (by kernel_rfl) (fun w p0 => ?_))
  refine ST_eq (v := .func (.yield l) #[] #[]) f_1 (by kernel_rfl) (by kernel_rfl) rfl rfl (X_load1 (v := .func (.yield l) #[] #[]) rfl (ad := ⟨by_, 0, none⟩) (by kernel_rfl) (by kernel_rfl) (p0.cell hby)) (fun a_2 f_2 => ?_)
  refine ST_eq (v := .pointer (some ad)) f_2 (by kernel_rfl) (by kernel_rfl) rfl rfl (by kernel_rfl) (fun a_3 f_3 => ?_)
  refine ST_eq (v := .pointer (some ad)) f_3 (by kernel_rfl) (by kernel_rfl) rfl rfl (by kernel_rfl) (fun a_4 f_4 => ?_)
  refine ST_eq (v := .agg #[.int .i8 v.fKind, .bool v.fBool, .int .i64 v.fNum, S v.fText, .slice A_1 v.fList.length cap_1, .slice A_2 v.fKeys.length cap_2]) f_4 (by kernel_rfl) (by kernel_rfl) rfl rfl
   (X_loadN (cs := [.int .i8 v.fKind, .bool v.fBool, .int .i64 v.fNum, S v.fText, .slice A_1 v.fList.length cap_1, .slice A_2 v.fKeys.length cap_2]) rfl (ad := ad) (by kernel_rfl) (by kernel_rfl) (fun j u h => p0.cell (q0 j u h))) (fun a_5 f_5 => ?_)
  refine ST_end rfl ?_
  obtain ⟨fn, tmps, asg, bd, hrun, hR⟩ := hY s0 v r1 hy1 w0 M1 E H w _ hj ⟨_, rfl, hrep⟩ p0
  refine WI_round f_5 (by kernel_rfl) (by kernel_rfl) rfl rfl (fun c e => by cases e) (hx := Eq.trans (by kernel_rfl) hrun) hR ?_
  rintro e w_1 ⟨M2, E2, hM2, p_1, hr⟩
  cases r1 with
  | br b =>
   obtain ⟨rfl, hjx⟩ := hr
   refine ⟨_, rfl, fun a_6 f_6 => ?_⟩
   refine list_in (ro := none) (then_out (then_out walkPost_out)) _ (by kernel_rfl) _ _ ?_
   refine W_run (L' := [(0, .pointer (some ad)), (1, .pointer (some ⟨by_, 0, none⟩)), (2, .pointer (some ⟨bs, 0, none⟩)), (11, .bool true)]) (w' := w_1) f_6 1 [0, 1, 2, 11] (by kernel_rfl) (fun a_7 f_7 => ?_)
   refine W_end rfl ?_
   refine T_n ?_
   refine R_cond_t f_7 (by kernel_rfl) (by kernel_rfl) ?_
   refine R_seq ?_
   refine R_reg ?_
   refine W_run (L' := [(4, .bool false)]) (w' := w_1) f_7 1 [4] (by kernel_rfl) (fun a_8 f_8 => ?_)
   refine W_end rfl ?_
   refine T_n ?_
   refine wp_ret ?_
   refine T_r ?_
   refine E_ret1 f_8 rfl (by kernel_rfl : Vc.look _ 4 = some (.bool false)) ?_
   obtain rfl := Option.some.inj hfold
   exact ⟨M2, E2, hM2, p_1, rfl, hjx⟩
  | nx s1 =>
   obtain ⟨rfl, hj1⟩ := hr
   refine ⟨_, rfl, fun a_6 f_6 => ?_⟩
   refine list_in (ro := none) (then_out (then_out walkPost_out)) _ (by kernel_rfl) _ _ ?_
   refine W_run (L' := [(0, .pointer (some ad)), (1, .pointer (some ⟨by_, 0, none⟩)), (2, .pointer (some ⟨bs, 0, none⟩)), (11, .bool false)]) (w' := w_1) f_6 1 [0, 1, 2, 11] (by kernel_rfl) (fun a_7 f_7 => ?_)
   refine W_end rfl ?_
   refine T_n ?_
   refine R_cond_f f_7 (by kernel_rfl) (by kernel_rfl) ?_
   refine wp_skip ?_
   refine T_n ?_
   replace q0 := fun j u h => hM2.cell (q0 j u h)
   replace hby := hM2.cell hby
   replace hbs := hM2.cell hbs
   replace h_1 := h_1.mono hM2
   replace hM0 := hM0.trans hM2
   replace hfold : foldY Y (walkVs v.fList) s1 = some r := hfold
   refine R_seq ?_
   refine R_seq ?_
   refine R_reg ?_
   refine W_run (L' := [(0, .pointer (some ad)), (1, .pointer (some ⟨by_, 0, none⟩)), (2, .pointer (some ⟨bs, 0, none⟩)), (14, .pointer (some (ad.add 4)))]) (w' := w_1) f_7 3 [0, 1, 2, 14] (by kernel_rfl) (fun a_8 f_8 => ?_)
   refine W_eq (v := .slice A_1 v.fList.length cap_1) f_8 (by kernel_rfl) (by kernel_rfl) rfl rfl (X_load1 (v := .slice A_1 v.fList.length cap_1) rfl (ad := ad.add 4) (by kernel_rfl) (by kernel_rfl) (p_1.cell (q0 4 _ rfl))) (fun a_9 f_9 => ?_)
   refine W_run (L' := [(0, .pointer (some ad)), (1, .pointer (some ⟨by_, 0, none⟩)), (2, .pointer (some ⟨bs, 0, none⟩)), (16, .int .i64 ((v.fList.length : Nat) : Int)), (17, .int .i64 0)]) (w' := w_1) f_9 2 [0, 1, 2, 16, 17] (by kernel_rfl) (fun a_10 f_10 => ?_)
   refine W_end rfl ?_
   refine T_n ?_
   refine wp_block ?_
   refine wp_mono (Q := fun e a w => (e = .exit 0 ∧ ∃ s' M' E', r = .nx s' ∧ M1.le M' ∧ J s' M' E' ∧ Frm 30 [(0, .pointer (some ad))] a ∧ Hp w0 M' (E' ++ H) w) ∨ (e = .ret ∧ ∃ b M' E', r = .br b ∧ M1.le M' ∧ Jx b M' E' ∧ Frm 30 [(4, .bool false)] a ∧ Hp w0 M' (E' ++ H) w))
    (R_loop (n := 30) (w0 := w0) (M := M2) (fun (x : Nat × σ × List Ent) => [(0, .pointer (some ad)), (1, .pointer (some ⟨by_, 0, none⟩)), (2, .pointer (some ⟨bs, 0, none⟩)), (16, .int .i64 ((v.fList.length : Nat) : Int)), (17, .int .i64 (x.1 : Int))]) (fun x => x.2.2 ++ H)
     (fun x (MM : Mem) => J x.2.1 MM x.2.2 ∧ foldY Y (walkVs (v.fList.drop x.1)) x.2.1 = some r ∧ x.1 ≤ v.fList.length) (fun x => v.fList.length - x.1) (0, s1, E2) (f_10.keep (ks := [0, 1, 2, 16, 17]) (by kernel_rfl)) p_1 ⟨hj1, by rw [List.drop_zero]; exact hfold, Nat.zero_le _⟩ ?_) ?_
   ·rintro ⟨i, s, Es⟩ M_3 a_11 w_2 hM3 ⟨hjs, hfs, hi⟩ f_11 p_2
    dsimp only at hjs hfs hi
    replace f_11 : Frm 30 [(0, .pointer (some ad)), (1, .pointer (some ⟨by_, 0, none⟩)), (2, .pointer (some ⟨bs, 0, none⟩)), (16, .int .i64 ((v.fList.length : Nat) : Int)), (17, .int .i64 (i : Int))] a_11 := f_11
    replace p_2 : Hp w0 M_3 (Es ++ H) w_2 := p_2
    refine R_seq ?_
    refine R_reg ?_
    refine W_run (L' := [(0, .pointer (some ad)), (1, .pointer (some ⟨by_, 0, none⟩)), (2, .pointer (some ⟨bs, 0, none⟩)), (16, .int .i64 ((v.fList.length : Nat) : Int)), (17, .int .i64 (i : Int)), (18, .bool (decide ((i : Int) < ((v.fList.length : Nat) : Int))))]) (w' := w_2) f_11 1 [0, 1, 2, 16, 17, 18] (by kernel_rfl) (fun a_12 f_12 => ?_)
    refine W_end rfl ?_
    refine T_n ?_
    refine R_seq ?_
    refine R_cond f_12 (b := decide ((i : Int) < ((v.fList.length : Nat) : Int))) (by kernel_rfl) (by kernel_rfl) (fun h_3 => ?_) (fun h_3 => ?_)
    ·have k_1 : i < v.fList.length := by have := of_decide_eq_true h_3; omega
     refine wp_skip ?_
     refine T_n ?_
     refine R_seq ?_
     refine wp_block ?_
     refine R_seq ?_
     refine R_reg ?_
     refine W_run (L' := [(0, .pointer (some ad)), (1, .pointer (some ⟨by_, 0, none⟩)), (2, .pointer (some ⟨bs, 0, none⟩)), (5, .int .i64 (i : Int)), (16, .int .i64 ((v.fList.length : Nat) : Int)), (17, .int .i64 (i : Int))]) (w' := w_2) f_12 2 [0, 1, 2, 5, 16, 17] (by kernel_rfl) (fun a_13 f_13 => ?_)
     refine W_end rfl ?_
     refine T_n ?_
     have hx : v.fList[i]? = some v.fList[i] := List.getElem?_eq_getElem k_1
     have hgx : getI v.fList (i : Int) = some v.fList[i] := by unfold getI; rw [if_pos (by omega)]; exact hx
     rw [walkVs_drop hx, foldY_app] at hfs
     obtain ⟨r2, hr2, hfs⟩ := Option.bind_eq_some_iff.1 hfs
     obtain ⟨ad_1, c_1, e_1, hl_1, hr_1, hc_1⟩ := Sli.at_ (h_1.mono hM3) hgx
     refine R_seq ?_
     refine R_drawT 7 p_2 (by kernel_rfl) (by kernel_rfl) (fun w_3 p_3 => ?_)
     refine ST_eq (v := .func (.func 93) #[] #[.pointer (some ⟨by_, 0, none⟩), .pointer (some ⟨bs, 0, none⟩)]) f_13 (by kernel_rfl) (by kernel_rfl) rfl rfl (X_load1 (v := .func (.func 93) #[] #[.pointer (some ⟨by_, 0, none⟩), .pointer (some ⟨bs, 0, none⟩)]) rfl (ad := ⟨bs, 0, none⟩) (by kernel_rfl) (by kernel_rfl) (p_3.cell (hM3.cell hbs))) (fun a_14 f_14 => ?_)
     refine ST_eq (v := .pointer (some ad)) f_14 (by kernel_rfl) (by kernel_rfl) rfl rfl (by kernel_rfl) (fun a_15 f_15 => ?_)
     refine ST_eq (v := .pointer (some ad)) f_15 (by kernel_rfl) (by kernel_rfl) rfl rfl (by kernel_rfl) (fun a_16 f_16 => ?_)
     refine ST_eq (v := .pointer (some (ad.add 4))) f_16 (by kernel_rfl) (by kernel_rfl) rfl rfl (by kernel_rfl) (fun a_17 f_17 => ?_)
     refine ST_eq (v := .slice A_1 v.fList.length cap_1) f_17 (by kernel_rfl) (by kernel_rfl) rfl rfl (X_load1 (v := .slice A_1 v.fList.length cap_1) rfl (ad := ad.add 4) (by kernel_rfl) (by kernel_rfl) (p_3.cell (hM3.cell (q0 4 _ rfl)))) (fun a_18 f_18 => ?_)
     refine ST_eq (v := .int .i64 (i : Int)) f_18 (by kernel_rfl) (by kernel_rfl) rfl rfl (by kernel_rfl) (fun a_19 f_19 => ?_)
     refine ST_eq (v := .pointer (some (ad_1.add ((i : Int).toNat * 6)))) f_19 (by kernel_rfl) (by kernel_rfl) rfl rfl (X_indexAddrA e_1 rfl (len := v.fList.length) (cap := cap_1) (k := .i64) (i := (i : Int)) (by kernel_rfl) (by kernel_rfl) (e := 26) (by kernel_rfl) (sz := 6) (by kernel_rfl) (getI_nn hgx) (getI_lt hgx)) (fun a_20 f_20 => ?_)
     refine ST_end rfl ?_
     have hcall := walkIns by_ bs l Y J Jx hJ hY m v.fList[i] (by have := part_small (v := v) (List.getElem_mem k_1); omega) (by
      have h1 := walkVs_mem (List.getElem_mem k_1)
      have h2 := hw0
      rw [walkV_eq, List.length_cons] at h2
      omega) s r2 hr2 M_3 _ c_1 hr_1 hc_1 (hM3.cell hby) (hM3.cell hbs) w0 M_3 Es H w_3 (Mem.le_refl _) hjs p_3
     refine W_call (R := fun v w' => ∃ M' E', M_3.le M' ∧ Hp w0 M' (E' ++ H) w' ∧ match r2 with
      | .nx s' => v = .bool true ∧ J s' M' E'
      | .br b => v = .bool false ∧ Jx b M' E') f_20 (by kernel_rfl) (by kernel_rfl) rfl rfl (by kernel_rfl) (hcall.mono fun e w' ⟨M', E', g1, g2, g3⟩ => ?_) ?_
     ·cases r2 with
      | nx s' => exact ⟨_, g3.1, M', E', g1, g2, rfl, g3.2⟩
      | br b => exact ⟨_, g3.1, M', E', g1, g2, rfl, g3.2⟩
     rintro v_1 w_4 ⟨M4, E4, hM4, p_4, g4⟩ a_21 f_21
     cases r2 with
     | br b =>
      obtain ⟨rfl, hjx⟩ := g4
      obtain rfl := Option.some.inj hfs
      refine W_run (L' := [(28, .bool true)]) (w' := w_4) f_21 1 [28] (by kernel_rfl) (fun a_22 f_22 => ?_)
      refine W_end rfl ?_
      refine T_n ?_
      refine R_cond_t f_22 (by kernel_rfl) (by kernel_rfl) ?_
      refine R_seq ?_
      refine R_reg ?_
      refine W_run (L' := [(4, .bool false)]) (w' := w_4) f_22 1 [4] (by kernel_rfl) (fun a_23 f_23 => ?_)
      refine W_end rfl ?_
      refine T_n ?_
      refine wp_ret ?_
      refine B_r ?_
      refine T_r ?_
      refine T_r ?_
      exact .inr ⟨rfl, b, M4, E4, rfl, hM2.trans (hM3.trans hM4), hjx, f_23, p_4⟩
     | nx s2 =>
      obtain ⟨rfl, hj2⟩ := g4
      replace hfs : foldY Y (walkVs (v.fList.drop (i + 1))) s2 = some r := hfs
      refine W_run (L' := [(0, .pointer (some ad)), (1, .pointer (some ⟨by_, 0, none⟩)), (2, .pointer (some ⟨bs, 0, none⟩)), (16, .int .i64 ((v.fList.length : Nat) : Int)), (17, .int .i64 (i : Int)), (28, .bool false)]) (w' := w_4) f_21 1 [0, 1, 2, 16, 17, 28] (by kernel_rfl) (fun a_22 f_22 => ?_)
      refine W_end rfl ?_
      refine T_n ?_
      refine R_cond_f f_22 (by kernel_rfl) (by kernel_rfl) ?_
      refine wp_skip ?_
      refine B_n ?_
      refine T_n ?_
      refine R_reg ?_
      have hin : inR .i64 ((i : Int) + 1) := inR_mk.2 ⟨by omega, by omega⟩
      refine W_run (L' := [(0, .pointer (some ad)), (1, .pointer (some ⟨by_, 0, none⟩)), (2, .pointer (some ⟨bs, 0, none⟩)), (16, .int .i64 ((v.fList.length : Nat) : Int)), (29, .int .i64 (IntKind.wrap .i64 ((i : Int) + 1)))]) (w' := w_4) f_22 1 [0, 1, 2, 16, 29] (by kernel_rfl) (fun a_23 f_23 => ?_)
      have f_24 := Frm.set f_23 29 (v := .int .i64 (IntKind.wrap .i64 ((i : Int) + 1))) (v' := .int .i64 (((i + 1 : Nat) : Int))) (by kernel_rfl) (congrArg (Value.int .i64) ((inR_wrap hin).trans (by omega)))
      have f_25 : Frm 30 [(0, .pointer (some ad)), (1, .pointer (some ⟨by_, 0, none⟩)), (2, .pointer (some ⟨bs, 0, none⟩)), (16, .int .i64 ((v.fList.length : Nat) : Int)), (29, .int .i64 (((i + 1 : Nat) : Int)))] a_23 := f_24.keep (ks := [0, 1, 2, 16, 29]) (by kernel_rfl)
      refine W_run (L' := [(0, .pointer (some ad)), (1, .pointer (some ⟨by_, 0, none⟩)), (2, .pointer (some ⟨bs, 0, none⟩)), (16, .int .i64 ((v.fList.length : Nat) : Int)), (17, .int .i64 (((i + 1 : Nat) : Int)))]) (w' := w_4) f_25 1 [0, 1, 2, 16, 17] (by kernel_rfl) (fun a_26 f_26 => ?_)
      refine W_end rfl ?_
      refine T_n ?_
      exact ⟨(i + 1, s2, E4), by dsimp only; omega, M4, hM3.trans hM4, ⟨hj2, hfs, by dsimp only; omega⟩, f_26, p_4⟩
    ·have k_1 : ¬ (i < v.fList.length) := fun h => by
      have := of_decide_eq_false h_3
      omega
     refine wp_exit ?_
     refine T_x ?_
     refine T_x ?_
     have : v.fList.drop i = [] := List.drop_eq_nil_of_le (by omega)
     rw [this] at hfs
     obtain rfl := Option.some.inj hfs
     exact .inl ⟨rfl, s, M_3, Es, rfl, hM2.trans hM3, hjs, f_12.keep (ks := [0]) (by kernel_rfl), p_2⟩
   ·rintro _ a_24 w_4 (⟨rfl, s', M', E', rfl, g1, g2, f_29, p_3⟩ | ⟨rfl, b, M', E', rfl, g1, g2, f_29, p_3⟩)
    ·refine B_x ?_
     refine T_n ?_
     refine R_seq ?_
     refine R_reg ?_
     refine W_run (L' := [(4, .bool true)]) (w' := w_4) f_29 1 [4] (by kernel_rfl) (fun a_25 f_30 => ?_)
     refine W_end rfl ?_
     refine T_n ?_
     refine wp_ret ?_
     refine E_ret1 f_30 rfl (by kernel_rfl : Vc.look _ 4 = some (.bool true)) ?_
     exact ⟨M', E', g1, p_3, rfl, g2⟩
    ·refine B_r ?_
     refine T_r ?_
     refine E_ret1 f_29 rfl (by kernel_rfl : Vc.look _ 4 = some (.bool false)) ?_
     exact ⟨M', E', g1, p_3, rfl, g2⟩
end Go.Proofs.YtocefedhenhbfaaGreatDoor
end

section
namespace Go.Vc
open Go
theorem mpS {α β : Type} (x : α) (f : α → β) : (some x).map f = some (f x) := (Option.map_some x f).trans (Eq.refl _)
theorem jN {τ Λ : Type} (x : τ) (k : τ → Option Λ) : joinF (.nx x) k = k x := (Eq.refl (joinF (.nx x) k)).trans (Eq.refl _)
theorem jB {τ Λ : Type} (l : Λ) (k : τ → Option Λ) : joinF (.br l) k = some l := (Eq.refl (joinF (.br l) k)).trans (Eq.refl _)
theorem dec_cases (l : List UInt8) (hne : l ≠ []) :
  (Lib.decodeL l = (65533, 1) ∧ 128 ≤ (l.getD 0 0).toNat) ∨
  ∃ r w, Lib.decodeL l = (r, w) ∧ w ≤ l.length ∧ 1 ≤ w ∧ w ≤ 4 ∧ (∀ j, 1 ≤ j → j < w → (l.getD j 0).toNat / 64 = 2) ∧ ((w = 1 ∧ (l.getD 0 0).toNat < 128 ∧ r = (l.getD 0 0).toNat) ∨ (1 < w ∧ 128 ≤ r ∧ 192 ≤ (l.getD 0 0).toNat)) ∧ r ≤ 1114111 := by
 have hl : 0 < l.length := List.length_pos_iff.2 hne
 rw [Lib.decodeL_N]
 rcases Lib.decodeN_shape l.length (l.getD 0 0).toNat (l.getD 1 0).toNat (l.getD 2 0).toNat (l.getD 3 0).toNat with ⟨c, e⟩ | ⟨c1, c2, c3, cv, e⟩ | ⟨c1, c2, c3, c4, cv, cs, e⟩ | ⟨c1, c2, c3, c4, c5, cv, cw, e⟩ | e
 ·exact .inr ⟨_, _, e, by omega, by omega, by omega, fun j h1 h2 => by omega, .inl ⟨rfl, c, rfl⟩, by omega⟩
 ·refine .inr ⟨_, _, e, by omega, by omega, by omega, fun j h1 h2 => ?_, .inr ⟨by omega, by omega, by omega⟩, by omega⟩
  obtain rfl : j = 1 := by omega
  exact c3
 ·refine .inr ⟨_, _, e, by omega, by omega, by omega, fun j h1 h2 => ?_, .inr ⟨by omega, by omega, by omega⟩, by omega⟩
  obtain rfl | rfl : j = 1 ∨ j = 2 := by omega
  ·exact c3
  ·exact c4
 ·refine .inr ⟨_, _, e, by omega, by omega, by omega, fun j h1 h2 => ?_, .inr ⟨by omega, by omega, by omega⟩, by omega⟩
  obtain rfl | rfl | rfl : j = 1 ∨ j = 2 ∨ j = 3 := by omega
  ·exact c3
  ·exact c4
  ·exact c5
 ·by_cases h : (l.getD 0 0).toNat < 128
  ·refine .inr ⟨_, _, Lib.decodeN_ascii _ _ _ _ _ h, by omega, by omega, by omega, fun j h1 h2 => by omega, .inl ⟨rfl, h, rfl⟩, by omega⟩
  ·exact .inl ⟨e, by omega⟩
theorem getD_app {a x : List UInt8} {j : Nat} (h : j < a.length) : (a ++ x).getD j 0 = a.getD j 0 := by
 simp [List.getD, List.getElem?_append, h]
end Go.Vc
end

section
namespace Go.Proofs.YtocefedhenhbfaaGreatDoor
open Go Go.Vc Go.RowKit
def ref03_Same_s1 (n : Nat) (d0 : TE0) (d1 : TE0) (K1 : Int) : Option (Lp Int (Sum Unit Unit)) :=
    bif (decide (K1 < ((d0.fKeys.length : Nat) : Int))) then
      ((getI d0.fKeys K1).bind fun X1 =>
      (getI d1.fKeys K1).bind fun X2 =>
      bif (!(decide (X1 = X2))) then
        (some (.br (.inl ())))
      else
        need (inR .i64 (K1 + 1)) <|
        some (.nx (K1 + 1)))
    else
      some (.br (.inr ()))
def ref03_Same_s2 (n : Nat) (rec_ref03_Same : TE0 → TE0 → Option Bool) (d0 : TE0) (d1 : TE0) (K2 : Int) : Option (Lp Int (Sum Unit Unit)) :=
    bif (decide (K2 < ((d0.fList.length : Nat) : Int))) then
      ((getI d0.fList K2).bind fun X3 =>
      (getI d1.fList K2).bind fun X4 =>
      (rec_ref03_Same X3 X4).bind fun X5 =>
      bif !X5 then
        (some (.br (.inl ())))
      else
        need (inR .i64 (K2 + 1)) <|
        some (.nx (K2 + 1)))
    else
      some (.br (.inr ()))
def ref03_Same_b (n : Nat) (rec_ref03_Same : TE0 → TE0 → Option Bool) (d0 : TE0) (d1 : TE0) : Option Bool :=
  ((bif (!(decide (d0.fKind = d1.fKind))) then
      (some ((true)))
    else
      bif (!(d0.fBool == d1.fBool)) then
        (some ((true)))
      else
        bif (!(decide (d0.fNum = d1.fNum))) then
          (some ((true)))
        else
          bif (!(decide (d0.fText = d1.fText))) then
            (some ((true)))
          else
            bif (!(decide (((d0.fList.length : Nat) : Int) = ((d1.fList.length : Nat) : Int)))) then
              (some ((true)))
            else
              some ((!(decide (((d0.fKeys.length : Nat) : Int) = ((d1.fKeys.length : Nat) : Int))))) : Option Bool)).bind fun G1 =>
  bif G1 then
    (some ((false)))
  else
    (loopF (ref03_Same_s1 n d0 d1) n (0 : Int)).bind fun Q3 =>
    (match Q3 with 
    | .inl G2 => some ((false)) 
    | .inr G3 => (loopF (ref03_Same_s2 n rec_ref03_Same d0 d1) n (0 : Int)).bind fun Q4 =>
      (match Q4 with 
      | .inl G4 => some ((false)) 
      | .inr G5 => some ((true))))
set_option maxRecDepth 20000 in
theorem ref03_Same_b_ok (n : Nat) (rec_ref03_Same : TE0 → TE0 → Option Bool) (hrec_ref03_Same : ∀ (M : Mem) (c0 : List Value) (d0 : TE0) (h0 : Rep M (emb_TE0 d0) c0) (c1 : List Value) (d1 : TE0) (h1 : Rep M (emb_TE0 d1) c1) (r : Bool) (hF : rec_ref03_Same d0 d1 = some r), Ok Tryz.prog M 65 [.agg c0.toArray, .agg c1.toArray] (fun _ v => v = .bool r)) (M : Mem) (c0 : List Value) (d0 : TE0) (h0 : Rep M (emb_TE0 d0) c0) (c1 : List Value) (d1 : TE0) (h1 : Rep M (emb_TE0 d1) c1) (r : Bool) (hF : ref03_Same_b n rec_ref03_Same d0 d1 = some r) : Ok Tryz.prog M 65 [.agg c0.toArray, .agg c1.toArray] (fun _ v => v = .bool r) := by
 unfold ref03_Same_b at hF
 intro M1 hM0 w0 H w p0
 replace h0 := Rep.mono hM0 _ _ h0
 replace h1 := Rep.mono hM0 _ _ h1
 obtain ⟨Z1, P1, Z2, P2, rfl, B1, B2⟩ := TE0.opn h0
 obtain ⟨Z3, P3, Z4, P4, rfl, B3, B4⟩ := TE0.opn h1
 refine R_enter 88 Tryz.func65 rfl rfl (by simp) fun a0 f0 => RR (Y13 (cs := #[.int .i8 d0.fKind, .bool d0.fBool, .int .i64 d0.fNum, S d0.fText, .slice Z1 d0.fList.length P1, .slice Z2 d0.fKeys.length P2]) (T := 26) f0 p0 fun Q1 V1 W1 J1 R1 N1 _ f => ?_)
 have R2 := fz_box R1
 refine Y13 (cs := #[.int .i8 d1.fKind, .bool d1.fBool, .int .i64 d1.fNum, S d1.fText, .slice Z3 d1.fList.length P3, .slice Z4 d1.fKeys.length P4]) (T := 26) f N1 fun Q2 V2 W2 J2 R3 N2 _ f => ?_
 have R4 := fz_box R3
 refine Y f 1 fun _ f => eT (R_seq (R_seq ?_))
 obtain ⟨j_1, hj_1, F1⟩ := bS hF
 refine R_mid (fun a_40 W3 => ∃ G1 : Bool, j_1 = G1 ∧ ∃ V3 : Mem, V2.le V3 ∧ Frm 88 [(2, .pointer (some (⟨Q1, 0, none⟩))), (3, .pointer (some (⟨Q2, 0, none⟩))), (50, .bool G1)] a_40 ∧ Hp w0 V3 (H) W3) ?_ ?_
 ·refine R_reg (Y f 1 fun _ f => Y15 f N2 (fzu J2 R2) 0 rfl fun _ f => Y f 1 fun _ f => Y15 f N2 R4 0 rfl fun _ f => Y f 2 fun _ f => ?_)
  rcases cE hj_1 with ⟨B5, F2⟩ | ⟨B5, F3⟩
  ·have U1 : ¬ (d0.fKind = d1.fKind) := (not_iff dI).1 B5
   have f := f.st 12 (cB B5)
   refine Y f 38 fun _ f => eT ?_
   exact ⟨(true), (sI F2).symm, V2, (mR _), f.kp, N2⟩
  ·have U2 : ¬ (¬ (d0.fKind = d1.fKind)) := iff_f (not_iff dI) B5
   have f := f.st 12 (cB B5)
   refine Y f 1 fun _ f => Y15 f N2 (fzu J2 R2) 1 rfl fun _ f => Y f 1 fun _ f => Y15 f N2 R4 1 rfl fun _ f => Y f 3 fun _ f => ?_
   rcases cE F3 with ⟨B6, F4⟩ | ⟨B6, F5⟩
   ·have U3 : (d0.fBool == d1.fBool) = false := by simpa using B6
    have f := f.st 19 (cB B6)
    refine Y f 31 fun _ f => eT ?_
    exact ⟨(true), (sI F4).symm, V2, (mR _), f.kp, N2⟩
   ·have U4 : (d0.fBool == d1.fBool) = true := by simpa using B6
    have f := f.st 19 (cB B6)
    refine Y f 1 fun _ f => Y15 f N2 (fzu J2 R2) 2 rfl fun _ f => Y f 1 fun _ f => Y15 f N2 R4 2 rfl fun _ f => Y f 3 fun _ f => ?_
    rcases cE F5 with ⟨B7, F6⟩ | ⟨B7, F7⟩
    ·have U5 : ¬ (d0.fNum = d1.fNum) := (not_iff dI).1 B7
     have f := f.st 26 (cB B7)
     refine Y f 24 fun _ f => eT ?_
     exact ⟨(true), (sI F6).symm, V2, (mR _), f.kp, N2⟩
    ·have U6 : ¬ (¬ (d0.fNum = d1.fNum)) := iff_f (not_iff dI) B7
     have f := f.st 26 (cB B7)
     refine Y f 1 fun _ f => Y15 f N2 (fzu J2 R2) 3 rfl fun _ f => Y f 1 fun _ f => Y15 f N2 R4 3 rfl fun _ f => Z f (Y41 rfl (l := d0.fText) (m := d1.fText)) fun _ f => Y f 2 fun _ f => ?_
     rcases cE F7 with ⟨B8, F8⟩ | ⟨B8, F9⟩
     ·have U7 : ¬ (d0.fText = d1.fText) := (not_iff dI).1 B8
      have f := f.st 33 (cB B8)
      refine Y f 17 fun _ f => eT ?_
      exact ⟨(true), (sI F8).symm, V2, (mR _), f.kp, N2⟩
     ·have U8 : ¬ (¬ (d0.fText = d1.fText)) := iff_f (not_iff dI) B8
      have f := f.st 33 (cB B8)
      refine Y f 1 fun _ f => Y15 f N2 (fzu J2 R2) 4 rfl fun _ f => Y f 2 fun _ f => Y15 f N2 R4 4 rfl fun _ f => Y f 4 fun _ f => ?_
      rcases cE F9 with ⟨B9, F10⟩ | ⟨B9, F11⟩
      ·have U9 : ¬ (((d0.fList.length : Nat) : Int) = ((d1.fList.length : Nat) : Int)) := (not_iff dI).1 B9
       have f := f.st 42 (cB B9)
       refine Y f 8 fun _ f => eT ?_
       exact ⟨(true), (sI F10).symm, V2, (mR _), f.kp, N2⟩
      ·have U10 : ¬ (¬ (((d0.fList.length : Nat) : Int) = ((d1.fList.length : Nat) : Int))) := iff_f (not_iff dI) B9
       have f := f.st 42 (cB B9)
       refine Y f 1 fun _ f => Y15 f N2 (fzu J2 R2) 5 rfl fun _ f => Y f 2 fun _ f => Y15 f N2 R4 5 rfl fun _ f => Y f 3 fun _ f => eT ?_
       exact ⟨(!(decide (((d0.fKeys.length : Nat) : Int) = ((d1.fKeys.length : Nat) : Int)))), (sI F11).symm, V2, (mR _), f.kp, N2⟩
 ·rintro a_40 W3 ⟨G1, hq_1, V3, J3, f, N3⟩
  subst j_1
  refine T_n (RcF f F1 (fun B10 F12 => ?_) fun B10 F13 => ?_)
  ·refine RR (Y f 1 fun _ f => eT (wp_ret (T_r (E_ret1 f rfl (by kernel_rfl : Vc.look _ 4 = some (.bool false)) ?_))))
   obtain rfl := sI F12
   exact ⟨_, rfl, V3, ((J1.trans J2).trans J3), N3, rfl⟩
  ·refine wp_skip (T_n (R_seq (RR (Y f 1 fun _ f => eT (wp_block ?_)))))
   obtain ⟨Q3, hL_1, F14⟩ := bS F13
   refine wp_mono (Q := fun e a w => (e = .ret ∧ (∃ G2 : Unit, Q3 = .inl G2 ∧ ∃ V5 : Mem, V3.le V5 ∧ Frm 88 [(4, .bool false)] a ∧ Hp w0 V5 (H) w)) ∨ (e = .exit 0 ∧ (∃ G3 : Unit, Q3 = .inr G3 ∧ ∃ V6 : Mem, V3.le V6 ∧ Frm 88 [(2, .pointer (some (⟨Q1, 0, none⟩))), (3, .pointer (some (⟨Q2, 0, none⟩)))] a ∧ Hp w0 V6 (H) w))) (R_loop (n := 88) (w0 := w0) (M := V3) (fun (x : Nat × Int) => match x with | (I1, K1) => [(2, .pointer (some (⟨Q1, 0, none⟩))), (3, .pointer (some (⟨Q2, 0, none⟩))), (5, .int .i64 K1)]) (fun (x : Nat × Int) => match x with | (I1, K1) => (H)) (fun (x : Nat × Int) (MM : Mem) => match x with | (I1, K1) => loopF (ref03_Same_s1 n d0 d1) I1 K1 = some Q3) (fun (x : Nat × Int) => match x with | (I1, K1) => I1) (n, (0 : Int)) (f.kp) N3 hL_1 ?_) ?_
   ·rintro ⟨I1, K1⟩ V4 _ W4 J4 I_1 f N4
    have I_1L := I_1
    obtain ⟨I2, r_1, rfl, hs_1, T1⟩ := loop_step I_1L
    unfold ref03_Same_s1 at hs_1
    refine R_seq (RR (Y f 2 fun _ f => Y15 f N4 (fzu ((J2.trans J3).trans J4) R2) 5 rfl fun _ f => Y f 2 fun _ f => eT (RcF f hs_1 (fun B11 F15 => ?_) fun B11 F21 => ?_)))
    ·have U13 := dI.1 B11
     refine wp_skip (T_n (R_seq (wp_block (R_seq (R_draw N4 (by kernel_rfl) (by kernel_rfl) (Y5 default f 1 fun _ f => Y4 f (fzu ((J2.trans J3).trans J4) R2) 5 rfl fun _ f => Y5 default f 1 fun _ f => ?_))))))
     obtain ⟨X1, S1, F16⟩ := bS F15
     obtain ⟨C1, c_1, e_1, -, D1, R5⟩ := Sli.at_ (B2.mono (((J1.trans J2).trans J3).trans J4)) S1
     obtain rfl : c_1 = [S X1] := D1
     refine Y2 (v := .pointer (some (C1.add (K1.toNat * 1)))) f (fun _ pq => Y32 e_1 rfl (len := d0.fKeys.length) (cap := P2) (k := .i64) (i := K1) (e := 9) (sz := 1) (getI_nn S1) (getI_lt S1)) fun _ f => Y4 f R5 0 rfl fun _ f => Y5 default f 1 fun _ f => Y4 f (fzu (J3.trans J4) R4) 5 rfl fun _ f => Y5 default f 1 fun _ f => ?_
     obtain ⟨X2, S2, F17⟩ := bS F16
     obtain ⟨C2, c_2, e_2, -, D2, R6⟩ := Sli.at_ (B4.mono (((J1.trans J2).trans J3).trans J4)) S2
     obtain rfl : c_2 = [S X2] := D2
     refine Y2 (v := .pointer (some (C2.add (K1.toNat * 1)))) f (fun _ pq => Y32 e_2 rfl (len := d1.fKeys.length) (cap := P4) (k := .i64) (i := K1) (e := 9) (sz := 1) (getI_nn S2) (getI_lt S2)) fun _ f => Y4 f R6 0 rfl fun _ f => Y2 (v := .bool (!(decide (X1 = X2)))) f (fun _ pq => Y41 rfl (l := X1) (m := X2)) fun _ f => Q_end rfl ?_
     intro W5 N5
     refine T_n (RcF f F17 (fun B12 F18 => ?_) fun B12 F19 => ?_)
     ·have U14 : ¬ (X1 = X2) := (not_iff dI).1 B12
      refine RR (Y f 1 fun _ f => eT (wp_ret (B_r (T_r (T_r ?_)))))
      obtain rfl := sI F18
      exact .inl ⟨rfl, (), (sI T1).symm, V4, J4, f.kp, N5⟩
     ·have U15 : ¬ (¬ (X1 = X2)) := iff_f (not_iff dI) B12
      refine wp_skip (B_n (T_n (R_reg (Y f 1 fun _ f => ?_))))
      obtain ⟨O1, F20⟩ := nS F19
      refine Y f 1 fun _ f => ?_
      have f := f.st 57 (iW O1)
      refine Y f 1 fun _ f => eT ?_
      obtain rfl := sI F20
      exact ⟨⟨I2, K1 + 1⟩, Nat.lt_succ_self _, V4, J4, T1, f.kp, N5⟩
    ·have U16 := iff_f dI B11
     refine wp_exit (T_x (T_x ?_))
     obtain rfl := sI F21
     exact .inr ⟨rfl, (), (sI T1).symm, V4, J4, f.kp, N4⟩
   ·rintro _ _ W8 (⟨rfl, G2, rfl, V5, J5, f, N6⟩ | ⟨rfl, G3, rfl, V6, J6, f, N7⟩)
    ·refine B_r (T_r (E_ret1 f rfl (by kernel_rfl : Vc.look _ 4 = some (.bool false)) ?_))
     obtain rfl := sI F14
     exact ⟨_, rfl, V5, (((J1.trans J2).trans J3).trans J5), N6, rfl⟩
    ·refine B_x (T_n (R_seq (RR (Y f 1 fun _ f => eT (wp_block ?_)))))
     obtain ⟨Q4, hL_2, F22⟩ := bS F14
     refine wp_mono (Q := fun e a w => (e = .ret ∧ (∃ G4 : Unit, Q4 = .inl G4 ∧ ∃ V8 : Mem, V6.le V8 ∧ Frm 88 [(4, .bool false)] a ∧ Hp w0 V8 (H) w)) ∨ (e = .exit 2 ∧ (∃ G5 : Unit, Q4 = .inr G5 ∧ ∃ V9 : Mem, V6.le V9 ∧ Frm 88 [] a ∧ Hp w0 V9 (H) w))) (R_loop (n := 88) (w0 := w0) (M := V6) (fun (x : Nat × Int) => match x with | (I3, K2) => [(2, .pointer (some (⟨Q1, 0, none⟩))), (3, .pointer (some (⟨Q2, 0, none⟩))), (6, .int .i64 K2)]) (fun (x : Nat × Int) => match x with | (I3, K2) => (H)) (fun (x : Nat × Int) (MM : Mem) => match x with | (I3, K2) => loopF (ref03_Same_s2 n rec_ref03_Same d0 d1) I3 K2 = some Q4) (fun (x : Nat × Int) => match x with | (I3, K2) => I3) (n, (0 : Int)) (f.kp) N7 hL_2 ?_) ?_
     ·rintro ⟨I3, K2⟩ V7 _ W9 J7 I_2 f N8
      have I_2L := I_2
      obtain ⟨I4, r_2, rfl, hs_2, T2⟩ := loop_step I_2L
      unfold ref03_Same_s2 at hs_2
      refine R_seq (RR (Y f 2 fun _ f => Y15 f N8 (fzu (((J2.trans J3).trans J6).trans J7) R2) 4 rfl fun _ f => Y f 2 fun _ f => eT (RcF f hs_2 (fun B13 F23 => ?_) fun B13 F30 => ?_)))
      ·have U17 := dI.1 B13
       refine wp_skip (T_n (R_seq (wp_block (R_seq (R_draw N8 (by kernel_rfl) (by kernel_rfl) (Y5 default f 1 fun _ f => Y4 f (fzu (((J2.trans J3).trans J6).trans J7) R2) 4 rfl fun _ f => Y5 default f 1 fun _ f => ?_))))))
       obtain ⟨X3, S3, F24⟩ := bS F23
       obtain ⟨C3, c_3, e_3, -, D3, R7⟩ := Sli.at_ (B1.mono ((((J1.trans J2).trans J3).trans J6).trans J7)) S3
       obtain ⟨Z5, P5, Z6, P6, rfl, B14, B15⟩ := TE0.opn D3
       refine Y2 (v := .pointer (some (C3.add (K2.toNat * 6)))) f (fun _ pq => Y32 e_3 rfl (len := d0.fList.length) (cap := P1) (k := .i64) (i := K2) (e := 26) (sz := 6) (getI_nn S3) (getI_lt S3)) fun _ f => Y2 (v := .agg #[.int .i8 X3.fKind, .bool X3.fBool, .int .i64 X3.fNum, S X3.fText, .slice Z5 X3.fList.length P5, .slice Z6 X3.fKeys.length P6]) f (fun _ pq => Y34 (cs := [.int .i8 X3.fKind, .bool X3.fBool, .int .i64 X3.fNum, S X3.fText, .slice Z5 X3.fList.length P5, .slice Z6 X3.fKeys.length P6]) rfl (ad := C3.add (K2.toNat * 6)) (fun j v h => pq.cell (R7 j v h))) fun _ f => Y5 default f 1 fun _ f => Y4 f (fzu ((J3.trans J6).trans J7) R4) 4 rfl fun _ f => Y5 default f 1 fun _ f => ?_
       obtain ⟨X4, S4, F25⟩ := bS F24
       obtain ⟨C4, c_4, e_4, -, D4, R8⟩ := Sli.at_ (B3.mono ((((J1.trans J2).trans J3).trans J6).trans J7)) S4
       obtain ⟨Z7, P7, Z8, P8, rfl, B16, B17⟩ := TE0.opn D4
       refine Y2 (v := .pointer (some (C4.add (K2.toNat * 6)))) f (fun _ pq => Y32 e_4 rfl (len := d1.fList.length) (cap := P3) (k := .i64) (i := K2) (e := 26) (sz := 6) (getI_nn S4) (getI_lt S4)) fun _ f => Y2 (v := .agg #[.int .i8 X4.fKind, .bool X4.fBool, .int .i64 X4.fNum, S X4.fText, .slice Z7 X4.fList.length P7, .slice Z8 X4.fKeys.length P8]) f (fun _ pq => Y34 (cs := [.int .i8 X4.fKind, .bool X4.fBool, .int .i64 X4.fNum, S X4.fText, .slice Z7 X4.fList.length P7, .slice Z8 X4.fKeys.length P8]) rfl (ad := C4.add (K2.toNat * 6)) (fun j v h => pq.cell (R8 j v h))) fun _ f => ?_
       obtain ⟨X5, S5, F26⟩ := bS F25
       refine Y3 f (hrec_ref03_Same _ _ X3 (TE0.shutx (x := X3) B14 B15) _ X4 (TE0.shutx (x := X4) B16 B17) X5 S5) fun _ f => Y5 default f 1 fun _ f => Q_end rfl ?_
       intro W11 N10
       refine T_n (RcF f F26 (fun B18 F27 => ?_) fun B18 F28 => ?_)
       ·have U18 : (X5) = false := by simpa using B18
        refine RR (Y f 1 fun _ f => eT (wp_ret (B_r (T_r (T_r ?_)))))
        obtain rfl := sI F27
        exact .inl ⟨rfl, (), (sI T2).symm, V7, J7, f.kp, N10⟩
       ·have U19 : (X5) = true := by simpa using B18
        refine wp_skip (B_n (T_n (R_reg (Y f 1 fun _ f => ?_))))
        obtain ⟨O2, F29⟩ := nS F28
        refine Y f 1 fun _ f => ?_
        have f := f.st 75 (iW O2)
        refine Y f 1 fun _ f => eT ?_
        obtain rfl := sI F29
        exact ⟨⟨I4, K2 + 1⟩, Nat.lt_succ_self _, V7, J7, T2, f.kp, N10⟩
      ·have U20 := iff_f dI B13
       refine wp_exit (T_x (T_x ?_))
       obtain rfl := sI F30
       exact .inr ⟨rfl, (), (sI T2).symm, V7, J7, f.kp, N8⟩
     ·rintro _ _ W14 (⟨rfl, G4, rfl, V8, J8, f, N11⟩ | ⟨rfl, G5, rfl, V9, J9, f, N12⟩)
      ·refine B_r (T_r (E_ret1 f rfl (by kernel_rfl : Vc.look _ 4 = some (.bool false)) ?_))
       obtain rfl := sI F22
       exact ⟨_, rfl, V8, ((((J1.trans J2).trans J3).trans J6).trans J8), N11, rfl⟩
      ·refine B_x (T_n (RR (Y f 1 fun _ f => eT (wp_ret (E_ret1 f rfl (by kernel_rfl : Vc.look _ 4 = some (.bool true)) ?_)))))
       obtain rfl := sI F22
       exact ⟨_, rfl, V9, ((((J1.trans J2).trans J3).trans J6).trans J9), N12, rfl⟩
def ref03_Same_k (n : Nat) : Nat → TE0 → TE0 → Option Bool
  | 0 => fun _ _ => none
  | k + 1 => ref03_Same_b n (ref03_Same_k n k)
def ref03_Same (n : Nat) (d0 : TE0) (d1 : TE0) : Option Bool := ref03_Same_k n n d0 d1
theorem ref03_Same_ok (n : Nat) (M : Mem) (c0 : List Value) (d0 : TE0) (h0 : Rep M (emb_TE0 d0) c0) (c1 : List Value) (d1 : TE0) (h1 : Rep M (emb_TE0 d1) c1) (r : Bool) (hF : ref03_Same n d0 d1 = some r) : Ok Tryz.prog M 65 [.agg c0.toArray, .agg c1.toArray] (fun _ v => v = .bool r) := by
 have key : ∀ (k : Nat) (M : Mem) (c0 : List Value) (d0 : TE0) (h0 : Rep M (emb_TE0 d0) c0) (c1 : List Value) (d1 : TE0) (h1 : Rep M (emb_TE0 d1) c1) (r : Bool) (hF : ref03_Same_k n k d0 d1 = some r), Ok Tryz.prog M 65 [.agg c0.toArray, .agg c1.toArray] (fun _ v => v = .bool r) := by
  intro k
  induction k with
  | zero => intro M c0 d0 h0 c1 d1 h1 r hF; simp [ref03_Same_k] at hF
  | succ k ih => intro M c0 d0 h0 c1 d1 h1 r hF; exact ref03_Same_b_ok n (ref03_Same_k n k) ih M c0 d0 h0 c1 d1 h1 r hF
 exact key n M c0 d0 h0 c1 d1 h1 r hF
end Go.Proofs.YtocefedhenhbfaaGreatDoor
end

section
namespace Go.Proofs
open Go.Shelf
def Tryz.lays106_ren : Go.Shelf.Ren := ⟨fun | 106 => 119 | 213 => 130 | 265 => 146 | n => n, fun | 9 => 9 | 3 => 3 | n => n, fun | n => n⟩
theorem Tryz.lays106 : Go.Proofs.Lays.n106 Tryz.prog Tryz.lays106_ren := {
 mixed := by kernel_rfl
 f106 := Tryz.func119.trans (congrArg some (by kernel_rfl))
 f213 := Tryz.func130.trans (congrArg some (by kernel_rfl))
 f265 := Tryz.func146.trans (congrArg some (by kernel_rfl))
 t3 := Tryz.underlying3
 a3 := Tryz.isAgg3
 z3 := Tryz.sizeOf3
 v3 := Tryz.zeroValue3
 t9 := Tryz.underlying9
 a9 := Tryz.isAgg9
 z9 := Tryz.sizeOf9
 v9 := Tryz.zeroValue9 }
open Go.RowKit in
theorem Tryz.strings_Compare (a b : ByteArray) (w : World) :
  Calls Tryz.prog 119 #[.string a, .string b] w fun e w' => e = .returned (.int .i64 (Lib.compareBytes a.data.toList b.data.toList)) ∧ w' = w := Any.strings_Compare Tryz.lays106 a b w
end Go.Proofs
end

section
namespace Go.Proofs
open Go Go.Shelf
def Tryz.lays196_ren : Go.Shelf.Ren := ⟨fun | 196 => 57 | 259 => 80 | n => n, fun | 46 => 128 | 53 => 158 | 119 => 124 | 138 => 126 | 139 => 127 | n => n, fun | 3 => 0 | 4 => 1 | n => n⟩
theorem Tryz.lays196 : Go.Proofs.Lays.n196 Tryz.prog Tryz.lays196_ren := {
 mixed := by kernel_rfl
 f196 := Tryz.func57.trans (congrArg some (by kernel_rfl))
 f259 := Tryz.func80.trans (congrArg some (by kernel_rfl))
 t0 := Tryz.underlying0
 a0 := Tryz.isAgg0
 z0 := Tryz.sizeOf0
 v0 := Tryz.zeroValue0
 t3 := Tryz.underlying3
 a3 := Tryz.isAgg3
 z3 := Tryz.sizeOf3
 v3 := Tryz.zeroValue3
 t4 := Tryz.underlying4
 a4 := Tryz.isAgg4
 z4 := Tryz.sizeOf4
 v4 := Tryz.zeroValue4
 t5 := Tryz.underlying5
 a5 := Tryz.isAgg5
 z5 := Tryz.sizeOf5
 v5 := Tryz.zeroValue5
 t9 := Tryz.underlying9
 a9 := Tryz.isAgg9
 z9 := Tryz.sizeOf9
 v9 := Tryz.zeroValue9
 t12 := Tryz.underlying12
 a12 := Tryz.isAgg12
 z12 := Tryz.sizeOf12
 v12 := Tryz.zeroValue12
 t46 := Tryz.underlying128
 a46 := Tryz.isAgg128
 z46 := Tryz.sizeOf128
 v46 := Tryz.zeroValue128
 t53 := Tryz.underlying158
 a53 := Tryz.isAgg158
 z53 := Tryz.sizeOf158
 v53 := Tryz.zeroValue158
 t119 := Tryz.underlying124
 a119 := Tryz.isAgg124
 z119 := Tryz.sizeOf124
 t138 := Tryz.underlying126
 a138 := Tryz.isAgg126
 z138 := Tryz.sizeOf126
 v138 := Tryz.zeroValue126
 t139 := Tryz.underlying127
 a139 := Tryz.isAgg127
 z139 := Tryz.sizeOf127
 v139 := Tryz.zeroValue127
 g3 := by kernel_rfl
 g4 := by kernel_rfl }
end Go.Proofs
end

section
namespace Go.Proofs.YtocefedhenhbfaaGreatDoor
open Go Go.Vc Go.RowKit
def GL (M : Mem) : Prop := Tabs 0 1 M ∧ IntVar 2 M
theorem GL.mono {M M' : Mem} (hM : M.le M') (h : GL M) : GL M' := ⟨h.1.mono hM, h.2.mono hM⟩
def h_ValidString (_ : Nat) (d0 : List UInt8) : Option Bool := need ((d0.length : Int) ≤ 9223372036854775807) (some (Lib.validD d0))
theorem h_ValidString_ok (n : Nat) (M : Mem) (hG : GL M) (d0 : List UInt8) (r : Bool) (hF : h_ValidString n d0 = some r) : Ok Tryz.prog M 57 [S d0] (fun _ v => v = .bool r) := by
 unfold h_ValidString at hF
 obtain ⟨g, hF⟩ := need_some hF
 obtain rfl := Option.some.inj hF
 refine Ok.ofBelow fun M2 w0 H w hM hp => ?_
 exact Any.utf8_ValidString Tryz.lays196 (mkS d0) w (by have : (mkS d0).size = d0.length := rfl; omega) ((hG.1.mono hM).at hp)
def h_Compare (_ : Nat) (d0 d1 : List UInt8) : Option Int := some (Lib.compareBytes d0 d1)
theorem h_Compare_ok (n : Nat) (M : Mem) (d0 d1 : List UInt8) (r : Int) (hF : h_Compare n d0 d1 = some r) : Ok Tryz.prog M 119 [S d0, S d1] (fun _ v => v = .int .i64 r) := by
 obtain rfl := Option.some.inj hF
 exact Ok.ofPure fun w => Tryz.strings_Compare (mkS d0) (mkS d1) w
theorem cb_self : ∀ a : List UInt8, Lib.compareBytes a a = 0
 | [] => rfl
 | x :: r => by simp [Lib.compareBytes, cb_self r]
theorem cb_eq : ∀ a b : List UInt8, Lib.compareBytes a b = 0 → a = b
 | [], [], _ => rfl
 | [], _ :: _, h => by simp [Lib.compareBytes] at h
 | _ :: _, [], h => by simp [Lib.compareBytes] at h
 | x :: r, y :: s, h => by
  unfold Lib.compareBytes at h
  by_cases h1 : x < y
  ·simp [h1] at h
  ·by_cases h2 : y < x
   ·simp [h1, h2] at h
   ·simp only [h1, h2, if_false] at h
    have hxy : x = y := UInt8.toNat_inj.1 (by rw [UInt8.lt_iff_toNat_lt] at h1 h2; omega)
    rw [hxy, cb_eq r s h]
theorem cb_anti : ∀ a b : List UInt8, Lib.compareBytes b a = - Lib.compareBytes a b
 | [], [] => rfl
 | [], _ :: _ => rfl
 | _ :: _, [] => rfl
 | x :: r, y :: s => by
  unfold Lib.compareBytes
  by_cases h1 : x < y
  ·have h2 : ¬ y < x := by rw [UInt8.lt_iff_toNat_lt] at h1 ⊢; omega
   simp [h1, h2]
  ·by_cases h2 : y < x
   ·simp [h1, h2]
   ·simp [h1, h2, cb_anti r s]
theorem cb_trans : ∀ a b c : List UInt8, Lib.compareBytes a b ≤ 0 → Lib.compareBytes b c ≤ 0 → Lib.compareBytes a c ≤ 0 ∧ (Lib.compareBytes a b < 0 ∨ Lib.compareBytes b c < 0 → Lib.compareBytes a c < 0)
 | [], [], c, h1, h2 => ⟨h2, fun h => h.elim (fun h => absurd h (by simp [Lib.compareBytes])) id⟩
 | [], _ :: _, [], h1, h2 => absurd h2 (by simp [Lib.compareBytes])
 | [], _ :: _, _ :: _, h1, h2 => by simp [Lib.compareBytes]
 | _ :: _, [], _, h1, h2 => absurd h1 (by simp [Lib.compareBytes])
 | _ :: _, _ :: _, [], h1, h2 => absurd h2 (by simp [Lib.compareBytes])
 | x :: r, y :: s, z :: t, h1, h2 => by
  have ih := cb_trans r s t
  unfold Lib.compareBytes at h1 h2 ⊢
  by_cases a1 : x < y
  ·by_cases b1 : y < z
   ·have : x < z := by rw [UInt8.lt_iff_toNat_lt] at *; omega
    simp [this]
   ·by_cases b2 : z < y
    ·simp [b1, b2] at h2
    ·have : x < z := by rw [UInt8.lt_iff_toNat_lt] at *; omega
     simp [this]
  ·by_cases a2 : y < x
   ·simp [a1, a2] at h1
   ·have hxy : x = y := UInt8.toNat_inj.1 (by rw [UInt8.lt_iff_toNat_lt] at a1 a2; omega)
    subst hxy
    by_cases b1 : x < z
    ·simp [b1]
    ·by_cases b2 : z < x
     ·simp [b1, b2] at h2
     ·simp only [a1, b1, b2, if_false] at h1 h2 ⊢
      exact ih h1 h2
theorem repInts {M : Mem} {k : IntKind} : ∀ {d : List Int} {cs : List Value}, RepSeq M (d.map (Dat.int k)) cs → cs = d.map (Value.int k)
 | [], cs, h => h
 | x :: r, cs, h => by
  obtain ⟨c1, c2, rfl, h1, h2⟩ := h
  have h1' : c1 = [.int k x] := h1
  rw [h1', repInts h2]
  rfl
theorem intsRep {M : Mem} {k : IntKind} : ∀ d : List Int, RepSeq M (d.map (Dat.int k)) (d.map (Value.int k))
 | [] => rfl
 | x :: r => ⟨[.int k x], r.map (Value.int k), rfl, rfl, intsRep r⟩
section
variable {P : Program} {ops : Array Oper} {K : Act → Prop} {C : World → Prop} {L : Fr} {n : Nat} {dd : List Deferred} {a : Act}
theorem Q_pure {o : Oper} {rest : List Oper} {d : Nat} {f : FuncId} {args : List Value} {v : Value} (hf : Frm n L a dd) (hw : wantedL ops L o = some true) (hr : readyL L o = true)
  (hd : o.dst = some d) (hdn : Nat.blt d n = true) (hx : ∀ w, (execOp (ev L) o).run P w = .ok (.enter f args.toArray) w) (hc : ∀ w, Calls P f args.toArray w fun e w' => e = .returned v ∧ w' = w)
  (hk : ∀ a', Frm n ((d, v) :: L) a' dd → wpQuiet P ops C K rest a') : wpQuiet P ops C K (o :: rest) a := by
 simp only [wpQuiet]
 rw [hf.wanted hw, if_pos rfl]
 refine ⟨v, fun w hC => ?_, ?_⟩
 ·unfold Oper.quietAt
  rw [hf.exec hr, hx w]
  exact ⟨rfl, (hc w).mono fun e w' ⟨he, hw'⟩ => ⟨he, hw' ▸ hC⟩⟩
 ·rw [hd]; exact hk _ (hf.put (by simpa [Nat.blt_eq] using hdn) v)
end
set_option maxRecDepth 100000 in
theorem order1_calls {w0 : World} {M : Mem} {H : List Ent} {W : World} (hp : Hp w0 M H W) {bA ad0 : Addr} {v : TE0} {c0 : List Value} (h0 : Rep M (emb_TE0 v) c0) (q0 : ∀ j u, c0[j]? = some u → M.cell? (ad0.add j) = some u)
  (hb : M.cell? bA = some (.pointer (some ad0))) (x y : Int) (kx ky : List UInt8) (hx : getI v.fKeys x = some kx) (hy : getI v.fKeys y = some ky) :
  Calls Tryz.prog 118 [.int .i64 x, .int .i64 y, .pointer (some bA)].toArray W fun e w' => e = .returned (.int .i64 (Lib.compareBytes kx ky)) ∧ ∃ q, w' = W.drewN q := by
 obtain ⟨A_1, cap_1, A_2, cap_2, rfl, h_1, h_2⟩ := TE0.opn h0
 refine R_enter 21 Tryz.func118 rfl rfl (by simp) (fun a0 f0 => ?_)
 replace f0 : Frm 21 [(0, .int .i64 x), (1, .int .i64 y), (2, .pointer (some bA))] a0 := f0
 refine R_seq ?_
 refine R_reg ?_
 refine W_run (L' := [(0, .int .i64 x), (1, .int .i64 y), (2, .pointer (some bA)), (5, .int .i64 0)]) (w' := W) f0 1 [0, 1, 2, 5] (by kernel_rfl) (fun a_1 f_1 => ?_)
 refine W_end rfl ?_
 refine T_n ?_
 refine R_seq ?_
 refine wp_region_quiet (C := fun w' => ∃ n, w' = W.drewN n) (by kernel_rfl) (by kernel_rfl) ⟨1, rfl⟩ ?_
 refine Q_eq (v := .pointer (some ad0)) f_1 (by kernel_rfl) (by kernel_rfl) rfl rfl (fun _ pq => by obtain ⟨n, rfl⟩ := pq; exact X_load1 (v := .pointer (some ad0)) rfl (ad := bA) (by kernel_rfl) (by kernel_rfl) ((hp.drewN n).cell hb)) (fun a_2 f_2 => ?_)
 refine Q_eq (v := .pointer (some ad0)) f_2 (by kernel_rfl) (by kernel_rfl) rfl rfl (fun _ _ => by kernel_rfl) (fun a_3 f_3 => ?_)
 refine Q_eq (v := .pointer (some (ad0.add 5))) f_3 (by kernel_rfl) (by kernel_rfl) rfl rfl (fun _ _ => by kernel_rfl) (fun a_4 f_4 => ?_)
 refine Q_eq (v := .slice A_2 v.fKeys.length cap_2) f_4 (by kernel_rfl) (by kernel_rfl) rfl rfl (fun _ pq => by obtain ⟨n, rfl⟩ := pq; exact X_load1 (v := .slice A_2 v.fKeys.length cap_2) rfl (ad := ad0.add 5) (by kernel_rfl) (by kernel_rfl) ((hp.drewN n).cell (q0 5 _ rfl))) (fun a_5 f_5 => ?_)
 refine Q_eq (v := .int .i64 x) f_5 (by kernel_rfl) (by kernel_rfl) rfl rfl (fun _ _ => by kernel_rfl) (fun a_6 f_6 => ?_)
 obtain ⟨ad_1, c_1, e_1, hl_1, hr_1, hc_1⟩ := Sli.at_ h_2 hx
 obtain rfl : c_1 = [S kx] := hr_1
 refine Q_eq (v := .pointer (some (ad_1.add (x.toNat * 1)))) f_6 (by kernel_rfl) (by kernel_rfl) rfl rfl (fun _ pq => X_indexAddrA e_1 rfl (len := v.fKeys.length) (cap := cap_2) (k := .i64) (i := x) (by kernel_rfl) (by kernel_rfl) (e := 9) (by kernel_rfl) (sz := 1) (by kernel_rfl) (getI_nn hx) (getI_lt hx)) (fun a_7 f_7 => ?_)
 refine Q_eq (v := S kx) f_7 (by kernel_rfl) (by kernel_rfl) rfl rfl (fun _ pq => by obtain ⟨n, rfl⟩ := pq; exact X_load1 (v := S kx) rfl (ad := ad_1.add (x.toNat * 1)) (by kernel_rfl) (by kernel_rfl) ((hp.drewN n).cell (hc_1 0 _ rfl))) (fun a_8 f_8 => ?_)
 refine Q_eq (v := .pointer (some ad0)) f_8 (by kernel_rfl) (by kernel_rfl) rfl rfl (fun _ pq => by obtain ⟨n, rfl⟩ := pq; exact X_load1 (v := .pointer (some ad0)) rfl (ad := bA) (by kernel_rfl) (by kernel_rfl) ((hp.drewN n).cell hb)) (fun a_9 f_9 => ?_)
 refine Q_eq (v := .pointer (some ad0)) f_9 (by kernel_rfl) (by kernel_rfl) rfl rfl (fun _ _ => by kernel_rfl) (fun a_10 f_10 => ?_)
 refine Q_eq (v := .pointer (some (ad0.add 5))) f_10 (by kernel_rfl) (by kernel_rfl) rfl rfl (fun _ _ => by kernel_rfl) (fun a_11 f_11 => ?_)
 refine Q_eq (v := .slice A_2 v.fKeys.length cap_2) f_11 (by kernel_rfl) (by kernel_rfl) rfl rfl (fun _ pq => by obtain ⟨n, rfl⟩ := pq; exact X_load1 (v := .slice A_2 v.fKeys.length cap_2) rfl (ad := ad0.add 5) (by kernel_rfl) (by kernel_rfl) ((hp.drewN n).cell (q0 5 _ rfl))) (fun a_12 f_12 => ?_)
 refine Q_eq (v := .int .i64 y) f_12 (by kernel_rfl) (by kernel_rfl) rfl rfl (fun _ _ => by kernel_rfl) (fun a_13 f_13 => ?_)
 obtain ⟨ad_2, c_2, e_2, hl_2, hr_2, hc_2⟩ := Sli.at_ h_2 hy
 obtain rfl : c_2 = [S ky] := hr_2
 refine Q_eq (v := .pointer (some (ad_2.add (y.toNat * 1)))) f_13 (by kernel_rfl) (by kernel_rfl) rfl rfl (fun _ pq => X_indexAddrA e_2 rfl (len := v.fKeys.length) (cap := cap_2) (k := .i64) (i := y) (by kernel_rfl) (by kernel_rfl) (e := 9) (by kernel_rfl) (sz := 1) (by kernel_rfl) (getI_nn hy) (getI_lt hy)) (fun a_14 f_14 => ?_)
 refine Q_eq (v := S ky) f_14 (by kernel_rfl) (by kernel_rfl) rfl rfl (fun _ pq => by obtain ⟨n, rfl⟩ := pq; exact X_load1 (v := S ky) rfl (ad := ad_2.add (y.toNat * 1)) (by kernel_rfl) (by kernel_rfl) ((hp.drewN n).cell (hc_2 0 _ rfl))) (fun a_15 f_15 => ?_)
 refine Q_pure (v := .int .i64 (Lib.compareBytes kx ky)) (args := [S kx, S ky]) f_15 (by kernel_rfl) (by kernel_rfl) rfl rfl (fun _ => by kernel_rfl) (fun w => Tryz.strings_Compare (mkS kx) (mkS ky) w) (fun a_16 f_16 => ?_)
 refine Q_eq (v := .int .i64 (Lib.compareBytes kx ky)) f_16 (by kernel_rfl) (by kernel_rfl) rfl rfl (fun _ _ => by kernel_rfl) (fun a_17 f_17 => ?_)
 refine Q_end rfl ?_
 rintro w' ⟨q, rfl⟩
 refine T_n ?_
 refine wp_ret ?_
 refine E_ret1 f_17 rfl (by kernel_rfl : Vc.look _ 5 = some (.int .i64 (Lib.compareBytes kx ky))) ?_
 exact ⟨rfl, q, rfl⟩
def ref03_Count_s1 (n : Nat) (rec_ref03_Count : TE0 → Option Int) (d0 : TE0) (K1 : Int × Int) : Option (Lp (Int × Int) Int) :=
    bif (decide (K1.2 < ((d0.fList.length : Nat) : Int))) then
      ((getI d0.fList K1.2).bind fun X1 =>
      (rec_ref03_Count X1).bind fun X2 =>
      need (inR .i64 (K1.1 + X2)) <|
      need (inR .i64 (K1.2 + 1)) <|
      some (.nx (K1.1 + X2, K1.2 + 1)))
    else
      some (.br K1.1)
def ref03_Count_b (n : Nat) (rec_ref03_Count : TE0 → Option Int) (d0 : TE0) : Option Int :=
  (loopF (ref03_Count_s1 n rec_ref03_Count d0) n ((1 : Int), (0 : Int))).bind fun G1 =>
  some (G1)
theorem ref03_Count_b_ok (n : Nat) (rec_ref03_Count : TE0 → Option Int) (hrec_ref03_Count : ∀ (M : Mem) (c0 : List Value) (d0 : TE0) (h0 : Rep M (emb_TE0 d0) c0) (r : Int) (hF : rec_ref03_Count d0 = some r), Ok Tryz.prog M 53 [.agg c0.toArray] (fun _ v => v = .int .i64 r)) (M : Mem) (c0 : List Value) (d0 : TE0) (h0 : Rep M (emb_TE0 d0) c0) (r : Int) (hF : ref03_Count_b n rec_ref03_Count d0 = some r) : Ok Tryz.prog M 53 [.agg c0.toArray] (fun _ v => v = .int .i64 r) := by
 unfold ref03_Count_b at hF
 intro M1 hM0 w0 H w p0
 replace h0 := Rep.mono hM0 _ _ h0
 obtain ⟨Z1, P1, Z2, P2, rfl, B1, B2⟩ := TE0.opn h0
 refine R_enter 21 Tryz.func53 rfl rfl (by simp) fun a0 f0 => RR (Y13 (cs := #[.int .i8 d0.fKind, .bool d0.fBool, .int .i64 d0.fNum, S d0.fText, .slice Z1 d0.fList.length P1, .slice Z2 d0.fKeys.length P2]) (T := 26) f0 p0 fun Q1 V1 W1 J1 R1 N1 _ f => ?_)
 have R2 := fz_box R1
 refine Y f 1 fun _ f => eT (RR (Y f 1 fun _ f => eT (R_seq (RR (Y f 1 fun _ f => eT (wp_block ?_))))))
 obtain ⟨Q2, hL_1, F1⟩ := bS hF
 refine wp_mono (Q := fun e a w => (e = .exit 0 ∧ (∃ G1 : Int, Q2 = G1 ∧ ∃ V3 : Mem, V1.le V3 ∧ Frm 21 [(3, .int .i64 G1)] a ∧ Hp w0 V3 (H) w))) (R_loop (n := 21) (w0 := w0) (M := V1) (fun (x : Nat × (Int × Int)) => match x with | (I1, K1) => [(1, .pointer (some (⟨Q1, 0, none⟩))), (3, .int .i64 K1.1), (4, .int .i64 K1.2)]) (fun (x : Nat × (Int × Int)) => match x with | (I1, K1) => (H)) (fun (x : Nat × (Int × Int)) (MM : Mem) => match x with | (I1, K1) => loopF (ref03_Count_s1 n rec_ref03_Count d0) I1 K1 = some Q2) (fun (x : Nat × (Int × Int)) => match x with | (I1, K1) => I1) (n, ((1 : Int), (0 : Int))) (f.kp) N1 hL_1 ?_) ?_
 ·rintro ⟨I1, K1⟩ V2 _ W2 J2 I_1 f N2
  have I_1L := I_1
  obtain ⟨I2, r_1, rfl, hs_1, T1⟩ := loop_step I_1L
  unfold ref03_Count_s1 at hs_1
  refine R_seq (RR (Y f 2 fun _ f => Y15 f N2 (fzu J2 R2) 4 rfl fun _ f => Y f 2 fun _ f => eT (RcF f hs_1 (fun B3 F2 => ?_) fun B3 F7 => ?_)))
  ·have U1 := dI.1 B3
   refine wp_skip (T_n (R_seq (wp_block (R_reg (Y f 2 fun _ f => Y15 f N2 (fzu J2 R2) 4 rfl fun _ f => Y f 1 fun _ f => ?_)))))
   obtain ⟨X1, S1, F3⟩ := bS F2
   obtain ⟨C1, c_1, e_1, -, D1, R3⟩ := Sli.at_ (B1.mono (J1.trans J2)) S1
   obtain ⟨Z3, P3, Z4, P4, rfl, B4, B5⟩ := TE0.opn D1
   refine Z f (Y32 e_1 rfl (len := d0.fList.length) (cap := P1) (k := .i64) (i := K1.2) (e := 26) (sz := 6) (getI_nn S1) (getI_lt S1)) fun _ f => Z (v := .agg #[.int .i8 X1.fKind, .bool X1.fBool, .int .i64 X1.fNum, S X1.fText, .slice Z3 X1.fList.length P3, .slice Z4 X1.fKeys.length P4]) f (Y34 (cs := [.int .i8 X1.fKind, .bool X1.fBool, .int .i64 X1.fNum, S X1.fText, .slice Z3 X1.fList.length P3, .slice Z4 X1.fKeys.length P4]) rfl (ad := C1.add (K1.2.toNat * 6)) (fun j v h => N2.cell (R3 j v h))) fun _ f => ?_
   obtain ⟨X2, S2, F4⟩ := bS F3
   refine Y18 f N2 (hrec_ref03_Count _ _ X1 (TE0.shutx (x := X1) B4 B5) X2 S2) fun W3 N3 _ f => ?_
   obtain ⟨O1, F5⟩ := nS F4
   refine Y f 1 fun _ f => ?_
   have f := f.st 19 (iW O1)
   refine Y f 1 fun _ f => W_end rfl (B_n (T_n (R_reg (Y f 1 fun _ f => ?_))))
   obtain ⟨O2, F6⟩ := nS F5
   refine Y f 1 fun _ f => ?_
   have f := f.st 11 (iW O2)
   refine Y f 1 fun _ f => eT ?_
   obtain rfl := sI F6
   exact ⟨⟨I2, (K1.1 + X2, K1.2 + 1)⟩, Nat.lt_succ_self _, V2, J2, T1, f.kp, N3⟩
  ·have U2 := iff_f dI B3
   refine wp_exit (T_x (T_x ?_))
   obtain rfl := sI F7
   exact ⟨rfl, K1.1, (sI T1).symm, V2, J2, f.kp, N2⟩
 ·rintro _ _ W5 ⟨rfl, G1, hq_, V3, J3, f, N4⟩
  subst Q2
  refine B_x (T_n (RR (Y f 2 fun _ f => eT (wp_ret (E_ret1 f rfl (by kernel_rfl : Vc.look _ 2 = some (.int .i64 G1)) ?_)))))
  obtain rfl := sI F1
  exact ⟨_, rfl, V3, (J1.trans J3), N4, rfl⟩
def ref03_Count_k (n : Nat) : Nat → TE0 → Option Int
  | 0 => fun _ => none
  | k + 1 => ref03_Count_b n (ref03_Count_k n k)
def ref03_Count (n : Nat) (d0 : TE0) : Option Int := ref03_Count_k n n d0
theorem ref03_Count_ok (n : Nat) (M : Mem) (c0 : List Value) (d0 : TE0) (h0 : Rep M (emb_TE0 d0) c0) (r : Int) (hF : ref03_Count n d0 = some r) : Ok Tryz.prog M 53 [.agg c0.toArray] (fun _ v => v = .int .i64 r) := by
 have key : ∀ (k : Nat) (M : Mem) (c0 : List Value) (d0 : TE0) (h0 : Rep M (emb_TE0 d0) c0) (r : Int) (hF : ref03_Count_k n k d0 = some r), Ok Tryz.prog M 53 [.agg c0.toArray] (fun _ v => v = .int .i64 r) := by
  intro k
  induction k with
  | zero => intro M c0 d0 h0 r hF; simp [ref03_Count_k] at hF
  | succ k ih => intro M c0 d0 h0 r hF; exact ref03_Count_b_ok n (ref03_Count_k n k) ih M c0 d0 h0 r hF
 exact key n M c0 d0 h0 r hF
def ref03_deeper_s1 (n : Nat) (rec_ref03_deeper : TE0 → Int → Option Bool) (d0 : TE0) (d1 : Int) (K1 : Int) : Option (Lp Int (Sum Unit Unit)) :=
    bif (decide (K1 < ((d0.fList.length : Nat) : Int))) then
      ((getI d0.fList K1).bind fun X1 =>
      need (inR .i64 (d1 - 1)) <|
      (rec_ref03_deeper X1 (d1 - 1)).bind fun X2 =>
      bif X2 then
        (some (.br (.inl ())))
      else
        need (inR .i64 (K1 + 1)) <|
        some (.nx (K1 + 1)))
    else
      some (.br (.inr ()))
def ref03_deeper_b (n : Nat) (rec_ref03_deeper : TE0 → Int → Option Bool) (d0 : TE0) (d1 : Int) : Option Bool :=
  bif (decide (d1 = 0)) then
    (some ((true)))
  else
    (loopF (ref03_deeper_s1 n rec_ref03_deeper d0 d1) n (0 : Int)).bind fun Q2 =>
    (match Q2 with 
    | .inl G1 => some ((true)) 
    | .inr G2 => some ((false)))
set_option maxRecDepth 20000 in
theorem ref03_deeper_b_ok (n : Nat) (rec_ref03_deeper : TE0 → Int → Option Bool) (hrec_ref03_deeper : ∀ (M : Mem) (c0 : List Value) (d0 : TE0) (h0 : Rep M (emb_TE0 d0) c0) (d1 : Int) (r : Bool) (hF : rec_ref03_deeper d0 d1 = some r), Ok Tryz.prog M 51 [.agg c0.toArray, .int .i64 d1] (fun _ v => v = .bool r)) (M : Mem) (c0 : List Value) (d0 : TE0) (h0 : Rep M (emb_TE0 d0) c0) (d1 : Int) (r : Bool) (hF : ref03_deeper_b n rec_ref03_deeper d0 d1 = some r) : Ok Tryz.prog M 51 [.agg c0.toArray, .int .i64 d1] (fun _ v => v = .bool r) := by
 unfold ref03_deeper_b at hF
 intro M1 hM0 w0 H w p0
 replace h0 := Rep.mono hM0 _ _ h0
 obtain ⟨Z1, P1, Z2, P2, rfl, B1, B2⟩ := TE0.opn h0
 refine R_enter 23 Tryz.func51 rfl rfl (by simp) fun a0 f0 => RR (Y13 (cs := #[.int .i8 d0.fKind, .bool d0.fBool, .int .i64 d0.fNum, S d0.fText, .slice Z1 d0.fList.length P1, .slice Z2 d0.fKeys.length P2]) (T := 26) f0 p0 fun Q1 V1 W1 J1 R1 N1 _ f => ?_)
 have R2 := fz_box R1
 refine Y f 1 fun _ f => eT (R_seq (RR (Y f 2 fun _ f => eT (RcF f hF (fun B3 F1 => ?_) fun B3 F2 => ?_))))
 ·have U1 := dI.1 B3
  refine RR (Y f 1 fun _ f => eT (wp_ret (T_r (E_ret1 f rfl (by kernel_rfl : Vc.look _ 4 = some (.bool true)) ?_))))
  obtain rfl := sI F1
  exact ⟨_, rfl, V1, J1, N1, rfl⟩
 ·have U2 := iff_f dI B3
  refine wp_skip (T_n (R_seq (RR (Y f 1 fun _ f => eT (wp_block ?_)))))
  obtain ⟨Q2, hL_1, F3⟩ := bS F2
  refine wp_mono (Q := fun e a w => (e = .ret ∧ (∃ G1 : Unit, Q2 = .inl G1 ∧ ∃ V3 : Mem, V1.le V3 ∧ Frm 23 [(4, .bool true)] a ∧ Hp w0 V3 (H) w)) ∨ (e = .exit 0 ∧ (∃ G2 : Unit, Q2 = .inr G2 ∧ ∃ V4 : Mem, V1.le V4 ∧ Frm 23 [] a ∧ Hp w0 V4 (H) w))) (R_loop (n := 23) (w0 := w0) (M := V1) (fun (x : Nat × Int) => match x with | (I1, K1) => [(1, .int .i64 d1), (2, .pointer (some (⟨Q1, 0, none⟩))), (5, .int .i64 K1)]) (fun (x : Nat × Int) => match x with | (I1, K1) => (H)) (fun (x : Nat × Int) (MM : Mem) => match x with | (I1, K1) => loopF (ref03_deeper_s1 n rec_ref03_deeper d0 d1) I1 K1 = some Q2) (fun (x : Nat × Int) => match x with | (I1, K1) => I1) (n, (0 : Int)) (f.kp) N1 hL_1 ?_) ?_
  ·rintro ⟨I1, K1⟩ V2 _ W2 J2 I_1 f N2
   have I_1L := I_1
   obtain ⟨I2, r_1, rfl, hs_1, T1⟩ := loop_step I_1L
   unfold ref03_deeper_s1 at hs_1
   refine R_seq (RR (Y f 2 fun _ f => Y15 f N2 (fzu J2 R2) 4 rfl fun _ f => Y f 2 fun _ f => eT (RcF f hs_1 (fun B4 F4 => ?_) fun B4 F11 => ?_)))
   ·have U3 := dI.1 B4
    refine wp_skip (T_n (R_seq (wp_block (RR (Y f 1 fun _ f => Y15 f N2 (fzu J2 R2) 4 rfl fun _ f => Y f 1 fun _ f => ?_)))))
    obtain ⟨X1, S1, F5⟩ := bS F4
    obtain ⟨C1, c_1, e_1, -, D1, R3⟩ := Sli.at_ (B1.mono (J1.trans J2)) S1
    obtain ⟨Z3, P3, Z4, P4, rfl, B5, B6⟩ := TE0.opn D1
    refine Z f (Y32 e_1 rfl (len := d0.fList.length) (cap := P1) (k := .i64) (i := K1) (e := 26) (sz := 6) (getI_nn S1) (getI_lt S1)) fun _ f => Z (v := .agg #[.int .i8 X1.fKind, .bool X1.fBool, .int .i64 X1.fNum, S X1.fText, .slice Z3 X1.fList.length P3, .slice Z4 X1.fKeys.length P4]) f (Y34 (cs := [.int .i8 X1.fKind, .bool X1.fBool, .int .i64 X1.fNum, S X1.fText, .slice Z3 X1.fList.length P3, .slice Z4 X1.fKeys.length P4]) rfl (ad := C1.add (K1.toNat * 6)) (fun j v h => N2.cell (R3 j v h))) fun _ f => Y f 1 fun _ f => ?_
    obtain ⟨O1, F6⟩ := nS F5
    refine Y f 1 fun _ f => ?_
    have f := f.st 21 (iW O1)
    obtain ⟨X2, S2, F7⟩ := bS F6
    refine Y18 f N2 (hrec_ref03_deeper _ _ X1 (TE0.shutx (x := X1) B5 B6) (d1 - 1) X2 S2) fun W3 N3 _ f => eT (RcF f F7 (fun B7 F8 => ?_) fun B7 F9 => ?_)
    ·refine RR (Y f 1 fun _ f => eT (wp_ret (B_r (T_r (T_r ?_)))))
     obtain rfl := sI F8
     exact .inl ⟨rfl, (), (sI T1).symm, V2, J2, f.kp, N3⟩
    ·refine wp_skip (B_n (T_n (R_reg (Y f 1 fun _ f => ?_))))
     obtain ⟨O2, F10⟩ := nS F9
     refine Y f 1 fun _ f => ?_
     have f := f.st 14 (iW O2)
     refine Y f 1 fun _ f => eT ?_
     obtain rfl := sI F10
     exact ⟨⟨I2, K1 + 1⟩, Nat.lt_succ_self _, V2, J2, T1, f.kp, N3⟩
   ·have U6 := iff_f dI B4
    refine wp_exit (T_x (T_x ?_))
    obtain rfl := sI F11
    exact .inr ⟨rfl, (), (sI T1).symm, V2, J2, f.kp, N2⟩
  ·rintro _ _ W6 (⟨rfl, G1, rfl, V3, J3, f, N4⟩ | ⟨rfl, G2, rfl, V4, J4, f, N5⟩)
   ·refine B_r (T_r (E_ret1 f rfl (by kernel_rfl : Vc.look _ 4 = some (.bool true)) ?_))
    obtain rfl := sI F3
    exact ⟨_, rfl, V3, (J1.trans J3), N4, rfl⟩
   ·refine B_x (T_n (RR (Y f 1 fun _ f => eT (wp_ret (E_ret1 f rfl (by kernel_rfl : Vc.look _ 4 = some (.bool false)) ?_)))))
    obtain rfl := sI F3
    exact ⟨_, rfl, V4, (J1.trans J4), N5, rfl⟩
def ref03_deeper_k (n : Nat) : Nat → TE0 → Int → Option Bool
  | 0 => fun _ _ => none
  | k + 1 => ref03_deeper_b n (ref03_deeper_k n k)
def ref03_deeper (n : Nat) (d0 : TE0) (d1 : Int) : Option Bool := ref03_deeper_k n n d0 d1
theorem ref03_deeper_ok (n : Nat) (M : Mem) (c0 : List Value) (d0 : TE0) (h0 : Rep M (emb_TE0 d0) c0) (d1 : Int) (r : Bool) (hF : ref03_deeper n d0 d1 = some r) : Ok Tryz.prog M 51 [.agg c0.toArray, .int .i64 d1] (fun _ v => v = .bool r) := by
 have key : ∀ (k : Nat) (M : Mem) (c0 : List Value) (d0 : TE0) (h0 : Rep M (emb_TE0 d0) c0) (d1 : Int) (r : Bool) (hF : ref03_deeper_k n k d0 d1 = some r), Ok Tryz.prog M 51 [.agg c0.toArray, .int .i64 d1] (fun _ v => v = .bool r) := by
  intro k
  induction k with
  | zero => intro M c0 d0 h0 d1 r hF; simp [ref03_deeper_k] at hF
  | succ k ih => intro M c0 d0 h0 d1 r hF; exact ref03_deeper_b_ok n (ref03_deeper_k n k) ih M c0 d0 h0 d1 r hF
 exact key n M c0 d0 h0 d1 r hF
def ref03_plain (n : Nat) (d0 : TE0) : Option Bool :=
  ((bif (decide (d0.fKind < 0)) then
      (some ((true)))
    else
      some ((decide ((5 : Int) < d0.fKind))) : Option Bool)).bind fun G1 =>
  bif G1 then
    (some ((false)))
  else
    ((bif d0.fBool then
        (bif (!(decide (d0.fKind = 1))) then
          (some ((true)))
        else
          bif (!(decide (d0.fNum = 0))) then
            (bif (!(decide (d0.fKind = 2))) then
              (some ((true)))
            else
              bif (!(decide (d0.fText = []))) then
                (some ((!(decide (d0.fKind = 3)))))
              else
                some ((false)))
          else
            bif (!(decide (d0.fText = []))) then
              (some ((!(decide (d0.fKind = 3)))))
            else
              some ((false)))
      else
        bif (!(decide (d0.fNum = 0))) then
          (bif (!(decide (d0.fKind = 2))) then
            (some ((true)))
          else
            bif (!(decide (d0.fText = []))) then
              (some ((!(decide (d0.fKind = 3)))))
            else
              some ((false)))
        else
          bif (!(decide (d0.fText = []))) then
            (some ((!(decide (d0.fKind = 3)))))
          else
            some ((false)) : Option Bool)).bind fun G2 =>
    bif G2 then
      (some ((false)))
    else
      ((bif (decide ((0 : Int) < ((d0.fList.length : Nat) : Int))) then
          (bif (!(decide (d0.fKind = 4))) then
            (some ((!(decide (d0.fKind = 5)))))
          else
            some ((false)))
        else
          some ((false)) : Option Bool)).bind fun G3 =>
      bif G3 then
        (some ((false)))
      else
        bif (decide (d0.fKind = 5)) then
          (some ((decide (((d0.fKeys.length : Nat) : Int) = ((d0.fList.length : Nat) : Int)))))
        else
          some ((decide (((d0.fKeys.length : Nat) : Int) = 0)))
set_option maxRecDepth 20000 in
theorem ref03_plain_ok (n : Nat) (M : Mem) (c0 : List Value) (d0 : TE0) (h0 : Rep M (emb_TE0 d0) c0) (r : Bool) (hF : ref03_plain n d0 = some r) : Ok Tryz.prog M 77 [.agg c0.toArray] (fun _ v => v = .bool r) := by
 unfold ref03_plain at hF
 intro M1 hM0 w0 H w p0
 replace h0 := Rep.mono hM0 _ _ h0
 obtain ⟨Z1, P1, Z2, P2, rfl, B1, B2⟩ := TE0.opn h0
 refine R_enter 66 Tryz.func77 rfl rfl (by simp) fun a0 f0 => RR (Y13 (cs := #[.int .i8 d0.fKind, .bool d0.fBool, .int .i64 d0.fNum, S d0.fText, .slice Z1 d0.fList.length P1, .slice Z2 d0.fKeys.length P2]) (T := 26) f0 p0 fun Q1 V1 W1 J1 R1 N1 _ f => ?_)
 have R2 := fz_box R1
 refine Y f 1 fun _ f => eT (R_seq (R_seq ?_))
 obtain ⟨j_1, hj_1, F1⟩ := bS hF
 refine R_mid (fun a_10 W2 => ∃ G1 : Bool, j_1 = G1 ∧ ∃ V2 : Mem, V1.le V2 ∧ Frm 66 [(1, .pointer (some (⟨Q1, 0, none⟩))), (10, .bool G1)] a_10 ∧ Hp w0 V2 (H) W2) ?_ ?_
 ·refine R_reg (Y f 1 fun _ f => Y15 f N1 R2 0 rfl fun _ f => Y f 2 fun _ f => ?_)
  rcases cE hj_1 with ⟨B3, F2⟩ | ⟨B3, F3⟩
  ·have U1 := dI.1 B3
   have f := f.st 6 (cB B3)
   refine Y f 4 fun _ f => eT ?_
   exact ⟨(true), (sI F2).symm, V1, (mR _), f.kp, N1⟩
  ·have U2 := iff_f dI B3
   have f := f.st 6 (cB B3)
   refine Y f 1 fun _ f => Y15 f N1 R2 0 rfl fun _ f => Y f 2 fun _ f => eT ?_
   exact ⟨(decide ((5 : Int) < d0.fKind)), (sI F3).symm, V1, (mR _), f.kp, N1⟩
 ·rintro a_10 W2 ⟨G1, hq_1, V2, J2, f, N2⟩
  subst j_1
  refine T_n (RcF f F1 (fun B4 F4 => ?_) fun B4 F5 => ?_)
  ·refine RR (Y f 1 fun _ f => eT (wp_ret (T_r (E_ret1 f rfl (by kernel_rfl : Vc.look _ 2 = some (.bool false)) ?_))))
   obtain rfl := sI F4
   exact ⟨_, rfl, V2, (J1.trans J2), N2, rfl⟩
  ·refine wp_skip (T_n (R_seq (R_seq ?_)))
   obtain ⟨j_2, hj_2, F6⟩ := bS F5
   refine R_mid (fun a_65 W3 => ∃ G2 : Bool, j_2 = G2 ∧ ∃ V3 : Mem, V2.le V3 ∧ Frm 66 [(1, .pointer (some (⟨Q1, 0, none⟩))), (37, .bool G2)] a_65 ∧ Hp w0 V3 (H) W3) ?_ ?_
   ·refine R_reg (Y f 1 fun _ f => Y15 f N2 (fzu J2 R2) 1 rfl fun _ f => Y f 1 fun _ f => ?_)
    rcases cE hj_2 with ⟨B5, F7⟩ | ⟨B5, F18⟩
    ·have f := f.st 13 (cB B5)
     refine Y f 1 fun _ f => Y15 f N2 (fzu J2 R2) 0 rfl fun _ f => Y f 3 fun _ f => ?_
     rcases cE F7 with ⟨B6, F8⟩ | ⟨B6, F9⟩
     ·have U6 : ¬ (d0.fKind = 1) := (not_iff dI).1 B6
      have f := f.st 18 (cB B6)
      refine Y f 19 fun _ f => eT ?_
      exact ⟨(true), (sI F8).symm, V2, (mR _), f.kp, N2⟩
     ·have U7 : ¬ (¬ (d0.fKind = 1)) := iff_f (not_iff dI) B6
      have f := f.st 18 (cB B6)
      refine Y f 1 fun _ f => Y15 f N2 (fzu J2 R2) 2 rfl fun _ f => Y f 2 fun _ f => ?_
      rcases cE F9 with ⟨B7, F10⟩ | ⟨B7, F15⟩
      ·have U8 : ¬ (d0.fNum = 0) := (not_iff dI).1 B7
       have f := f.st 22 (cB B7)
       refine Y f 1 fun _ f => Y15 f N2 (fzu J2 R2) 0 rfl fun _ f => Y f 4 fun _ f => ?_
       rcases cE F10 with ⟨B8, F11⟩ | ⟨B8, F12⟩
       ·have U9 : ¬ (d0.fKind = 2) := (not_iff dI).1 B8
        have f := f.st 28 (cB B8)
        refine Y f 9 fun _ f => eT ?_
        exact ⟨(true), (sI F11).symm, V2, (mR _), f.kp, N2⟩
       ·have U10 : ¬ (¬ (d0.fKind = 2)) := iff_f (not_iff dI) B8
        have f := f.st 28 (cB B8)
        refine Y f 1 fun _ f => Y15 f N2 (fzu J2 R2) 3 rfl fun _ f => Z f (Y41 rfl (l := d0.fText) (m := [])) fun _ f => Y f 1 fun _ f => ?_
        rcases cE F12 with ⟨B9, F13⟩ | ⟨B9, F14⟩
        ·have U11 : ¬ (d0.fText = []) := (not_iff dI).1 B9
         have f := f.st 32 (cB B9)
         refine Y f 1 fun _ f => Y15 f N2 (fzu J2 R2) 0 rfl fun _ f => Y f 3 fun _ f => eT ?_
         exact ⟨(!(decide (d0.fKind = 3))), (sI F13).symm, V2, (mR _), f.kp, N2⟩
        ·have U12 : ¬ (¬ (d0.fText = [])) := iff_f (not_iff dI) B9
         have f := f.st 32 (cB B9)
         refine Y f 5 fun _ f => eT ?_
         exact ⟨(false), (sI F14).symm, V2, (mR _), f.kp, N2⟩
      ·have U13 : ¬ (¬ (d0.fNum = 0)) := iff_f (not_iff dI) B7
       have f := f.st 22 (cB B7)
       refine Y f 7 fun _ f => Y15 f N2 (fzu J2 R2) 3 rfl fun _ f => Z f (Y41 rfl (l := d0.fText) (m := [])) fun _ f => Y f 1 fun _ f => ?_
       rcases cE F15 with ⟨B10, F16⟩ | ⟨B10, F17⟩
       ·have U14 : ¬ (d0.fText = []) := (not_iff dI).1 B10
        have f := f.st 32 (cB B10)
        refine Y f 1 fun _ f => Y15 f N2 (fzu J2 R2) 0 rfl fun _ f => Y f 3 fun _ f => eT ?_
        exact ⟨(!(decide (d0.fKind = 3))), (sI F16).symm, V2, (mR _), f.kp, N2⟩
       ·have U15 : ¬ (¬ (d0.fText = [])) := iff_f (not_iff dI) B10
        have f := f.st 32 (cB B10)
        refine Y f 5 fun _ f => eT ?_
        exact ⟨(false), (sI F17).symm, V2, (mR _), f.kp, N2⟩
    ·have f := f.st 13 (cB B5)
     refine Y f 6 fun _ f => Y15 f N2 (fzu J2 R2) 2 rfl fun _ f => Y f 2 fun _ f => ?_
     rcases cE F18 with ⟨B11, F19⟩ | ⟨B11, F24⟩
     ·have U17 : ¬ (d0.fNum = 0) := (not_iff dI).1 B11
      have f := f.st 22 (cB B11)
      refine Y f 1 fun _ f => Y15 f N2 (fzu J2 R2) 0 rfl fun _ f => Y f 4 fun _ f => ?_
      rcases cE F19 with ⟨B12, F20⟩ | ⟨B12, F21⟩
      ·have U18 : ¬ (d0.fKind = 2) := (not_iff dI).1 B12
       have f := f.st 28 (cB B12)
       refine Y f 9 fun _ f => eT ?_
       exact ⟨(true), (sI F20).symm, V2, (mR _), f.kp, N2⟩
      ·have U19 : ¬ (¬ (d0.fKind = 2)) := iff_f (not_iff dI) B12
       have f := f.st 28 (cB B12)
       refine Y f 1 fun _ f => Y15 f N2 (fzu J2 R2) 3 rfl fun _ f => Z f (Y41 rfl (l := d0.fText) (m := [])) fun _ f => Y f 1 fun _ f => ?_
       rcases cE F21 with ⟨B13, F22⟩ | ⟨B13, F23⟩
       ·have U20 : ¬ (d0.fText = []) := (not_iff dI).1 B13
        have f := f.st 32 (cB B13)
        refine Y f 1 fun _ f => Y15 f N2 (fzu J2 R2) 0 rfl fun _ f => Y f 3 fun _ f => eT ?_
        exact ⟨(!(decide (d0.fKind = 3))), (sI F22).symm, V2, (mR _), f.kp, N2⟩
       ·have U21 : ¬ (¬ (d0.fText = [])) := iff_f (not_iff dI) B13
        have f := f.st 32 (cB B13)
        refine Y f 5 fun _ f => eT ?_
        exact ⟨(false), (sI F23).symm, V2, (mR _), f.kp, N2⟩
     ·have U22 : ¬ (¬ (d0.fNum = 0)) := iff_f (not_iff dI) B11
      have f := f.st 22 (cB B11)
      refine Y f 7 fun _ f => Y15 f N2 (fzu J2 R2) 3 rfl fun _ f => Z f (Y41 rfl (l := d0.fText) (m := [])) fun _ f => Y f 1 fun _ f => ?_
      rcases cE F24 with ⟨B14, F25⟩ | ⟨B14, F26⟩
      ·have U23 : ¬ (d0.fText = []) := (not_iff dI).1 B14
       have f := f.st 32 (cB B14)
       refine Y f 1 fun _ f => Y15 f N2 (fzu J2 R2) 0 rfl fun _ f => Y f 3 fun _ f => eT ?_
       exact ⟨(!(decide (d0.fKind = 3))), (sI F25).symm, V2, (mR _), f.kp, N2⟩
      ·have U24 : ¬ (¬ (d0.fText = [])) := iff_f (not_iff dI) B14
       have f := f.st 32 (cB B14)
       refine Y f 5 fun _ f => eT ?_
       exact ⟨(false), (sI F26).symm, V2, (mR _), f.kp, N2⟩
   ·rintro a_65 W3 ⟨G2, hq_2, V3, J3, f, N3⟩
    subst j_2
    refine T_n (RcF f F6 (fun B15 F27 => ?_) fun B15 F28 => ?_)
    ·refine RR (Y f 1 fun _ f => eT (wp_ret (T_r (E_ret1 f rfl (by kernel_rfl : Vc.look _ 2 = some (.bool false)) ?_))))
     obtain rfl := sI F27
     exact ⟨_, rfl, V3, ((J1.trans J2).trans J3), N3, rfl⟩
    ·refine wp_skip (T_n (R_seq (R_seq ?_)))
     obtain ⟨j_3, hj_3, F29⟩ := bS F28
     refine R_mid (fun a_78 W4 => ∃ G3 : Bool, j_3 = G3 ∧ ∃ V4 : Mem, V3.le V4 ∧ Frm 66 [(1, .pointer (some (⟨Q1, 0, none⟩))), (51, .bool G3)] a_78 ∧ Hp w0 V4 (H) W4) ?_ ?_
     ·refine R_reg (Y f 1 fun _ f => Y15 f N3 (fzu (J2.trans J3) R2) 4 rfl fun _ f => Y f 3 fun _ f => ?_)
      rcases cE hj_3 with ⟨B16, F30⟩ | ⟨B16, F33⟩
      ·have U27 := dI.1 B16
       have f := f.st 42 (cB B16)
       refine Y f 1 fun _ f => Y15 f N3 (fzu (J2.trans J3) R2) 0 rfl fun _ f => Y f 3 fun _ f => ?_
       rcases cE F30 with ⟨B17, F31⟩ | ⟨B17, F32⟩
       ·have U28 : ¬ (d0.fKind = 4) := (not_iff dI).1 B17
        have f := f.st 47 (cB B17)
        refine Y f 1 fun _ f => Y15 f N3 (fzu (J2.trans J3) R2) 0 rfl fun _ f => Y f 2 fun _ f => eT ?_
        exact ⟨(!(decide (d0.fKind = 5))), (sI F31).symm, V3, (mR _), f.kp, N3⟩
       ·have U29 : ¬ (¬ (d0.fKind = 4)) := iff_f (not_iff dI) B17
        have f := f.st 47 (cB B17)
        refine Y f 4 fun _ f => eT ?_
        exact ⟨(false), (sI F32).symm, V3, (mR _), f.kp, N3⟩
      ·have U30 := iff_f dI B16
       have f := f.st 42 (cB B16)
       refine Y f 9 fun _ f => eT ?_
       exact ⟨(false), (sI F33).symm, V3, (mR _), f.kp, N3⟩
     ·rintro a_78 W4 ⟨G3, hq_3, V4, J4, f, N4⟩
      subst j_3
      refine T_n (RcF f F29 (fun B18 F34 => ?_) fun B18 F35 => ?_)
      ·refine RR (Y f 1 fun _ f => eT (wp_ret (T_r (E_ret1 f rfl (by kernel_rfl : Vc.look _ 2 = some (.bool false)) ?_))))
       obtain rfl := sI F34
       exact ⟨_, rfl, V4, (((J1.trans J2).trans J3).trans J4), N4, rfl⟩
      ·refine wp_skip (T_n (R_seq (RR (Y f 1 fun _ f => Y15 f N4 (fzu ((J2.trans J3).trans J4) R2) 0 rfl fun _ f => Y f 1 fun _ f => eT (RcF f F35 (fun B19 F36 => ?_) fun B19 F37 => ?_)))))
       ·have U33 := dI.1 B19
        refine RR (Y f 1 fun _ f => Y15 f N4 (fzu ((J2.trans J3).trans J4) R2) 5 rfl fun _ f => Y f 2 fun _ f => Y15 f N4 (fzu ((J2.trans J3).trans J4) R2) 4 rfl fun _ f => Y f 3 fun _ f => eT (wp_ret (T_r (E_ret1 f rfl (by kernel_rfl : Vc.look _ 2 = some (.bool (decide (((d0.fKeys.length : Nat) : Int) = ((d0.fList.length : Nat) : Int))))) ?_))))
        obtain rfl := sI F36
        exact ⟨_, rfl, V4, (((J1.trans J2).trans J3).trans J4), N4, rfl⟩
       ·have U34 := iff_f dI B19
        refine wp_skip (T_n (RR (Y f 1 fun _ f => Y15 f N4 (fzu ((J2.trans J3).trans J4) R2) 5 rfl fun _ f => Y f 3 fun _ f => eT (wp_ret (E_ret1 f rfl (by kernel_rfl : Vc.look _ 2 = some (.bool (decide (((d0.fKeys.length : Nat) : Int) = 0)))) ?_)))))
        obtain rfl := sI F37
        exact ⟨_, rfl, V4, (((J1.trans J2).trans J3).trans J4), N4, rfl⟩
def ref03_wrong_s1 (n : Nat) (d0 : TE0) (K1 : Int) : Option (Lp Int (Sum Unit Unit)) :=
    bif (decide (K1 < ((d0.fKeys.length : Nat) : Int))) then
      ((getI d0.fKeys K1).bind fun X3 =>
      (ref01_Valid n X3).bind fun X4 =>
      bif !X4 then
        (some (.br (.inl ())))
      else
        need (inR .i64 (K1 + 1)) <|
        some (.nx (K1 + 1)))
    else
      some (.br (.inr ()))
def ref03_wrong_s3 (n : Nat) (d0 : TE0) (K2 : Int) (K3 : Int) : Option (Lp Int (Sum Unit Unit)) :=
    bif (decide (K3 < K2)) then
      ((getI d0.fKeys K3).bind fun X5 =>
      (getI d0.fKeys K2).bind fun X6 =>
      bif (decide (X5 = X6)) then
        (some (.br (.inl ())))
      else
        need (inR .i64 (K3 + 1)) <|
        some (.nx (K3 + 1)))
    else
      some (.br (.inr ()))
def ref03_wrong_s2 (n : Nat) (d0 : TE0) (K2 : Int) : Option (Lp Int (Sum Unit Unit)) :=
    bif (decide (K2 < ((d0.fKeys.length : Nat) : Int))) then
      ((loopF (ref03_wrong_s3 n d0 K2) n (0 : Int)).bind fun Q4 =>
      (match Q4 with 
      | .inl G4 => some (.br (.inl ())) 
      | .inr G5 => need (inR .i64 (K2 + 1)) <|
        some (.nx (K2 + 1))))
    else
      some (.br (.inr ()))
def ref03_wrong_s4 (n : Nat) (rec_ref03_wrong : TE0 → Option Int) (d0 : TE0) (K4 : Int) : Option (Lp Int (Sum Int Unit)) :=
    bif (decide (K4 < ((d0.fList.length : Nat) : Int))) then
      ((getI d0.fList K4).bind fun X7 =>
      (rec_ref03_wrong X7).bind fun X8 =>
      bif (!(decide (X8 = 0))) then
        (some (.br (.inl X8)))
      else
        need (inR .i64 (K4 + 1)) <|
        some (.nx (K4 + 1)))
    else
      some (.br (.inr ()))
def ref03_wrong_b (n : Nat) (rec_ref03_wrong : TE0 → Option Int) (d0 : TE0) : Option Int :=
  (ref03_plain n d0).bind fun X1 =>
  bif !X1 then
    (some ((2 : Int)))
  else
    ((bif (decide (d0.fNum < (-9007199254740992))) then
        (some ((true)))
      else
        some ((decide ((9007199254740992 : Int) < d0.fNum))) : Option Bool)).bind fun G1 =>
    bif G1 then
      (some ((20 : Int)))
    else
      (ref01_Valid n d0.fText).bind fun X2 =>
      bif !X2 then
        (some ((10 : Int)))
      else
        (loopF (ref03_wrong_s1 n d0) n (0 : Int)).bind fun Q2 =>
        (match Q2 with 
        | .inl G2 => some ((10 : Int)) 
        | .inr G3 => (loopF (ref03_wrong_s2 n d0) n (0 : Int)).bind fun Q3 =>
          (match Q3 with 
          | .inl G6 => some ((41 : Int)) 
          | .inr G7 => (loopF (ref03_wrong_s4 n rec_ref03_wrong d0) n (0 : Int)).bind fun Q5 =>
            (match Q5 with 
            | .inl G8 => some (G8) 
            | .inr G9 => some ((0 : Int)))))
set_option maxRecDepth 20000 in
theorem ref03_wrong_b_ok (n : Nat) (rec_ref03_wrong : TE0 → Option Int) (hrec_ref03_wrong : ∀ (M : Mem) (c0 : List Value) (d0 : TE0) (h0 : Rep M (emb_TE0 d0) c0) (r : Int) (hF : rec_ref03_wrong d0 = some r), Ok Tryz.prog M 52 [.agg c0.toArray] (fun _ v => v = .int .i64 r)) (M : Mem) (c0 : List Value) (d0 : TE0) (h0 : Rep M (emb_TE0 d0) c0) (r : Int) (hF : ref03_wrong_b n rec_ref03_wrong d0 = some r) : Ok Tryz.prog M 52 [.agg c0.toArray] (fun _ v => v = .int .i64 r) := by
 unfold ref03_wrong_b at hF
 intro M1 hM0 w0 H w p0
 replace h0 := Rep.mono hM0 _ _ h0
 obtain ⟨Z1, P1, Z2, P2, rfl, B1, B2⟩ := TE0.opn h0
 refine R_enter 76 Tryz.func52 rfl rfl (by simp) fun a0 f0 => RR (Y13 (cs := #[.int .i8 d0.fKind, .bool d0.fBool, .int .i64 d0.fNum, S d0.fText, .slice Z1 d0.fList.length P1, .slice Z2 d0.fKeys.length P2]) (T := 26) f0 p0 fun Q1 V1 W1 J1 R1 N1 _ f => ?_)
 have R2 := fz_box R1
 refine Y f 1 fun _ f => eT (R_seq (RR (Z (v := .agg #[.int .i8 d0.fKind, .bool d0.fBool, .int .i64 d0.fNum, S d0.fText, .slice Z1 d0.fList.length P1, .slice Z2 d0.fKeys.length P2]) f (Y34 (cs := [.int .i8 d0.fKind, .bool d0.fBool, .int .i64 d0.fNum, S d0.fText, .slice Z1 d0.fList.length P1, .slice Z2 d0.fKeys.length P2]) rfl (ad := ⟨Q1, 0, none⟩) (fun j v h => N1.cell (R2 j v h))) fun _ f => ?_)))
 obtain ⟨X1, S1, F1⟩ := bS hF
 refine Y18 f N1 (ref03_plain_ok n _ _ d0 (TE0.shutx (x := d0) (B1.mono J1) (B2.mono J1)) X1 S1) fun W2 N2 _ f => Y f 1 fun _ f => eT (RcF f F1 (fun B3 F2 => ?_) fun B3 F3 => ?_)
 ·have U1 : (X1) = false := by simpa using B3
  refine RR (Y f 1 fun _ f => eT (wp_ret (T_r (E_ret1 f rfl (by kernel_rfl : Vc.look _ 2 = some (.int .i64 2)) ?_))))
  obtain rfl := sI F2
  exact ⟨_, rfl, V1, J1, N2, rfl⟩
 ·have U2 : (X1) = true := by simpa using B3
  refine wp_skip (T_n (R_seq (R_seq ?_)))
  obtain ⟨j_1, hj_1, F4⟩ := bS F3
  refine R_mid (fun a_14 W3 => ∃ G1 : Bool, j_1 = G1 ∧ ∃ V2 : Mem, V1.le V2 ∧ Frm 76 [(1, .pointer (some (⟨Q1, 0, none⟩))), (18, .bool G1)] a_14 ∧ Hp w0 V2 (H) W3) ?_ ?_
  ·refine R_reg (Y f 1 fun _ f => Y15 f N2 R2 2 rfl fun _ f => Y f 2 fun _ f => ?_)
   rcases cE hj_1 with ⟨B4, F5⟩ | ⟨B4, F6⟩
   ·have U3 := dI.1 B4
    have f := f.st 14 (cB B4)
    refine Y f 4 fun _ f => eT ?_
    exact ⟨(true), (sI F5).symm, V1, (mR _), f.kp, N2⟩
   ·have U4 := iff_f dI B4
    have f := f.st 14 (cB B4)
    refine Y f 1 fun _ f => Y15 f N2 R2 2 rfl fun _ f => Y f 2 fun _ f => eT ?_
    exact ⟨(decide ((9007199254740992 : Int) < d0.fNum)), (sI F6).symm, V1, (mR _), f.kp, N2⟩
  ·rintro a_14 W3 ⟨G1, hq_1, V2, J2, f, N3⟩
   subst j_1
   refine T_n (RcF f F4 (fun B5 F7 => ?_) fun B5 F8 => ?_)
   ·refine RR (Y f 1 fun _ f => eT (wp_ret (T_r (E_ret1 f rfl (by kernel_rfl : Vc.look _ 2 = some (.int .i64 20)) ?_))))
    obtain rfl := sI F7
    exact ⟨_, rfl, V2, (J1.trans J2), N3, rfl⟩
   ·refine wp_skip (T_n (R_seq (RR (Y f 1 fun _ f => Y15 f N3 (fzu J2 R2) 3 rfl fun _ f => ?_))))
    obtain ⟨X2, S2, F9⟩ := bS F8
    refine Y18 f N3 (ref01_Valid_ok n _ d0.fText X2 S2) fun W4 N4 _ f => Y f 1 fun _ f => eT (RcF f F9 (fun B6 F10 => ?_) fun B6 F11 => ?_)
    ·have U7 : (X2) = false := by simpa using B6
     refine RR (Y f 1 fun _ f => eT (wp_ret (T_r (E_ret1 f rfl (by kernel_rfl : Vc.look _ 2 = some (.int .i64 10)) ?_))))
     obtain rfl := sI F10
     exact ⟨_, rfl, V2, (J1.trans J2), N4, rfl⟩
    ·have U8 : (X2) = true := by simpa using B6
     refine wp_skip (T_n (R_seq (RR (Y f 1 fun _ f => eT (wp_block ?_)))))
     obtain ⟨Q2, hL_1, F12⟩ := bS F11
     refine wp_mono (Q := fun e a w => (e = .ret ∧ (∃ G2 : Unit, Q2 = .inl G2 ∧ ∃ V4 : Mem, V2.le V4 ∧ Frm 76 [(2, .int .i64 10)] a ∧ Hp w0 V4 (H) w)) ∨ (e = .exit 0 ∧ (∃ G3 : Unit, Q2 = .inr G3 ∧ ∃ V5 : Mem, V2.le V5 ∧ Frm 76 [(1, .pointer (some (⟨Q1, 0, none⟩)))] a ∧ Hp w0 V5 (H) w))) (R_loop (n := 76) (w0 := w0) (M := V2) (fun (x : Nat × Int) => match x with | (I1, K1) => [(1, .pointer (some (⟨Q1, 0, none⟩))), (3, .int .i64 K1)]) (fun (x : Nat × Int) => match x with | (I1, K1) => (H)) (fun (x : Nat × Int) (MM : Mem) => match x with | (I1, K1) => loopF (ref03_wrong_s1 n d0) I1 K1 = some Q2) (fun (x : Nat × Int) => match x with | (I1, K1) => I1) (n, (0 : Int)) (f.kp) N4 hL_1 ?_) ?_
     ·rintro ⟨I1, K1⟩ V3 _ W5 J3 I_1 f N5
      have I_1L := I_1
      obtain ⟨I2, r_1, rfl, hs_1, T1⟩ := loop_step I_1L
      unfold ref03_wrong_s1 at hs_1
      refine R_seq (RR (Y f 2 fun _ f => Y15 f N5 (fzu (J2.trans J3) R2) 5 rfl fun _ f => Y f 2 fun _ f => eT (RcF f hs_1 (fun B7 F13 => ?_) fun B7 F19 => ?_)))
      ·have U9 := dI.1 B7
       refine wp_skip (T_n (R_seq (wp_block (RR (Y f 1 fun _ f => Y15 f N5 (fzu (J2.trans J3) R2) 5 rfl fun _ f => Y f 1 fun _ f => ?_)))))
       obtain ⟨X3, S3, F14⟩ := bS F13
       obtain ⟨C1, c_1, e_1, -, D1, R3⟩ := Sli.at_ (B2.mono ((J1.trans J2).trans J3)) S3
       obtain rfl : c_1 = [S X3] := D1
       refine Z f (Y32 e_1 rfl (len := d0.fKeys.length) (cap := P2) (k := .i64) (i := K1) (e := 9) (sz := 1) (getI_nn S3) (getI_lt S3)) fun _ f => Y15 f N5 R3 0 rfl fun _ f => ?_
       obtain ⟨X4, S4, F15⟩ := bS F14
       refine Y18 f N5 (ref01_Valid_ok n _ X3 X4 S4) fun W6 N6 _ f => Y f 1 fun _ f => eT (RcF f F15 (fun B8 F16 => ?_) fun B8 F17 => ?_)
       ·have U10 : (X4) = false := by simpa using B8
        refine RR (Y f 1 fun _ f => eT (wp_ret (B_r (T_r (T_r ?_)))))
        obtain rfl := sI F16
        exact .inl ⟨rfl, (), (sI T1).symm, V3, J3, f.kp, N6⟩
       ·have U11 : (X4) = true := by simpa using B8
        refine wp_skip (B_n (T_n (R_reg (Y f 1 fun _ f => ?_))))
        obtain ⟨O1, F18⟩ := nS F17
        refine Y f 1 fun _ f => ?_
        have f := f.st 29 (iW O1)
        refine Y f 1 fun _ f => eT ?_
        obtain rfl := sI F18
        exact ⟨⟨I2, K1 + 1⟩, Nat.lt_succ_self _, V3, J3, T1, f.kp, N6⟩
      ·have U12 := iff_f dI B7
       refine wp_exit (T_x (T_x ?_))
       obtain rfl := sI F19
       exact .inr ⟨rfl, (), (sI T1).symm, V3, J3, f.kp, N5⟩
     ·rintro _ _ W9 (⟨rfl, G2, rfl, V4, J4, f, N7⟩ | ⟨rfl, G3, rfl, V5, J5, f, N8⟩)
      ·refine B_r (T_r (E_ret1 f rfl (by kernel_rfl : Vc.look _ 2 = some (.int .i64 10)) ?_))
       obtain rfl := sI F12
       exact ⟨_, rfl, V4, ((J1.trans J2).trans J4), N7, rfl⟩
      ·refine B_x (T_n (R_seq (RR (Y f 1 fun _ f => eT (wp_block ?_)))))
       obtain ⟨Q3, hL_2, F20⟩ := bS F12
       refine wp_mono (Q := fun e a w => (e = .ret ∧ (∃ G6 : Unit, Q3 = .inl G6 ∧ ∃ V10 : Mem, V5.le V10 ∧ Frm 76 [(2, .int .i64 41)] a ∧ Hp w0 V10 (H) w)) ∨ (e = .exit 2 ∧ (∃ G7 : Unit, Q3 = .inr G7 ∧ ∃ V11 : Mem, V5.le V11 ∧ Frm 76 [(1, .pointer (some (⟨Q1, 0, none⟩)))] a ∧ Hp w0 V11 (H) w))) (R_loop (n := 76) (w0 := w0) (M := V5) (fun (x : Nat × Int) => match x with | (I3, K2) => [(1, .pointer (some (⟨Q1, 0, none⟩))), (4, .int .i64 K2)]) (fun (x : Nat × Int) => match x with | (I3, K2) => (H)) (fun (x : Nat × Int) (MM : Mem) => match x with | (I3, K2) => loopF (ref03_wrong_s2 n d0) I3 K2 = some Q3) (fun (x : Nat × Int) => match x with | (I3, K2) => I3) (n, (0 : Int)) (f.kp) N8 hL_2 ?_) ?_
       ·rintro ⟨I3, K2⟩ V6 _ W10 J6 I_2 f N9
        have I_2L := I_2
        obtain ⟨I4, r_2, rfl, hs_2, T2⟩ := loop_step I_2L
        unfold ref03_wrong_s2 at hs_2
        refine R_seq (RR (Y f 2 fun _ f => Y15 f N9 (fzu ((J2.trans J5).trans J6) R2) 5 rfl fun _ f => Y f 2 fun _ f => eT (RcF f hs_2 (fun B9 F21 => ?_) fun B9 F31 => ?_)))
        ·have U13 := dI.1 B9
         refine wp_skip (T_n (R_seq (wp_block (RR (Y f 1 fun _ f => eT (wp_block ?_))))))
         obtain ⟨Q4, hL_3, F22⟩ := bS F21
         refine wp_mono (Q := fun e a w => (e = .ret ∧ (∃ G4 : Unit, Q4 = .inl G4 ∧ ∃ V8 : Mem, V6.le V8 ∧ Frm 76 [(2, .int .i64 41)] a ∧ Hp w0 V8 (H) w)) ∨ (e = .exit 4 ∧ (∃ G5 : Unit, Q4 = .inr G5 ∧ ∃ V9 : Mem, V6.le V9 ∧ Frm 76 [(1, .pointer (some (⟨Q1, 0, none⟩))), (4, .int .i64 K2)] a ∧ Hp w0 V9 (H) w))) (R_loop (n := 76) (w0 := w0) (M := V6) (fun (x : Nat × Int) => match x with | (I5, K3) => [(1, .pointer (some (⟨Q1, 0, none⟩))), (4, .int .i64 K2), (5, .int .i64 K3)]) (fun (x : Nat × Int) => match x with | (I5, K3) => (H)) (fun (x : Nat × Int) (MM : Mem) => match x with | (I5, K3) => loopF (ref03_wrong_s3 n d0 K2) I5 K3 = some Q4) (fun (x : Nat × Int) => match x with | (I5, K3) => I5) (n, (0 : Int)) (f.kp) N9 hL_3 ?_) ?_
         ·rintro ⟨I5, K3⟩ V7 _ W11 J7 I_3 f N10
          have I_3L := I_3
          obtain ⟨I6, r_3, rfl, hs_3, T3⟩ := loop_step I_3L
          unfold ref03_wrong_s3 at hs_3
          refine R_seq (RR (Y f 3 fun _ f => eT (RcF f hs_3 (fun B10 F23 => ?_) fun B10 F29 => ?_)))
          ·have U14 := dI.1 B10
           refine wp_skip (T_n (R_seq (wp_block (R_seq (R_draw N10 (by kernel_rfl) (by kernel_rfl) (Y5 default f 1 fun _ f => Y4 f (fzu (((J2.trans J5).trans J6).trans J7) R2) 5 rfl fun _ f => Y5 default f 1 fun _ f => ?_))))))
           obtain ⟨X5, S5, F24⟩ := bS F23
           obtain ⟨C2, c_2, e_2, -, D2, R4⟩ := Sli.at_ (B2.mono ((((J1.trans J2).trans J5).trans J6).trans J7)) S5
           obtain rfl : c_2 = [S X5] := D2
           refine Y2 (v := .pointer (some (C2.add (K3.toNat * 1)))) f (fun _ pq => Y32 e_2 rfl (len := d0.fKeys.length) (cap := P2) (k := .i64) (i := K3) (e := 9) (sz := 1) (getI_nn S5) (getI_lt S5)) fun _ f => Y4 f R4 0 rfl fun _ f => Y5 default f 1 fun _ f => Y4 f (fzu (((J2.trans J5).trans J6).trans J7) R2) 5 rfl fun _ f => Y5 default f 1 fun _ f => ?_
           obtain ⟨X6, S6, F25⟩ := bS F24
           obtain ⟨C3, c_3, e_3, -, D3, R5⟩ := Sli.at_ (B2.mono ((((J1.trans J2).trans J5).trans J6).trans J7)) S6
           obtain rfl : c_3 = [S X6] := D3
           refine Y2 (v := .pointer (some (C3.add (K2.toNat * 1)))) f (fun _ pq => Y32 e_3 rfl (len := d0.fKeys.length) (cap := P2) (k := .i64) (i := K2) (e := 9) (sz := 1) (getI_nn S6) (getI_lt S6)) fun _ f => Y4 f R5 0 rfl fun _ f => Y2 (v := .bool (decide (X5 = X6))) f (fun _ pq => Y40 rfl (l := X5) (m := X6)) fun _ f => Q_end rfl ?_
           intro W12 N11
           refine T_n (RcF f F25 (fun B11 F26 => ?_) fun B11 F27 => ?_)
           ·have U15 := dI.1 B11
            refine RR (Y f 1 fun _ f => eT (wp_ret (B_r (T_r (T_r ?_)))))
            obtain rfl := sI F26
            exact .inl ⟨rfl, (), (sI T3).symm, V7, J7, f.kp, N11⟩
           ·have U16 := iff_f dI B11
            refine wp_skip (B_n (T_n (R_reg (Y f 1 fun _ f => ?_))))
            obtain ⟨O2, F28⟩ := nS F27
            refine Y f 1 fun _ f => ?_
            have f := f.st 48 (iW O2)
            refine Y f 1 fun _ f => eT ?_
            obtain rfl := sI F28
            exact ⟨⟨I6, K3 + 1⟩, Nat.lt_succ_self _, V7, J7, T3, f.kp, N11⟩
          ·have U17 := iff_f dI B10
           refine wp_exit (T_x (T_x ?_))
           obtain rfl := sI F29
           exact .inr ⟨rfl, (), (sI T3).symm, V7, J7, f.kp, N10⟩
         ·rintro _ _ W15 (⟨rfl, G4, rfl, V8, J8, f, N12⟩ | ⟨rfl, G5, rfl, V9, J9, f, N13⟩)
          ·refine B_r (B_r (T_r (T_r ?_)))
           obtain rfl := sI F22
           exact .inl ⟨rfl, (), (sI T2).symm, V8, (J6.trans J8), f.kp, N12⟩
          ·refine B_x (B_n (T_n (R_reg (Y f 1 fun _ f => ?_))))
           obtain ⟨O3, F30⟩ := nS F22
           refine Y f 1 fun _ f => ?_
           have f := f.st 43 (iW O3)
           refine Y f 1 fun _ f => eT ?_
           obtain rfl := sI F30
           exact ⟨⟨I4, K2 + 1⟩, Nat.lt_succ_self _, V9, (J6.trans J9), T2, f.kp, N13⟩
        ·have U18 := iff_f dI B9
         refine wp_exit (T_x (T_x ?_))
         obtain rfl := sI F31
         exact .inr ⟨rfl, (), (sI T2).symm, V6, J6, f.kp, N9⟩
       ·rintro _ _ W18 (⟨rfl, G6, rfl, V10, J10, f, N14⟩ | ⟨rfl, G7, rfl, V11, J11, f, N15⟩)
        ·refine B_r (T_r (E_ret1 f rfl (by kernel_rfl : Vc.look _ 2 = some (.int .i64 41)) ?_))
         obtain rfl := sI F20
         exact ⟨_, rfl, V10, (((J1.trans J2).trans J5).trans J10), N14, rfl⟩
        ·refine B_x (T_n (R_seq (RR (Y f 1 fun _ f => eT (wp_block ?_)))))
         obtain ⟨Q5, hL_4, F32⟩ := bS F20
         refine wp_mono (Q := fun e a w => (e = .ret ∧ (∃ G8 : Int, Q5 = .inl G8 ∧ ∃ V13 : Mem, V11.le V13 ∧ Frm 76 [(2, .int .i64 G8)] a ∧ Hp w0 V13 (H) w)) ∨ (e = .exit 6 ∧ (∃ G9 : Unit, Q5 = .inr G9 ∧ ∃ V14 : Mem, V11.le V14 ∧ Frm 76 [] a ∧ Hp w0 V14 (H) w))) (R_loop (n := 76) (w0 := w0) (M := V11) (fun (x : Nat × Int) => match x with | (I7, K4) => [(1, .pointer (some (⟨Q1, 0, none⟩))), (6, .int .i64 K4)]) (fun (x : Nat × Int) => match x with | (I7, K4) => (H)) (fun (x : Nat × Int) (MM : Mem) => match x with | (I7, K4) => loopF (ref03_wrong_s4 n rec_ref03_wrong d0) I7 K4 = some Q5) (fun (x : Nat × Int) => match x with | (I7, K4) => I7) (n, (0 : Int)) (f.kp) N15 hL_4 ?_) ?_
         ·rintro ⟨I7, K4⟩ V12 _ W19 J12 I_4 f N16
          have I_4L := I_4
          obtain ⟨I8, r_4, rfl, hs_4, T4⟩ := loop_step I_4L
          unfold ref03_wrong_s4 at hs_4
          refine R_seq (RR (Y f 2 fun _ f => Y15 f N16 (fzu (((J2.trans J5).trans J11).trans J12) R2) 4 rfl fun _ f => Y f 2 fun _ f => eT (RcF f hs_4 (fun B12 F33 => ?_) fun B12 F39 => ?_)))
          ·have U19 := dI.1 B12
           refine wp_skip (T_n (R_seq (wp_block (RR (Y f 1 fun _ f => Y15 f N16 (fzu (((J2.trans J5).trans J11).trans J12) R2) 4 rfl fun _ f => Y f 1 fun _ f => ?_)))))
           obtain ⟨X7, S7, F34⟩ := bS F33
           obtain ⟨C4, c_4, e_4, -, D4, R6⟩ := Sli.at_ (B1.mono ((((J1.trans J2).trans J5).trans J11).trans J12)) S7
           obtain ⟨Z3, P3, Z4, P4, rfl, B13, B14⟩ := TE0.opn D4
           refine Z f (Y32 e_4 rfl (len := d0.fList.length) (cap := P1) (k := .i64) (i := K4) (e := 26) (sz := 6) (getI_nn S7) (getI_lt S7)) fun _ f => Z (v := .agg #[.int .i8 X7.fKind, .bool X7.fBool, .int .i64 X7.fNum, S X7.fText, .slice Z3 X7.fList.length P3, .slice Z4 X7.fKeys.length P4]) f (Y34 (cs := [.int .i8 X7.fKind, .bool X7.fBool, .int .i64 X7.fNum, S X7.fText, .slice Z3 X7.fList.length P3, .slice Z4 X7.fKeys.length P4]) rfl (ad := C4.add (K4.toNat * 6)) (fun j v h => N16.cell (R6 j v h))) fun _ f => ?_
           obtain ⟨X8, S8, F35⟩ := bS F34
           refine Y18 f N16 (hrec_ref03_wrong _ _ X7 (TE0.shutx (x := X7) B13 B14) X8 S8) fun W20 N17 _ f => Y f 1 fun _ f => eT (RR (Y f 2 fun _ f => eT (RcF f F35 (fun B15 F36 => ?_) fun B15 F37 => ?_)))
           ·have U20 : ¬ (X8 = 0) := (not_iff dI).1 B15
            refine RR (Y f 2 fun _ f => eT (wp_ret (B_r (T_r (T_r ?_)))))
            obtain rfl := sI F36
            exact .inl ⟨rfl, X8, (sI T4).symm, V12, J12, f.kp, N17⟩
           ·have U21 : ¬ (¬ (X8 = 0)) := iff_f (not_iff dI) B15
            refine wp_skip (B_n (T_n (R_reg (Y f 1 fun _ f => ?_))))
            obtain ⟨O4, F38⟩ := nS F37
            refine Y f 1 fun _ f => ?_
            have f := f.st 66 (iW O4)
            refine Y f 1 fun _ f => eT ?_
            obtain rfl := sI F38
            exact ⟨⟨I8, K4 + 1⟩, Nat.lt_succ_self _, V12, J12, T4, f.kp, N17⟩
          ·have U22 := iff_f dI B12
           refine wp_exit (T_x (T_x ?_))
           obtain rfl := sI F39
           exact .inr ⟨rfl, (), (sI T4).symm, V12, J12, f.kp, N16⟩
         ·rintro _ _ W23 (⟨rfl, G8, rfl, V13, J13, f, N18⟩ | ⟨rfl, G9, rfl, V14, J14, f, N19⟩)
          ·refine B_r (T_r (E_ret1 f rfl (by kernel_rfl : Vc.look _ 2 = some (.int .i64 G8)) ?_))
           obtain rfl := sI F32
           exact ⟨_, rfl, V13, ((((J1.trans J2).trans J5).trans J11).trans J13), N18, rfl⟩
          ·refine B_x (T_n (RR (Y f 1 fun _ f => eT (wp_ret (E_ret1 f rfl (by kernel_rfl : Vc.look _ 2 = some (.int .i64 0)) ?_)))))
           obtain rfl := sI F32
           exact ⟨_, rfl, V14, ((((J1.trans J2).trans J5).trans J11).trans J14), N19, rfl⟩
def ref03_wrong_k (n : Nat) : Nat → TE0 → Option Int
  | 0 => fun _ => none
  | k + 1 => ref03_wrong_b n (ref03_wrong_k n k)
def ref03_wrong (n : Nat) (d0 : TE0) : Option Int := ref03_wrong_k n n d0
theorem ref03_wrong_ok (n : Nat) (M : Mem) (c0 : List Value) (d0 : TE0) (h0 : Rep M (emb_TE0 d0) c0) (r : Int) (hF : ref03_wrong n d0 = some r) : Ok Tryz.prog M 52 [.agg c0.toArray] (fun _ v => v = .int .i64 r) := by
 have key : ∀ (k : Nat) (M : Mem) (c0 : List Value) (d0 : TE0) (h0 : Rep M (emb_TE0 d0) c0) (r : Int) (hF : ref03_wrong_k n k d0 = some r), Ok Tryz.prog M 52 [.agg c0.toArray] (fun _ v => v = .int .i64 r) := by
  intro k
  induction k with
  | zero => intro M c0 d0 h0 r hF; simp [ref03_wrong_k] at hF
  | succ k ih => intro M c0 d0 h0 r hF; exact ref03_wrong_b_ok n (ref03_wrong_k n k) ih M c0 d0 h0 r hF
 exact key n M c0 d0 h0 r hF
def ref03_Check (n : Nat) (d0 : TE0) : Option Int :=
  (ref03_deeper n d0 (24 : Int)).bind fun X1 =>
  bif X1 then
    (some ((30 : Int)))
  else
    (ref03_wrong n d0).bind fun X2 =>
    bif (!(decide (X2 = 0))) then
      (some (X2))
    else
      (ref03_Count n d0).bind fun X3 =>
      bif (decide ((4096 : Int) < X3)) then
        (some ((3 : Int)))
      else
        some ((0 : Int))
theorem ref03_Check_ok (n : Nat) (M : Mem) (c0 : List Value) (d0 : TE0) (h0 : Rep M (emb_TE0 d0) c0) (r : Int) (hF : ref03_Check n d0 = some r) : Ok Tryz.prog M 33 [.agg c0.toArray] (fun _ v => v = .int .i64 r) := by
 unfold ref03_Check at hF
 intro M1 hM0 w0 H w p0
 replace h0 := Rep.mono hM0 _ _ h0
 obtain ⟨Z1, P1, Z2, P2, rfl, B1, B2⟩ := TE0.opn h0
 refine R_enter 14 Tryz.func33 rfl rfl (by simp) fun a0 f0 => RR (Y13 (cs := #[.int .i8 d0.fKind, .bool d0.fBool, .int .i64 d0.fNum, S d0.fText, .slice Z1 d0.fList.length P1, .slice Z2 d0.fKeys.length P2]) (T := 26) f0 p0 fun Q1 V1 W1 J1 R1 N1 _ f => ?_)
 have R2 := fz_box R1
 refine Y f 1 fun _ f => eT (R_seq (RR (Z (v := .agg #[.int .i8 d0.fKind, .bool d0.fBool, .int .i64 d0.fNum, S d0.fText, .slice Z1 d0.fList.length P1, .slice Z2 d0.fKeys.length P2]) f (Y34 (cs := [.int .i8 d0.fKind, .bool d0.fBool, .int .i64 d0.fNum, S d0.fText, .slice Z1 d0.fList.length P1, .slice Z2 d0.fKeys.length P2]) rfl (ad := ⟨Q1, 0, none⟩) (fun j v h => N1.cell (R2 j v h))) fun _ f => ?_)))
 obtain ⟨X1, S1, F1⟩ := bS hF
 refine Y18 f N1 (ref03_deeper_ok n _ _ d0 (TE0.shutx (x := d0) (B1.mono J1) (B2.mono J1)) (24 : Int) X1 S1) fun W2 N2 _ f => eT (RcF f F1 (fun B3 F2 => ?_) fun B3 F3 => ?_)
 ·refine RR (Y f 1 fun _ f => eT (wp_ret (T_r (E_ret1 f rfl (by kernel_rfl : Vc.look _ 2 = some (.int .i64 30)) ?_))))
  obtain rfl := sI F2
  exact ⟨_, rfl, V1, J1, N2, rfl⟩
 ·refine wp_skip (T_n (RR (Z (v := .agg #[.int .i8 d0.fKind, .bool d0.fBool, .int .i64 d0.fNum, S d0.fText, .slice Z1 d0.fList.length P1, .slice Z2 d0.fKeys.length P2]) f (Y34 (cs := [.int .i8 d0.fKind, .bool d0.fBool, .int .i64 d0.fNum, S d0.fText, .slice Z1 d0.fList.length P1, .slice Z2 d0.fKeys.length P2]) rfl (ad := ⟨Q1, 0, none⟩) (fun j v h => N2.cell (R2 j v h))) fun _ f => ?_)))
  obtain ⟨X2, S2, F4⟩ := bS F3
  refine Y18 f N2 (ref03_wrong_ok n _ _ d0 (TE0.shutx (x := d0) (B1.mono J1) (B2.mono J1)) X2 S2) fun W3 N3 _ f => Y f 1 fun _ f => eT (R_seq (RR (Y f 2 fun _ f => eT (RcF f F4 (fun B4 F5 => ?_) fun B4 F6 => ?_))))
  ·have U3 : ¬ (X2 = 0) := (not_iff dI).1 B4
   refine RR (Y f 2 fun _ f => eT (wp_ret (T_r (E_ret1 f rfl (by kernel_rfl : Vc.look _ 2 = some (.int .i64 X2)) ?_))))
   obtain rfl := sI F5
   exact ⟨_, rfl, V1, J1, N3, rfl⟩
  ·have U4 : ¬ (¬ (X2 = 0)) := iff_f (not_iff dI) B4
   refine wp_skip (T_n (R_seq (RR (Z (v := .agg #[.int .i8 d0.fKind, .bool d0.fBool, .int .i64 d0.fNum, S d0.fText, .slice Z1 d0.fList.length P1, .slice Z2 d0.fKeys.length P2]) f (Y34 (cs := [.int .i8 d0.fKind, .bool d0.fBool, .int .i64 d0.fNum, S d0.fText, .slice Z1 d0.fList.length P1, .slice Z2 d0.fKeys.length P2]) rfl (ad := ⟨Q1, 0, none⟩) (fun j v h => N3.cell (R2 j v h))) fun _ f => ?_))))
   obtain ⟨X3, S3, F7⟩ := bS F6
   refine Y18 f N3 (ref03_Count_ok n _ _ d0 (TE0.shutx (x := d0) (B1.mono J1) (B2.mono J1)) X3 S3) fun W4 N4 _ f => Y f 1 fun _ f => eT (RcF f F7 (fun B5 F8 => ?_) fun B5 F9 => ?_)
   ·have U5 := dI.1 B5
    refine RR (Y f 1 fun _ f => eT (wp_ret (T_r (E_ret1 f rfl (by kernel_rfl : Vc.look _ 2 = some (.int .i64 3)) ?_))))
    obtain rfl := sI F8
    exact ⟨_, rfl, V1, J1, N4, rfl⟩
   ·have U6 := iff_f dI B5
    refine wp_skip (T_n (RR (Y f 1 fun _ f => eT (wp_ret (E_ret1 f rfl (by kernel_rfl : Vc.look _ 2 = some (.int .i64 0)) ?_)))))
    obtain rfl := sI F9
    exact ⟨_, rfl, V1, J1, N4, rfl⟩
def tree_depth_s1 (n : Nat) (rec_tree_depth : TE0 → Int → Option Int) (d0 : TE0) (d1 : Int) (K1 : Int × Int) : Option (Lp (Int × Int) Int) :=
    bif (decide (K1.2 < ((d0.fList.length : Nat) : Int))) then
      (bif (decide ((0 : Int) < d1)) then
        ((getI d0.fList K1.2).bind fun X1 =>
        need (inR .i64 (d1 - 1)) <|
        (rec_tree_depth X1 (d1 - 1)).bind fun X2 =>
        need (inR .i64 (K1.2 + 1)) <|
        some (.nx (max K1.1 X2, K1.2 + 1)))
      else
        need (inR .i64 (K1.2 + 1)) <|
        some (.nx (K1.1, K1.2 + 1)))
    else
      some (.br K1.1)
def tree_depth_b (n : Nat) (rec_tree_depth : TE0 → Int → Option Int) (d0 : TE0) (d1 : Int) : Option Int :=
  (loopF (tree_depth_s1 n rec_tree_depth d0 d1) n ((0 : Int), (0 : Int))).bind fun G1 =>
  need (inR .i64 (G1 + 1)) <|
  some (G1 + 1)
set_option maxRecDepth 20000 in
theorem tree_depth_b_ok (n : Nat) (rec_tree_depth : TE0 → Int → Option Int) (hrec_tree_depth : ∀ (M : Mem) (ad0 : Addr) (c0 : List Value) (d0 : TE0) (h0 : Rep M (emb_TE0 d0) c0) (q0 : ∀ j v, c0[j]? = some v → M.cell? (ad0.add j) = some v) (d1 : Int) (r : Int) (hF : rec_tree_depth d0 d1 = some r), Ok Tryz.prog M 67 [.pointer (some ad0), .int .i64 d1] (fun _ v => v = .int .i64 r)) (M : Mem) (ad0 : Addr) (c0 : List Value) (d0 : TE0) (h0 : Rep M (emb_TE0 d0) c0) (q0 : ∀ j v, c0[j]? = some v → M.cell? (ad0.add j) = some v) (d1 : Int) (r : Int) (hF : tree_depth_b n rec_tree_depth d0 d1 = some r) : Ok Tryz.prog M 67 [.pointer (some ad0), .int .i64 d1] (fun _ v => v = .int .i64 r) := by
 unfold tree_depth_b at hF
 intro M1 hM0 w0 H w p0
 replace h0 := Rep.mono hM0 _ _ h0
 replace q0 := fun j v h => hM0.cell (q0 j v h)
 obtain ⟨Z1, P1, Z2, P2, rfl, B1, B2⟩ := TE0.opn h0
 refine R_enter 31 Tryz.func67 rfl rfl (by simp) fun a0 f0 => RR (Y f0 1 fun _ f => eT (RR (Y f 1 fun _ f => eT (R_seq (RR (Y f 3 fun _ f => Y15 f p0 q0 4 rfl fun _ f => Y f 2 fun _ f => eT (wp_block ?_)))))))
 obtain ⟨Q1, hL_1, F1⟩ := bS hF
 refine wp_mono (Q := fun e a w => (e = .exit 0 ∧ (∃ G1 : Int, Q1 = G1 ∧ ∃ V2 : Mem, M1.le V2 ∧ Frm 31 [(5, .int .i64 G1)] a ∧ Hp w0 V2 (H) w))) (R_loop (n := 31) (w0 := w0) (M := M1) (fun (x : Nat × (Int × Int)) => match x with | (I1, K1) => [(0, .pointer (some ad0)), (1, .int .i64 d1), (5, .int .i64 K1.1), (11, .int .i64 ((d0.fList.length : Nat) : Int)), (12, .int .i64 K1.2)]) (fun (x : Nat × (Int × Int)) => match x with | (I1, K1) => (H)) (fun (x : Nat × (Int × Int)) (MM : Mem) => match x with | (I1, K1) => loopF (tree_depth_s1 n rec_tree_depth d0 d1) I1 K1 = some Q1) (fun (x : Nat × (Int × Int)) => match x with | (I1, K1) => I1) (n, ((0 : Int), (0 : Int))) (f.kp) p0 hL_1 ?_) ?_
 ·rintro ⟨I1, K1⟩ V1 _ W1 J1 I_1 f N1
  have I_1L := I_1
  obtain ⟨I2, r_1, rfl, hs_1, T1⟩ := loop_step I_1L
  unfold tree_depth_s1 at hs_1
  refine RR (Y f 1 fun _ f => eT (R_seq (RcF f hs_1 (fun B3 F2 => ?_) fun B3 F10 => ?_)))
  ·have U1 := dI.1 B3
   refine wp_skip (T_n (R_seq (wp_block (RR (Y f 2 fun _ f => eT (RR (Y f 2 fun _ f => eT (RcF f F2 (fun B4 F3 => ?_) fun B4 F8 => ?_))))))))
   ·have U2 := dI.1 B4
    refine R_reg (Y f 4 fun _ f => Y15 f N1 (fzu J1 q0) 4 rfl fun _ f => Y f 1 fun _ f => ?_)
    obtain ⟨X1, S1, F4⟩ := bS F3
    obtain ⟨C1, c_1, e_1, -, D1, R1⟩ := Sli.at_ (B1.mono J1) S1
    obtain ⟨Z3, P3, Z4, P4, rfl, B5, B6⟩ := TE0.opn D1
    refine Z f (Y32 e_1 rfl (len := d0.fList.length) (cap := P1) (k := .i64) (i := K1.2) (e := 26) (sz := 6) (getI_nn S1) (getI_lt S1)) fun _ f => Y f 1 fun _ f => ?_
    obtain ⟨O1, F5⟩ := nS F4
    refine Y f 1 fun _ f => ?_
    have f := f.st 25 (iW O1)
    obtain ⟨X2, S2, F6⟩ := bS F5
    refine Y18 f N1 (hrec_tree_depth _ (C1.add (K1.2.toNat * 6)) [.int .i8 X1.fKind, .bool X1.fBool, .int .i64 X1.fNum, S X1.fText, .slice Z3 X1.fList.length P3, .slice Z4 X1.fKeys.length P4] X1 (TE0.shutx (x := X1) B5 B6) (fz_at (R1) 0 rfl) (d1 - 1) X2 S2) fun W2 N2 _ f => Z (v := .int .i64 (max K1.1 X2)) f (X_max (k := .i64) (a := K1.1) (b := X2) rfl (by kernel_rfl) (by kernel_rfl)) fun _ f => Y f 1 fun _ f => W_end rfl (B_n (T_n (R_reg ?_)))
    obtain ⟨O2, F7⟩ := nS F6
    refine Y f 1 fun _ f => ?_
    have f := f.st 28 (iW O2)
    refine Y f 1 fun _ f => eT ?_
    obtain rfl := sI F7
    exact ⟨⟨I2, (max K1.1 X2, K1.2 + 1)⟩, Nat.lt_succ_self _, V1, J1, T1, f.kp, N2⟩
   ·have U3 := iff_f dI B4
    refine wp_skip (B_n (T_n (R_reg ?_)))
    obtain ⟨O3, F9⟩ := nS F8
    refine Y f 1 fun _ f => ?_
    have f := f.st 28 (iW O3)
    refine Y f 1 fun _ f => eT ?_
    obtain rfl := sI F9
    exact ⟨⟨I2, (K1.1, K1.2 + 1)⟩, Nat.lt_succ_self _, V1, J1, T1, f.kp, N1⟩
  ·have U4 := iff_f dI B3
   refine wp_exit (T_x (T_x ?_))
   obtain rfl := sI F10
   exact ⟨rfl, K1.1, (sI T1).symm, V1, J1, f.kp, N1⟩
 ·rintro _ _ W4 ⟨rfl, G1, hq_, V2, J2, f, N3⟩
  subst Q1
  refine B_x (T_n (RR (Y f 1 fun _ f => ?_)))
  obtain ⟨O4, F11⟩ := nS F1
  refine Y f 1 fun _ f => ?_
  have f := f.st 30 (iW O4)
  refine Y f 1 fun _ f => eT (wp_ret (E_ret1 f rfl (by kernel_rfl : Vc.look _ 4 = some (.int .i64 (G1 + 1))) ?_))
  obtain rfl := sI F11
  exact ⟨_, rfl, V2, J2, N3, rfl⟩
def tree_depth_k (n : Nat) : Nat → TE0 → Int → Option Int
  | 0 => fun _ _ => none
  | k + 1 => tree_depth_b n (tree_depth_k n k)
def tree_depth (n : Nat) (d0 : TE0) (d1 : Int) : Option Int := tree_depth_k n n d0 d1
theorem tree_depth_ok (n : Nat) (M : Mem) (ad0 : Addr) (c0 : List Value) (d0 : TE0) (h0 : Rep M (emb_TE0 d0) c0) (q0 : ∀ j v, c0[j]? = some v → M.cell? (ad0.add j) = some v) (d1 : Int) (r : Int) (hF : tree_depth n d0 d1 = some r) : Ok Tryz.prog M 67 [.pointer (some ad0), .int .i64 d1] (fun _ v => v = .int .i64 r) := by
 have key : ∀ (k : Nat) (M : Mem) (ad0 : Addr) (c0 : List Value) (d0 : TE0) (h0 : Rep M (emb_TE0 d0) c0) (q0 : ∀ j v, c0[j]? = some v → M.cell? (ad0.add j) = some v) (d1 : Int) (r : Int) (hF : tree_depth_k n k d0 d1 = some r), Ok Tryz.prog M 67 [.pointer (some ad0), .int .i64 d1] (fun _ v => v = .int .i64 r) := by
  intro k
  induction k with
  | zero => intro M ad0 c0 d0 h0 q0 d1 r hF; simp [tree_depth_k] at hF
  | succ k ih => intro M ad0 c0 d0 h0 q0 d1 r hF; exact tree_depth_b_ok n (tree_depth_k n k) ih M ad0 c0 d0 h0 q0 d1 r hF
 exact key n M ad0 c0 d0 h0 q0 d1 r hF
set_option maxRecDepth 100000 in
theorem walk_iter (v : TE0) (hlen : (walkV v).length ≤ 9223372036854775806) (M : Mem) (bv : Nat) (cs : List Value) (hrep : Rep M (emb_TE0 v) cs) (hbv : ∀ j u, cs[j]? = some u → M.cell? ((⟨bv, 0, none⟩ : Addr).add j) = some u) :
  IterOk Tryz.prog 92 [.pointer (some ⟨bv, 0, none⟩)] valsV (walkV v) M := by
 refine ⟨Go.Proofs.enters_of Tryz.func92 (by kernel_rfl) rfl, fun σ β Y s0 r hr l J Jx hJ hJx hY w0 M1 E H w hM0 hj p0 => ?_⟩
 refine R_enter 7 Tryz.func92 rfl rfl (by simp) (fun a0 f0 => ?_)
 replace f0 : Frm 7 [(0, .func (.yield l) #[] #[]), (1, .pointer (some ⟨bv, 0, none⟩))] a0 := f0
 refine R_seq ?_
 refine R_reg ?_
 refine W_box (cs := #[.func (.yield l) #[] #[]]) (T := 27) f0 p0 1 [1, 2] (fun b => [(1, .pointer (some ⟨bv, 0, none⟩)), (2, .pointer (some ⟨b, 0, none⟩))]) (fun _ => by kernel_rfl) (fun by_ M2 w hM1 hc p1 a_1 f_1 => ?_)
 replace f_1 : Frm 7 [(1, .pointer (some ⟨bv, 0, none⟩)), (2, .pointer (some ⟨by_, 0, none⟩))] a_1 := f_1
 refine W_end rfl ?_
 refine T_n ?_
 refine R_seq ?_
 refine R_reg ?_
 refine W_alloc f_1 p1 1 [1, 2, 3] (.cells #[.nilFunc] 139 (0, 0)) (fun b => [(1, .pointer (some ⟨bv, 0, none⟩)), (2, .pointer (some ⟨by_, 0, none⟩)), (3, .pointer (some ⟨b, 0, none⟩))]) (fun _ => by kernel_rfl) (fun bs w p2 a_2 f_2 => ?_)
 replace f_2 : Frm 7 [(1, .pointer (some ⟨bv, 0, none⟩)), (2, .pointer (some ⟨by_, 0, none⟩)), (3, .pointer (some ⟨bs, 0, none⟩))] a_2 := f_2
 refine W_end rfl ?_
 refine T_n ?_
 refine R_seq ?_
 refine R_reg ?_
 refine W_run (L' := [(1, .pointer (some ⟨bv, 0, none⟩)), (3, .pointer (some ⟨bs, 0, none⟩)), (4, .func (.func 93) #[] #[.pointer (some ⟨by_, 0, none⟩), .pointer (some ⟨bs, 0, none⟩)])]) (w' := w) f_2 1 [1, 3, 4] (by kernel_rfl) (fun a_3 f_3 => ?_)
 refine W_store1 f_3 p2 0 (by kernel_rfl) (by kernel_rfl) rfl rfl (b := bs) (j := 0) (v := .func (.func 93) #[] #[.pointer (some ⟨by_, 0, none⟩), .pointer (some ⟨bs, 0, none⟩)]) (by kernel_rfl) (by kernel_rfl) rfl (by kernel_rfl) (by exact rfl) (by simp) (by simp)
  (.obj bs (.cells #[.func (.func 93) #[] #[.pointer (some ⟨by_, 0, none⟩), .pointer (some ⟨bs, 0, none⟩)]] 139 (0, 0)) :: (E ++ H)) (by exact rfl) (fun w p3 a_4 f_4 => ?_)
 refine W_end rfl ?_
 refine T_n ?_
 obtain ⟨hM2, p4⟩ := p3.freeze
 have hself : (M2.add bs (.cells #[.func (.func 93) #[] #[.pointer (some ⟨by_, 0, none⟩), .pointer (some ⟨bs, 0, none⟩)]] 139 (0, 0))).cell? ⟨bs, 0, none⟩ = some (.func (.func 93) #[] #[.pointer (some ⟨by_, 0, none⟩), .pointer (some ⟨bs, 0, none⟩)]) := by rw [add_cell]; rfl
 generalize (M2.add bs (.cells #[.func (.func 93) #[] #[.pointer (some ⟨by_, 0, none⟩), .pointer (some ⟨bs, 0, none⟩)]] 139 (0, 0))) = M3 at hM2 p4 hself
 have hM3 := hM1.trans hM2
 refine R_reg ?_
 refine W_eq (v := .func (.func 93) #[] #[.pointer (some ⟨by_, 0, none⟩), .pointer (some ⟨bs, 0, none⟩)]) f_4 (by kernel_rfl) (by kernel_rfl) rfl rfl (X_load1 (v := .func (.func 93) #[] #[.pointer (some ⟨by_, 0, none⟩), .pointer (some ⟨bs, 0, none⟩)]) rfl (ad := ⟨bs, 0, none⟩) (by kernel_rfl) (by kernel_rfl) (p4.cell hself)) (fun a_5 f_5 => ?_)
 have hcall := walkIns by_ bs l Y J Jx hJ hY (SizeOf.sizeOf v + 1) v (Nat.lt_succ_self _) hlen s0 r hr M3 ⟨bv, 0, none⟩ cs (Rep.mono (hM0.trans hM3) _ _ hrep) (fun j u h => (hM0.trans hM3).cell (hbv j u h)) (hM2.cell (hc 0 _ rfl)) hself w0 M3 E H w (Mem.le_refl _) (hJ _ _ _ _ hM3 hj) p4
 refine W_call (R := fun _ w' => ∃ M' E', M3.le M' ∧ Hp w0 M' (E' ++ H) w' ∧ match r with
  | .nx s' => J s' M' E'
  | .br b => Jx b M' E') f_5 (by kernel_rfl) (by kernel_rfl) rfl rfl (by kernel_rfl) (hcall.mono fun e w' ⟨M', E', g1, g2, g3⟩ => ?_) ?_
 ·cases r with
  | nx s' => exact ⟨_, g3.1, M', E', g1, g2, g3.2⟩
  | br b => exact ⟨_, g3.1, M', E', g1, g2, g3.2⟩
 rintro v_1 w_4 ⟨M4, E4, hM4, p_4, g4⟩ a_6 f_6
 refine W_end rfl ?_
 refine E_end0 f_6 rfl ?_
 cases r with
 | nx s' => exact ⟨_, rfl, M4, E4, hM3.trans hM4, p_4, g4⟩
 | br b => exact ⟨_, rfl, M4, E4, hM3.trans hM4, p_4, g4⟩
def WalkRes (v : TE0) (M : Mem) (u : Value) : Prop := ∃ f caps, u = .func (.func f) #[] caps.toArray ∧ IterOk Tryz.prog f caps valsV (walkV v) M
set_option maxRecDepth 100000 in
theorem walk_ok (v : TE0) (hlen : (walkV v).length ≤ 9223372036854775806) (M : Mem) (cs : List Value) (h0 : Rep M (emb_TE0 v) cs) : Ok Tryz.prog M 68 [.agg cs.toArray] (fun M' u => WalkRes v M' u) := by
 intro M1 hM0 w0 H w p0
 replace h0 := Rep.mono hM0 _ _ h0
 obtain ⟨A_1, cap_1, A_2, cap_2, rfl, h_1, h_2⟩ := TE0.opn h0
 refine R_enter 4 Tryz.func68 rfl rfl (by simp) (fun a0 f0 => ?_)
 replace f0 : Frm 4 [(0, .agg #[.int .i8 v.fKind, .bool v.fBool, .int .i64 v.fNum, S v.fText, .slice A_1 v.fList.length cap_1, .slice A_2 v.fKeys.length cap_2])] a0 := f0
 refine R_seq ?_
 refine R_reg ?_
 refine W_box (cs := #[.int .i8 v.fKind, .bool v.fBool, .int .i64 v.fNum, S v.fText, .slice A_1 v.fList.length cap_1, .slice A_2 v.fKeys.length cap_2]) (T := 26) f0 p0 1 [1] (fun b => [(1, .pointer (some ⟨b, 0, none⟩))]) (fun _ => by kernel_rfl) (fun bv M2 w hM1 hc p1 a_1 f_1 => ?_)
 replace f_1 : Frm 4 [(1, .pointer (some ⟨bv, 0, none⟩))] a_1 := f_1
 have hc2 := fz_box hc
 refine W_run (L' := [(1, .pointer (some ⟨bv, 0, none⟩))]) (w' := w) f_1 1 [1] (by kernel_rfl) (fun a_2 f_2 => ?_)
 refine W_end rfl ?_
 refine T_n ?_
 refine R_seq ?_
 refine R_reg ?_
 refine W_run (L' := [(2, .func (.func 92) #[] #[.pointer (some ⟨bv, 0, none⟩)])]) (w' := w) f_2 2 [2] (by kernel_rfl) (fun a_3 f_3 => ?_)
 refine W_end rfl ?_
 refine T_n ?_
 refine wp_ret ?_
 refine E_ret1 f_3 rfl (by kernel_rfl : Vc.look _ 2 = some (.func (.func 92) #[] #[.pointer (some ⟨bv, 0, none⟩)])) ?_
 refine ⟨_, rfl, M2, hM1, p1, 92, [.pointer (some ⟨bv, 0, none⟩)], rfl, ?_⟩
 exact walk_iter v hlen M2 bv _ (Rep.mono hM1 _ _ h0) hc2
def runes_Valid (n : Nat) (d0 : List UInt8) : Option Bool :=
  (h_ValidString n d0).bind fun X1 =>
  some ((X1))
theorem runes_Valid_ok (n : Nat) (M : Mem) (hG : GL M) (d0 : List UInt8) (r : Bool) (hF : runes_Valid n d0 = some r) : Ok Tryz.prog M 38 [S d0] (fun _ v => v = .bool r) := by
 unfold runes_Valid at hF
 intro M1 hM0 w0 H w p0
 replace hG := GL.mono hM0 hG
 refine R_enter 5 Tryz.func38 rfl rfl (by simp) fun a0 f0 => RR (Y f0 1 fun _ f => eT (RR (Y f 1 fun _ f => ?_)))
 obtain ⟨X1, S1, F1⟩ := bS hF
 refine Y18 f p0 (h_ValidString_ok n _ hG d0 X1 S1) fun W1 N1 _ f => Y f 1 fun _ f => eT (wp_ret (E_ret1 f rfl (by kernel_rfl : Vc.look _ 2 = some (.bool X1)) ?_))
 obtain rfl := sI F1
 exact ⟨_, rfl, M1, (mR _), N1, rfl⟩
def tree_alone_1 (n : Nat) (d0 : List UInt8) : Option Bool :=
  (runes_Valid n d0).bind fun X1 =>
  some ((!X1))
theorem tree_alone_1_ok (n : Nat) (M : Mem) (hG : GL M) (d0 : List UInt8) (r : Bool) (hF : tree_alone_1 n d0 = some r) : Ok Tryz.prog M 95 [S d0] (fun _ v => v = .bool r) := by
 unfold tree_alone_1 at hF
 intro M1 hM0 w0 H w p0
 replace hG := GL.mono hM0 hG
 refine R_enter 6 Tryz.func95 rfl rfl (by simp) fun a0 f0 => RR (Y f0 1 fun _ f => eT (RR (Y f 1 fun _ f => ?_)))
 obtain ⟨X1, S1, F1⟩ := bS hF
 refine Y18 f p0 (runes_Valid_ok n _ hG d0 X1 S1) fun W1 N1 _ f => Y f 2 fun _ f => eT (wp_ret (E_ret1 f rfl (by kernel_rfl : Vc.look _ 2 = some (.bool !X1)) ?_))
 obtain rfl := sI F1
 exact ⟨_, rfl, M1, (mR _), N1, rfl⟩
def slices_IndexFuncstring_string_s1 (n : Nat) (d0 : List (List UInt8)) (K1 : Int) : Option (Lp Int (Sum Int Unit)) :=
    bif (decide (K1 < ((d0.length : Nat) : Int))) then
      ((getI d0 K1).bind fun X1 =>
      (tree_alone_1 n X1).bind fun X2 =>
      bif X2 then
        (some (.br (.inl K1)))
      else
        need (inR .i64 (K1 + 1)) <|
        some (.nx (K1 + 1)))
    else
      some (.br (.inr ()))
def slices_IndexFuncstring_string (n : Nat) (d0 : List (List UInt8)) : Option Int :=
  (loopF (slices_IndexFuncstring_string_s1 n d0) n (0 : Int)).bind fun Q1 =>
  (match Q1 with 
  | .inl G1 => some (G1) 
  | .inr G2 => some ((-1 : Int)))
theorem slices_IndexFuncstring_string_ok (n : Nat) (M : Mem) (hG : GL M) (A0 : Option Addr) (cap0 : Nat) (d0 : List (List UInt8)) (h0 : Sli M 1 Dat.str A0 cap0 d0) (r : Int) (hF : slices_IndexFuncstring_string n d0 = some r) : Ok Tryz.prog M 116 [.slice A0 d0.length cap0, .func (.func 95) #[] #[]] (fun _ v => v = .int .i64 r) := by
 unfold slices_IndexFuncstring_string at hF
 intro M1 hM0 w0 H w p0
 replace hG := GL.mono hM0 hG
 replace h0 := h0.mono hM0
 refine R_enter 19 Tryz.func116 rfl rfl (by simp) fun a0 f0 => RR (Y f0 1 fun _ f => eT (R_seq (RR (Y f 3 fun _ f => eT (wp_block ?_)))))
 obtain ⟨Q1, hL_1, F1⟩ := bS hF
 refine wp_mono (Q := fun e a w => (e = .ret ∧ (∃ G1 : Int, Q1 = .inl G1 ∧ ∃ V2 : Mem, M1.le V2 ∧ Frm 19 [(4, .int .i64 G1)] a ∧ Hp w0 V2 (H) w)) ∨ (e = .exit 0 ∧ (∃ G2 : Unit, Q1 = .inr G2 ∧ ∃ V3 : Mem, M1.le V3 ∧ Frm 19 [] a ∧ Hp w0 V3 (H) w))) (R_loop (n := 19) (w0 := w0) (M := M1) (fun (x : Nat × Int) => match x with | (I1, K1) => [(0, .slice A0 d0.length cap0), (1, .func (.func 95) #[] #[]), (7, .int .i64 ((d0.length : Nat) : Int)), (8, .int .i64 K1)]) (fun (x : Nat × Int) => match x with | (I1, K1) => (H)) (fun (x : Nat × Int) (MM : Mem) => match x with | (I1, K1) => loopF (slices_IndexFuncstring_string_s1 n d0) I1 K1 = some Q1) (fun (x : Nat × Int) => match x with | (I1, K1) => I1) (n, (0 : Int)) (f.kp) p0 hL_1 ?_) ?_
 ·rintro ⟨I1, K1⟩ V1 _ W1 J1 I_1 f N1
  have I_1L := I_1
  obtain ⟨I2, r_1, rfl, hs_1, T1⟩ := loop_step I_1L
  unfold slices_IndexFuncstring_string_s1 at hs_1
  refine RR (Y f 1 fun _ f => eT (R_seq (RcF f hs_1 (fun B1 F2 => ?_) fun B1 F8 => ?_)))
  ·have U1 := dI.1 B1
   refine wp_skip (T_n (R_seq (wp_block (RR (Y f 2 fun _ f => eT (RR (Y f 3 fun _ f => ?_)))))))
   obtain ⟨X1, S1, F3⟩ := bS F2
   obtain ⟨C1, c_1, e_1, -, D1, R1⟩ := Sli.at_ (h0.mono J1) S1
   obtain rfl : c_1 = [S X1] := D1
   refine Z f (Y32 e_1 rfl (len := d0.length) (cap := cap0) (k := .i64) (i := K1) (e := 9) (sz := 1) (getI_nn S1) (getI_lt S1)) fun _ f => Y15 f N1 R1 0 rfl fun _ f => ?_
   obtain ⟨X2, S2, F4⟩ := bS F3
   refine Y18 f N1 (tree_alone_1_ok n _ (GL.mono J1 hG) X1 X2 S2) fun W2 N2 _ f => eT (RcF f F4 (fun B2 F5 => ?_) fun B2 F6 => ?_)
   ·refine RR (Y f 2 fun _ f => eT (wp_ret (B_r (T_r (T_r ?_)))))
    obtain rfl := sI F5
    exact .inl ⟨rfl, K1, (sI T1).symm, V1, J1, f.kp, N2⟩
   ·refine wp_skip (B_n (T_n (R_reg ?_)))
    obtain ⟨O1, F7⟩ := nS F6
    refine Y f 1 fun _ f => ?_
    have f := f.st 18 (iW O1)
    refine Y f 1 fun _ f => eT ?_
    obtain rfl := sI F7
    exact ⟨⟨I2, K1 + 1⟩, Nat.lt_succ_self _, V1, J1, T1, f.kp, N2⟩
  ·have U4 := iff_f dI B1
   refine wp_exit (T_x (T_x ?_))
   obtain rfl := sI F8
   exact .inr ⟨rfl, (), (sI T1).symm, V1, J1, f.kp, N1⟩
 ·rintro _ _ W5 (⟨rfl, G1, rfl, V2, J2, f, N3⟩ | ⟨rfl, G2, rfl, V3, J3, f, N4⟩)
  ·refine B_r (T_r (E_ret1 f rfl (by kernel_rfl : Vc.look _ 4 = some (.int .i64 G1)) ?_))
   obtain rfl := sI F1
   exact ⟨_, rfl, V2, J2, N3, rfl⟩
  ·refine B_x (T_n (RR (Y f 1 fun _ f => eT (wp_ret (E_ret1 f rfl (by kernel_rfl : Vc.look _ 4 = some (.int .i64 (-1))) ?_)))))
   obtain rfl := sI F1
   exact ⟨_, rfl, V3, J3, N4, rfl⟩
def slices_ContainsFuncstring_string (n : Nat) (d0 : List (List UInt8)) : Option Bool :=
  (slices_IndexFuncstring_string n d0).bind fun X1 =>
  some ((decide ((0 : Int) ≤ X1)))
theorem slices_ContainsFuncstring_string_ok (n : Nat) (M : Mem) (hG : GL M) (A0 : Option Addr) (cap0 : Nat) (d0 : List (List UInt8)) (h0 : Sli M 1 Dat.str A0 cap0 d0) (r : Bool) (hF : slices_ContainsFuncstring_string n d0 = some r) : Ok Tryz.prog M 94 [.slice A0 d0.length cap0, .func (.func 95) #[] #[]] (fun _ v => v = .bool r) := by
 unfold slices_ContainsFuncstring_string at hF
 intro M1 hM0 w0 H w p0
 replace hG := GL.mono hM0 hG
 replace h0 := h0.mono hM0
 refine R_enter 9 Tryz.func94 rfl rfl (by simp) fun a0 f0 => RR (Y f0 1 fun _ f => eT (RR (Y f 2 fun _ f => ?_)))
 obtain ⟨X1, S1, F1⟩ := bS hF
 refine Y18 f p0 (slices_IndexFuncstring_string_ok n _ hG A0 cap0 d0 h0 X1 S1) fun W1 N1 _ f => Y f 2 fun _ f => eT (wp_ret (E_ret1 f rfl (by kernel_rfl : Vc.look _ 4 = some (.bool (decide ((0 : Int) ≤ X1)))) ?_))
 obtain rfl := sI F1
 exact ⟨_, rfl, M1, (mR _), N1, rfl⟩
def tree_alone_s1 (n : Nat) (d0 : TE0) (K1 : Int × (List ((List UInt8) × Bool))) : Option (Lp (Int × (List ((List UInt8) × Bool))) (Sum (List ((List UInt8) × Bool)) (List ((List UInt8) × Bool)))) :=
    bif (decide (K1.1 < ((d0.fKeys.length : Nat) : Int))) then
      ((getI d0.fKeys K1.1).bind fun X3 =>
      bif ((mget K1.2 X3).getD false) then
        (some (.br (.inl K1.2)))
      else
        need (inR .i64 (K1.1 + 1)) <|
        some (.nx (K1.1 + 1, mput K1.2 X3 (true))))
    else
      some (.br (.inr K1.2))
def tree_alone (n : Nat) (d0 : TE0) : Option Int :=
  ((bif (decide (d0.fKind = 0)) then
      (some (.nx ((d0.fBool), d0.fNum, d0.fText, d0.fList, d0.fKeys)))
    else
      bif (decide (d0.fKind = 1)) then
        (some (.nx ((false), d0.fNum, d0.fText, d0.fList, d0.fKeys)))
      else
        bif (decide (d0.fKind = 2)) then
          (some (.nx ((d0.fBool), (0 : Int), d0.fText, d0.fList, d0.fKeys)))
        else
          bif (decide (d0.fKind = 3)) then
            (some (.nx ((d0.fBool), d0.fNum, ([] : List UInt8), d0.fList, d0.fKeys)))
          else
            bif (decide (d0.fKind = 4)) then
              (some (.nx ((d0.fBool), d0.fNum, d0.fText, ([] : List TE0), d0.fKeys)))
            else
              bif (decide (d0.fKind = 5)) then
                (bif (!(decide (((d0.fKeys.length : Nat) : Int) = ((d0.fList.length : Nat) : Int)))) then
                  (((some ((2 : Int)) : Option Int)).map Lp.br)
                else
                  some (.nx ((d0.fBool), d0.fNum, d0.fText, ([] : List TE0), ([] : List (List UInt8)))))
              else
                ((some ((2 : Int)) : Option Int)).map Lp.br : Option (Lp (Bool × Int × List UInt8 × List TE0 × List (List UInt8)) Int))).bind fun j => joinF j fun G1 =>
  ((((bif G1.1 then
        (some ((true)))
      else
        bif (!(decide (G1.2.1 = 0))) then
          (some ((true)))
        else
          bif (!(decide (G1.2.2.1 = []))) then
            (some ((true)))
          else
            need (inR .i64 (((G1.2.2.2.1.length : Nat) : Int) + ((G1.2.2.2.2.length : Nat) : Int))) <|
            some ((decide ((0 : Int) < (((G1.2.2.2.1.length : Nat) : Int) + ((G1.2.2.2.2.length : Nat) : Int))))) : Option Bool)).bind fun G2 =>
    bif G2 then
      (((some ((2 : Int)) : Option Int)).map Lp.br)
    else
      ((bif (decide (d0.fNum < (-9007199254740992))) then
          (some ((true)))
        else
          some ((decide ((9007199254740992 : Int) < d0.fNum))) : Option Bool)).bind fun G3 =>
      bif G3 then
        (((some ((20 : Int)) : Option Int)).map Lp.br)
      else
        (runes_Valid n d0.fText).bind fun X1 =>
        bif !X1 then
          (((some ((10 : Int)) : Option Int)).map Lp.br)
        else
          (slices_ContainsFuncstring_string n d0.fKeys).bind fun X2 =>
          bif X2 then
            (((some ((10 : Int)) : Option Int)).map Lp.br)
          else
            some (.nx ()) : Option (Lp Unit Int))).bind fun j => joinF j fun G4 =>
  (loopF (tree_alone_s1 n d0) n ((0 : Int), ([] : List ((List UInt8) × Bool)))).bind fun Q2 =>
  (match Q2 with 
  | .inl G5 => some ((41 : Int)) 
  | .inr G6 => some ((0 : Int)))
set_option maxRecDepth 20000 in
theorem tree_alone_ok (n : Nat) (M : Mem) (hG : GL M) (ad0 : Addr) (c0 : List Value) (d0 : TE0) (h0 : Rep M (emb_TE0 d0) c0) (q0 : ∀ j v, c0[j]? = some v → M.cell? (ad0.add j) = some v) (r : Int) (hF : tree_alone n d0 = some r) : Ok Tryz.prog M 69 [.pointer (some ad0)] (fun _ v => v = .int .i64 r) := by
 unfold tree_alone at hF
 intro M1 hM0 w0 H w p0
 replace hG := GL.mono hM0 hG
 replace h0 := Rep.mono hM0 _ _ h0
 replace q0 := fun j v h => hM0.cell (q0 j v h)
 obtain ⟨Z1, P1, Z2, P2, rfl, B1, B2⟩ := TE0.opn h0
 refine R_enter 109 Tryz.func69 rfl rfl (by simp) fun a0 f0 => RR (Y f0 1 fun _ f => eT (RR (Y f 2 fun _ f => Z (v := .agg #[.int .i8 d0.fKind, .bool d0.fBool, .int .i64 d0.fNum, S d0.fText, .slice Z1 d0.fList.length P1, .slice Z2 d0.fKeys.length P2]) f (Y34 (cs := [.int .i8 d0.fKind, .bool d0.fBool, .int .i64 d0.fNum, S d0.fText, .slice Z1 d0.fList.length P1, .slice Z2 d0.fKeys.length P2]) rfl (ad := ad0) (fun j v h => p0.cell (q0 j v h))) fun _ f => Y12 f p0 (.cells #[.int .i8 0, .bool false, .int .i64 0, S [], .slice none 0 0, .slice none 0 0] 26 (0, 0)) fun Q1 W1 N1 _ f => Y28 (vs := [.int .i8 d0.fKind, .bool d0.fBool, .int .i64 d0.fNum, S d0.fText, .slice Z1 d0.fList.length P1, .slice Z2 d0.fKeys.length P2]) (j := 0) f N1 rfl rfl (by simp [Value.oneCell', S]) (by simp) (by decide) (cs' := #[.int .i8 d0.fKind, .bool d0.fBool, .int .i64 d0.fNum, S d0.fText, .slice Z1 d0.fList.length P1, .slice Z2 d0.fKeys.length P2]) (by kernel_rfl) fun W2 N2 _ f => eT (R_seq (RR (Y f 3 fun _ f => Y15 f N2 q0 0 rfl fun _ f => eT ?_))))))
 obtain ⟨j_1, hj_1, F1⟩ := bS hF
 refine R_mid (fun a_33 W10 => ∃ G1 : Bool × Int × List UInt8 × List TE0 × List (List UInt8), j_1 = .nx G1 ∧ ∃ V1 : Mem, M1.le V1 ∧ ∃ (Z3 : Option Addr), ∃ (P3 : Nat), ∃ (Z4 : Option Addr), ∃ (P4 : Nat), Sli V1 6 emb_TE0 Z3 P3 G1.2.2.2.1 ∧ Sli V1 1 Dat.str Z4 P4 G1.2.2.2.2 ∧ Frm 109 [(0, .pointer (some ad0)), (3, .pointer (some (⟨Q1, 0, none⟩)))] a_33 ∧ Hp w0 V1 ((Ent.obj Q1 (.cells #[.int .i8 d0.fKind, .bool G1.1, .int .i64 G1.2.1, S G1.2.2.1, .slice Z3 G1.2.2.2.1.length P3, .slice Z4 G1.2.2.2.2.length P4] 26 (0, 0))) :: H) W10) ?_ ?_
 ·refine wp_block (RR (Y f 2 fun _ f => eT (RcF f hj_1 (fun B3 F2 => ?_) fun B3 F3 => ?_)))
  ·have U1 := dI.1 B3
   refine wp_skip (B_n (T_n ?_))
   exact ⟨((d0.fBool), d0.fNum, d0.fText, d0.fList, d0.fKeys), (sI F2).symm, M1, (mR _), Z1, P1, Z2, P2, B1, B2, f.kp, N2⟩
  ·have U2 := iff_f dI B3
   refine RR (Y f 2 fun _ f => eT (RcF f F3 (fun B4 F4 => ?_) fun B4 F5 => ?_))
   ·have U3 := dI.1 B4
    refine R_reg (Y f 1 fun _ f => Y27 f N2 0 rfl rfl (b := Q1) (j := 1) (v := .bool false) rfl (by exact rfl) (by simp) (by simp) ((Ent.obj Q1 (.cells #[.int .i8 d0.fKind, .bool false, .int .i64 d0.fNum, S d0.fText, .slice Z1 d0.fList.length P1, .slice Z2 d0.fKeys.length P2] 26 (0, 0))) :: H) rfl fun W3 N3 _ f => W_end rfl (B_n (T_n ?_)))
    exact ⟨((false), d0.fNum, d0.fText, d0.fList, d0.fKeys), (sI F4).symm, M1, (mR _), Z1, P1, Z2, P2, B1, B2, f.kp, N3⟩
   ·have U4 := iff_f dI B4
    refine RR (Y f 2 fun _ f => eT (RcF f F5 (fun B5 F6 => ?_) fun B5 F7 => ?_))
    ·have U5 := dI.1 B5
     refine R_reg (Y f 1 fun _ f => Y27 f N2 0 rfl rfl (b := Q1) (j := 2) (v := .int .i64 0) rfl (by exact rfl) (by simp) (by simp) ((Ent.obj Q1 (.cells #[.int .i8 d0.fKind, .bool d0.fBool, .int .i64 0, S d0.fText, .slice Z1 d0.fList.length P1, .slice Z2 d0.fKeys.length P2] 26 (0, 0))) :: H) rfl fun W4 N4 _ f => W_end rfl (B_n (T_n ?_)))
     exact ⟨((d0.fBool), (0 : Int), d0.fText, d0.fList, d0.fKeys), (sI F6).symm, M1, (mR _), Z1, P1, Z2, P2, B1, B2, f.kp, N4⟩
    ·have U6 := iff_f dI B5
     refine RR (Y f 2 fun _ f => eT (RcF f F7 (fun B6 F8 => ?_) fun B6 F9 => ?_))
     ·have U7 := dI.1 B6
      refine R_reg (Y f 1 fun _ f => Y27 f N2 0 rfl rfl (b := Q1) (j := 3) (v := S []) rfl (by exact rfl) (by simp) (by simp) ((Ent.obj Q1 (.cells #[.int .i8 d0.fKind, .bool d0.fBool, .int .i64 d0.fNum, S [], .slice Z1 d0.fList.length P1, .slice Z2 d0.fKeys.length P2] 26 (0, 0))) :: H) rfl fun W5 N5 _ f => W_end rfl (B_n (T_n ?_)))
      exact ⟨((d0.fBool), d0.fNum, ([] : List UInt8), d0.fList, d0.fKeys), (sI F8).symm, M1, (mR _), Z1, P1, Z2, P2, B1, B2, f.kp, N5⟩
     ·have U8 := iff_f dI B6
      refine RR (Y f 2 fun _ f => eT (RcF f F9 (fun B7 F10 => ?_) fun B7 F11 => ?_))
      ·have U9 := dI.1 B7
       refine R_reg (Y f 1 fun _ f => Y27 f N2 0 rfl rfl (b := Q1) (j := 4) (v := .slice none 0 0) rfl (by exact rfl) (by simp) (by simp) ((Ent.obj Q1 (.cells #[.int .i8 d0.fKind, .bool d0.fBool, .int .i64 d0.fNum, S d0.fText, .slice none 0 0, .slice Z2 d0.fKeys.length P2] 26 (0, 0))) :: H) rfl fun W6 N6 _ f => W_end rfl (B_n (T_n ?_)))
       exact ⟨((d0.fBool), d0.fNum, d0.fText, ([] : List TE0), d0.fKeys), (sI F10).symm, M1, (mR _), none, 0, Z2, P2, Sli.nil, B2, f.kp, N6⟩
      ·have U10 := iff_f dI B7
       refine RR (Y f 2 fun _ f => eT (RcF f F11 (fun B8 F12 => ?_) fun B8 F16 => ?_))
       ·have U11 := dI.1 B8
        refine R_seq (R_seq (R_draw N2 (by kernel_rfl) (by kernel_rfl) (Y5 default f 3 fun _ f => Y4 f q0 5 rfl fun _ f => Y5 default f 4 fun _ f => Y4 f q0 4 rfl fun _ f => Y5 default f 2 fun _ f => Q_end rfl ?_)))
        intro W7 N7
        refine T_n (RcF f F12 (fun B9 F13 => ?_) fun B9 F15 => ?_)
        ·have U12 : ¬ (((d0.fKeys.length : Nat) : Int) = ((d0.fList.length : Nat) : Int)) := (not_iff dI).1 B9
         refine RR (Y f 1 fun _ f => eT (wp_ret (T_r (B_r ?_))))
         have F14 := br_elim F13 F1
         refine T_r (T_r (E_ret1 f rfl (by kernel_rfl : Vc.look _ 2 = some (.int .i64 2)) ?_))
         obtain rfl := sI F14
         exact ⟨_, rfl, M1, (mR _), (N7.dropN 1), rfl⟩
        ·have U13 : ¬ (¬ (((d0.fKeys.length : Nat) : Int) = ((d0.fList.length : Nat) : Int))) := iff_f (not_iff dI) B9
         refine wp_skip (T_n (R_reg (Y f 1 fun _ f => Y27 f N7 0 rfl rfl (b := Q1) (j := 4) (v := .slice none 0 0) rfl (by exact rfl) (by simp) (by simp) ((Ent.obj Q1 (.cells #[.int .i8 d0.fKind, .bool d0.fBool, .int .i64 d0.fNum, S d0.fText, .slice none 0 0, .slice Z2 d0.fKeys.length P2] 26 (0, 0))) :: H) rfl fun W8 N8 _ f => Y f 1 fun _ f => Y27 f N8 0 rfl rfl (b := Q1) (j := 5) (v := .slice none 0 0) rfl (by exact rfl) (by simp) (by simp) ((Ent.obj Q1 (.cells #[.int .i8 d0.fKind, .bool d0.fBool, .int .i64 d0.fNum, S d0.fText, .slice none 0 0, .slice none 0 0] 26 (0, 0))) :: H) rfl fun W9 N9 _ f => W_end rfl (B_n (T_n ?_)))))
         exact ⟨((d0.fBool), d0.fNum, d0.fText, ([] : List TE0), ([] : List (List UInt8))), (sI F15).symm, M1, (mR _), none, 0, none, 0, Sli.nil, Sli.nil, f.kp, N9⟩
       ·have U14 := iff_f dI B8
        refine RR (Y f 1 fun _ f => eT (wp_ret (B_r ?_)))
        have F17 := br_elim F16 F1
        refine T_r (T_r (E_ret1 f rfl (by kernel_rfl : Vc.look _ 2 = some (.int .i64 2)) ?_))
        obtain rfl := sI F17
        exact ⟨_, rfl, M1, (mR _), (N2.dropN 1), rfl⟩
 ·rintro a_33 W10 ⟨G1, rfl, V1, J1, Z3, P3, Z4, P4, B10, B11, f, N10⟩
  refine T_n (RR (W_newmap S Value.bool f N10 (by kernel_rfl) (by kernel_rfl) rfl rfl rfl fun o1 W11 N11 _ f => Y f 1 fun _ f => eT (R_seq ?_)))
  obtain ⟨j_2, hj_2, F18⟩ := bS F1
  refine R_mid (fun a_78 W16 => ∃ G4 : Unit, j_2 = .nx G4 ∧ ∃ V4 : Mem, V1.le V4 ∧ Frm 109 [(0, .pointer (some ad0)), (4, .map (some o1))] a_78 ∧ Hp w0 V4 ((Ent.obj o1 (mapO S Value.bool ([] : List ((List UInt8) × Bool)))) :: (Ent.obj Q1 (.cells #[.int .i8 d0.fKind, .bool G1.1, .int .i64 G1.2.1, S G1.2.2.1, .slice Z3 G1.2.2.2.1.length P3, .slice Z4 G1.2.2.2.2.length P4] 26 (0, 0))) :: H) W16) ?_ ?_
  ·refine wp_block (R_seq ?_)
   obtain ⟨j_3, hj_3, F19⟩ := bS hj_2
   refine R_mid (fun a_56 W12 => ∃ G2 : Bool, j_3 = G2 ∧ ∃ V2 : Mem, V1.le V2 ∧ Frm 109 [(0, .pointer (some ad0)), (4, .map (some o1)), (44, .bool G2)] a_56 ∧ Hp w0 V2 ((Ent.obj o1 (mapO S Value.bool ([] : List ((List UInt8) × Bool)))) :: (Ent.obj Q1 (.cells #[.int .i8 d0.fKind, .bool G1.1, .int .i64 G1.2.1, S G1.2.2.1, .slice Z3 G1.2.2.2.1.length P3, .slice Z4 G1.2.2.2.2.length P4] 26 (0, 0))) :: H) W12) ?_ ?_
   ·refine R_reg (Y f 1 fun _ f => Z f (Y33 (v := .bool G1.1) rfl (ad := ⟨Q1, 1, none⟩) (N11.ownCell 1 rfl 1)) fun _ f => Y f 1 fun _ f => ?_)
    rcases cE hj_3 with ⟨B12, F20⟩ | ⟨B12, F21⟩
    ·have f := f.st 47 (cB B12)
     refine Y f 20 fun _ f => eT ?_
     exact ⟨(true), (sI F20).symm, V1, (mR _), f.kp, N11⟩
    ·have f := f.st 47 (cB B12)
     refine Y f 1 fun _ f => Z f (Y33 (v := .int .i64 G1.2.1) rfl (ad := ⟨Q1, 2, none⟩) (N11.ownCell 1 rfl 2)) fun _ f => Y f 3 fun _ f => ?_
     rcases cE F21 with ⟨B13, F22⟩ | ⟨B13, F23⟩
     ·have U17 : ¬ (G1.2.1 = 0) := (not_iff dI).1 B13
      have f := f.st 52 (cB B13)
      refine Y f 15 fun _ f => eT ?_
      exact ⟨(true), (sI F22).symm, V1, (mR _), f.kp, N11⟩
     ·have U18 : ¬ (¬ (G1.2.1 = 0)) := iff_f (not_iff dI) B13
      have f := f.st 52 (cB B13)
      refine Y f 1 fun _ f => Z f (Y33 (v := S G1.2.2.1) rfl (ad := ⟨Q1, 3, none⟩) (N11.ownCell 1 rfl 3)) fun _ f => Z f (Y41 rfl (l := G1.2.2.1) (m := [])) fun _ f => Y f 2 fun _ f => ?_
      rcases cE F23 with ⟨B14, F24⟩ | ⟨B14, F25⟩
      ·have U19 : ¬ (G1.2.2.1 = []) := (not_iff dI).1 B14
       have f := f.st 57 (cB B14)
       refine Y f 10 fun _ f => eT ?_
       exact ⟨(true), (sI F24).symm, V1, (mR _), f.kp, N11⟩
      ·have U20 : ¬ (¬ (G1.2.2.1 = [])) := iff_f (not_iff dI) B14
       have f := f.st 57 (cB B14)
       refine Y f 1 fun _ f => Z f (Y33 (v := .slice Z3 G1.2.2.2.1.length P3) rfl (ad := ⟨Q1, 4, none⟩) (N11.ownCell 1 rfl 4)) fun _ f => Y f 2 fun _ f => Z f (Y33 (v := .slice Z4 G1.2.2.2.2.length P4) rfl (ad := ⟨Q1, 5, none⟩) (N11.ownCell 1 rfl 5)) fun _ f => Y f 1 fun _ f => ?_
       obtain ⟨O1, F26⟩ := nS F25
       refine Y f 1 fun _ f => ?_
       have f := f.st 64 (iW O1)
       refine Y f 3 fun _ f => eT ?_
       exact ⟨(decide ((0 : Int) < (((G1.2.2.2.1.length : Nat) : Int) + ((G1.2.2.2.2.length : Nat) : Int)))), (sI F26).symm, V1, (mR _), f.kp, N11⟩
   ·rintro a_56 W12 ⟨G2, hq_2, V2, J2, f, N12⟩
    subst j_3
    refine T_n (RcF f F19 (fun B15 F27 => ?_) fun B15 F29 => ?_)
    ·refine RR (Y f 1 fun _ f => eT (wp_ret (B_r ?_)))
     have F28 := br_elim F27 F18
     refine T_r (T_r (E_ret1 f rfl (by kernel_rfl : Vc.look _ 2 = some (.int .i64 2)) ?_))
     obtain rfl := sI F28
     exact ⟨_, rfl, V2, (J1.trans J2), (N12.dropN 2), rfl⟩
    ·refine R_seq ?_
     obtain ⟨j_4, hj_4, F30⟩ := bS F29
     refine R_mid (fun a_65 W13 => ∃ G3 : Bool, j_4 = G3 ∧ ∃ V3 : Mem, V2.le V3 ∧ Frm 109 [(0, .pointer (some ad0)), (4, .map (some o1)), (67, .bool G3)] a_65 ∧ Hp w0 V3 ((Ent.obj o1 (mapO S Value.bool ([] : List ((List UInt8) × Bool)))) :: (Ent.obj Q1 (.cells #[.int .i8 d0.fKind, .bool G1.1, .int .i64 G1.2.1, S G1.2.2.1, .slice Z3 G1.2.2.2.1.length P3, .slice Z4 G1.2.2.2.2.length P4] 26 (0, 0))) :: H) W13) ?_ ?_
     ·refine R_reg (Y f 3 fun _ f => Y15 f N12 (fzu (J1.trans J2) q0) 2 rfl fun _ f => Y f 2 fun _ f => ?_)
      rcases cE hj_4 with ⟨B16, F31⟩ | ⟨B16, F32⟩
      ·have U23 := dI.1 B16
       have f := f.st 73 (cB B16)
       refine Y f 7 fun _ f => eT ?_
       exact ⟨(true), (sI F31).symm, V2, (mR _), f.kp, N12⟩
      ·have U24 := iff_f dI B16
       have f := f.st 73 (cB B16)
       refine Y f 3 fun _ f => Y15 f N12 (fzu (J1.trans J2) q0) 2 rfl fun _ f => Y f 3 fun _ f => eT ?_
       exact ⟨(decide ((9007199254740992 : Int) < d0.fNum)), (sI F32).symm, V2, (mR _), f.kp, N12⟩
     ·rintro a_65 W13 ⟨G3, hq_3, V3, J3, f, N13⟩
      subst j_4
      refine T_n (RcF f F30 (fun B17 F33 => ?_) fun B17 F35 => ?_)
      ·refine RR (Y f 1 fun _ f => eT (wp_ret (B_r ?_)))
       have F34 := br_elim F33 F18
       refine T_r (T_r (E_ret1 f rfl (by kernel_rfl : Vc.look _ 2 = some (.int .i64 20)) ?_))
       obtain rfl := sI F34
       exact ⟨_, rfl, V3, ((J1.trans J2).trans J3), (N13.dropN 2), rfl⟩
      ·refine RR (Y f 3 fun _ f => Y15 f N13 (fzu ((J1.trans J2).trans J3) q0) 3 rfl fun _ f => ?_)
       obtain ⟨X1, S1, F36⟩ := bS F35
       refine Y18 f N13 (runes_Valid_ok n _ (GL.mono ((J1.trans J2).trans J3) hG) d0.fText X1 S1) fun W14 N14 _ f => Y f 2 fun _ f => ?_
       rcases cE F36 with ⟨B18, F37⟩ | ⟨B18, F39⟩
       ·have U27 : (X1) = false := by simpa using B18
        have f := f.st 87 (cB B18)
        refine Y f 7 fun _ f => eT (Y8 f (RR (Y f 1 fun _ f => eT (wp_ret (B_r ?_)))))
        have F38 := br_elim F37 F18
        refine T_r (T_r (E_ret1 f rfl (by kernel_rfl : Vc.look _ 2 = some (.int .i64 10)) ?_))
        obtain rfl := sI F38
        exact ⟨_, rfl, V3, ((J1.trans J2).trans J3), (N14.dropN 2), rfl⟩
       ·have U28 : (X1) = true := by simpa using B18
        have f := f.st 87 (cB B18)
        refine Y f 3 fun _ f => Y15 f N14 (fzu ((J1.trans J2).trans J3) q0) 5 rfl fun _ f => ?_
        obtain ⟨X2, S2, F40⟩ := bS F39
        refine Y18 f N14 (slices_ContainsFuncstring_string_ok n _ (GL.mono ((J1.trans J2).trans J3) hG) Z2 P2 d0.fKeys (B2.mono ((J1.trans J2).trans J3)) X2 S2) fun W15 N15 _ f => Y f 2 fun _ f => eT (RcF f F40 (fun B19 F41 => ?_) fun B19 F43 => ?_)
        ·refine RR (Y f 1 fun _ f => eT (wp_ret (B_r ?_)))
         have F42 := br_elim F41 F18
         refine T_r (T_r (E_ret1 f rfl (by kernel_rfl : Vc.look _ 2 = some (.int .i64 10)) ?_))
         obtain rfl := sI F42
         exact ⟨_, rfl, V3, ((J1.trans J2).trans J3), (N15.dropN 2), rfl⟩
        ·refine wp_skip (B_n (T_n ?_))
         exact ⟨(), (sI F43).symm, V3, (J2.trans J3), f.kp, N15⟩
  ·rintro a_78 W16 ⟨G4, rfl, V4, J4, f, N16⟩
   refine T_n (R_seq (RR (Y f 3 fun _ f => Y15 f N16 (fzu (J1.trans J4) q0) 5 rfl fun _ f => Y f 2 fun _ f => eT (wp_block ?_))))
   obtain ⟨Q2, hL_1, F44⟩ := bS F18
   refine wp_mono (Q := fun e a w => (e = .ret ∧ (∃ G5 : (List ((List UInt8) × Bool)), Q2 = .inl G5 ∧ ∃ V6 : Mem, V4.le V6 ∧ Frm 109 [(2, .int .i64 41)] a ∧ Hp w0 V6 ((Ent.obj o1 (mapO S Value.bool G5)) :: (Ent.obj Q1 (.cells #[.int .i8 d0.fKind, .bool G1.1, .int .i64 G1.2.1, S G1.2.2.1, .slice Z3 G1.2.2.2.1.length P3, .slice Z4 G1.2.2.2.2.length P4] 26 (0, 0))) :: H) w)) ∨ (e = .exit 2 ∧ (∃ G6 : (List ((List UInt8) × Bool)), Q2 = .inr G6 ∧ ∃ V7 : Mem, V4.le V7 ∧ Frm 109 [] a ∧ Hp w0 V7 ((Ent.obj o1 (mapO S Value.bool G6)) :: (Ent.obj Q1 (.cells #[.int .i8 d0.fKind, .bool G1.1, .int .i64 G1.2.1, S G1.2.2.1, .slice Z3 G1.2.2.2.1.length P3, .slice Z4 G1.2.2.2.2.length P4] 26 (0, 0))) :: H) w))) (R_loop (n := 109) (w0 := w0) (M := V4) (fun (x : Nat × (Int × (List ((List UInt8) × Bool)))) => match x with | (I1, K1) => [(4, .map (some o1)), (97, .slice Z2 d0.fKeys.length P2), (98, .int .i64 ((d0.fKeys.length : Nat) : Int)), (99, .int .i64 K1.1)]) (fun (x : Nat × (Int × (List ((List UInt8) × Bool)))) => match x with | (I1, K1) => ((Ent.obj o1 (mapO S Value.bool K1.2)) :: (Ent.obj Q1 (.cells #[.int .i8 d0.fKind, .bool G1.1, .int .i64 G1.2.1, S G1.2.2.1, .slice Z3 G1.2.2.2.1.length P3, .slice Z4 G1.2.2.2.2.length P4] 26 (0, 0))) :: H)) (fun (x : Nat × (Int × (List ((List UInt8) × Bool)))) (MM : Mem) => match x with | (I1, K1) => loopF (tree_alone_s1 n d0) I1 K1 = some Q2) (fun (x : Nat × (Int × (List ((List UInt8) × Bool)))) => match x with | (I1, K1) => I1) (n, ((0 : Int), ([] : List ((List UInt8) × Bool)))) (f.kp) N16 hL_1 ?_) ?_
   ·rintro ⟨I1, K1⟩ V5 _ W17 J5 I_1 f N17
    have I_1L := I_1
    obtain ⟨I2, r_1, rfl, hs_1, T1⟩ := loop_step I_1L
    unfold tree_alone_s1 at hs_1
    refine RR (Y f 1 fun _ f => eT (R_seq (RcF f hs_1 (fun B20 F45 => ?_) fun B20 F50 => ?_)))
    ·have U31 := dI.1 B20
     refine wp_skip (T_n (R_seq (wp_block (RR ?_))))
     obtain ⟨X3, S3, F46⟩ := bS F45
     obtain ⟨C1, c_1, e_1, -, D1, R1⟩ := Sli.at_ (B2.mono ((J1.trans J4).trans J5)) S3
     obtain rfl : c_1 = [S X3] := D1
     refine Z f (Y32 e_1 rfl (len := d0.fKeys.length) (cap := P2) (k := .i64) (i := K1.1) (e := 9) (sz := 1) (getI_nn S3) (getI_lt S3)) fun _ f => Y15 f N17 R1 0 rfl fun _ f => Y f 1 fun _ f => eT (R_seq (RR (Y f 2 fun _ f => Z (v := .bool ((mget K1.2 X3).getD false)) f (X_lookup1 (ek := S) (ev := Value.bool) (m := K1.2) (k := X3) (z := false) (kt := 9) (et := 4) rfl (by kernel_rfl) (by kernel_rfl) (by kernel_rfl) (strKey (by kernel_rfl)) (by kernel_rfl) (N17.ownObj 0 rfl)) fun _ f => eT (RcF f F46 (fun B21 F47 => ?_) fun B21 F48 => ?_))))
     ·refine RR (Y f 1 fun _ f => eT (wp_ret (T_r (B_r (T_r (T_r ?_))))))
      obtain rfl := sI F47
      exact .inl ⟨rfl, K1.2, (sI T1).symm, V5, J5, f.kp, N17⟩
     ·refine wp_skip (T_n (R_reg (Y f 2 fun _ f => W_mapput (ek := S) (ev := Value.bool) (m := K1.2) (k := X3) (v := (true)) (kt := 9) (et := 4) f N17 (by kernel_rfl) (by kernel_rfl) rfl (.inl rfl) (by kernel_rfl) (by kernel_rfl) (by kernel_rfl) (by kernel_rfl) (strKey (by kernel_rfl)) fun W18 N18 _ f => W_end rfl (B_n (T_n (R_reg ?_))))))
      obtain ⟨O2, F49⟩ := nS F48
      refine Y f 1 fun _ f => ?_
      have f := f.st 108 (iW O2)
      refine Y f 1 fun _ f => eT ?_
      obtain rfl := sI F49
      exact ⟨⟨I2, (K1.1 + 1, mput K1.2 X3 (true))⟩, Nat.lt_succ_self _, V5, J5, T1, f.kp, N18⟩
    ·have U34 := iff_f dI B20
     refine wp_exit (T_x (T_x ?_))
     obtain rfl := sI F50
     exact .inr ⟨rfl, K1.2, (sI T1).symm, V5, J5, f.kp, N17⟩
   ·rintro _ _ W21 (⟨rfl, G5, rfl, V6, J6, f, N19⟩ | ⟨rfl, G6, rfl, V7, J7, f, N20⟩)
    ·refine B_r (T_r (E_ret1 f rfl (by kernel_rfl : Vc.look _ 2 = some (.int .i64 41)) ?_))
     obtain rfl := sI F44
     exact ⟨_, rfl, V6, ((J1.trans J4).trans J6), (N19.dropN 2), rfl⟩
    ·refine B_x (T_n (RR (Y f 1 fun _ f => eT (wp_ret (E_ret1 f rfl (by kernel_rfl : Vc.look _ 2 = some (.int .i64 0)) ?_)))))
     obtain rfl := sI F44
     exact ⟨_, rfl, V7, ((J1.trans J4).trans J7), (N20.dropN 2), rfl⟩
def tree_Check_s1 (n : Nat) (K1 : Int) (X2 : TE0) : Option (Lp Int (Int × Int)) :=
    (tree_alone n X2).bind fun X3 =>
    bif (!(decide (X3 = 0))) then
      (some (.br (K1, X3)))
    else
      need (inR .i64 (K1 + 1)) <|
      some (.nx (K1 + 1))
def tree_Check (n : Nat) (d0 : TE0) : Option Int :=
  (tree_depth n d0 (24 : Int)).bind fun X1 =>
  bif (decide ((24 : Int) < X1)) then
    (some ((30 : Int)))
  else
    need ((walkV d0).length ≤ 9223372036854775806) <|
    (foldY (tree_Check_s1 n) (walkV d0) (0 : Int)).bind fun j_1 =>
    (match j_1 with 
    | .nx K2 => bif (decide ((4096 : Int) < K2)) then
        (some ((3 : Int)))
      else
        some ((0 : Int)) 
    | .br Q5 => some (Q5.2))
set_option maxRecDepth 20000 in
theorem tree_Check_ok (n : Nat) (M : Mem) (hG : GL M) (c0 : List Value) (d0 : TE0) (h0 : Rep M (emb_TE0 d0) c0) (r : Int) (hF : tree_Check n d0 = some r) : Ok Tryz.prog M 46 [.agg c0.toArray] (fun _ v => v = .int .i64 r) := by
 unfold tree_Check at hF
 intro M1 hM0 w0 H w p0
 replace hG := GL.mono hM0 hG
 replace h0 := Rep.mono hM0 _ _ h0
 obtain ⟨Z1, P1, Z2, P2, rfl, B1, B2⟩ := TE0.opn h0
 refine R_enterM 19 Tryz.func46 rfl rfl (by simp) fun a0 f0 => RR (Y13 (cs := #[.int .i8 d0.fKind, .bool d0.fBool, .int .i64 d0.fNum, S d0.fText, .slice Z1 d0.fList.length P1, .slice Z2 d0.fKeys.length P2]) (T := 26) f0 p0 fun Q1 V1 W1 J1 R1 N1 _ f => ?_)
 have R2 := fz_box R1
 refine Y12 f N1 (.cells #[.int .i64 0] 29 (0, 0)) fun Q2 W2 N2 _ f => eT (R_seq (RR ?_))
 obtain ⟨X1, S1, F1⟩ := bS hF
 refine Y18 f N2 (tree_depth_ok n _ (⟨Q1, 0, none⟩) [.int .i8 d0.fKind, .bool d0.fBool, .int .i64 d0.fNum, S d0.fText, .slice Z1 d0.fList.length P1, .slice Z2 d0.fKeys.length P2] d0 (TE0.shutx (x := d0) (B1.mono J1) (B2.mono J1)) (fz_at (R2) 0 rfl) (24 : Int) X1 S1) fun W3 N3 _ f => Y f 1 fun _ f => eT (RcF f F1 (fun B3 F2 => ?_) fun B3 F3 => ?_)
 ·have U1 := dI.1 B3
  refine RR (Y27 f N3 0 rfl rfl (b := Q2) (j := 0) (v := .int .i64 30) rfl (by exact rfl) (by simp) (by simp) ((Ent.obj Q2 (.cells #[.int .i64 30] 29 (0, 0))) :: H) rfl fun W4 N4 _ f => eT (wp_ret (T_r (E_M0 f (V_rv1 rfl (Y9 (v := .int .i64 30) (ad := ⟨Q2, 0, none⟩) f (N4.ownCell 0 rfl 0)) ?_)))))
  obtain rfl := sI F2
  exact ⟨_, rfl, V1, J1, (N4.dropN 1), rfl⟩
 ·have U2 := iff_f dI B3
  refine wp_skip (T_n (RR (Y12 f N3 (.cells #[.int .i64 0] 3 (0, 0)) fun Q3 W5 N5 _ f => Y27 f N5 0 rfl rfl (b := Q3) (j := 0) (v := .int .i64 0) rfl (by exact rfl) (by simp) (by simp) ((Ent.obj Q3 (.cells #[.int .i64 0] 3 (0, 0))) :: (Ent.obj Q2 (.cells #[.int .i64 0] 29 (0, 0))) :: H) rfl fun W6 N6 _ f => eT (R_seq (RR (Z (v := .agg #[.int .i8 d0.fKind, .bool d0.fBool, .int .i64 d0.fNum, S d0.fText, .slice Z1 d0.fList.length P1, .slice Z2 d0.fKeys.length P2]) f (Y34 (cs := [.int .i8 d0.fKind, .bool d0.fBool, .int .i64 d0.fNum, S d0.fText, .slice Z1 d0.fList.length P1, .slice Z2 d0.fKeys.length P2]) rfl (ad := ⟨Q1, 0, none⟩) (fun j v h => N6.cell (R2 j v h))) fun _ f => ?_))))))
  obtain ⟨O1, F4⟩ := nS F3
  refine Y16 f N6 (walk_ok d0 O1 _ [.int .i8 d0.fKind, .bool d0.fBool, .int .i64 d0.fNum, S d0.fText, .slice Z1 d0.fList.length P1, .slice Z2 d0.fKeys.length P2] (TE0.shutx (x := d0) (B1.mono J1) (B2.mono J1))) fun _ V2 W7 J2 N7 q_1 a_9 f => ?_
  obtain ⟨fv_1, cp_1, rfl, hit_1⟩ := q_1
  refine eT (wp_block ?_)
  have f : Frm 19 [(2, .pointer (some (⟨Q2, 0, none⟩))), (3, .pointer (some (⟨Q3, 0, none⟩))), (9, .func (.func fv_1) #[] cp_1.toArray)] a_9 := f.kp
  obtain ⟨j_1, hL_1, F5⟩ := bS F4
  refine R_range (σ := Int) (β := Int × Int) (vals := valsV) (Y := (tree_Check_s1 n)) (E0 := [Ent.obj Q3 (.cells #[.int .i64 0] 3 (0, 0)), Ent.obj Q2 (.cells #[.int .i64 0] 29 (0, 0))]) (H := H) (w0 := w0) (M := V2) (f := fv_1) (caps := cp_1) f N7 (by kernel_rfl) (by kernel_rfl) (by kernel_rfl) hit_1.1 (fun (K1 : Int) M' E1 => E1 = [Ent.obj Q3 (.cells #[.int .i64 K1] 3 (0, 0)), Ent.obj Q2 (.cells #[.int .i64 0] 29 (0, 0))]) (fun (G1 : Int × Int) M' E1 => E1 = [Ent.obj Q3 (.cells #[.int .i64 G1.1] 3 (0, 0)), Ent.obj Q2 (.cells #[.int .i64 G1.2] 29 (0, 0))]) (fun (_ : Int × Int) => Jmp.ret) (0 : Int) j_1 rfl (fun s_ M_ M2_ E_ hM h => h) (fun s_ M_ M2_ E_ hM h => h) (fun M_ x_ vs_ h => by obtain ⟨c_, h, _⟩ := h; exact ⟨_, h⟩) (hit_1.2 _ _ _ _ _ hL_1) ?_ ?_ ?_
  ·rintro K1 X2 r_1 hs_1 l_1 w0 V3 E_1 H W8 _ v_1 J3 rfl ⟨cc_1, H1, D1⟩ N8 f
   obtain rfl : v_1 = .agg cc_1.toArray := by simpa using H1
   unfold tree_Check_s1 at hs_1
   obtain ⟨Z3, P3, Z4, P4, rfl, B4, B5⟩ := TE0.opn D1
   refine RI_reg (then_out F_out) (by kernel_rfl) (Y12 f N8 (.cells #[.int .i8 0, .bool false, .int .i64 0, S [], .slice none 0 0, .slice none 0 0] 26 (0, 0)) fun Q4 W9 N9 _ f => Y28 (vs := [.int .i8 X2.fKind, .bool X2.fBool, .int .i64 X2.fNum, S X2.fText, .slice Z3 X2.fList.length P3, .slice Z4 X2.fKeys.length P4]) (j := 0) f N9 rfl rfl (by simp [Value.oneCell', S]) (by simp) (by decide) (cs' := #[.int .i8 X2.fKind, .bool X2.fBool, .int .i64 X2.fNum, S X2.fText, .slice Z3 X2.fList.length P3, .slice Z4 X2.fKeys.length P4]) (by kernel_rfl) fun W10 N10 _ f => eT (⟨V3, [Ent.obj Q4 (.cells #[.int .i8 X2.fKind, .bool X2.fBool, .int .i64 X2.fNum, S X2.fText, .slice Z3 X2.fList.length P3, .slice Z4 X2.fKeys.length P4] 26 (0, 0)), Ent.obj Q3 (.cells #[.int .i64 K1] 3 (0, 0)), Ent.obj Q2 (.cells #[.int .i64 0] 29 (0, 0))], (mR _), N10, fun H W11 N11 => ?_⟩))
   refine RI_block (RI_seq (RI_seq (RI_reg (then_out (then_out (block_out (RB_out)))) (by kernel_rfl) ?_)))
   obtain ⟨V4, J4, N12, R3⟩ := N11.fzOwn
   obtain ⟨X3, S2, F6⟩ := bS hs_1
   refine Y18 f N12 (tree_alone_ok n _ (GL.mono (((J1.trans J2).trans J3).trans J4) hG) (⟨Q4, 0, none⟩) [.int .i8 X2.fKind, .bool X2.fBool, .int .i64 X2.fNum, S X2.fText, .slice Z3 X2.fList.length P3, .slice Z4 X2.fKeys.length P4] X2 (TE0.shutx (x := X2) (B4.mono J4) (B5.mono J4)) (fz_at (R3) 0 rfl) X3 S2) fun W12 N13 _ f => Y f 1 fun _ f => eT (RI_seq (RI_reg (then_out (then_out (block_out (RB_out)))) (by kernel_rfl) (Y f 2 fun _ f => eT (RI_cond f (b := !(decide (X3 = 0))) (by kernel_rfl) (by kernel_rfl) (fun B6 => ?_) fun B6 => ?_))))
   ·have U3 : ¬ (X3 = 0) := (not_iff dI).1 B6
    have F7 := cnd_t B6 F6
    refine RI_seq (RI_reg (then_out (then_out (block_out (RB_out)))) (by kernel_rfl) (Y f 1 fun _ f => Y27 f N13 1 rfl rfl (b := Q2) (j := 0) (v := .int .i64 X3) rfl (by exact rfl) (by simp) (by simp) ((Ent.obj Q3 (.cells #[.int .i64 K1] 3 (0, 0))) :: (Ent.obj Q2 (.cells #[.int .i64 X3] 29 (0, 0))) :: H) rfl fun W13 N14 _ f => eT (RI_ret (T_r (B_r ?_)))))
    obtain rfl := sI F7
    exact RB_x rfl ⟨V4, [Ent.obj Q3 (.cells #[.int .i64 K1] 3 (0, 0)), Ent.obj Q2 (.cells #[.int .i64 X3] 29 (0, 0))], J4, N14, rfl⟩
   ·have U4 : ¬ (¬ (X3 = 0)) := iff_f (not_iff dI) B6
    have F8 := cnd_f B6 F6
    refine RI_skip (T_n (RI_reg (block_out (RB_out)) (by kernel_rfl) (Z f (Y33 (v := .int .i64 K1) rfl (ad := ⟨Q3, 0, none⟩) (N13.ownCell 0 rfl 0)) fun _ f => ?_)))
    obtain ⟨O2, F9⟩ := nS F8
    refine Y f 1 fun _ f => ?_
    have f := f.st 16 (iW O2)
    refine Y27 f N13 0 rfl rfl (b := Q3) (j := 0) (v := .int .i64 (K1 + 1)) rfl (by exact rfl) (by simp) (by simp) ((Ent.obj Q3 (.cells #[.int .i64 (K1 + 1)] 3 (0, 0))) :: (Ent.obj Q2 (.cells #[.int .i64 0] 29 (0, 0))) :: H) rfl fun W14 N15 _ f => W_end rfl (B_n ?_)
    obtain rfl := sI F9
    exact RB_n ⟨V4, [Ent.obj Q3 (.cells #[.int .i64 (K1 + 1)] 3 (0, 0)), Ent.obj Q2 (.cells #[.int .i64 0] 29 (0, 0))], J4, N15, rfl⟩
  ·rintro K2 rfl l_2 D_1 rr_1 V5 E_2 W15 _ J5 rfl N16 f
   replace N16 : Hp w0 V5 ((Ent.obj D_1 (.deferred (some []))) :: (Ent.obj Q3 (.cells #[.int .i64 K2] 3 (0, 0))) :: (Ent.obj Q2 (.cells #[.int .i64 0] 29 (0, 0))) :: H) W15 := N16.drop
   replace F5 : (_ : Option _) = some _ := F5
   refine B_n (T_n (R_seq (RR (Z f (Y33 (v := .int .i64 K2) rfl (ad := ⟨Q3, 0, none⟩) (N16.ownCell 1 rfl 0)) fun _ f => Y f 1 fun _ f => eT (RcF f F5 (fun B7 F10 => ?_) fun B7 F11 => ?_)))))
   ·have U5 := dI.1 B7
    refine RR (Y27 f N16 2 rfl rfl (b := Q2) (j := 0) (v := .int .i64 3) rfl (by exact rfl) (by simp) (by simp) ((Ent.obj D_1 (.deferred (some []))) :: (Ent.obj Q3 (.cells #[.int .i64 K2] 3 (0, 0))) :: (Ent.obj Q2 (.cells #[.int .i64 3] 29 (0, 0))) :: H) rfl fun W16 N17 _ f => eT (wp_ret (T_r (E_M1 f N17 fun W17 N18 => V_rv1 rfl (Y9 (v := .int .i64 3) (ad := ⟨Q2, 0, none⟩) f (N18.ownCell 1 rfl 0)) ?_))))
    obtain rfl := sI F10
    exact ⟨_, rfl, V5, ((J1.trans J2).trans J5), (N18.dropN 2), rfl⟩
   ·have U6 := iff_f dI B7
    refine wp_skip (T_n (RR (Y27 f N16 2 rfl rfl (b := Q2) (j := 0) (v := .int .i64 0) rfl (by exact rfl) (by simp) (by simp) ((Ent.obj D_1 (.deferred (some []))) :: (Ent.obj Q3 (.cells #[.int .i64 K2] 3 (0, 0))) :: (Ent.obj Q2 (.cells #[.int .i64 0] 29 (0, 0))) :: H) rfl fun W18 N19 _ f => eT (wp_ret (E_M1 f N19 fun W19 N20 => V_rv1 rfl (Y9 (v := .int .i64 0) (ad := ⟨Q2, 0, none⟩) f (N20.ownCell 1 rfl 0)) ?_)))))
    obtain rfl := sI F11
    exact ⟨_, rfl, V5, ((J1.trans J2).trans J5), (N20.dropN 2), rfl⟩
  ·rintro Q5 rfl l_3 D_2 rr_2 V6 E_3 W20 _ J6 S3 N21 f
   obtain rfl := S3
   replace N21 : Hp w0 V6 ((Ent.obj D_2 (.deferred (some []))) :: (Ent.obj Q3 (.cells #[.int .i64 Q5.1] 3 (0, 0))) :: (Ent.obj Q2 (.cells #[.int .i64 Q5.2] 29 (0, 0))) :: H) W20 := N21.drop
   refine B_r (T_r (E_M1 f N21 fun W21 N22 => V_rv1 rfl (Y9 (v := .int .i64 Q5.2) (ad := ⟨Q2, 0, none⟩) f (N22.ownCell 1 rfl 0)) ?_))
   obtain rfl := sI F5
   exact ⟨_, rfl, V6, ((J1.trans J2).trans J6), (N22.dropN 2), rfl⟩
end Go.Proofs.YtocefedhenhbfaaGreatDoor
end

section
namespace Go.Proofs
open Go Go.Shelf
def Tryz.laysS_ren : Go.Shelf.Ren := ⟨fun | 6 => 117 | 14 => 128 | 15 => 129 | 20 => 136 | 21 => 137 | 22 => 138 | 23 => 139 | 24 => 140 | 25 => 141 | 26 => 142 | 27 => 143 | 28 => 144 | 29 => 145 | 46 => 155 | 47 => 156 | 48 => 157 | 49 => 158 | 50 => 159 | 57 => 166 | n => n, fun | 22 => 55 | 24 => 3 | 25 => 173 | 39 => 128 | 45 => 192 | 46 => 193 | 50 => 162 | 53 => 199 | 55 => 158 | 66 => 208 | 70 => 212 | 76 => 219 | 77 => 102 | n => n, fun | n => n⟩
theorem Tryz.laysS : Go.Proofs.SlLaysF.n6 Tryz.prog Tryz.laysS_ren := {
 mixed := by kernel_rfl
 f6 := ⟨ "slices.SortFunc[[]int,int]", by decide, Tryz.func117.trans (congrArg some (by kernel_rfl))⟩
 f14 := ⟨ "slices.pdqsortCmpFunc[int]", by decide, Tryz.func128.trans (congrArg some (by kernel_rfl))⟩
 f15 := Tryz.func129.trans (congrArg some (by kernel_rfl))
 f20 := ⟨ "slices.insertionSortCmpFunc[int]", by decide, Tryz.func136.trans (congrArg some (by kernel_rfl))⟩
 f21 := ⟨ "slices.heapSortCmpFunc[int]", by decide, Tryz.func137.trans (congrArg some (by kernel_rfl))⟩
 f22 := ⟨ "slices.breakPatternsCmpFunc[int]", by decide, Tryz.func138.trans (congrArg some (by kernel_rfl))⟩
 f23 := ⟨ "slices.choosePivotCmpFunc[int]", by decide, Tryz.func139.trans (congrArg some (by kernel_rfl))⟩
 f24 := ⟨ "slices.reverseRangeCmpFunc[int]", by decide, Tryz.func140.trans (congrArg some (by kernel_rfl))⟩
 f25 := ⟨ "slices.partialInsertionSortCmpFunc[int]", by decide, Tryz.func141.trans (congrArg some (by kernel_rfl))⟩
 f26 := ⟨ "slices.partitionEqualCmpFunc[int]", by decide, Tryz.func142.trans (congrArg some (by kernel_rfl))⟩
 f27 := ⟨ "slices.partitionCmpFunc[int]", by decide, Tryz.func143.trans (congrArg some (by kernel_rfl))⟩
 f28 := Tryz.func144.trans (congrArg some (by kernel_rfl))
 f29 := Tryz.func145.trans (congrArg some (by kernel_rfl))
 f46 := ⟨ "slices.siftDownCmpFunc[int]", by decide, Tryz.func155.trans (congrArg some (by kernel_rfl))⟩
 f47 := Tryz.func156.trans (congrArg some (by kernel_rfl))
 f48 := Tryz.func157.trans (congrArg some (by kernel_rfl))
 f49 := ⟨ "slices.medianAdjacentCmpFunc[int]", by decide, Tryz.func158.trans (congrArg some (by kernel_rfl))⟩
 f50 := ⟨ "slices.medianCmpFunc[int]", by decide, Tryz.func159.trans (congrArg some (by kernel_rfl))⟩
 f57 := ⟨ "slices.order2CmpFunc[int]", by decide, Tryz.func166.trans (congrArg some (by kernel_rfl))⟩
 t0 := Tryz.underlying0
 a0 := Tryz.isAgg0
 z0 := Tryz.sizeOf0
 v0 := Tryz.zeroValue0
 t3 := Tryz.underlying3
 a3 := Tryz.isAgg3
 z3 := Tryz.sizeOf3
 v3 := Tryz.zeroValue3
 t4 := Tryz.underlying4
 a4 := Tryz.isAgg4
 z4 := Tryz.sizeOf4
 v4 := Tryz.zeroValue4
 t5 := Tryz.underlying5
 a5 := Tryz.isAgg5
 z5 := Tryz.sizeOf5
 v5 := Tryz.zeroValue5
 t9 := Tryz.underlying9
 a9 := Tryz.isAgg9
 z9 := Tryz.sizeOf9
 v9 := Tryz.zeroValue9
 t22 := Tryz.underlying55
 a22 := Tryz.isAgg55
 z22 := Tryz.sizeOf55
 v22 := Tryz.zeroValue55
 a24 := Tryz.isAgg3
 z24 := Tryz.sizeOf3
 t25 := Tryz.underlying173
 a25 := Tryz.isAgg173
 z25 := Tryz.sizeOf173
 v25 := Tryz.zeroValue173
 t39 := Tryz.underlying128
 a39 := Tryz.isAgg128
 z39 := Tryz.sizeOf128
 v39 := Tryz.zeroValue128
 t45 := Tryz.underlying192
 a45 := Tryz.isAgg192
 z45 := Tryz.sizeOf192
 v45 := Tryz.zeroValue192
 t46 := Tryz.underlying193
 a46 := Tryz.isAgg193
 z46 := Tryz.sizeOf193
 v46 := Tryz.zeroValue193
 t50 := Tryz.underlying162
 a50 := Tryz.isAgg162
 z50 := Tryz.sizeOf162
 v50 := Tryz.zeroValue162
 t53 := Tryz.underlying199
 a53 := Tryz.isAgg199
 z53 := Tryz.sizeOf199
 v53 := Tryz.zeroValue199
 t55 := Tryz.underlying158
 a55 := Tryz.isAgg158
 z55 := Tryz.sizeOf158
 v55 := Tryz.zeroValue158
 t66 := Tryz.underlying208
 a66 := Tryz.isAgg208
 z66 := Tryz.sizeOf208
 v66 := Tryz.zeroValue208
 t70 := Tryz.underlying212
 a70 := Tryz.isAgg212
 z70 := Tryz.sizeOf212
 v70 := Tryz.zeroValue212
 t76 := Tryz.underlying219
 a76 := Tryz.isAgg219
 z76 := Tryz.sizeOf219
 v76 := Tryz.zeroValue219
 t77 := Tryz.underlying102
 a77 := Tryz.isAgg102
 z77 := Tryz.sizeOf102
 v77 := Tryz.zeroValue102 }
end Go.Proofs
end

section
namespace Go.Proofs.YtocefedhenhbfaaGreatDoor
open Go Go.Vc Go.RowKit Go.Sort
def keyLe (keys : List (List UInt8)) (x y : Int) : Bool := !(decide (Lib.compareBytes (keys.getD y.toNat []) (keys.getD x.toNat []) < 0))
theorem keyLe_iff {keys : List (List UInt8)} {x y : Int} : keyLe keys x y = true ↔ Lib.compareBytes (keys.getD x.toNat []) (keys.getD y.toNat []) ≤ 0 := by
 have := cb_anti (keys.getD x.toNat []) (keys.getD y.toNat [])
 simp only [keyLe, Bool.not_eq_true', decide_eq_false_iff_not]
 omega
def ins (le : Int → Int → Bool) (x : Int) : List Int → List Int
  | [] => [x]
  | y :: r => bif le x y then x :: y :: r else y :: ins le x r
def isort (le : Int → Int → Bool) : List Int → List Int
  | [] => []
  | x :: r => ins le x (isort le r)
theorem ins_perm (le : Int → Int → Bool) (x : Int) : ∀ l, (ins le x l).Perm (x :: l)
 | [] => List.Perm.refl _
 | y :: r => by
  unfold ins
  cases le x y with
  | true => exact List.Perm.refl _
  | false => exact ((ins_perm le x r).cons y).trans (List.Perm.swap x y r)
theorem isort_perm (le : Int → Int → Bool) : ∀ l, (isort le l).Perm l
 | [] => List.Perm.refl _
 | x :: r => (ins_perm le x _).trans ((isort_perm le r).cons x)
theorem ins_sorted {le : Int → Int → Bool} (ht : ∀ a b c, le a b = true → le b c = true → le a c = true) (hn : ∀ a b, le a b = true ∨ le b a = true) (x : Int) : ∀ l, l.Pairwise (fun a b => le a b = true) → (ins le x l).Pairwise (fun a b => le a b = true)
 | [], _ => by simp [ins]
 | y :: r, h => by
  obtain ⟨h1, h2⟩ := List.pairwise_cons.1 h
  unfold ins
  cases hxy : le x y with
  | true => exact List.pairwise_cons.2 ⟨fun z hz => by
    rcases List.mem_cons.1 hz with rfl | hz
    ·exact hxy
    ·exact ht _ _ _ hxy (h1 z hz), h⟩
  | false =>
   refine List.pairwise_cons.2 ⟨fun z hz => ?_, ins_sorted ht hn x r h2⟩
   rcases List.mem_cons.1 ((ins_perm le x r).mem_iff.1 hz) with rfl | hz
   ·exact (hn z y).resolve_left (by simp [hxy])
   ·exact h1 z hz
theorem isort_sorted {le : Int → Int → Bool} (ht : ∀ a b c, le a b = true → le b c = true → le a c = true) (hn : ∀ a b, le a b = true ∨ le b a = true) : ∀ l, (isort le l).Pairwise (fun a b => le a b = true)
 | [] => List.Pairwise.nil
 | x :: r => ins_sorted ht hn x _ (isort_sorted ht hn r)
theorem keyLe_trans (keys : List (List UInt8)) (a b c : Int) (h1 : keyLe keys a b = true) (h2 : keyLe keys b c = true) : keyLe keys a c = true :=
 keyLe_iff.2 (cb_trans _ _ _ (keyLe_iff.1 h1) (keyLe_iff.1 h2)).1
theorem keyLe_total (keys : List (List UInt8)) (a b : Int) : keyLe keys a b = true ∨ keyLe keys b a = true := by
 rw [keyLe_iff, keyLe_iff]
 have := cb_anti (keys.getD a.toNat []) (keys.getD b.toNat [])
 omega
theorem sort_eq {keys : List (List UInt8)} {d : List Int} (hnd : keys.Nodup) (hin : ∀ i ∈ d, 0 ≤ i ∧ i < (keys.length : Int)) : d.mergeSort (keyLe keys) = isort (keyLe keys) d := by
 refine List.Perm.eq_of_pairwise (le := fun a b => keyLe keys a b = true) (fun a b ha hb h1 h2 => ?_) (List.pairwise_mergeSort (keyLe_trans keys) (fun a b => by simpa using keyLe_total keys a b) d) (isort_sorted (keyLe_trans keys) (keyLe_total keys) d) ((List.mergeSort_perm d _).trans (isort_perm _ d).symm)
 have ia := hin a ((List.mergeSort_perm d _).mem_iff.1 ha)
 have ib := hin b ((isort_perm _ d).mem_iff.1 hb)
 have e1 := keyLe_iff.1 h1
 have e2 := keyLe_iff.1 h2
 have e3 := cb_anti (keys.getD a.toNat []) (keys.getD b.toNat [])
 have e4 := cb_eq _ _ (by omega : Lib.compareBytes (keys.getD a.toNat []) (keys.getD b.toNat []) = 0)
 have la : a.toNat < keys.length := by omega
 have lb : b.toNat < keys.length := by omega
 have e5 : keys[a.toNat] = keys[b.toNat] := by simpa [la, lb] using e4
 have := (List.getElem_inj hnd).1 e5
 omega
def h_sortKeys (_ : Nat) (v : TE0) (d : List Int) : Option (List Int) :=
  need (v.fKeys.Nodup ∧ ∀ i ∈ d, 0 ≤ i ∧ i < (v.fKeys.length : Int)) (need (d.length < 4611686018427387904) (some (isort (keyLe v.fKeys) d)))
theorem finOf {n : Nat} : ∀ (d : List Int), (∀ i ∈ d, 0 ≤ i ∧ i < (n : Int)) → ∃ l : List (Fin n), l.map (fun x => (x.val : Int)) = d
 | [], _ => ⟨[], rfl⟩
 | i :: r, h => by
  obtain ⟨l, hl⟩ := finOf r fun j hj => h j (List.mem_cons_of_mem _ hj)
  have hi := h i List.mem_cons_self
  refine ⟨⟨i.toNat, by omega⟩ :: l, ?_⟩
  simp [hl]
  omega
theorem keys_swo {n : Nat} (k : Fin n → List UInt8) : SWO (ltOf fun x y : Fin n => Lib.compareBytes (k x) (k y)) := by
 refine ⟨fun x => by simp [ltOf, cb_self], fun x y z h1 h2 => ?_, fun x y z h1 h2 => ?_⟩
 ·simp only [ltOf, decide_eq_true_eq] at *
  exact (cb_trans _ _ _ (by omega) (by omega)).2 (.inl h1)
 ·simp only [ltOf, decide_eq_false_iff_not] at *
  have a1 := cb_anti (k x) (k y)
  have a2 := cb_anti (k y) (k z)
  have a3 := cb_anti (k x) (k z)
  have := (cb_trans (k z) (k y) (k x) (by omega) (by omega)).1
  omega
theorem sortKeys_ok (n : Nat) {M : Mem} {bA ad0 : Addr} {v : TE0} {c0 : List Value} (h0 : Rep M (emb_TE0 v) c0) (q0 : ∀ j u, c0[j]? = some u → M.cell? (ad0.add j) = some u)
  (hb : M.cell? bA = some (.pointer (some ad0))) (u : Value) (d : List Int) (cs : List Value) (hr : RepSeq M (d.map (Dat.int .i64)) cs) (r : List Int) (hF : h_sortKeys n v d = some r) :
  OkH Tryz.prog M [.row 3 1 u d.length cs] 117 [u, .func (.func 118) #[] #[.pointer (some bA)]] (fun M' E' z => ∃ cs', z = .tuple #[] ∧ E' = [.row 3 1 u r.length cs'] ∧ RepSeq M' (r.map (Dat.int .i64)) cs' ∧ r.length = d.length) := by
 unfold h_sortKeys at hF
 obtain ⟨⟨hnd, hin⟩, hF⟩ := need_some hF
 obtain ⟨hlen, hF⟩ := need_some hF
 obtain rfl := Option.some.inj hF
 rw [← sort_eq hnd hin]
 obtain rfl := repInts hr
 clear hF
 obtain ⟨zs, rfl⟩ := finOf d hin
 clear hr hin
 intro M2 hM w0 H w hp
 have hmap : (zs.mergeSort fun x y => !(ltOf (fun x y : Fin v.fKeys.length => Lib.compareBytes v.fKeys[x] v.fKeys[y])) y x).map (fun x => (x.val : Int)) = (zs.map (fun x => (x.val : Int))).mergeSort (keyLe v.fKeys) := by
  refine List.map_mergeSort fun a _ b _ => ?_
  simp [keyLe, ltOf]
 rw [← hmap]
 have hls : (zs.mergeSort fun x y => !(ltOf (fun x y : Fin v.fKeys.length => Lib.compareBytes v.fKeys[x] v.fKeys[y])) y x).length = zs.length := List.length_mergeSort _
 clear hmap
 by_cases hd : zs = []
 ·subst hd
  have key : ∀ p cap, u = .slice p 0 cap → Calls Tryz.prog 117 [u, .func (.func 118) #[] #[.pointer (some bA)]].toArray w fun e w' => e = .returned (.tuple #[]) ∧ w' = w := fun p cap e => by
   subst e
   exact AnyF.slices_SortFunc_none { Tryz.laysS with } p cap _ w
  have hv : ∃ p cap, u = .slice p 0 cap := by
   rcases hp.rowObj with ⟨h1, _⟩ | ⟨g, cap, cur, h1, _⟩
   ·exact ⟨_, _, h1⟩
   ·exact ⟨_, _, h1⟩
  obtain ⟨p, cap, hv⟩ := hv
  refine (key p cap hv).mono fun e w' ⟨he, hw⟩ => ⟨_, he, M2, _, Mem.le_refl _, ?_, [], rfl, rfl, ?_, by simp⟩
  ·subst hw
   simpa using hp
  ·simp [RepSeq]
 ·have hpos : 0 < v.fKeys.length := by
   cases zs with
   | nil => exact absurd rfl hd
   | cons x _ => exact Nat.lt_of_le_of_lt (Nat.zero_le _) x.isLt
  haveI : Inhabited (Fin v.fKeys.length) := ⟨⟨0, hpos⟩⟩
  rcases hp.rowObj with ⟨h1, h2, h3, h4⟩ | ⟨g, cap, cur, h1, h2, h3, h4, h5, h6, h7⟩
  ·simp at h2
   exact absurd h2 hd
  ·simp only [List.length_map, List.map_map] at h1 h2 h4 h5 h6
   subst h1
   obtain ⟨enc, henc⟩ : ∃ enc : Fin v.fKeys.length → Value, enc = fun x => .int .i64 (x.val : Int) := ⟨_, rfl⟩
   have he0 : (Value.int IntKind.i64 ∘ fun x : Fin v.fKeys.length => (x.val : Int)) = enc := by rw [henc]; rfl
   rw [he0] at h5
   obtain ⟨cf, hcf⟩ : ∃ cf : Fin v.fKeys.length → Fin v.fKeys.length → Int, cf = fun x y => Lib.compareBytes v.fKeys[x] v.fKeys[y] := ⟨_, rfl⟩
   have hO : SWO (ltOf cf) := by rw [hcf]; exact keys_swo fun x => v.fKeys[x]
   have hT : ∀ x y, (ltOf cf) x y = false → (ltOf cf) y x = false → x = y := fun x y g1 g2 => by
    rw [hcf] at g1 g2
    simp only [ltOf, decide_eq_false_iff_not] at g1 g2
    have a1 := cb_anti v.fKeys[x] v.fKeys[y]
    have := cb_eq _ _ (by omega : Lib.compareBytes v.fKeys[x] v.fKeys[y] = 0)
    exact Fin.ext ((List.getElem_inj hnd).1 this)
   have hcell : ∀ j, j < zs.length → cur[j]? = (zs.map enc)[j]? := fun j hj => by
    rw [← h5, List.getElem?_take_of_lt (by omega), Array.getElem?_toList]
   have hH : Holds enc w g 0 zs.toArray := fun j hj => by
    have hj' : j < zs.length := by simpa using hj
    refine ⟨?_, ?_⟩
    ·rw [Nat.zero_add, h7.ownCell 0 rfl, hcell j hj']
     simp [hj']
    ·rw [Nat.zero_add]
     exact h7.ownFrozen 0 rfl j (by omega)
   have hg : g < w.heap.size := lt_of_get (h7.own _ List.mem_cons_self).2
   have eg : ∀ args w, (callFunc 118 args).run Tryz.prog w = .ok (.enter 118 args) w := Go.Proofs.enters_of Tryz.func118 (by kernel_rfl) rfl
   have hget : ∀ x : Fin v.fKeys.length, getI v.fKeys (x.val : Int) = some v.fKeys[x] := fun x => by simp [getI]
   have hcmp : CmpLays1 Tryz.prog 118 #[.pointer (some bA)] enc cf g 0 zs.toArray.size w := by
    intro m os dk hs x y
    have hpW : Hp w0 M2 (.obj g (.cells (putCells enc 0 dk cur) 3 (0, 0)) :: H) (sortWorld enc w g 0 m dk os) := ((h7.sameHeap rfl rfl rfl rfl : Hp w0 M2 _ (Sort.ahead w m)).mapCells (putCells enc 0 dk)).grow_ os
    have hc := order1_calls hpW (Rep.mono hM _ _ h0) (fun j u h => hM.cell (q0 j u h)) (hM.cell hb) (x.val : Int) (y.val : Int) v.fKeys[x] v.fKeys[y] (hget x) (hget y)
    have ea : (#[enc x, enc y] ++ #[.pointer (some bA)] : Array Value) = [.int .i64 (x.val : Int), .int .i64 (y.val : Int), .pointer (some bA)].toArray := by rw [henc]; rfl
    rw [ea]
    exact hc.mono fun e w' ⟨he, q, hw⟩ => ⟨by rw [he, hcf], q, #[], by rw [hw, grow_empty]⟩
   have hcall : Calls Tryz.prog 117 #[.slice (some ⟨g, 0, none⟩) zs.length cap, .func (.func 118) #[] #[.pointer (some bA)]] w fun e w' =>
     e = .returned (.tuple #[]) ∧ ∃ n os, w' = sortWorld enc w g 0 n (zs.mergeSort fun x y => !(ltOf cf) y x).toArray os :=
    Any.slices_SortFunc_total Tryz.laysS enc (fun x => by rw [henc]; rfl) cf hO 118 #[.pointer (some bA)] g 0 cap zs.toArray w eg hcmp hH hg (by simpa using hlen) hT
   simp only [List.length_map]
   rw [hcf] at hcall
   refine hcall.mono fun e w' ⟨he, k, os, hw⟩ => ⟨_, he, M2, _, Mem.le_refl _, ?_, _, rfl, rfl, intsRep _, by simp⟩
   subst hw
   have h9 := ((h7.sameHeap rfl rfl rfl rfl : Hp w0 M2 _ (Sort.ahead w k)).mapCells (putCells enc 0 (zs.mergeSort fun x y => !(ltOf (fun x y : Fin v.fKeys.length => Lib.compareBytes v.fKeys[x] v.fKeys[y])) y x).toArray)).grow_ os
   have hcs : cap ≤ cur.size := by have := h4.1; omega
   have hlen' : zs.length ≤ cap := h2
   rw [hls]
   refine h9.objRow h2 h3 (by simpa [putCells] using h4) ?_ (by simp)
   rw [List.map_map, he0]
   generalize (zs.mergeSort fun x y => !(ltOf (fun x y : Fin v.fKeys.length => Lib.compareBytes v.fKeys[x] v.fKeys[y])) y x) = ys at hls ⊢
   apply List.ext_getElem?
   intro j
   by_cases hj : j < zs.length
   ·rw [List.getElem?_take_of_lt (by omega), Array.getElem?_toList]
    have hjc : j < cur.size := by omega
    have hjy : j < ys.length := by omega
    simp [putCells, hjc, hjy]
   ·rw [List.getElem?_eq_none (by simp; omega), List.getElem?_eq_none (by simp; omega)]
end Go.Proofs.YtocefedhenhbfaaGreatDoor
end
