/-
  VC: the same rules in a short spelling: what is known of a frame is not printed, but reckoned. Own work.
-/
import Derived.Test.YtalifkcchfkgmaaDoorVkE
set_option linter.unusedVariables false
set_option linter.unusedSimpArgs false
namespace Go.Vc
open Go Go.RowKit
variable {dd : List Deferred}
/-! ### Entries, pulled ahead one after another -/
def takeAt : Nat → List Ent → Option (Ent × List Ent)
  | 0, e :: H => some (e, H)
  | i + 1, e :: H => (takeAt i H).map fun r => (r.1, e :: r.2)
  | _, [] => none
def pullE (i : Nat) (H : List Ent) : List Ent := match takeAt i H with | some r => r.1 :: r.2 | none => H
def pulls : List Nat → List Ent → List Ent
  | [], H => H
  | i :: is, H => pulls is (pullE i H)
theorem takeAt_perm : ∀ (i : Nat) (H : List Ent) (r : Ent × List Ent), takeAt i H = some r → H.Perm (r.1 :: r.2)
  | 0, [], r, h => by simp [takeAt] at h
  | 0, e :: H, r, h => by simp only [takeAt, Option.some.injEq] at h; subst h; exact List.Perm.refl _
  | i + 1, [], r, h => by simp [takeAt] at h
  | i + 1, e :: H, r, h => by
    simp only [takeAt] at h
    obtain ⟨s, hs, rfl⟩ := Option.map_eq_some_iff.1 h
    exact ((takeAt_perm i H s hs).cons e).trans (List.Perm.swap _ _ _)
theorem pulls_perm : ∀ (is : List Nat) (H : List Ent), H.Perm (pulls is H)
  | [], H => List.Perm.refl _
  | i :: is, H => by
    unfold pulls
    refine List.Perm.trans ?_ (pulls_perm is _)
    unfold pullE
    split
    · rename_i r hr; exact takeAt_perm i H r hr
    · exact List.Perm.refl _
theorem Hp.pl {w0 w : World} {M : Mem} {H : List Ent} (h : Hp w0 M H w) (is : List Nat) : Hp w0 M (pulls is H) w := h.perm (pulls_perm is H)

theorem fzu {M M' : Mem} {base : Addr} {cs : List Value} (hM : M.le M') (h : ∀ j u, cs[j]? = some u → M.cell? (base.add j) = some u) : ∀ j u, cs[j]? = some u → M'.cell? (base.add j) = some u := fun j u e => hM.cell (h j u e)
/-! ### Runs -/
def runF (P : Program) (ops : Array Oper) (n : Nat) (l : List Oper) (L : Fr) (w : World) : Fr := match runL P ops n l L w with | some r => r.1 | none => []
section
variable {P : Program} {ops : Array Oper} {n : Nat} {Q : Exit → Act → World → Prop} {L : Fr} {a : Act} {w0 w : World} {M : Mem} {H : List Ent}
theorem V_run {l : List Oper} (hf : Frm n L a dd) (m : Nat) (h : (runL P ops n (l.take m) L w).map (·.2) = some w) (hk : ∀ a', Frm n (runF P ops n (l.take m) L w) a' dd → wpList P ops Q (l.drop m) a' w) : wpList P ops Q l a w := by
  obtain ⟨r, h1, h2⟩ := Option.map_eq_some_iff.1 h
  have e : runF P ops n (l.take m) L w = r.1 := by unfold runF; rw [h1]
  rw [e] at hk
  have := run_sound (Q := Q) (l.drop m) (l.take m) L w a hf r.1 w (by rw [h1, ← h2]) hk
  rwa [List.take_append_drop] at this

/-- may an operation be walked, and where does it go? -/
def okO (ops : Array Oper) (n : Nat) (L : Fr) (o : Oper) : Bool := match wantedL ops L o with
  | some true => readyL L o && (match o.dst with | some d => Nat.blt d n | none => false)
  | _ => false
def dstO (o : Oper) : Nat := o.dst.getD 0
theorem okO_spec {o : Oper} (h : okO ops n L o = true) : wantedL ops L o = some true ∧ readyL L o = true ∧ o.dst = some (dstO o) ∧ Nat.blt (dstO o) n = true := by
  unfold okO at h
  split at h
  · rename_i hw
    simp only [Bool.and_eq_true] at h
    refine ⟨hw, h.1, ?_⟩
    obtain ⟨_, h⟩ := h
    unfold dstO
    split at h
    · rename_i d hd; rw [hd]; exact ⟨rfl, h⟩
    · cases h
  · cases h
def ldO (P : Program) (L : Fr) (o : Oper) : Option Value := match o.op with | .load t x => bif one1 P t then some (ev L x) else none | _ => none
theorem ldO_spec {o : Oper} {v : Value} (h : ldO P L o = some v) : ∃ t x, o.op = .load t x ∧ one1 P t = true ∧ ev L x = v := by
  unfold ldO at h
  split at h
  · rename_i t x he
    cases ht : one1 P t with
    | false => rw [ht] at h; cases h
    | true => rw [ht] at h; exact ⟨t, x, he, ht, Option.some.inj h⟩
  · cases h
/-- A load of one cell that is known. -/
theorem V_ld {o : Oper} {rest : List Oper} {base : Addr} {cs : List Value} {v : Value} (hf : Frm n L a dd) (hp : Hp w0 M H w) (hc : ∀ j u, cs[j]? = some u → M.cell? (base.add j) = some u) (i : Nat) (hv : cs[i]? = some v)
    (hB : okO ops n L o = true) (hx : ldO P L o = some (.pointer (some (base.add i)))) (hk : ∀ a', Frm n ((dstO o, v) :: L) a' dd → wpList P ops Q rest a' w) : wpList P ops Q (o :: rest) a w := by
  obtain ⟨h1, h2, h3, h4⟩ := okO_spec hB
  obtain ⟨t, x, e1, e2, e3⟩ := ldO_spec hx
  exact W_eq hf h1 h2 h3 h4 (X_load1 e1 e3 e2 (hp.cell (hc i v hv))) hk
theorem V_eq {w' : World} {o : Oper} {rest : List Oper} {v : Value} (hf : Frm n L a dd) (hB : okO ops n L o = true) (hx : (execOp (ev L) o).run P w = .ok (.value v) w') (hk : ∀ a', Frm n ((dstO o, v) :: L) a' dd → wpList P ops Q rest a' w') : wpList P ops Q (o :: rest) a w := by
  obtain ⟨h1, h2, h3, h4⟩ := okO_spec hB
  exact W_eq hf h1 h2 h3 h4 hx hk
theorem V_okv {o : Oper} {rest : List Oper} {f : FuncId} {args : List Value} {v : Value} (hf : Frm n L a dd) (hp : Hp w0 M H w) (hc : Ok P M f args fun _ u => u = v) (hB : okO ops n L o = true) (hx : ∀ w, (execOp (ev L) o).run P w = .ok (.enter f args.toArray) w)
    (hk : ∀ w', Hp w0 M H w' → ∀ a', Frm n ((dstO o, v) :: L) a' dd → wpList P ops Q rest a' w') : wpList P ops Q (o :: rest) a w := by
  obtain ⟨h1, h2, h3, h4⟩ := okO_spec hB
  exact W_okv hf hp h1 h2 h3 h4 hx hc hk
theorem V_ok {o : Oper} {rest : List Oper} {f : FuncId} {args : List Value} {Post : Mem → Value → Prop} (hf : Frm n L a dd) (hp : Hp w0 M H w) (hc : Ok P M f args Post) (hB : okO ops n L o = true) (hx : ∀ w, (execOp (ev L) o).run P w = .ok (.enter f args.toArray) w)
    (hk : ∀ v M' w', M.le M' → Hp w0 M' H w' → Post M' v → ∀ a', Frm n ((dstO o, v) :: L) a' dd → wpList P ops Q rest a' w') : wpList P ops Q (o :: rest) a w := by
  obtain ⟨h1, h2, h3, h4⟩ := okO_spec hB
  exact W_ok hf hp h1 h2 h3 h4 hx hc hk
theorem V_okH {o : Oper} {rest : List Oper} {f : FuncId} {args : List Value} {E : List Ent} {Post : Mem → List Ent → Value → Prop} (hf : Frm n L a dd) (hp : Hp w0 M (E ++ H) w) (hc : OkH P M E f args Post) (hB : okO ops n L o = true) (hx : ∀ w, (execOp (ev L) o).run P w = .ok (.enter f args.toArray) w)
    (hk : ∀ v M' E' w', M.le M' → Hp w0 M' (E' ++ H) w' → Post M' E' v → ∀ a', Frm n ((dstO o, v) :: L) a' dd → wpList P ops Q rest a' w') : wpList P ops Q (o :: rest) a w := by
  obtain ⟨h1, h2, h3, h4⟩ := okO_spec hB
  exact W_okH hf hp h1 h2 h3 h4 hx hc hk
theorem V_alloc {o : Oper} {rest : List Oper} (hf : Frm n L a dd) (hp : Hp w0 M H w) (ob : Obj) (hB : okO ops n L o = true) (h : ∀ w, (execOp (ev L) o).run P w = .ok (.value (.pointer (some ⟨w.heap.size, 0, none⟩))) (w.alloc ob))
    (hk : ∀ b w', Hp w0 M (.obj b ob :: H) w' → ∀ a', Frm n ((dstO o, .pointer (some ⟨b, 0, none⟩)) :: L) a' dd → wpList P ops Q rest a' w') : wpList P ops Q (o :: rest) a w :=
  V_eq hf hB (h w) (hk w.heap.size (w.alloc ob) (hp.alloc ob))
theorem V_allocS {o : Oper} {rest : List Oper} (hf : Frm n L a dd) (hp : Hp w0 M H w) (ob : Obj) (k c : Nat) (hB : okO ops n L o = true) (h : ∀ w, (execOp (ev L) o).run P w = .ok (.value (.slice (some ⟨w.heap.size, 0, none⟩) k c)) (w.alloc ob))
    (hk : ∀ b w', Hp w0 M (.obj b ob :: H) w' → ∀ a', Frm n ((dstO o, .slice (some ⟨b, 0, none⟩) k c) :: L) a' dd → wpList P ops Q rest a' w') : wpList P ops Q (o :: rest) a w :=
  V_eq hf hB (h w) (hk w.heap.size (w.alloc ob) (hp.alloc ob))
/-- A box that never turns. -/
theorem V_box {o : Oper} {rest : List Oper} {cs : Array Value} {T : TypeId} (hf : Frm n L a dd) (hp : Hp w0 M H w) (hB : okO ops n L o = true) (h : ∀ w, (execOp (ev L) o).run P w = .ok (.value (.pointer (some ⟨w.heap.size, 0, none⟩))) (w.alloc (.cells cs T (0, 0))))
    (hk : ∀ b M' w', M.le M' → (∀ j v, cs[j]? = some v → M'.cell? ⟨b, j, none⟩ = some v) → Hp w0 M' H w' → ∀ a', Frm n ((dstO o, .pointer (some ⟨b, 0, none⟩)) :: L) a' dd → wpList P ops Q rest a' w') : wpList P ops Q (o :: rest) a w :=
  V_alloc hf hp _ hB h fun b w' hp' => hk b _ w' hp'.freeze.1 (fun j v hv => by rw [add_cell, hv]) hp'.freeze.2
end

/-! ### Quiet runs -/
def runQ (P : Program) (ops : Array Oper) (n : Nat) : List Oper → Fr → World → Option (Fr × List World)
  | [], L, _ => some (L, [])
  | o :: os, L, w => match o.dst with
    | none => none
    | some d => bif Nat.blt d n then
        (match wantedL ops L o with
        | none => none
        | some false => (runQ P ops n os ((d, undef) :: L) w).map fun r => (r.1, w :: r.2)
        | some true => bif readyL L o then
            (match (execOp (ev L) o).run P w with
            | .ok (.value v) w' => (runQ P ops n os ((d, v) :: L) w').map fun r => (r.1, w' :: r.2)
            | _ => none) else none) else none
def qF (P : Program) (ops : Array Oper) (n : Nat) (l : List Oper) (L : Fr) (w : World) : Fr := match runQ P ops n l L w with | some r => r.1 | none => []
theorem runQ_len {P : Program} {ops : Array Oper} {n : Nat} : ∀ (l : List Oper) (L : Fr) (w : World) (r : Fr × List World), runQ P ops n l L w = some r → ∃ pre, r.1 = pre ++ L ∧ pre.length = l.length
  | [], L, w, r, h => by simp only [runQ, Option.some.injEq] at h; subst h; exact ⟨[], rfl, rfl⟩
  | o :: os, L, w, r, h => by
    unfold runQ at h
    split at h
    · cases h
    rename_i d hd
    cases hb : Nat.blt d n with
    | false => rw [hb] at h; cases h
    | true =>
      rw [hb, cond_true] at h
      have fin : ∀ (v : Value) (w1 : World) (s : Fr × List World), runQ P ops n os ((d, v) :: L) w1 = some s → ∃ pre, s.1 = pre ++ L ∧ pre.length = (o :: os).length := fun v w1 s hs => by
        obtain ⟨pre, h1, h2⟩ := runQ_len os _ _ s hs
        exact ⟨pre ++ [(d, v)], by rw [h1, List.append_assoc]; rfl, by simp [h2]⟩
      split at h
      · cases h
      · obtain ⟨s, hs, rfl⟩ := Option.map_eq_some_iff.1 h
        exact fin _ _ s hs
      · cases hr : readyL L o with
        | false => rw [hr] at h; cases h
        | true =>
          rw [hr, cond_true] at h
          split at h
          · obtain ⟨s, hs, rfl⟩ := Option.map_eq_some_iff.1 h
            exact fin _ _ s hs
          · cases h
/-- what a quiet run tells of its first operation -/
theorem runQ_step {P : Program} {ops : Array Oper} {n : Nat} {o : Oper} {os : List Oper} {L L' : Fr} {wd : World} (h : ∀ w, runQ P ops n (o :: os) L w = some (L', List.replicate (o :: os).length w)) :
    ∃ d, o.dst = some d ∧ d < n ∧ ((wantedL ops L o = some false ∧ ∀ w, runQ P ops n os ((d, undef) :: L) w = some (L', List.replicate os.length w)) ∨
      (wantedL ops L o = some true ∧ readyL L o = true ∧ ∃ v, (∀ w, (execOp (ev L) o).run P w = .ok (.value v) w) ∧ ∀ w, runQ P ops n os ((d, v) :: L) w = some (L', List.replicate os.length w))) := by
  have h0 := h wd
  cases hd : o.dst with
  | none => unfold runQ at h0; simp only [hd] at h0; cases h0
  | some d =>
    cases hb : Nat.blt d n with
    | false => unfold runQ at h0; simp only [hd, hb, cond_false] at h0; cases h0
    | true =>
      refine ⟨d, rfl, by simpa [Nat.blt_eq] using hb, ?_⟩
      cases hw : wantedL ops L o with
      | none => unfold runQ at h0; simp only [hd, hb, cond_true, hw] at h0; cases h0
      | some b =>
        cases b with
        | false =>
          refine .inl ⟨rfl, fun w => ?_⟩
          have h1 := h w
          unfold runQ at h1
          simp only [hd, hb, cond_true, hw] at h1
          obtain ⟨s, hs, e⟩ := Option.map_eq_some_iff.1 h1
          obtain ⟨s1, s2⟩ := s
          simp only [List.length_cons, List.replicate_succ, Prod.mk.injEq, List.cons.injEq] at e
          rw [hs, e.1, e.2.2]
        | true =>
          cases hr : readyL L o with
          | false => unfold runQ at h0; simp only [hd, hb, cond_true, hw, hr, cond_false] at h0; cases h0
          | true =>
            have key : ∀ w, ∃ v, (execOp (ev L) o).run P w = .ok (.value v) w ∧ runQ P ops n os ((d, v) :: L) w = some (L', List.replicate os.length w) := fun w => by
              have h1 := h w
              unfold runQ at h1
              simp only [hd, hb, cond_true, hw, hr] at h1
              split at h1
              · rename_i v w' hx
                obtain ⟨s, hs, e⟩ := Option.map_eq_some_iff.1 h1
                obtain ⟨s1, s2⟩ := s
                simp only [List.length_cons, List.replicate_succ, Prod.mk.injEq, List.cons.injEq] at e
                obtain ⟨e1, e2, e3⟩ := e
                subst e2
                exact ⟨v, hx, by rw [hs, e1, e3]⟩
              · cases h1
            obtain ⟨v, hv1, hv2⟩ := key wd
            have same : ∀ w u, runQ P ops n os ((d, u) :: L) w = some (L', List.replicate os.length w) → u = v := fun w u hu => by
              obtain ⟨p1, q1, r1⟩ := runQ_len os _ _ _ hv2
              obtain ⟨p2, q2, r2⟩ := runQ_len os _ _ _ hu
              have e : p1 ++ ((d, v) :: L) = p2 ++ ((d, u) :: L) := q1.symm.trans q2
              have := (List.append_inj e (r1.trans r2.symm)).2
              simp only [List.cons.injEq, Prod.mk.injEq] at this
              exact this.1.2.symm
            refine .inr ⟨rfl, rfl, v, fun w => ?_, fun w => ?_⟩
            · obtain ⟨u, h1, h2⟩ := key w
              rw [h1, same w u h2]
            · obtain ⟨u, h1, h2⟩ := key w
              rw [← same w u h2]; exact h2
section
variable {P : Program} {ops : Array Oper} {n : Nat} {C : World → Prop} {K : Act → Prop} {L : Fr} {a : Act} {w0 : World} {M : Mem} {H : List Ent}
theorem Q_runs (wd : World) : ∀ (l rest : List Oper) (L L' : Fr) (a : Act), Frm n L a dd → (∀ w, runQ P ops n l L w = some (L', List.replicate l.length w)) → (∀ a', Frm n L' a' dd → wpQuiet P ops C K rest a') → wpQuiet P ops C K (l ++ rest) a
  | [], rest, L, L', a, hf, h, hk => by
    have := h wd
    simp only [runQ, Option.some.injEq, Prod.mk.injEq] at this
    exact hk a (this.1 ▸ hf)
  | o :: os, rest, L, L', a, hf, h, hk => by
    obtain ⟨d, h1, h2, h3⟩ := runQ_step (wd := wd) h
    have hdn : Nat.blt d n = true := by simpa [Nat.blt_eq] using h2
    rcases h3 with ⟨hw, h4⟩ | ⟨hw, hr, v, hx, h4⟩
    · exact Q_not hf hw h1 hdn fun a' fa => Q_runs wd os rest _ L' a' fa h4 hk
    · exact Q_eq hf hw hr h1 hdn (fun w _ => hx w) fun a' fa => Q_runs wd os rest _ L' a' fa h4 hk
theorem Q_run {l : List Oper} (wd : World) (hf : Frm n L a dd) (m : Nat) (h : ∀ w, runQ P ops n (l.take m) L w = some (qF P ops n (l.take m) L wd, List.replicate (l.take m).length w)) (hk : ∀ a', Frm n (qF P ops n (l.take m) L wd) a' dd → wpQuiet P ops C K (l.drop m) a') : wpQuiet P ops C K l a := by
  have := Q_runs (C := C) (K := K) wd (l.take m) (l.drop m) L _ a hf h hk
  rwa [List.take_append_drop] at this
theorem Q_ld {o : Oper} {rest : List Oper} {base : Addr} {cs : List Value} {v : Value} (hf : Frm n L a dd) (hc : ∀ j u, cs[j]? = some u → M.cell? (base.add j) = some u) (i : Nat) (hv : cs[i]? = some v)
    (hB : okO ops n L o = true) (hx : ldO P L o = some (.pointer (some (base.add i)))) (hk : ∀ a', Frm n ((dstO o, v) :: L) a' dd → wpQuiet P ops (fun w => Hp w0 M H w) K rest a') : wpQuiet P ops (fun w => Hp w0 M H w) K (o :: rest) a := by
  obtain ⟨h1, h2, h3, h4⟩ := okO_spec hB
  obtain ⟨t, x, e1, e2, e3⟩ := ldO_spec hx
  exact Q_eq hf h1 h2 h3 h4 (fun w hp => X_load1 e1 e3 e2 (hp.cell (hc i v hv))) hk
theorem QV_eq {o : Oper} {rest : List Oper} {v : Value} (hf : Frm n L a dd) (hB : okO ops n L o = true) (hx : ∀ w, C w → (execOp (ev L) o).run P w = .ok (.value v) w) (hk : ∀ a', Frm n ((dstO o, v) :: L) a' dd → wpQuiet P ops C K rest a') : wpQuiet P ops C K (o :: rest) a := by
  obtain ⟨h1, h2, h3, h4⟩ := okO_spec hB
  exact Q_eq hf h1 h2 h3 h4 hx hk
theorem QV_okv {o : Oper} {rest : List Oper} {f : FuncId} {args : List Value} {v : Value} (hf : Frm n L a dd) (hc : Ok P M f args fun _ u => u = v) (hB : okO ops n L o = true) (hx : ∀ w, (execOp (ev L) o).run P w = .ok (.enter f args.toArray) w)
    (hk : ∀ a', Frm n ((dstO o, v) :: L) a' dd → wpQuiet P ops (fun w => Hp w0 M H w) K rest a') : wpQuiet P ops (fun w => Hp w0 M H w) K (o :: rest) a := by
  obtain ⟨h1, h2, h3, h4⟩ := okO_spec hB
  exact Q_okv hf h1 h2 h3 h4 hx hc hk
end
/-! mixed -/
section
variable {P : Program} {ops : Array Oper} {n : Nat} {Q : Exit → Act → World → Prop} {L : Fr} {a : Act} {w0 : World} {M : Mem} {Hr : List Ent} {i : Mem × List Ent}
theorem M_runs (wd : World) : ∀ (l : List Oper) (rest : List (Bool × Oper)) (L L' : Fr) (a : Act), Frm n L a → (∀ w, runQ P ops n l L w = some (L', List.replicate l.length w)) → (∀ a', Frm n L' a' → wpMix P ops Q (Cla w0 M Hr) rest a' i) → wpMix P ops Q (Cla w0 M Hr) (l.map (fun o => (true, o)) ++ rest) a i
  | [], rest, L, L', a, hf, h, hk => by
    have := h wd
    simp only [runQ, Option.some.injEq, Prod.mk.injEq] at this
    exact hk a (this.1 ▸ hf)
  | o :: os, rest, L, L', a, hf, h, hk => by
    obtain ⟨d, h1, h2, h3⟩ := runQ_step (wd := wd) h
    have hdn : Nat.blt d n = true := by simpa [Nat.blt_eq] using h2
    rcases h3 with ⟨hw, h4⟩ | ⟨hw, hr, v, hx, h4⟩
    · exact M_not hf hw h1 hdn fun a' fa => M_runs wd os rest _ L' a' fa h4 hk
    · exact M_eq hf hw hr h1 hdn (fun w _ => hx w) fun a' fa => M_runs wd os rest _ L' a' fa h4 hk
theorem MR_runs (wd : World) : ∀ (l : List Oper) (rest : List (Bool × Oper)) (L L' : Fr) (a : Act), Frm n L a → (∀ w, runQ P ops n l L w = some (L', List.replicate l.length w)) → (∀ a', Frm n L' a' → wpMixR P ops Q rest (Cla w0 M Hr) a' i) → wpMixR P ops Q (l.map (fun o => (true, o)) ++ rest) (Cla w0 M Hr) a i
  | [], rest, L, L', a, hf, h, hk => by
    have := h wd
    simp only [runQ, Option.some.injEq, Prod.mk.injEq] at this
    exact hk a (this.1 ▸ hf)
  | o :: os, rest, L, L', a, hf, h, hk => by
    obtain ⟨d, h1, h2, h3⟩ := runQ_step (wd := wd) h
    have hdn : Nat.blt d n = true := by simpa [Nat.blt_eq] using h2
    rcases h3 with ⟨hw, h4⟩ | ⟨hw, hr, v, hx, h4⟩
    · exact MR_not hf hw h1 hdn fun a' fa => MR_runs wd os rest _ L' a' fa h4 hk
    · exact MR_eq hf hw hr h1 hdn (fun w _ => hx w) fun a' fa => MR_runs wd os rest _ L' a' fa h4 hk
def qops (l : List (Bool × Oper)) : List Oper := l.map (·.2)
def allQ (l : List (Bool × Oper)) : Bool := l.all (·.1)
theorem qops_map {l : List (Bool × Oper)} (h : allQ l = true) : (qops l).map (fun o => (true, o)) = l := by
  induction l with
  | nil => rfl
  | cons p r ih =>
    obtain ⟨b, o⟩ := p
    simp only [allQ, List.all_cons, Bool.and_eq_true] at h
    obtain ⟨rfl, h2⟩ := h
    show (true, o) :: (qops r).map _ = _
    rw [ih h2]
theorem M_run {l : List (Bool × Oper)} (wd : World) (hf : Frm n L a) (m : Nat) (hq : allQ (l.take m) = true) (h : ∀ w, runQ P ops n (qops (l.take m)) L w = some (qF P ops n (qops (l.take m)) L wd, List.replicate (qops (l.take m)).length w)) (hk : ∀ a', Frm n (qF P ops n (qops (l.take m)) L wd) a' → wpMix P ops Q (Cla w0 M Hr) (l.drop m) a' i) : wpMix P ops Q (Cla w0 M Hr) l a i := by
  have := M_runs (Q := Q) (w0 := w0) (M := M) (Hr := Hr) (i := i) wd (qops (l.take m)) (l.drop m) L _ a hf h hk
  rwa [qops_map hq, List.take_append_drop] at this
theorem MR_run {l : List (Bool × Oper)} (wd : World) (hf : Frm n L a) (m : Nat) (hq : allQ (l.take m) = true) (h : ∀ w, runQ P ops n (qops (l.take m)) L w = some (qF P ops n (qops (l.take m)) L wd, List.replicate (qops (l.take m)).length w)) (hk : ∀ a', Frm n (qF P ops n (qops (l.take m)) L wd) a' → wpMixR P ops Q (l.drop m) (Cla w0 M Hr) a' i) : wpMixR P ops Q l (Cla w0 M Hr) a i := by
  have := MR_runs (Q := Q) (w0 := w0) (M := M) (Hr := Hr) (i := i) wd (qops (l.take m)) (l.drop m) L _ a hf h hk
  rwa [qops_map hq, List.take_append_drop] at this
end
end Go.Vc
