/-
  VC, part 18: scopes of labels; maps of typed data among the owned. Own work.
-/
import Derived.Test.YtoonlehffohpaaaVc17
namespace Go.Vc
open Go Go.RowKit

def inScope (Q : Exit → Act → World → Prop) : Exit → Act → World → Prop
  | .goto _, _, _ => False
  | e, a, w => Q e a w
section
variable {P : Program} {Q : Exit → Act → World → Prop} {a : Act} {w : World}
theorem S_n (h : Q .normal a w) : inScope Q .normal a w := h
theorem S_x {i : Nat} (h : Q (.exit i) a w) : inScope Q (.exit i) a w := h
theorem S_r (h : Q .ret a w) : inScope Q .ret a w := h
theorem step_scope {c : Code} {b : Frame} {k : List Item} {cs : List Frame} : step P (lone (b.at a (.code (.scope c) :: k)) cs w) = .next (lone (b.at a (.code c :: .inScope c :: k)) cs w) :=
  step_lone_go (by simp [stepG, stepG.exec, Frame.at])
theorem step_inScope {c : Code} {b : Frame} {k : List Item} {cs : List Frame} : step P (lone (b.at a (.inScope c :: k)) cs w) = .next (lone (b.at a k) cs w) :=
  step_lone_go (by simp [stepG, stepG.exec, Frame.at])
theorem wp_scope {c : Code} (h : c.wp P (inScope Q) a w) : (Code.scope c).wp P Q a w := by
  intro b k cs
  obtain ⟨e, a₁, w₁, hq, harr⟩ := h b (.inScope c :: k) cs
  cases e with
  | normal => exact ⟨.normal, a₁, w₁, hq, .head step_scope (Steps.trans harr (.one step_inScope))⟩
  | exit id => exact ⟨.exit id, a₁, w₁, hq, fun k' hk => .head step_scope (harr k' (by simp [exitTo, hk]))⟩
  | goto l => exact hq.elim
  | ret => exact ⟨_, a₁, w₁, hq, .of_steps (.one step_scope) harr⟩
  | panic ch => exact ⟨_, a₁, w₁, hq, .of_steps (.one step_scope) harr⟩
  | outgrown => exact ⟨_, a₁, w₁, hq, .of_steps (b := b) (k := k) (cs := cs) (e := .outgrown) (.one step_scope) harr⟩
end

/-- 'len' of an owned row. -/
theorem X_lenRow {P : Program} {w0 w : World} {M : Mem} {H : List Ent} {ρ : Operand → Value} {o : Oper} {x : Operand} {t : TypeId} {e : TypeId} {sz n : Nat} {v : Value} {cs : List Value} (ho : o.op = .call { callee := .builtin .len, args := #[x], argTypes := #[t] }) (hx : ρ x = v) {e' : TypeId} (ht : P.underlying t = some (.slice e'))
    (hp : Hp w0 M H w) (i : Nat) (he : H[i]? = some (.row e sz v n cs)) : (execOp ρ o).run P w = .ok (.value (.int .i64 ((n : Nat) : Int))) w := by
  have : ∃ A cap, v = .slice A n cap := by
    rcases (hp.rowAt i he).2 with ⟨rfl, rfl⟩ | ⟨g, cap, cur, rfl, _⟩
    · exact ⟨_, _, rfl⟩
    · exact ⟨_, _, rfl⟩
  obtain ⟨A, cap, rfl⟩ := this
  unfold execOp
  have hu : (underlying t).run P w = .ok (.slice e') w := run_underlying ht w
  simp only [ho, resolve, invoke, builtin, List.map_toArray, List.map_cons, List.map_nil, hx, Sem.run_bind, Sem.run_pure, Result.andThen_ok]
  simp [Builtin.len_, Sem.run_bind, hu, goInt]

/-! ### Maps -/
section
variable {κ V : Type} [DecidableEq κ]
def mget : List (κ × V) → κ → Option V
  | [], _ => none
  | p :: r, k => if p.1 = k then some p.2 else mget r k
def mput : List (κ × V) → κ → V → List (κ × V)
  | [], k, v => [(k, v)]
  | p :: r, k, v => if p.1 = k then (k, v) :: r else p :: mput r k v
theorem mget_mput {m : List (κ × V)} {k j : κ} {v : V} : mget (mput m k v) j = if k = j then some v else mget m j := by
  induction m with
  | nil => simp [mput, mget]
  | cons p r ih =>
    unfold mput
    by_cases h : p.1 = k
    · rw [if_pos h]
      simp only [mget]
      by_cases hk : k = j
      · simp [hk]
      · have : ¬ p.1 = j := fun e => hk (h ▸ e)
        simp [hk, this]
    · rw [if_neg h]
      simp only [mget, ih]
      by_cases hp : p.1 = j
      · have : ¬ k = j := fun e => h (hp.trans e.symm)
        simp [hp, this]
      · simp [hp]
theorem lkAt_map {ev : V → Value} {k : κ} : ∀ (m : List (κ × V)) (j : Nat), (lkAt k (m.map fun p => (p.1, ev p.2)) j).map (·.2) = (mget m k).map ev
  | [], j => rfl
  | p :: r, j => by
    simp only [List.map_cons, lkAt, mget]
    by_cases h : p.1 = k
    · simp [h]
    · simp only [h, if_false]; exact lkAt_map r (j + 1)
theorem lkAt_shift {k : κ} : ∀ (m : List (κ × Value)) (j : Nat), lkAt k m (j + 1) = (lkAt k m j).map fun q => (q.1 + 1, q.2)
  | [], j => rfl
  | p :: r, j => by
    simp only [lkAt]
    by_cases h : p.1 = k
    · simp [h]
    · simp only [h, if_false]; exact lkAt_shift r (j + 1)
theorem updM_map {ev : V → Value} {k : κ} {v : V} : ∀ (m : List (κ × V)), updM (m.map fun p => (p.1, ev p.2)) k (ev v) = (mput m k v).map fun p => (p.1, ev p.2)
  | [] => rfl
  | p :: r => by
    have ih := updM_map (ev := ev) (k := k) (v := v) r
    unfold updM at ih ⊢
    simp only [List.map_cons, lkAt, mput]
    by_cases h : p.1 = k
    · simp [h]
    · simp only [h, if_false, List.map_cons]
      rw [lkAt_shift]
      cases hl : lkAt k (r.map fun p => (p.1, ev p.2)) 0 with
      | none => rw [hl] at ih; simp only [Option.map_none] at ih ⊢; rw [← ih]; rfl
      | some q => rw [hl] at ih; simp only [Option.map_some, List.set_cons_succ] at ih ⊢; rw [← ih]
/-- The object of a map of typed data. -/
def mapO (ek : κ → Value) (ev : V → Value) (m : List (κ × V)) : Obj := mObj ek (m.map fun p => (p.1, ev p.2))
variable {P : Program} {ops : Array Oper} {n : Nat} {Q : Exit → Act → World → Prop} {L : Fr} {a : Act} {w0 w : World} {M : Mem} {H : List Ent} {ek : κ → Value} {ev : V → Value}
theorem X_lookup1 {o : Oper} {ρ : Operand → Value} {t kt et : TypeId} {x ix : Operand} {b : Nat} {m : List (κ × V)} {k : κ} {z : V} (ho : o.op = .lookup t x ix false) (hx : ρ x = .map (some b)) (hk : ρ ix = ek k) (ht : P.underlying t = some (.map kt et)) (K : KeyLaw P kt ek)
    (hz : (P.info? et).bind (·.zero) = some (ev z)) (hb : w.heap[b]? = some (mapO ek ev m)) : (execOp ρ o).run P w = .ok (.value (ev ((mget m k).getD z))) w := by
  have := X_lookup (ok := false) ho hx hk ht K hz hb
  rw [this, lkAt_map]
  cases mget m k <;> rfl
theorem X_lookup2 {o : Oper} {ρ : Operand → Value} {t kt et : TypeId} {x ix : Operand} {b : Nat} {m : List (κ × V)} {k : κ} {z : V} (ho : o.op = .lookup t x ix true) (hx : ρ x = .map (some b)) (hk : ρ ix = ek k) (ht : P.underlying t = some (.map kt et)) (K : KeyLaw P kt ek)
    (hz : (P.info? et).bind (·.zero) = some (ev z)) (hb : w.heap[b]? = some (mapO ek ev m)) : (execOp ρ o).run P w = .ok (.value (.tuple #[ev ((mget m k).getD z), .bool (mget m k).isSome])) w := by
  have := X_lookup (ok := true) ho hx hk ht K hz hb
  have e := lkAt_map (ev := ev) (k := k) m 0
  rw [this, e]
  have h2 : (lkAt k (m.map fun p => (p.1, ev p.2)) 0).isSome = (mget m k).isSome := by
    cases h : lkAt k (m.map fun p => (p.1, ev p.2)) 0 <;> cases h' : mget m k <;> simp [h, h'] at e ⊢
  rw [h2]
  cases mget m k <;> rfl
theorem W_newmap {κ V : Type} {o : Oper} {rest : List Oper} {d : Nat} {t : TypeId} (ek : κ → Value) (ev : V → Value) (hf : Frm n L a) (hp : Hp w0 M H w) (hw : wantedL ops L o = some true) (hr : readyL L o = true)
    (hd : o.dst = some d) (hdn : Nat.blt d n = true) (ho : o.op = .makeMap t none)
    (hk : ∀ b w', Hp w0 M (.obj b (mapO ek ev []) :: H) w' → ∀ a', Frm n ((d, .map (some b)) :: L) a' → wpList P ops Q rest a' w') : wpList P ops Q (o :: rest) a w :=
  W_makeMap ek hf hp hw hr hd hdn ho hk
theorem W_mapput {o : Oper} {rest : List Oper} {t kt et : TypeId} {x ix y : Operand} {b : Nat} {m : List (κ × V)} {k : κ} {v : V} (hf : Frm n L a) (hp : Hp w0 M (.obj b (mapO ek ev m) :: H) w) (hw : wantedL ops L o = some true) (hr : readyL L o = true) (hd : o.dst = none)
    (ho : o.op = .mapUpdate t x ix y ∨ o.op = .insert t x ix y) (hx : Vc.ev L x = .map (some b)) (hk : Vc.ev L ix = ek k) (hv : Vc.ev L y = ev v) (ht : P.underlying t = some (.map kt et)) (K : KeyLaw P kt ek)
    (hq : ∀ w', Hp w0 M (.obj b (mapO ek ev (mput m k v)) :: H) w' → ∀ a', Frm n L a' → wpList P ops Q rest a' w') : wpList P ops Q (o :: rest) a w := by
  refine W_mapUpdate hf hp hw hr hd ho hx hk hv ht K fun w' hp' a' ha => hq w' ?_ a' ha
  rw [updM_map] at hp'; exact hp'
end
end Go.Vc
