/-
  VC, part 4: contracts; operations over what is known of memory; loops; joins; calls. Own work.
-/
import Derived.Test.YtoonlehffohpaaaVc3
import Derived.Deep.LoopGhost
import Derived.Maps.AppendAt
import Derived.OwnWalk
namespace Go.Vc
open Go Go.RowKit

/-- A CONTRACT: from every heap that fits (M: what it must know; M2: what is known there), the call returns a value that fits, and what was known or owned stays so. -/
def Ok (P : Program) (M : Mem) (f : FuncId) (args : List Value) (Post : Mem → Value → Prop) : Prop :=
  ∀ M2, M.le M2 → ∀ w0 H w, Hp w0 M2 H w → Calls P f args.toArray w fun e w' => ∃ v, e = .returned v ∧ ∃ M', M2.le M' ∧ Hp w0 M' H w' ∧ Post M' v

/-- A contract of a function that writes blocks of its caller's (E: before, E': behind). -/
def OkH (P : Program) (M : Mem) (E : List Ent) (f : FuncId) (args : List Value) (Post : Mem → List Ent → Value → Prop) : Prop :=
  ∀ M2, M.le M2 → ∀ w0 H w, Hp w0 M2 (E ++ H) w → Calls P f args.toArray w fun e w' => ∃ v, e = .returned v ∧ ∃ M' E', M2.le M' ∧ Hp w0 M' (E' ++ H) w' ∧ Post M' E' v

theorem Ok.up {P : Program} {M M1 : Mem} {f : FuncId} {args : List Value} {Post : Mem → Value → Prop} (h : Ok P M f args Post) (hM : M.le M1) : Ok P M1 f args Post := fun M2 h2 => h M2 (hM.trans h2)
theorem OkH.up {P : Program} {M M1 : Mem} {E : List Ent} {f : FuncId} {args : List Value} {Post : Mem → List Ent → Value → Prop} (h : OkH P M E f args Post) (hM : M.le M1) : OkH P M1 E f args Post := fun M2 h2 => h M2 (hM.trans h2)

theorem Ok.mono {P : Program} {M : Mem} {f : FuncId} {args : List Value} {Post Post' : Mem → Value → Prop} (h : Ok P M f args Post) (hq : ∀ M' v, M.le M' → Post M' v → Post' M' v) : Ok P M f args Post' :=
  fun M2 h2 w0 H w hp => (h M2 h2 w0 H w hp).mono fun _ _ ⟨v, he, M', hM, hp', hv⟩ => ⟨v, he, M', hM, hp', hq M' v (h2.trans hM) hv⟩

theorem Ok.args {P : Program} {M : Mem} {f : FuncId} {args args' : List Value} {Post : Mem → Value → Prop} (h : Ok P M f args Post) (e : args = args') : Ok P M f args' Post := e ▸ h

theorem Hp.at_set {w0 w : World} {M : Mem} {H : List Ent} {e : Ent} (i : Nat) (hi : i < H.length) (h : Hp w0 M (e :: H.eraseIdx i) w) : Hp w0 M (H.set i e) w := by
  have := perm_pull (H.set i e) i e (by simp [hi])
  rw [List.eraseIdx_set_eq] at this
  exact h.perm this.symm

section
variable {P : Program} {ops : Array Oper} {n : Nat} {Q : Exit → Act → World → Prop} {L : Fr} {a : Act} {w0 w : World} {M : Mem} {H : List Ent}

/-- A run that makes one block. -/
theorem W_alloc {l : List Oper} (hf : Frm n L a) (hp : Hp w0 M H w) (m : Nat) (ks : List Nat) (o : Obj) (L' : Nat → Fr)
    (h : ∀ w, runK P ops n (l.take m) ks L w = some (L' w.heap.size, w.alloc o)) (hk : ∀ b w', Hp w0 M (.obj b o :: H) w' → ∀ a', Frm n (L' b) a' → wpList P ops Q (l.drop m) a' w') : wpList P ops Q l a w :=
  W_run hf m ks (h w) (hk w.heap.size (w.alloc o) (hp.alloc o))

theorem W_store1 {o : Oper} {rest : List Oper} {t : TypeId} {x y : Operand} {b j : Nat} {v : Value} {cs : Array Value} {T : TypeId} {lo hi : Nat} (hf : Frm n L a) (hp : Hp w0 M H w) (i : Nat)
    (hw : wantedL ops L o = some true) (hr : readyL L o = true) (hd : o.dst = none) (ho : o.op = .store t x y) (hx : ev L x = .pointer (some ⟨b, j, none⟩)) (hy : ev L y = v) (hv : v.oneCell' = true) (hs : szIs P t 1 = true)
    (he : H[i]? = some (.obj b (.cells cs T (lo, hi)))) (hj : j < cs.size) (hfr : ¬ (lo ≤ j ∧ j < hi)) (H' : List Ent) (hH : H.set i (.obj b (.cells (cs.setIfInBounds j v) T (lo, hi))) = H')
    (hk : ∀ w', Hp w0 M H' w' → ∀ a', Frm n L a' → wpList P ops Q rest a' w') : wpList P ops Q (o :: rest) a w := by
  subst hH
  have hc : w.cell? ⟨b, j, none⟩ = some cs[j] := (hp.ownCell i he j).trans (by simp [hj])
  refine W_skip hf hw hr hd (X_store1 ho hx hy hv hs hc (hp.ownFrozen i he j hfr)) (hk _ ?_)
  exact Hp.at_set i (List.getElem?_eq_some_iff.1 he).1 ((hp.pull i he rfl).setCell j v)

/-- A call by its contract. -/
theorem W_ok {o : Oper} {rest : List Oper} {d : Nat} {f : FuncId} {args : List Value} {Post : Mem → Value → Prop} (hf : Frm n L a) (hp : Hp w0 M H w) (hw : wantedL ops L o = some true) (hr : readyL L o = true)
    (hd : o.dst = some d) (hdn : Nat.blt d n = true) (hx : ∀ w, (execOp (ev L) o).run P w = .ok (.enter f args.toArray) w) (hc : Ok P M f args Post)
    (hk : ∀ v M' w', M.le M' → Hp w0 M' H w' → Post M' v → ∀ a', Frm n ((d, v) :: L) a' → wpList P ops Q rest a' w') : wpList P ops Q (o :: rest) a w :=
  W_call (R := fun v w' => ∃ M', M.le M' ∧ Hp w0 M' H w' ∧ Post M' v) hf hw hr hd hdn (hx w) (hc M (Mem.le_refl M) w0 H w hp) fun v w' ⟨M', h1, h2, h3⟩ a' ha => hk v M' w' h1 h2 h3 a' ha

/-- A call whose value is one that the contract tells: what is known stays as it was named. -/
theorem W_okv {o : Oper} {rest : List Oper} {d : Nat} {f : FuncId} {args : List Value} {v : Value} (hf : Frm n L a) (hp : Hp w0 M H w) (hw : wantedL ops L o = some true) (hr : readyL L o = true)
    (hd : o.dst = some d) (hdn : Nat.blt d n = true) (hx : ∀ w, (execOp (ev L) o).run P w = .ok (.enter f args.toArray) w) (hc : Ok P M f args fun _ u => u = v)
    (hk : ∀ w', Hp w0 M H w' → ∀ a', Frm n ((d, v) :: L) a' → wpList P ops Q rest a' w') : wpList P ops Q (o :: rest) a w :=
  W_ok hf hp hw hr hd hdn hx hc fun u M' w' h1 h2 h3 a' ha => by subst h3; exact hk w' (h2.less h1) a' ha

theorem W_okH {o : Oper} {rest : List Oper} {d : Nat} {f : FuncId} {args : List Value} {E : List Ent} {Post : Mem → List Ent → Value → Prop} (hf : Frm n L a) (hp : Hp w0 M (E ++ H) w) (hw : wantedL ops L o = some true) (hr : readyL L o = true)
    (hd : o.dst = some d) (hdn : Nat.blt d n = true) (hx : ∀ w, (execOp (ev L) o).run P w = .ok (.enter f args.toArray) w) (hc : OkH P M E f args Post)
    (hk : ∀ v M' E' w', M.le M' → Hp w0 M' (E' ++ H) w' → Post M' E' v → ∀ a', Frm n ((d, v) :: L) a' → wpList P ops Q rest a' w') : wpList P ops Q (o :: rest) a w :=
  W_call (R := fun v w' => ∃ M' E', M.le M' ∧ Hp w0 M' (E' ++ H) w' ∧ Post M' E' v) hf hw hr hd hdn (hx w) (hc M (Mem.le_refl M) w0 H w hp) fun v w' ⟨M', E', h1, h2, h3⟩ a' ha => hk v M' E' w' h1 h2 h3 a' ha

/-- '[]byte(s)'. -/
theorem W_bytes {o : Oper} {rest : List Oper} {d : Nat} {t t' e : Nat} {x : Operand} {l : List UInt8} (hf : Frm n L a) (hp : Hp w0 M H w) (hw : wantedL ops L o = some true) (hr : readyL L o = true)
    (hd : o.dst = some d) (hdn : Nat.blt d n = true) (ho : o.op = .convert t t' x) (hx : ev L x = S l) (ht : P.underlying t = some .string) (ht' : P.underlying t' = some (.slice e)) (he : P.underlying e = some (.int .u8))
    (hk : ∀ b cap w', l.length ≤ cap → Hp w0 M (.obj b (.cells (byteCs l ++ List.replicate (cap - l.length) (Value.int .u8 0)).toArray e (cap, cap + 1)) :: H) w' → ∀ a', Frm n ((d, .slice (some ⟨b, 0, none⟩) l.length cap) :: L) a' → wpList P ops Q rest a' w') :
    wpList P ops Q (o :: rest) a w := by
  obtain ⟨cap, h1, h2⟩ := X_bytes (w := w) ho hx ht ht' he
  exact W_eq hf hw hr hd hdn h2 (hk w.heap.size cap _ h1 (hp.drew.alloc _))

/-! ### Joins and loops -/
theorem R_mid {c : Code} (Mid : Act → World → Prop) (h : c.wp P (Exit.then Mid Q) a w) (hk : ∀ a w, Mid a w → Q .normal a w) : c.wp P Q a w :=
  wp_mono h fun e a w hq => by
    cases e with
    | normal => exact hk a w hq
    | _ => exact hq

theorem wp_loop_x {σ : Type} {c : Code} (J : σ → Act → World → Prop) (μ : σ → Nat) (x0 : σ) (h0 : J x0 a w)
    (round : ∀ x a w, J x a w → c.wp P (Exit.then (fun a' w' => ∃ x', μ x' < μ x ∧ J x' a' w') Q) a w) : (Code.loop c).wp P Q a w := by
  refine wp_loop_ghost (fun k a w => ∃ x, μ x = k ∧ J x a w) (μ x0) ⟨x0, rfl, h0⟩ ?_
  rintro k a w ⟨x, rfl, hx⟩
  refine wp_mono (round x a w hx) fun e a' w' hq => ?_
  cases e with
  | normal => obtain ⟨x', h1, h2⟩ := hq; exact ⟨μ x', h1, x', rfl, h2⟩
  | _ => exact hq

/-- A LOOP: its state x; the slots, the owned blocks, what is known, each as a function of x. -/
theorem R_loop {σ : Type} {c : Code} (Lf : σ → Fr) (Hf : σ → List Ent) (I : σ → Mem → Prop) (μ : σ → Nat) (x0 : σ) (hf : Frm n (Lf x0) a) (hp : Hp w0 M (Hf x0) w) (hi : I x0 M)
    (round : ∀ x M' a w, M.le M' → I x M' → Frm n (Lf x) a → Hp w0 M' (Hf x) w → c.wp P (Exit.then (fun a' w' => ∃ x', μ x' < μ x ∧ ∃ M', M.le M' ∧ I x' M' ∧ Frm n (Lf x') a' ∧ Hp w0 M' (Hf x') w') Q) a w) :
    (Code.loop c).wp P Q a w :=
  wp_loop_x (fun x a w => ∃ M', M.le M' ∧ I x M' ∧ Frm n (Lf x) a ∧ Hp w0 M' (Hf x) w) μ x0 ⟨M, Mem.le_refl M, hi, hf, hp⟩ fun x a w ⟨M', h1, h2, h3, h4⟩ => round x M' a w h1 h2 h3 h4

/-- The round's end. -/
theorem L_back {σ : Type} {Lf : σ → Fr} {Hf : σ → List Ent} {I : σ → Mem → Prop} {μ : σ → Nat} {x : σ} {M0 : Mem} (x' : σ) (hμ : μ x' < μ x) (hM : M0.le M) (hi : I x' M) (hf : Frm n (Lf x') a) (hp : Hp w0 M (Hf x') w) :
    ∃ x', μ x' < μ x ∧ ∃ M', M0.le M' ∧ I x' M' ∧ Frm n (Lf x') a ∧ Hp w0 M' (Hf x') w := ⟨x', hμ, M, hM, hi, hf, hp⟩
end

/-! ### Known memory that holds data -/
inductive Dat
  | int (k : IntKind) (n : Int)
  | bool (b : Bool)
  | str (l : List UInt8)
  | list (sz : Nat) (ds : List Dat)
  | struct (ds : List Dat)

mutual
def Rep (M : Mem) : Dat → List Value → Prop
  | .int k n, cs => cs = [.int k n]
  | .bool b, cs => cs = [.bool b]
  | .str l, cs => cs = [S l]
  | .list sz ds, cs => ∃ A cap, cs = [.slice A ds.length cap] ∧ ds.length ≤ cap ∧ (A = none → cap = 0) ∧ (ds = [] ∨ ∃ ad, A = some ad ∧ RepArr M sz ds ad)
  | .struct ds, cs => RepSeq M ds cs
def RepSeq (M : Mem) : List Dat → List Value → Prop
  | [], cs => cs = []
  | d :: ds, cs => ∃ c1 c2, cs = c1 ++ c2 ∧ Rep M d c1 ∧ RepSeq M ds c2
def RepArr (M : Mem) (sz : Nat) : List Dat → Addr → Prop
  | [], _ => True
  | d :: ds, ad => (∃ c, c.length = sz ∧ Rep M d c ∧ ∀ j v, c[j]? = some v → M.cell? (ad.add j) = some v) ∧ RepArr M sz ds (ad.add sz)
end

mutual
theorem Rep.mono {M M' : Mem} (h : M.le M') : ∀ (d : Dat) (cs : List Value), Rep M d cs → Rep M' d cs
  | .int _ _, _, hr => hr
  | .bool _, _, hr => hr
  | .str _, _, hr => hr
  | .list sz ds, cs, hr => by
    obtain ⟨A, cap, h1, h2, hn, h3⟩ := hr
    refine ⟨A, cap, h1, h2, hn, ?_⟩
    rcases h3 with h3 | ⟨ad, h4, h5⟩
    · exact .inl h3
    · exact .inr ⟨ad, h4, RepArr.mono h sz ds ad h5⟩
  | .struct ds, cs, hr => RepSeq.mono h ds cs hr
theorem RepSeq.mono {M M' : Mem} (h : M.le M') : ∀ (ds : List Dat) (cs : List Value), RepSeq M ds cs → RepSeq M' ds cs
  | [], _, hr => hr
  | d :: ds, cs, hr => by
    obtain ⟨c1, c2, h1, h2, h3⟩ := hr
    exact ⟨c1, c2, h1, Rep.mono h d c1 h2, RepSeq.mono h ds c2 h3⟩
theorem RepArr.mono {M M' : Mem} (h : M.le M') (sz : Nat) : ∀ (ds : List Dat) (ad : Addr), RepArr M sz ds ad → RepArr M' sz ds ad
  | [], _, _ => trivial
  | d :: ds, ad, hr => by
    obtain ⟨⟨c, h1, h2, h3⟩, h4⟩ := hr
    exact ⟨⟨c, h1, Rep.mono h d c h2, fun j v hv => h.cell (h3 j v hv)⟩, RepArr.mono h sz ds _ h4⟩
end

theorem add_of_add (a : Addr) (i j : Nat) : (a.add i).add j = a.add (i + j) := by
  unfold Addr.add
  by_cases hi : i = 0 <;> by_cases hj : j = 0 <;> simp [hi, hj, Nat.add_assoc]

/-- Element i of a row. -/
theorem RepArr.get {M : Mem} {sz : Nat} : ∀ {ds : List Dat} {ad : Addr} (i : Nat) (d : Dat), RepArr M sz ds ad → ds[i]? = some d →
    ∃ c, c.length = sz ∧ Rep M d c ∧ ∀ j v, c[j]? = some v → M.cell? ((ad.add (i * sz)).add j) = some v
  | [], _, i, d, _, h => by simp at h
  | x :: ds, ad, 0, d, hr, h => by
    simp only [List.getElem?_cons_zero, Option.some.injEq] at h
    subst h
    obtain ⟨⟨c, h1, h2, h3⟩, _⟩ := hr
    exact ⟨c, h1, h2, by simpa [Addr.add] using h3⟩
  | x :: ds, ad, i + 1, d, hr, h => by
    simp only [List.getElem?_cons_succ] at h
    obtain ⟨c, h1, h2, h3⟩ := RepArr.get i d hr.2 h
    refine ⟨c, h1, h2, fun j v hv => ?_⟩
    have := h3 j v hv
    simp only [add_of_add] at this ⊢
    rwa [show (i + 1) * sz + j = sz + i * sz + j by rw [Nat.add_mul]; omega]
end Go.Vc
