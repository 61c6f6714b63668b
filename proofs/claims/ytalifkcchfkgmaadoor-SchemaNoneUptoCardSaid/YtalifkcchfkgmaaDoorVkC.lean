/-
  Own kit: ranges over functions: walks within a round, yield, the statement. Own work.
-/
import Derived.Test.YtalifkcchfkgmaaDoorVkB
import Derived.OrdersIn
import Derived.TacticsIn
import Derived.RangeFuncIn
import Derived.RangeFuncRecord
import Derived.RangeFuncLeaves
namespace Go.Vc
open Go Go.RowKit
variable {dd : List Deferred}

/-- Out of a round, in the round of a record. -/
def fen : Option Nat → Fence
  | none => Fence.wide
  | some l => Fence.wide.inRound l
section
variable {P : Program} {ops : Array Oper} {Q : Exit → Act → World → Prop} {ro : Option Nat} {a : Act} {w : World}
theorem fen_round : (fen ro).round = ro := by cases ro <;> rfl
theorem fen_fn (f : FuncId) : (fen ro).fn f := by cases ro <;> trivial
theorem fen_depth : (fen ro).depth.isSome = true → 1 ≤ 0 := by cases ro <;> intro h <;> cases h
theorem calls_in {n : Nat} {f : FuncId} {args : Array Value} {R : Ending → World → Prop} (h : Calls P f args w R) : CallsIn (fen ro) n P f args w R := by
  have h1 : CallsIn Fence.wide n P f args w R := callsIn_wide.2 h
  cases ro with
  | none => exact h1
  | some l => exact h1
theorem calls_out {n : Nat} {f : FuncId} {args : Array Value} {R : Ending → World → Prop} (h : CallsIn (fen ro) n P f args w R) : Calls P f args w R := by
  refine (callsIn_wide (n := n)).1 ?_
  cases ro with
  | none => exact h
  | some l => exact h
theorem rows_in {n : Nat} {row : String} {args : Array Value} {R : Value → World → Prop} (h : _root_.Go.Rows P row args w R) : RowsIn (fen ro) n P row args w R := by
  have h1 : RowsIn Fence.wide n P row args w R := fun c cs _ => let ⟨v, w', r, s⟩ := h c cs; ⟨v, w', r, stepsIn_wide.2 s⟩
  cases ro with
  | none => exact h1
  | some l => exact h1

theorem op_in {o : Oper} {K K' : Act → World → Prop} (hd : ∀ c, o.op ≠ .defer c) (hK : ∀ a w, K a w → K' a w) (h : o.wp P a w K Q) : o.wpIn (fen ro) 0 P a w K' Q := by
  refine ⟨fun f _ => fen_fn f, ?_⟩
  rw [fen_round, Oper.semAt_eq ro _ _ hd]
  unfold Oper.wp at h
  generalize (execOp a.eval o).run P w = r at h ⊢
  cases r with
  | ok x w' =>
    cases x with
    | value v => exact hK _ _ h
    | skip => exact hK _ _ h
    | defer d => exact hK _ _ h
    | enter f args =>
      refine ⟨fen_depth, calls_in (Calls.mono h fun e w'' he => ?_)⟩
      cases e with
      | returned v => exact hK _ _ he
      | panicked c => exact he
      | outgrown => exact he
    | row row args => exact ⟨fen_depth, rows_in (_root_.Go.Rows.mono h fun v w'' he => hK _ _ he)⟩
    | _ => exact h.elim
  | halt x w' =>
    cases x with
    | panic v => exact h
    | _ => exact h.elim
def noDefer (ops : List Oper) : Bool := ops.all fun o => match o.op with | .defer _ => false | _ => true
theorem noDefer_at {ops : List Oper} (h : noDefer ops = true) {o : Oper} (ho : o ∈ ops) : ∀ c, o.op ≠ .defer c := fun c e => by
  have := List.all_eq_true.1 h o ho
  rw [e] at this
  cases this
theorem list_in (hQ : ¬ LetsOut Q) : ∀ (l : List Oper), noDefer l = true → ∀ (a : Act) (w : World), wpList P ops Q l a w → wpListIn (fen ro) 0 P ops Q l a w
  | [], _, a, w, h => h
  | o :: l, hd, a, w, h => by
    have hd' : noDefer l = true := by
      unfold noDefer at hd ⊢
      rw [List.all_cons, Bool.and_eq_true] at hd
      exact hd.2
    simp only [wpList] at h
    simp only [wpListIn]
    split
    · rename_i hw
      rw [if_pos hw] at h
      rcases h with h | h
      · exact op_in (noDefer_at hd (by simp)) (list_in hQ l hd') h
      · exact absurd h.2 hQ
    · rename_i hw
      rw [if_neg hw] at h
      exact ⟨fun f _ => fen_fn f, list_in hQ l hd' _ _ h⟩
theorem any_in {md : Region.Mode} (hQ : ¬ LetsOut Q) (hd : noDefer ops.toList = true) : ∀ (fuel : Nat) (listed : Array Bool) (a : Act) (w : World), wpAny P md ops Q fuel listed a w → wpAnyIn (fen ro) 0 P md ops Q fuel listed a w
  | 0, _, _, _, h => h
  | fuel + 1, listed, a, w, h => by
    refine ⟨h.1, fun i hi => ?_⟩
    have h2 := h.2 i hi
    unfold wpOp at h2
    unfold wpOpIn
    cases ho : ops[i]? with
    | none => rw [ho] at h2; exact any_in hQ hd fuel _ a w h2
    | some o =>
      rw [ho] at h2
      dsimp only at h2 ⊢
      split
      · rename_i hw
        rw [if_pos hw] at h2
        rcases h2 with h2 | h2
        · exact op_in (noDefer_at hd (by
            have := Array.mem_of_getElem? ho
            simpa using this)) (any_in hQ hd fuel _) h2
        · exact absurd h2.2 hQ
      · rename_i hw
        rw [if_neg hw] at h2
        exact ⟨fun f _ => fen_fn f, any_in hQ hd fuel _ _ _ h2⟩
/-- Code within a round (or out of one). -/
abbrev _root_.Go.Code.wr (ro : Option Nat) (P : Program) (c : Code) (Q : Exit → Act → World → Prop) (a : Act) (w : World) : Prop := c.wpIn (fen ro) 0 P Q a w
theorem then_out {K : Act → World → Prop} (h : ¬ LetsOut Q) : ¬ LetsOut (Exit.then K Q) := h
theorem block_out {i : Nat} (h : ¬ LetsOut Q) : ¬ LetsOut (Exit.inBlock i Q) := h
theorem RI_out {c : Code} (h : c.wr none P Q a w) : c.wp P Q a w := wpIn_wide.1 h
theorem RI_reg {id : Nat} (hQ : ¬ LetsOut Q) (hd : noDefer ops.toList = true) (h : wpList P ops Q ops.toList a w) : (Code.region id ops false).wr ro P Q a w :=
  wpIn_region_list (list_in hQ _ hd _ _ h)
theorem RI_draw0 {id : Nat} (hQ : ¬ LetsOut Q) (hd : noDefer ops.toList = true) (hm : P.follows .mixedOrders = true)
    (h : wpAny P .any ops Q ops.size (Array.replicate ops.size false) a { w with drawn := w.drawn + 1 }) : (Code.region id ops true).wr ro P Q a w :=
  wpIn_region_any hm (any_in hQ hd _ _ _ _ h)
theorem RI_seq {x y : Code} (h : x.wr ro P (Exit.then (y.wr ro P Q) Q) a w) : (Code.seq x y).wr ro P Q a w := wpIn_seq h
theorem RI_mono {c : Code} {Q' : Exit → Act → World → Prop} (h : c.wr ro P Q a w) (hq : ∀ e a w, Q e a w → Q' e a w) : c.wr ro P Q' a w := wpIn_mono h hq
theorem RI_block {id : Nat} {c : Code} (h : c.wr ro P (Exit.inBlock id Q) a w) : (Code.block id c).wr ro P Q a w := wpIn_block h
theorem RI_skip (h : Q .normal a w) : Code.skip.wr ro P Q a w := wpIn_skip h
theorem RI_exit {id : Nat} (h : Q (.exit id) a w) : (Code.exit id).wr ro P Q a w := wpIn_exit h
theorem RI_ret (h : Q .ret a w) : Code.ret.wr ro P Q a w := wpIn_ret h
theorem RI_mid {c : Code} (Mid : Act → World → Prop) (h : c.wr ro P (Exit.then Mid Q) a w) (hk : ∀ a w, Mid a w → Q .normal a w) : c.wr ro P Q a w :=
  RI_mono h fun e a w hq => by
    cases e with
    | normal => exact hk a w hq
    | _ => exact hq
variable {n : Nat}
theorem RI_cond {L : Fr} {c : Operand} {x y : Code} {b : Bool} (hf : Frm n L a dd) (hc : ev L c = .bool b) (hh : has L c = true)
    (ht : b = true → x.wr ro P Q a w) (hF : b = false → y.wr ro P Q a w) : (Code.cond c x y).wr ro P Q a w :=
  wpIn_cond_split ((hf.ev hh).trans hc) ht hF
theorem RI_cond_t {L : Fr} {c : Operand} {x y : Code} (hf : Frm n L a dd) (hc : ev L c = .bool true) (hh : has L c = true)
    (ht : x.wr ro P Q a w) : (Code.cond c x y).wr ro P Q a w := wpIn_cond_true ((hf.ev hh).trans hc) ht
theorem RI_cond_f {L : Fr} {c : Operand} {x y : Code} (hf : Frm n L a dd) (hc : ev L c = .bool false) (hh : has L c = true)
    (ht : y.wr ro P Q a w) : (Code.cond c x y).wr ro P Q a w := wpIn_cond_false ((hf.ev hh).trans hc) ht

/-! ### Regions that draw their order, with a tail in lists of a round or a caller of yield -/
theorem anyIn_of_head {md : Region.Mode} {k g : Nat} {Lh : Array Bool → Act → Prop} (hQ : ¬ LetsOut Q) (hd : noDefer ops.toList = true) (hL : ∀ listed a, Lh listed a → wpAnyIn (fen ro) 0 P md ops Q g listed a w) :
    ∀ (f : Nat) (listed : Array Bool) (a : Act), wpAnyL P md ops w k Lh f listed a → wpAnyIn (fen ro) 0 P md ops Q (f + g) listed a w
  | 0, listed, a, h => by rw [Nat.zero_add]; exact hL _ _ h
  | f + 1, listed, a, h => by
    rw [show f + 1 + g = (f + g) + 1 by omega]
    refine ⟨fun h0 => absurd h0 h.1, fun i hi => ?_⟩
    have h2 : wpOp P ops Q i (wpAnyIn (fen ro) 0 P md ops Q (f + g) (listed.setIfInBounds i true)) a w := wpOp_of_stOp (fun a' h' => anyIn_of_head hQ hd hL f _ a' h') (h.2 i hi).2
    unfold wpOp at h2
    unfold wpOpIn
    cases ho : ops[i]? with
    | none => rw [ho] at h2; exact h2
    | some o =>
      rw [ho] at h2
      dsimp only at h2 ⊢
      split
      · rename_i hw
        rw [if_pos hw] at h2
        rcases h2 with h2 | h2
        · exact op_in (noDefer_at hd (by have := Array.mem_of_getElem? ho; simpa using this)) (fun _ _ h => h) h2
        · exact absurd h2.2 hQ
      · rename_i hw
        rw [if_neg hw] at h2
        exact ⟨fun f _ => fen_fn f, h2⟩
theorem anyIn_of_seq {md : Region.Mode} : ∀ (l : List Oper) (k : Nat) (listed : Array Bool) (a : Act) (w : World), (∀ j, l[j]? = ops[k + j]?) →
    Region.seqB md ops l.length k listed = true → wpListIn (fen ro) 0 P ops Q l a w → wpAnyIn (fen ro) 0 P md ops Q l.length listed a w
  | [], _, _, _, _, _, hB, h => ⟨by simpa [Region.seqB] using hB, h⟩
  | o :: l, k, listed, a, w, hl, hB, h => by
    have h0 : ops[k]? = some o := by simpa using (hl 0).symm
    simp only [List.length_cons, Region.seqB, Bool.and_eq_true, decide_eq_true_eq] at hB
    refine ⟨fun h1 => (by rw [hB.1] at h1; cases h1), fun i hi => ?_⟩
    rw [hB.1] at hi
    have hik : i = k := by simpa using hi
    subst hik
    have hw : wpOpIn (fen ro) 0 P ops Q i (wpListIn (fen ro) 0 P ops Q l) a w := by unfold wpOpIn; simp only [h0]; exact h
    exact wpOpIn_mono (fun a' w' h' => anyIn_of_seq l (i + 1) _ a' w' (fun j => by have := hl (j + 1); simpa [Nat.add_assoc, Nat.add_comm 1 j] using this) hB.2 h') hw
theorem RI_drawT {id : Nat} {l : List Oper} {w0 : World} {M : Mem} {H : List Ent} (m : Nat) (hp : Hp w0 M H w) (hm : P.follows .mixedOrders = true) (hB : Region.lexTailB .any l.toArray m = true) (hQ : ¬ LetsOut Q) (hd : noDefer l = true)
    (h : ∀ w', Hp w0 M H w' → wpStill P l.toArray w' (fun a' => wpListIn (fen ro) 0 P l.toArray Q (l.drop m) a' w') (l.take m) a) : (Code.region id l.toArray true).wr ro P Q a w := by
  simp only [Region.lexTailB, Bool.and_eq_true, decide_eq_true_eq] at hB
  obtain ⟨⟨⟨⟨hsel, hn⟩, hs⟩, hc⟩, hlex⟩ := hB
  have hn' : m < l.length := by simpa using hn
  have htl : (l.take m).length = m := by simp; omega
  have hdl : (l.drop m).length = l.toArray.size - m := by simp
  have inv0 : HeadInv .any l.toArray m (Array.replicate l.toArray.size false) :=
    ⟨by simp, fun j oj _ hl => (by rw [getD_replicate_false] at hl; cases hl), fun t _ ht => getD_in (by simpa using ht) (getD_replicate_false _ _)⟩
  have HH := wpAnyL_lex (md := .any) (g := l.toArray.size - m) hsel hs hc hn (l.take m) 0 _ a (fun j hj => by
    have hj' : j < m := by rw [htl] at hj; exact hj
    simp [hj']) (by simpa using htl) inv0 (by rw [htl]; exact hlex) (h _ hp.drew)
  refine wpIn_region_any hm ?_
  have := anyIn_of_head (ro := ro) (g := l.toArray.size - m) hQ (by simpa using hd) (fun listed a' hL => by
    have := anyIn_of_seq (ro := ro) (md := .any) (l.drop m) m listed a' { w with drawn := w.drawn + 1 } (fun j => by simp [List.getElem?_drop]) (by rw [hdl]; exact hL.1) hL.2
    rwa [hdl] at this) _ _ _ HH
  rw [htl, show m + (l.toArray.size - m) = l.toArray.size by omega] at this
  exact this

/-! ### Yield -/
theorem WI_round {L : Fr} {o : Oper} {rest : List Oper} {d : Nat} {l : Nat} {fn : FuncId} {tmps : Array Value} {asg bd : Code} {R : Ending → World → Prop} (hf : Frm n L a dd) (hw : wantedL ops L o = some true) (hr : readyL L o = true)
    (hd : o.dst = some d) (hdn : Nat.blt d n = true) (hdf : ∀ c, o.op ≠ .defer c) (hx : (execOp (ev L) o).run P w = .ok (.round l fn tmps asg bd) w) (hR : RoundIn Fence.wide 0 P l fn tmps asg bd w R)
    (hk : ∀ e w', R e w' → ∃ v, e = .returned v ∧ ∀ a', Frm n ((d, v) :: L) a' dd → wpListIn (fen none) 0 P ops Q rest a' w') : wpListIn (fen none) 0 P ops Q (o :: rest) a w := by
  simp only [wpListIn]
  rw [hf.wanted hw, if_pos rfl]
  refine ⟨fun f _ => fen_fn f, ?_⟩
  rw [fen_round, Oper.semAt_eq none _ _ hdf, hf.exec hr, hx]
  refine ⟨fen_depth, RoundIn.mono hR fun e w' he => ?_⟩
  obtain ⟨v, rfl, h⟩ := hk e w' he
  refine h _ ?_
  rw [hd]
  exact hf.put (by simpa [Nat.blt_eq] using hdn) v
end

/-! ### The statement -/
/-- What a round may come to. -/
inductive Jmp
  | ret
  | exit (id : Nat)
def Jmp.code : Jmp → Code
  | .ret => .ret
  | .exit id => .exit id
def Jmp.way : Jmp → Exit
  | .ret => .ret
  | .exit id => .exit id
/-- An iterator's items, folded by a step that may break off. -/
def foldY {σ α β : Type} (Y : σ → α → Option (Lp σ β)) : List α → σ → Option (Lp σ β)
  | [], s => some (.nx s)
  | x :: xs, s => (Y s x).bind fun r => match r with | .nx s' => foldY Y xs s' | .br b => some (.br b)
theorem foldY_app {σ α β : Type} (Y : σ → α → Option (Lp σ β)) : ∀ (xs ys : List α) (s : σ), foldY Y (xs ++ ys) s = (foldY Y xs s).bind fun r => match r with | .nx s' => foldY Y ys s' | .br b => some (.br b)
  | [], ys, s => rfl
  | x :: xs, ys, s => by
    simp only [List.cons_append, foldY]
    cases Y s x with
    | none => rfl
    | some r =>
      cases r with
      | nx s' => exact foldY_app Y xs ys s'
      | br b => rfl
section
variable {σ α β : Type} {P : Program} {l : Nat} {vals : Mem → α → List Value → Prop} {Y : σ → α → Option (Lp σ β)}
def Grows (J : σ → Mem → List Ent → Prop) : Prop := ∀ s M M' E, M.le M' → J s M E → J s M' E
/-- What a round of the record l does to its caller's blocks. -/
def Yld (P : Program) (l : Nat) (vals : Mem → α → List Value → Prop) (J : σ → Mem → List Ent → Prop) (Jx : β → Mem → List Ent → Prop) (Y : σ → α → Option (Lp σ β)) : Prop :=
  ∀ s x r, Y s x = some r → ∀ w0 M E H w vs, J s M E → vals M x vs → Hp w0 M (E ++ H) w →
    ∃ fn tmps asg bd, (Instr.yield l vs.toArray).run P w = .ok (.round l fn tmps asg bd) w ∧
      RoundIn Fence.wide 0 P l fn tmps asg bd w fun e w' => ∃ M' E', M.le M' ∧ Hp w0 M' (E' ++ H) w' ∧ match r with
        | .nx s' => e = .returned (.bool true) ∧ J s' M' E'
        | .br b => e = .returned (.bool false) ∧ Jx b M' E'
/-- What an iterator's call comes to. -/
def IterTo (P : Program) (f : FuncId) (args : List Value) (J : σ → Mem → List Ent → Prop) (Jx : β → Mem → List Ent → Prop) (r : Lp σ β) (s0 : σ) (M : Mem) : Prop :=
  ∀ w0 M1 E H w, M.le M1 → J s0 M1 E → Hp w0 M1 (E ++ H) w → Calls P f args.toArray w fun e w' => ∃ v, e = .returned v ∧ ∃ M' E', M1.le M' ∧ Hp w0 M' (E' ++ H) w' ∧ match r with
    | .nx s' => J s' M' E'
    | .br b => Jx b M' E'
/-- How a round's code ends. -/
def RB (Ju : σ → Mem → List Ent → Prop) (Jxu : β → Mem → List Ent → Prop) (jm : β → Jmp) (r : Lp σ β) (w0 : World) (M : Mem) (H : List Ent) : Exit → Act → World → Prop := fun e _ w =>
  match r with
  | .nx s' => e = .normal ∧ ∃ M' E', M.le M' ∧ Hp w0 M' (E' ++ H) w ∧ Ju s' M' E'
  | .br b => e = (jm b).way ∧ ∃ M' E', M.le M' ∧ Hp w0 M' (E' ++ H) w ∧ Jxu b M' E'
theorem RB_out {Ju : σ → Mem → List Ent → Prop} {Jxu : β → Mem → List Ent → Prop} {jm : β → Jmp} {r : Lp σ β} {w0 : World} {M : Mem} {H : List Ent} : ¬ LetsOut (RB Ju Jxu jm r w0 M H) := by
  rintro ⟨a, w, h⟩
  unfold RB at h
  cases r with
  | nx s => cases h.1
  | br b => have := h.1; cases hj : jm b <;> rw [hj] at this <;> cases this
/-- The mark that a range over a function leaves among its caller's deferred calls. -/
abbrev mark (D : Nat) : List Deferred := [{ target := .collected D, args := #[] }]
theorem Frm.zip1 {n : Nat} {L : Fr} {a : Act} (h : Frm n L a) {p : Nat} (hp : Nat.blt p n = true) (v : Value) : Frm n ((p, v) :: L) { tmps := ((#[p] : Array Tmp).zip #[v]).foldl (fun t (p, v) => t.setIfInBounds p v) a.tmps, defers := [] } := by
  have := h.put (d := p) (by simpa [Nat.blt_eq] using hp) v
  have e : ((#[p] : Array Tmp).zip #[v]).foldl (fun t (p, v) => t.setIfInBounds p v) a.tmps = (a.put (some p) v).tmps := by
    simp [Act.put]
  exact ⟨by rw [e]; exact this.size, rfl, by rw [e]; exact this.at_⟩
theorem Frm.marked {n : Nat} {L : Fr} {a : Act} (h : Frm n L a) (D : Nat) : Frm n L { a with defers := mark D ++ a.defers } (mark D) :=
  ⟨h.size, by show mark D ++ a.defers = _; rw [h.defers]; rfl, h.at_⟩

theorem R_range {n : Nat} {Lf : Fr} {g : Operand} {p : Nat} {assign body : Code} {Q : Exit → Act → World → Prop} {a : Act} {w w0 : World} {M : Mem} {H E0 : List Ent} {f : FuncId} {caps : List Value}
    (hf : Frm n Lf a) (hp : Hp w0 M (E0 ++ H) w) (hg : has Lf g = true) (hgv : ev Lf g = .func (.func f) #[] caps.toArray) (hpn : Nat.blt p n = true) (eg : ∀ args w, (callFunc f args).run P w = .ok (.enter f args) w)
    (Ju : σ → Mem → List Ent → Prop) (Jxu : β → Mem → List Ent → Prop) (jm : β → Jmp) (s0 : σ) (r : Lp σ β) (hJ : Ju s0 M E0) (hgr : Grows Ju) (hgx : Grows Jxu)
    (hv1 : ∀ M x vs, vals M x vs → ∃ v, vs = [v])
    (hit : ∀ l J Jx, Grows J → Grows Jx → Yld P l vals J Jx Y → IterTo P f (.func (.yield l) #[] #[] :: caps) J Jx r s0 M)
    (round : ∀ s x r', Y s x = some r' → ∀ l w0' M' E1 Hr w1 a1 v, M.le M' → Ju s M' E1 → vals M' x [v] → Hp w0' M' (E1 ++ Hr) w1 → Frm n ((p, v) :: Lf) a1 →
      assign.wr (some l) P (Exit.then (fun a2 w2 => ∃ M2 E2, M'.le M2 ∧ Hp w0' M2 (E2 ++ Hr) w2 ∧ ∀ Hr' w3, Hp w0' M2 (E2 ++ Hr') w3 → body.wr (some l) P (RB Ju Jxu jm r' w0' M2 Hr') a2 w3) (fun _ _ _ => False)) a1 w1)
    (hdone : ∀ s', r = .nx s' → ∀ l D rr M' E1 w4 a', M.le M' → Ju s' M' E1 → Hp w0 M' (.obj l (.loop rr) :: .obj D (.deferred (some [])) :: (E1 ++ H)) w4 → Frm n Lf a' (mark D) → Q .normal a' w4)
    (hjump : ∀ b, r = .br b → ∀ l D rr M' E1 w4 a', M.le M' → Jxu b M' E1 → Hp w0 M' (.obj l (.loop rr) :: .obj D (.deferred (some [])) :: (E1 ++ H)) w4 → Frm n Lf a' (mark D) → Q (jm b).way a' w4) :
    (Code.rangeFunc g #[p] assign body).wp P Q a w := by
  refine (wpIn_wide (n := 0)).1 (wpIn_rangeFunc (F := Fence.wide) fun fn _ => ?_)
  obtain ⟨rec, hrec⟩ : ∃ rec : LoopState → Option Code → Loop, rec = fun st pe => { state := st, pending := pe, fn, tmps := a.tmps, params := #[p], assign, body, defers := w.heap.size } := ⟨_, rfl⟩
  obtain ⟨D, hD⟩ : ∃ D, D = w.heap.size := ⟨_, rfl⟩
  obtain ⟨l, hl⟩ : ∃ l, l = w.heap.size + 1 := ⟨_, rfl⟩
  have hg' : a.eval g = .func (.func f) #[] caps.toArray := (hf.ev hg).trans hgv
  obtain ⟨W1, hW1⟩ : ∃ W1, W1 = (w.alloc (.deferred (some []))).alloc (.loop (rec .ready none)) := ⟨_, rfl⟩
  refine ⟨l, mark D, W1, { target := .fn (.func f) caps.toArray, args := #[.func (.yield l) #[] #[]] }, W1, f,
    (.func (.yield l) #[] #[] :: caps).toArray, W1, ?_, ?_, ?_, ?_, (fun h => absurd h (by decide)), ?_⟩
  · rw [hW1, hl, hD, hrec]; exact run_enterLoop_outer _ _ _ _ _
  · simp only [resolve, hg']
    simp [go_sem]
  · intro f' _; trivial
  · simp [invoke, go_sem, eg]
  have hp1 : Hp w0 M (.obj l (.loop (rec .ready none)) :: .obj D (.deferred (some [])) :: (E0 ++ H)) W1 := by
    rw [hW1]
    have h1 := (hp.alloc (.deferred (some []))).alloc (.loop (rec .ready none))
    rw [World.size_alloc, ← hD] at h1
    rw [hl, ← hD]
    exact h1
  let J : σ → Mem → List Ent → Prop := fun s M' E => M.le M' ∧ ∃ E1, E = .obj l (.loop (rec .ready none)) :: .obj D (.deferred (some [])) :: E1 ∧ Ju s M' E1
  let Jx : β → Mem → List Ent → Prop := fun b M' E => M.le M' ∧ ∃ E1, E = .obj l (.loop (rec .done (some (jm b).code))) :: .obj D (.deferred (some [])) :: E1 ∧ Jxu b M' E1
  have hgJ : Grows J := fun s M1 M2 E h12 ⟨h1, E1, h2, h3⟩ => ⟨h1.trans h12, E1, h2, hgr _ _ _ _ h12 h3⟩
  have hgJx : Grows Jx := fun s M1 M2 E h12 ⟨h1, E1, h2, h3⟩ => ⟨h1.trans h12, E1, h2, hgx _ _ _ _ h12 h3⟩
  have hY : Yld P l vals J Jx Y := by
    intro s x r' hr' w0' M1 E Hr w1 vs ⟨hM1, E1, hE, hu⟩ hvs hp2
    subst hE
    obtain ⟨v, rfl⟩ := hv1 _ _ _ hvs
    have hlr : w1.heap[l]? = some (.loop (rec .ready none)) := (hp2.own _ (List.mem_cons_self)).2
    have hy := run_yield (P := P) (args := #[v]) hlr (by rw [hrec]; rfl)
    refine ⟨fn, _, assign, body, by rw [hrec] at hy; exact hy, roundIn_of_wpIn trivial ?_⟩
    have hp3 : Hp w0' M1 (E1 ++ (.obj l (.loop (rec .ready none)) :: .obj D (.deferred (some [])) :: Hr)) w1 := by
      refine hp2.perm ?_
      exact (List.perm_append_comm (l₁ := [_, _]) (l₂ := E1)).append_right Hr |>.trans (by simp)
    have h1 := round s x r' hr' l w0' M1 E1 _ w1 _ v hM1 hu hvs hp3 (hf.zip1 hpn v)
    refine RI_mono h1 fun e a2 w2 hq => ?_
    cases e with
    | normal =>
      obtain ⟨M2, E2, hM2, hp4, hb⟩ := hq
      have hp5 : Hp w0' M2 (.obj l (.loop (rec .ready none)) :: (.obj D (.deferred (some [])) :: (E2 ++ Hr))) w2 := hp4.perm (by
        have := (List.perm_append_comm (l₁ := E2) (l₂ := [Ent.obj l (.loop (rec .ready none)), Ent.obj D (.deferred (some []))])).append_right Hr
        simpa using this)
      have hlr2 : w2.heap[l]? = some (.loop (rec .ready none)) := (hp5.own _ (List.mem_cons_self)).2
      have hbr := run_beginRound (P := P) hlr2 (by rw [hrec])
      have hp6 : Hp w0' M2 (.obj l (.loop (rec .busy none)) :: (.obj D (.deferred (some [])) :: (E2 ++ Hr))) (w2.putObj l (.loop { rec .ready none with state := .busy })) := by
        have := hp5.put (y := .loop { rec .ready none with state := .busy })
        rw [hrec] at this ⊢
        exact this
      have hp7 : Hp w0' M2 (E2 ++ (.obj l (.loop (rec .busy none)) :: .obj D (.deferred (some [])) :: Hr)) (w2.putObj l (.loop { rec .ready none with state := .busy })) := hp6.perm (by
        have := (List.perm_append_comm (l₁ := [Ent.obj l (.loop (rec .busy none)), Ent.obj D (.deferred (some []))]) (l₂ := E2)).append_right Hr
        simpa using this)
      refine ⟨_, hbr, RI_mono (hb _ _ hp7) fun e3 a3 w3 hq3 => ?_⟩
      have fin : ∀ (jump : Option Code) (M3 : Mem) (E3 : List Ent), Hp w0' M3 (E3 ++ (.obj l (.loop (rec .busy none)) :: .obj D (.deferred (some [])) :: Hr)) w3 →
          ∃ w4, (Instr.endRound l jump).run P w3 = .ok (.bool jump.isNone) w4 ∧ Hp w0' M3 ((.obj l (.loop (rec (if jump.isNone then .ready else .done) jump)) :: .obj D (.deferred (some [])) :: E3) ++ Hr) w4 := fun jump M3 E3 hq => by
        have hq1 : Hp w0' M3 (.obj l (.loop (rec .busy none)) :: (.obj D (.deferred (some [])) :: (E3 ++ Hr))) w3 := hq.perm (by
          have := (List.perm_append_comm (l₁ := E3) (l₂ := [Ent.obj l (.loop (rec .busy none)), Ent.obj D (.deferred (some []))])).append_right Hr
          simpa using this)
        have hlr3 : w3.heap[l]? = some (.loop (rec .busy none)) := (hq1.own _ (List.mem_cons_self)).2
        refine ⟨_, run_endRound jump hlr3, ?_⟩
        have := hq1.put (y := .loop { rec .busy none with state := if jump.isNone then .ready else .done, pending := jump })
        rw [hrec] at this ⊢
        exact this
      unfold RB at hq3
      cases r' with
      | nx s' =>
        obtain ⟨rfl, M3, E3, hM3, hp8, hu3⟩ := hq3
        obtain ⟨w4, he, hp9⟩ := fin none M3 E3 hp8
        exact ⟨_, w4, he, M3, _, hM2.trans hM3, hp9, rfl, hM1.trans (hM2.trans hM3), E3, rfl, hu3⟩
      | br b =>
        obtain ⟨he3, M3, E3, hM3, hp8, hu3⟩ := hq3
        obtain ⟨w4, he, hp9⟩ := fin (some (jm b).code) M3 E3 hp8
        cases hj : jm b with
        | ret =>
          rw [hj] at he3
          cases he3
          rw [hj] at he hp9
          exact ⟨_, w4, he, M3, _, hM2.trans hM3, hp9, rfl, hM1.trans (hM2.trans hM3), E3, by rw [hj]; rfl, hu3⟩
        | exit id =>
          rw [hj] at he3
          cases he3
          rw [hj] at he hp9
          exact ⟨_, w4, he, M3, _, hM2.trans hM3, hp9, rfl, hM1.trans (hM2.trans hM3), E3, by rw [hj]; rfl, hu3⟩
    | _ => exact hq.elim
  have hcall := hit l J Jx hgJ hgJx hY w0 M (.obj l (.loop (rec .ready none)) :: .obj D (.deferred (some [])) :: E0) H _ (Mem.le_refl M) ⟨Mem.le_refl M, E0, rfl, hJ⟩ hp1
  refine CallsIn.mono (callsIn_wide.2 hcall) ?_
  rintro e w3 ⟨v, rfl, M', E', hM', hp4, hr⟩
  have hfm := hf.marked D
  cases hrr : r with
  | nx s' =>
    rw [hrr] at hr
    obtain ⟨_, E1, rfl, hu⟩ := hr
    have hlr : w3.heap[l]? = some (.loop (rec .ready none)) := (hp4.own _ (List.mem_cons_self)).2
    have he := run_endLoop (P := P) hlr (by rw [hrec]; simp)
    have hpe : (rec .ready none).pending = none := by rw [hrec]
    rw [hpe] at he
    refine ⟨none, _, he, ?_⟩
    exact hdone s' hrr l D _ M' E1 _ _ hM' hu hp4.put hfm
  | br b =>
    rw [hrr] at hr
    obtain ⟨_, E1, rfl, hu⟩ := hr
    have hlr : w3.heap[l]? = some (.loop (rec .done (some (jm b).code))) := (hp4.own _ (List.mem_cons_self)).2
    have he := run_endLoop (P := P) hlr (by rw [hrec]; simp)
    have hpe : (rec .done (some (jm b).code)).pending = some (jm b).code := by rw [hrec]
    refine ⟨some (jm b).code, _, he.trans (congrArg (fun z => Result.ok z _) hpe), ?_⟩
    have hp5 := hp4.put (y := .loop { rec .done (some (jm b).code) with state := .exhausted })
    have h5 := hjump b hrr l D _ M' E1 _ _ hM' hu hp5 hfm
    cases hj : jm b with
    | ret => rw [hj] at h5; exact wpIn_ret h5
    | exit id => rw [hj] at h5; exact wpIn_exit h5
end

/-! ### Functions that hold such a statement -/
section
variable {P : Program} {fn : Func} {n : Nat} {L : Fr} {a : Act} {w w0 : World} {M : Mem} {H : List Ent} {R : Ending → World → Prop}
theorem R_enterM {f : FuncId} {c : Code} {args : List Value} (n : Nat)
    (hf : P.funcs[f]? = some fn) (hb : fn.body = some c) (hn : fn.ntmps = n) (hle : args.length ≤ n)
    (h : ∀ a, Frm n (frame0 args 0) a → c.wp P (bodyPostM Fence.wide 0 P fn R) a w) : Calls P f args.toArray w R := by
  refine (callsIn_wide (n := 0)).1 (callsIn_of_wp_marks hf hb trivial (wpIn_wide.2 (h _ ⟨by simp [hn]; omega, rfl, fun t v hv => ?_⟩)))
  obtain ⟨_, h2⟩ := look_frame0 args 0 t v hv
  simp only [Nat.sub_zero] at h2
  have hlt : t < args.length := (List.getElem?_eq_some_iff.1 h2).1
  rw [List.getElem?_eq_getElem hlt] at h2
  simp only [Option.some.injEq] at h2
  simp [Array.getElem?_append, hlt, h2]
/-- What the results are. -/
def Res (P : Program) (fn : Func) (a : Act) (R : Ending → World → Prop) (w : World) : Prop := ∃ v, (results fn a.tmps).run P w = .ok v w ∧ R (.returned v) w
theorem E_M0 (hf : Frm n L a) (h : Res P fn a R w) : bodyPostM Fence.wide 0 P fn R .ret a w := by
  show LeavesInM Fence.wide 0 P fn a.tmps R a.defers .returning w
  rw [hf.defers]
  exact h
theorem E_M0n (hf : Frm n L a) (h : Res P fn a R w) : bodyPostM Fence.wide 0 P fn R .normal a w := E_M0 hf h
theorem E_M1 {D : Nat} (hf : Frm n L a (mark D)) (hp : Hp w0 M (.obj D (.deferred (some [])) :: H) w) (h : ∀ w, Hp w0 M H w → Res P fn a R w) : bodyPostM Fence.wide 0 P fn R .ret a w := by
  show LeavesInM Fence.wide 0 P fn a.tmps R a.defers .returning w
  rw [hf.defers]
  have hk : w.heap[D]? = some (.deferred (some [])) := (hp.own _ (List.mem_cons_self)).2
  exact ⟨by simp, .inl ⟨D, _, rfl, run_takeDeferred hk, h _ (hp.put (y := .deferred none)).drop⟩⟩
theorem E_M1n {D : Nat} (hf : Frm n L a (mark D)) (hp : Hp w0 M (.obj D (.deferred (some [])) :: H) w) (h : ∀ w, Hp w0 M H w → Res P fn a R w) : bodyPostM Fence.wide 0 P fn R .normal a w := E_M1 hf hp h
theorem V_end0 (hr : fn.results = #[]) (h : R (.returned (.tuple #[])) w) : Res P fn a R w := ⟨_, results_none hr _ P w, h⟩
theorem V_rv1 {r0 : ResultVar} {v0 : Value} (hr : fn.results = #[r0]) (h0 : Rv P a w r0 v0) (h : R (.returned v0) w) : Res P fn a R w :=
  ⟨_, by
    unfold Rv at h0
    rw [results_rv, hr]
    simp [h0], h⟩
theorem V_rv2 {r0 r1 : ResultVar} {v0 v1 : Value} (hr : fn.results = #[r0, r1]) (h0 : Rv P a w r0 v0) (h1 : Rv P a w r1 v1) (h : R (.returned (.tuple #[v0, v1])) w) : Res P fn a R w :=
  ⟨_, by
    unfold Rv at h0 h1
    rw [results_rv, hr]
    simp [h0, h1], h⟩
theorem V_rv3 {r0 r1 r2 : ResultVar} {v0 v1 v2 : Value} (hr : fn.results = #[r0, r1, r2]) (h0 : Rv P a w r0 v0) (h1 : Rv P a w r1 v1) (h2 : Rv P a w r2 v2) (h : R (.returned (.tuple #[v0, v1, v2])) w) : Res P fn a R w :=
  ⟨_, by
    unfold Rv at h0 h1 h2
    rw [results_rv, hr]
    simp [h0, h1, h2], h⟩
end
/-- A closure that yields the items xs. -/
def IterOk (P : Program) (f : FuncId) (caps : List Value) {α : Type} (vals : Mem → α → List Value → Prop) (xs : List α) (M : Mem) : Prop :=
  (∀ args w, (callFunc f args).run P w = .ok (.enter f args) w) ∧
  ∀ (σ β : Type) (Y : σ → α → Option (Lp σ β)) (s0 : σ) (r : Lp σ β), foldY Y xs s0 = some r → ∀ l J Jx, Grows J → Grows Jx → Yld P l vals J Jx Y → IterTo P f (.func (.yield l) #[] #[] :: caps) J Jx r s0 M
theorem IterOk.mono {P : Program} {f : FuncId} {caps : List Value} {α : Type} {vals : Mem → α → List Value → Prop} {xs : List α} {M M' : Mem} (h : IterOk P f caps vals xs M) (hM : M.le M') : IterOk P f caps vals xs M' :=
  ⟨h.1, fun σ β Y s0 r hr l J Jx hJ hJx hY w0 M1 E H w h1 => h.2 σ β Y s0 r hr l J Jx hJ hJx hY w0 M1 E H w (hM.trans h1)⟩
end Go.Vc
