/-
  Own kit: walks of programs by symbolic steps. Own work.
-/
import Derived.Test.YtfdmlionhbeebaaVkA
import Derived.Deep.AppendSrc
import Derived.Deep.Upon
import Derived.Lib.Builder
import Derived.Lib.UnsafeStr
import Derived.Shelf.Unicode.DecodeSlow
import Derived.Lib.TrimUEq
/-
  VC, part 20: a struct stored into an own block; results that stand in blocks. Own work.
-/
namespace Go.Vc
open Go Go.RowKit
variable {dd : List Deferred}
section
variable {P : Program} {ops : Array Oper} {n : Nat} {Q : Exit → Act → World → Prop} {L : Fr} {a : Act} {w0 w : World} {M : Mem} {H : List Ent}

theorem W_storeN {o : Oper} {rest : List Oper} {t : TypeId} {x y : Operand} {b j : Nat} {vs : List Value} {cs cs' : Array Value} {T : TypeId} {lo hi : Nat} (hf : Frm n L a dd) (hp : Hp w0 M (.obj b (.cells cs T (lo, hi)) :: H) w)
    (hw : wantedL ops L o = some true) (hr : readyL L o = true) (hd : o.dst = none) (ho : o.op = .store t x y) (hx : ev L x = .pointer (some ⟨b, j, none⟩)) (hy : ev L y = .agg vs.toArray) (h1 : ∀ v ∈ vs, v.oneCell' = true) (hs : szIs P t vs.length = true)
    (hj : j + vs.length ≤ cs.size) (hfr : hi ≤ lo) (hH : setM cs j vs = cs')
    (hk : ∀ w', Hp w0 M (.obj b (.cells cs' T (lo, hi)) :: H) w' → ∀ a', Frm n L a' dd → wpList P ops Q rest a' w') : wpList P ops Q (o :: rest) a w := by
  subst hH
  have hrun := run_storeCells_cells (P := P) b j vs 0 w
    (fun i hi => by
      have := hp.ownCell 0 rfl (j + i)
      rw [Nat.add_zero]
      rw [this]
      simp
      omega)
    (fun i _ => by
      rw [Nat.add_zero]
      exact hp.ownFrozen 0 rfl (j + i) (by omega)) h1
  refine W_skip hf hw hr hd ?_ (hk (w.setCells b j vs) (hp.setCells vs j))
  unfold execOp
  simp only [ho, hx, hy, Instr.storeAt, Instr.sureAddr, Sem.run_bind, Sem.run_pure, Result.andThen_ok, storeVar, Value.cells, run_sizeOf hs]
  simp only [List.size_toArray, ne_eq, not_true_eq_false, if_false]
  rw [Nat.add_zero] at hrun
  simpa using congrArg (fun r => Result.andThen r _) hrun
end

section
variable {P : Program} {w0 w : World} {M : Mem} {H : List Ent} {ρ : Operand → Value} {o : Oper}
theorem X_string_sli {t t' e : Nat} {x : Operand} {A : Option Addr} {cap : Nat} {xs : List UInt8} (ho : o.op = .convert t t' x) (hx : ρ x = .slice A xs.length cap) (ht : P.underlying t = some (.slice e)) (he : P.underlying e = some (.int .u8)) (ht' : P.underlying t' = some .string)
    (hp : Hp w0 M H w) (h : Sli M 1 embB A cap xs) : (execOp ρ o).run P w = .ok (.value (S xs)) w := by
  cases A with
  | none =>
    have h0 : xs = [] := by
      obtain ⟨h1, h2, _⟩ := h
      have := h2 rfl
      exact List.eq_nil_of_length_eq_zero (by omega)
    subst h0
    obtain rfl : cap = 0 := h.2.1 rfl
    unfold execOp
    simp only [ho, hx, Sem.run_bind, List.length_nil, run_convert_bytes_string w t t' e none 0 0 ht he ht']
    rfl
  | some ad =>
    refine X_string ho hx ht he ht' (fun j u hu => ?_)
    have hj : j < xs.length := by have := (List.getElem?_eq_some_iff.1 hu).1; simpa [byteCs] using this
    have hg : getI xs (j : Int) = some xs[j] := by
      unfold getI
      rw [if_pos (by omega)]
      simp [hj]
    obtain ⟨ad', c, h1, _, h3, h4⟩ := h.at_ hg
    obtain rfl := Option.some.inj h1
    obtain rfl : c = [.int .u8 ((xs[j]).toNat : Int)] := h3
    have h5 := h4 0 _ rfl
    have hu' : u = .int .u8 ((xs[j]).toNat : Int) := by
      simp [byteCs, hj] at hu
      exact hu.symm
    subst hu'
    refine hp.cell ?_
    have : (ad.add (((j : Int)).toNat * 1)).add 0 = ad.add j := by
      rw [Int.toNat_natCast, Nat.mul_one]
      simp [Addr.add]
    rwa [this] at h5
end

section
variable {P : Program} {w : World} {ρ : Operand → Value} {o : Oper}
theorem X_min {x y : Operand} {t t' : TypeId} {k : IntKind} {a b : Int} (ho : o.op = .call { callee := .builtin .min, args := #[x, y], argTypes := #[t, t'] }) (hx : ρ x = .int k a) (hy : ρ y = .int k b) :
    (execOp ρ o).run P w = .ok (.value (.int k (min a b))) w := by
  have : min a b = if b < a then b else a := by split <;> omega
  rw [this]
  unfold execOp
  simp only [ho, resolve, invoke, builtin, List.map_toArray, List.map_cons, List.map_nil, hx, hy, Sem.run_bind, Sem.run_pure, Result.andThen_ok]
  simp [Builtin.min_, Builtin.min2]
theorem X_max {x y : Operand} {t t' : TypeId} {k : IntKind} {a b : Int} (ho : o.op = .call { callee := .builtin .max, args := #[x, y], argTypes := #[t, t'] }) (hx : ρ x = .int k a) (hy : ρ y = .int k b) :
    (execOp ρ o).run P w = .ok (.value (.int k (max a b))) w := by
  have : max a b = if b > a then b else a := by split <;> omega
  rw [this]
  unfold execOp
  simp only [ho, resolve, invoke, builtin, List.map_toArray, List.map_cons, List.map_nil, hx, hy, Sem.run_bind, Sem.run_pure, Result.andThen_ok]
  simp [Builtin.max_, Builtin.max2]
end

section
variable {α : Type} {P : Program} {ops : Array Oper} {n : Nat} {Q : Exit → Act → World → Prop} {L : Fr} {a : Act} {w0 w : World} {M : Mem} {H : List Ent} {sz : Nat} {f : α → Dat}
/-- append of a string to an owned row of bytes. -/
theorem W_appendT {o : Oper} {rest : List Oper} {d : Nat} {t tx e : TypeId} {x y : Operand} {z v : Value} {xs l : List UInt8} {cs : List Value} (hf : Frm n L a dd) (hp : Hp w0 M (.row e 1 v xs.length cs :: H) w) (hcs : RepSeq M (xs.map embB) cs)
    (hw : wantedL ops L o = some true) (hr : readyL L o = true) (hd : o.dst = some d) (hdn : Nat.blt d n = true) (ho : o.op = .call { callee := .builtin .append, args := #[x, y], argTypes := #[t, tx] })
    (hx : ev L x = v) (hy : ev L y = S l) (ht : P.underlying t = some (.slice e)) (htx : P.underlying tx = some .string) (hi : infoIs P e z 1 1 = true)
    (hb : (xs.length + l.length) * 1 ≤ 140737488355328) (h63 : xs.length + l.length ≤ 9223372036854775807)
    (hk : ∀ A cap cs' w', Hp w0 M (.row e 1 (.slice A (xs ++ l).length cap) (xs ++ l).length cs' :: H) w' → RepSeq M ((xs ++ l).map embB) cs' → ∀ a', Frm n ((d, .slice A (xs ++ l).length cap) :: L) a' dd → wpList P ops Q rest a' w') : wpList P ops Q (o :: rest) a w := by
  obtain ⟨i, u, hi1, hi2, hi3, hi4, hi5, hi6⟩ := info_of hi
  have hsrc := Src.ofString (P := P) w htx (mkS l)
  have e1 : (mkS l).size = l.length := rfl
  have e2 : byteCells (mkS l) = byteCs l := by simp [byteCells, byteCs]
  rw [e1, e2] at hsrc
  obtain ⟨v', w', hrun, hp'⟩ := hp.appendSrc (ty := o.type) hsrc ht hi1 hi2 hi3 hi5 (by omega) (by rw [hi4]; exact hb) h63
  obtain ⟨A, cap, rfl, _⟩ := hp'.rowShape 0 rfl
  have hx' : (execOp (ev L) o).run P w = .ok (.value (.slice A (xs.length + l.length) cap)) w' := by
    unfold execOp
    simp only [ho, resolve, invoke, builtin, Sem.run_bind, Sem.run_pure, Result.andThen_ok, List.map_toArray, List.map_cons, List.map_nil, hx, hy]
    simp only [S] at hy ⊢
    rw [hrun]
    rfl
  refine W_eq hf hw hr hd hdn hx' fun a' ha => ?_
  have e3 : xs.length + l.length = (xs ++ l).length := by simp
  rw [e3] at ha hp'
  exact hk A cap (cs ++ byteCs l) w' hp' (hcs.more (RepSeq.bytes l)) a' ha
end

/-! Results that stand in slots or in blocks. -/
def rvOf (tmps : Array Value) : ResultVar → Sem Value
  | .tmp t => pure (tmps.getD t undef)
  | .cell x t => do loadVar t (← asAddr (tmps.getD x undef))
theorem results_rv (fn : Func) (tmps : Array Value) : results fn tmps = (do
    let vs ← fn.results.mapM (rvOf tmps)
    pure (if h : vs.size = 1 then vs[0] else .tuple vs)) := rfl
section
variable {P : Program} {fn : Func} {n : Nat} {L : Fr} {a : Act} {w : World} {R : Ending → World → Prop}
def Rv (P : Program) (a : Act) (w : World) (r : ResultVar) (v : Value) : Prop := (rvOf a.tmps r).run P w = .ok v w
theorem Rv.slot (hf : Frm n L a dd) {t : Nat} {v : Value} (h : look L t = some v) : Rv P a w (.tmp t) v := by
  unfold Rv rvOf
  simp only [slot_of hf h, Sem.run_pure]
theorem Rv.cell1 (hf : Frm n L a dd) {x t : Nat} {ad : Addr} {v : Value} (h : look L x = some (.pointer (some ad))) (ht : one1 P t = true) (hc : w.cell? ad = some v) : Rv P a w (.cell x t) v := by
  unfold Rv rvOf
  simp only [slot_of hf h, asAddr, Sem.run_bind, Sem.run_pure, Result.andThen_ok, loadVar, run_isAgg1 ht]
  simp [hc]
theorem Rv.cellN (hf : Frm n L a dd) {x t : Nat} {ad : Addr} {cs : List Value} (h : look L x = some (.pointer (some ad))) (ht : aggN P t cs.length = true) (hc : ∀ j v, cs[j]? = some v → w.cell? (ad.add j) = some v) : Rv P a w (.cell x t) (.agg cs.toArray) := by
  unfold Rv rvOf
  obtain ⟨h1, h2⟩ := run_isAggN (w := w) ht
  simp only [slot_of hf h, asAddr, Sem.run_bind, Sem.run_pure, Result.andThen_ok, loadVar, h1, if_true, run_sizeOf h2, run_loadCells_list w ad cs hc]
theorem E_rv1 {r0 : ResultVar} {v0 : Value} (hf : Frm n L a) (hr : fn.results = #[r0]) (h0 : Rv P a w r0 v0) (h : R (.returned (v0)) w) : bodyPost P fn R .ret a w :=
  ⟨hf.defers, _, by
    unfold Rv at h0
    rw [results_rv, hr]
    simp [h0], h⟩
theorem E_rv2 {r0 r1 : ResultVar} {v0 v1 : Value} (hf : Frm n L a) (hr : fn.results = #[r0, r1]) (h0 : Rv P a w r0 v0) (h1 : Rv P a w r1 v1) (h : R (.returned (.tuple #[v0, v1])) w) : bodyPost P fn R .ret a w :=
  ⟨hf.defers, _, by
    unfold Rv at h0 h1
    rw [results_rv, hr]
    simp [h0, h1], h⟩
theorem E_rv3 {r0 r1 r2 : ResultVar} {v0 v1 v2 : Value} (hf : Frm n L a) (hr : fn.results = #[r0, r1, r2]) (h0 : Rv P a w r0 v0) (h1 : Rv P a w r1 v1) (h2 : Rv P a w r2 v2) (h : R (.returned (.tuple #[v0, v1, v2])) w) : bodyPost P fn R .ret a w :=
  ⟨hf.defers, _, by
    unfold Rv at h0 h1 h2
    rw [results_rv, hr]
    simp [h0, h1, h2], h⟩
theorem E_rv4 {r0 r1 r2 r3 : ResultVar} {v0 v1 v2 v3 : Value} (hf : Frm n L a) (hr : fn.results = #[r0, r1, r2, r3]) (h0 : Rv P a w r0 v0) (h1 : Rv P a w r1 v1) (h2 : Rv P a w r2 v2) (h3 : Rv P a w r3 v3) (h : R (.returned (.tuple #[v0, v1, v2, v3])) w) : bodyPost P fn R .ret a w :=
  ⟨hf.defers, _, by
    unfold Rv at h0 h1 h2 h3
    rw [results_rv, hr]
    simp [h0, h1, h2, h3], h⟩
end
end Go.Vc

/-
  VC, part 21: regions that draw their order: a head of quiet operations, in any order, and a tail in its own order. Own work (after Derived.StillTail and Derived.Deep.Quiet).
-/
namespace Go.Vc
open Go Go.RowKit
variable {dd : List Deferred}
section
variable {P : Program} {ops : Array Oper} {md : Region.Mode} {C : World → Prop}

def wpAnyQL (P : Program) (md : Region.Mode) (ops : Array Oper) (C : World → Prop) (n : Nat) (L : Array Bool → Act → Prop) : Nat → Array Bool → Act → Prop
  | 0, listed, a => L listed a
  | f + 1, listed, a =>
    Region.ready md ops listed ≠ [] ∧ ∀ i ∈ Region.ready md ops listed, i < n ∧ qOp P ops C i (wpAnyQL P md ops C n L f (listed.setIfInBounds i true)) a

theorem wpAny_of_headQ {n g : Nat} {L : Array Bool → Act → Prop} {Q' : Exit → Act → World → Prop} (hL : ∀ listed a w, C w → L listed a → wpAny P md ops Q' g listed a w) :
    ∀ (f : Nat) (listed : Array Bool) (a : Act) (w : World), C w → wpAnyQL P md ops C n L f listed a → wpAny P md ops Q' (f + g) listed a w
  | 0, listed, a, w, hw, h => by rw [Nat.zero_add]; exact hL _ _ _ hw h
  | f + 1, listed, a, w, hw, h => by
    rw [show f + 1 + g = (f + g) + 1 by omega]
    exact ⟨fun h0 => absurd h0 h.1, fun i hi => wpOp_of_qOp hw (fun a' w' hw' h' => wpAny_of_headQ hL f _ a' w' hw' h') (h.2 i hi).2⟩

theorem wpAnyQL_first {n i : Nat} {oi : Oper} {v : Value} {L : Array Bool → Act → Prop} (hi : ops[i]? = some oi) (hsel : ∀ (j : Nat) (o : Oper) cs b, ops[j]? = some o → o.op ≠ .select cs b)
    (hs : Region.sinkB md ops n = true) (hc : Region.chainB md ops n = true) (hn : n < ops.size) (hin : i < n)
    (hdone : ∀ listed a, L listed a → ∀ j ∈ Region.ready md ops listed, n ≤ j) :
    ∀ (f : Nat) (listed : Array Bool) (a : Act), HeadInv md ops n listed →
      (∀ j oj, ops[j]? = some oj → j ≠ i → listed.getD j true = false → (∀ e ∈ oj.after, Region.binds md e = true → e.on ≠ i) → oi.apart ops oj = true) →
      i ∈ Region.ready md ops listed → YieldsIn P ops C oi v a →
      wpAnyQL P md ops C n L f (listed.setIfInBounds i true) (a.put oi.dst v) → wpAnyQL P md ops C n L (f + 1) listed a := by
  intro f
  induction f with
  | zero =>
    intro listed a inv _ hr hy H
    have hun := (mem_ready.1 hr).1
    refine ⟨fun h => (by rw [h] at hr; cases hr), fun j hj => ?_⟩
    have hjn : j < n := by
      rcases Nat.lt_or_ge j n with h | h
      · exact h
      · exact absurd hj (tail_waits hs hc hn inv _ i rfl hin hun j h)
    refine ⟨hjn, ?_⟩
    by_cases hji : j = i
    · subst hji; exact hy.qOp hi H
    · have := hdone _ _ H j (ready_mono hj hji)
      omega
  | succ f ih =>
    intro listed a inv hfree hr hy H
    have hun := (mem_ready.1 hr).1
    refine ⟨fun h => (by rw [h] at hr; cases hr), fun j hj => ?_⟩
    have hjn : j < n := by
      rcases Nat.lt_or_ge j n with h | h
      · exact h
      · exact absurd hj (tail_waits hs hc hn inv _ i rfl hin hun j h)
    refine ⟨hjn, ?_⟩
    by_cases hji : j = i
    · subst hji; exact hy.qOp hi H
    · have h1 := (H.2 j (ready_mono hj hji)).2
      obtain ⟨hjun, oj, hoj, hall⟩ := mem_ready.1 hj
      have hnot : ∀ e ∈ oj.after, Region.binds md e = true → e.on ≠ i := fun e he hb heq => by
        have h1 := hall e he hb
        rw [heq, getD_both hun] at h1
        cases h1
      have h2 := qOp_put hoj (hfree j oj hoj hji hjun hnot) (fun cs b => hsel i oi cs b hi) (fun cs b => hsel j oj cs b hoj) hy h1
      have hfree' : ∀ k ok, ops[k]? = some ok → k ≠ i → (listed.setIfInBounds j true).getD k true = false →
          (∀ e ∈ ok.after, Region.binds md e = true → e.on ≠ i) → oi.apart ops ok = true := fun k ok hk hki hun hno => by
        refine hfree k ok hk hki ?_ hno
        by_cases hjk : j = k
        · subst hjk; exact hjun
        · rw [Go.getD_set_ne true hjk] at hun; exact hun
      refine qOp_mono (fun a' h3 => ih (listed.setIfInBounds j true) a' (inv.set hj hjn) hfree' (ready_mono hr (Ne.symm hji)) h3.1 ?_) h2
      rw [Array.setIfInBounds_comm _ _ hji]
      exact h3.2

theorem wpAnyQL_lex {n g : Nat} {Lq : Act → Prop} (hsel : Region.noSelect ops = true) (hs : Region.sinkB md ops n = true) (hc : Region.chainB md ops n = true) (hn : n < ops.size) :
    ∀ (l : List Oper) (k : Nat) (listed : Array Bool) (a : Act), (∀ j, j < l.length → l[j]? = ops[k + j]?) → k + l.length = n → HeadInv md ops n listed →
    Region.lexHead md ops g l.length k listed = true → wpQuiet P ops C Lq l a →
    wpAnyQL P md ops C n (fun listed' a' => Region.seqB md ops g n listed' = true ∧ Lq a') l.length listed a
  | [], k, listed, a, _, hk, _, hB, h => by
    have : k = n := by simpa using hk
    subst this
    exact ⟨by simpa [Region.lexHead] using hB, h⟩
  | o :: l, k, listed, a, hl, hk, inv, hB, h => by
    have h0 : ops[k]? = some o := by simpa using (hl 0 (by simp)).symm
    simp only [List.length_cons, Region.lexHead, Bool.and_eq_true] at hB
    obtain ⟨⟨hr, hf⟩, hB'⟩ := hB
    have hkn : k < n := by simp only [List.length_cons] at hk; omega
    have hr' : k ∈ Region.ready md ops listed := by simpa using hr
    have hst : qOp P ops C k (wpQuiet P ops C Lq l) a := by unfold qOp; simp only [h0]; exact h
    obtain ⟨v, hy, hK⟩ := yieldsIn_of_qOp h0 hst
    exact wpAnyQL_first h0 (Region.noSelect_spec hsel) hs hc hn hkn (fun listed' a' hL => seqB_ready hL.1) l.length listed a inv (Region.free_spec h0 hf) hr' hy
      (wpAnyQL_lex hsel hs hc hn l (k + 1) _ _ (fun j hj => by have := hl (j + 1) (by simp; omega); simpa [Nat.add_assoc, Nat.add_comm 1 j] using this) (by simp only [List.length_cons] at hk; omega) (inv.set hr' hkn) hB' hK)

theorem wp_region_quiet_tail {id : Nat} {Q : Exit → Act → World → Prop} {a : Act} {w : World} {l : List Oper} (n : Nat) (hm : P.follows .mixedOrders = true) (hB : Region.lexTailB .any l.toArray n = true)
    (hC : C { w with drawn := w.drawn + 1 }) (h : wpQuiet P l.toArray C (fun a' => ∀ w', C w' → wpList P l.toArray Q (l.drop n) a' w') (l.take n) a) : (Code.region id l.toArray true).wp P Q a w := by
  simp only [Region.lexTailB, Bool.and_eq_true, decide_eq_true_eq] at hB
  obtain ⟨⟨⟨⟨hsel, hn⟩, hs⟩, hc⟩, hlex⟩ := hB
  have hn' : n < l.length := by simpa using hn
  have htl : (l.take n).length = n := by simp; omega
  have hdl : (l.drop n).length = l.toArray.size - n := by simp
  have inv0 : HeadInv .any l.toArray n (Array.replicate l.toArray.size false) :=
    ⟨by simp, fun j oj _ hl => (by rw [getD_replicate_false] at hl; cases hl), fun t _ ht => getD_in (by simpa using ht) (getD_replicate_false _ _)⟩
  have H := wpAnyQL_lex (md := .any) (g := l.toArray.size - n) hsel hs hc hn (l.take n) 0 _ a (fun j hj => by
    have hj' : j < n := by rw [htl] at hj; exact hj
    simp [hj']) (by simpa using htl) inv0 (by rw [htl]; exact hlex) h
  refine wp_region_any hm ?_
  have := wpAny_of_headQ (Q' := Q) (g := l.toArray.size - n) (fun listed a' w' hw hL => by
    have := wpAny_of_seq (md := .any) (Q' := Q) (l.drop n) n listed a' w' (fun j => by simp [List.getElem?_drop]) (by rw [hdl]; exact hL.1) (hL.2 w' hw)
    rwa [hdl] at this) _ _ _ _ hC H
  rw [htl, show n + (l.toArray.size - n) = l.toArray.size by omega] at this
  exact this
end
section
variable {P : Program} {w0 w : World} {M : Mem} {H : List Ent} {a : Act}
theorem R_drawQ {id : Nat} {Q : Exit → Act → World → Prop} {l : List Oper} (m : Nat) (hp : Hp w0 M H w) (hm : P.follows .mixedOrders = true) (hB : Region.lexTailB .any l.toArray m = true)
    (h : wpQuiet P l.toArray (fun w => Hp w0 M H w) (fun a' => ∀ w', Hp w0 M H w' → wpList P l.toArray Q (l.drop m) a' w') (l.take m) a) : (Code.region id l.toArray true).wp P Q a w :=
  wp_region_quiet_tail m hm hB hp.drew h
end
end Go.Vc

/-
  VC, part 22: regions that draw their order, quiet operations and loud ones mixed: a canonical order, in which quiet operations stand as early as may be, serves every order. Own work (the proofs after Derived.Orders and Derived.Deep.Quiet).
-/
namespace Go.Vc
open Go Go.RowKit
variable {dd : List Deferred}
section
variable {P : Program} {ops : Array Oper} {md : Region.Mode} {Q : Exit → Act → World → Prop} {I : Type} {Cl : I → World → Prop}

/-- Without panics. -/
def noPan (Q : Exit → Act → World → Prop) : Exit → Act → World → Prop
  | .panic _, _, _ => False
  | e, a, w => Q e a w
def mixQ (Q : Exit → Act → World → Prop) (K : Act → World → Prop) : Exit → Act → World → Prop
  | .normal, a, w => K a w
  | .panic _, _, _ => False
  | e, a, w => Q e a w
theorem letsOut_mixQ {K : Act → World → Prop} (h : LetsOut (mixQ Q K)) : LetsOut (noPan Q) := h
theorem Oper.wp_mixQ {o : Oper} {a : Act} {w : World} {K : Act → World → Prop} (h : o.wp P a w (fun a w => mixQ Q K .normal a w) (mixQ Q K)) : o.wp P a w K (noPan Q) := by
  unfold Oper.wp at *
  generalize (execOp a.eval o).run P w = r at *
  cases r with
  | ok n w' =>
    cases n <;> simp only [Oper.upon] at h ⊢ <;>
      first
        | exact h
        | exact Calls.mono h (fun e w'' he => by cases e <;> exact he)
  | halt x w' => cases x <;> simp only [Oper.upon] at h ⊢ <;> exact h

def YieldsU (P : Program) (ops : Array Oper) (Cl : I → World → Prop) (o : Oper) (v : Value) (a : Act) : Prop :=
  (Region.wanted o (yielded ops a.tmps) = true ∧ ∀ i w, Cl i w → o.quietAt P a (Cl i) w v) ∨
  (Region.wanted o (yielded ops a.tmps) = false ∧ v = undef)
theorem YieldsU.one {o : Oper} {v : Value} {a : Act} (hy : YieldsU P ops Cl o v a) (i : I) : YieldsIn P ops (Cl i) o v a := by
  rcases hy with ⟨h1, h2⟩ | h
  · exact .inl ⟨h1, h2 i⟩
  · exact .inr h
theorem YieldsU.of_same {o : Oper} {v : Value} {a a' : Act} (hy : YieldsU P ops Cl o v a) (he : execOp a'.eval o = execOp a.eval o)
    (hw : Region.wanted o (yielded ops a'.tmps) = Region.wanted o (yielded ops a.tmps)) : YieldsU P ops Cl o v a' := by
  unfold YieldsU Oper.quietAt at *
  rw [he, hw]
  exact hy

theorem wpOpU_put {j : Nat} {oi oj : Oper} {v : Value} (hj : ops[j]? = some oj) (hap : oi.apart ops oj = true)
    (hsi : ∀ cs b, oi.op ≠ .select cs b) (hsj : ∀ cs b, oj.op ≠ .select cs b) {K : Act → World → Prop} {a : Act} {w : World}
    (hy : YieldsU P ops Cl oi v a) (h : wpOp P ops (noPan Q) j K (a.put oi.dst v) w) :
    wpOp P ops (noPan Q) j (fun a' w' => YieldsU P ops Cl oi v a' ∧ K (a'.put oi.dst v) w') a w := by
  obtain ⟨h1, h2, h3⟩ := Oper.apart_spec hap
  have keep : ∀ (a : Act), YieldsU P ops Cl oi v a → ∀ u, YieldsU P ops Cl oi v (a.put oj.dst u) := fun a hy u =>
    hy.of_same (execOp_put oi hsi a oj.dst u h3) (wanted_put oi a oj.dst u h3)
  have keepD : ∀ d, YieldsU P ops Cl oi v { a with defers := d :: a.defers } := fun d => hy.of_same rfl rfl
  unfold wpOp at *
  simp only [hj] at *
  rw [wanted_put oj a oi.dst v h1] at h
  split
  · rename_i hw
    simp only [hw, if_true] at h
    rcases h with h | ⟨hasks, hlets⟩
    case inr => exact .inr ⟨by unfold Oper.asks at *; rw [execOp_put oj hsj a oi.dst v h1] at hasks; exact hasks, hlets⟩
    refine .inl ?_
    unfold Oper.wp at *
    rw [execOp_put oj hsj a oi.dst v h1] at h
    generalize (execOp a.eval oj).run P w = r at *
    cases r with
    | ok n w' =>
      cases n <;> simp only [Oper.upon] at h ⊢
      case value u => exact ⟨keep a hy u, by rw [← Act.put_comm a v u h2]; exact h⟩
      case skip => exact ⟨keep a hy _, by rw [← Act.put_comm a v undef h2]; exact h⟩
      case defer d =>
        refine ⟨keep _ (keepD d) _, ?_⟩
        rw [← Act.put_comm _ v undef h2, ← Act.put_defers]
        exact h
      case enter f args =>
        refine Calls.mono h fun e w'' he => ?_
        cases e with
        | returned u => exact ⟨keep a hy u, by rw [← Act.put_comm a v u h2]; exact he⟩
        | panicked c => exact he
        | outgrown => exact he
      case row row args => exact Go.Rows.mono h fun u w'' he => ⟨keep a hy u, by rw [← Act.put_comm a v u h2]; exact he⟩
    | halt x w' =>
      cases x <;> simp only [Oper.upon] at h ⊢
      case panic u => exact h
  · rename_i hw
    simp only [hw] at h
    exact ⟨keep a hy _, by rw [← Act.put_comm a v undef h2]; exact h⟩

def wpAnyI (P : Program) (md : Region.Mode) (ops : Array Oper) (Q : Exit → Act → World → Prop) (Cl : I → World → Prop) : Nat → Array Bool → Act → I → Prop
  | 0, listed, a, i => Region.ready md ops listed = [] ∧ ∀ w, Cl i w → Q .normal a w
  | f + 1, listed, a, i => (Region.ready md ops listed = [] → ∀ w, Cl i w → Q .normal a w) ∧
    ∀ w, Cl i w → ∀ j ∈ Region.ready md ops listed, wpOp P ops (noPan Q) j (fun a' w' => ∃ i', Cl i' w' ∧ wpAnyI P md ops Q Cl f (listed.setIfInBounds j true) a' i') a w

theorem wpAny_of_I : ∀ (f : Nat) (listed : Array Bool) (a : Act) (i : I) (w : World), Cl i w → wpAnyI P md ops Q Cl f listed a i → wpAny P md ops (noPan Q) f listed a w
  | 0, _, _, _, w, hw, h => ⟨h.1, h.2 w hw⟩
  | f + 1, _, _, _, w, hw, h => ⟨fun h0 => h.1 h0 w hw, fun j hj => wpOp_mono (fun a' w' ⟨i', h1, h2⟩ => wpAny_of_I f _ a' i' w' h1 h2) (h.2 w hw j hj)⟩

theorem YieldsU.wpOp {k : Nat} {o : Oper} {v : Value} {a : Act} {w : World} {i : I} (hk : ops[k]? = some o) (hy : YieldsU P ops Cl o v a) (hC : Cl i w) {K : Act → World → Prop} (h : ∀ w', Cl i w' → K (a.put o.dst v) w') :
    wpOp P ops (noPan Q) k K a w :=
  wpOp_of_qOp (C := Cl i) (K := fun a' => a' = a.put o.dst v) hC (fun a' w' hw' e => by subst e; exact h w' hw') ((hy.one i).qOp hk rfl)

theorem wpAnyI_first {k : Nat} {ok : Oper} {v : Value} (hk : ops[k]? = some ok) (hsel : ∀ (j : Nat) (o : Oper) cs b, ops[j]? = some o → o.op ≠ .select cs b) :
    ∀ (f : Nat) (listed : Array Bool) (a : Act) (i : I),
      (∀ j oj, ops[j]? = some oj → j ≠ k → listed.getD j true = false → (∀ e ∈ oj.after, Region.binds md e = true → e.on ≠ k) → ok.apart ops oj = true) →
      k ∈ Region.ready md ops listed → YieldsU P ops Cl ok v a →
      wpAnyI P md ops Q Cl f (listed.setIfInBounds k true) (a.put ok.dst v) i → wpAnyI P md ops Q Cl (f + 1) listed a i := by
  intro f
  induction f with
  | zero =>
    intro listed a i _ hr hy H
    refine ⟨fun h => (by rw [h] at hr; cases hr), fun w hw j hj => ?_⟩
    by_cases hji : j = k
    · subst hji; exact hy.wpOp hk hw fun w' hw' => ⟨i, hw', H⟩
    · have := ready_mono hj hji
      rw [H.1] at this
      cases this
  | succ f ih =>
    intro listed a i hfree hr hy H
    refine ⟨fun h => (by rw [h] at hr; cases hr), fun w hw j hj => ?_⟩
    by_cases hji : j = k
    · subst hji; exact hy.wpOp hk hw fun w' hw' => ⟨i, hw', H⟩
    · have h1 := H.2 w hw j (ready_mono hj hji)
      obtain ⟨hjun, oj, hoj, hall⟩ := mem_ready.1 hj
      have hnot : ∀ e ∈ oj.after, Region.binds md e = true → e.on ≠ k := fun e he hb heq => by
        have h1 := hall e he hb
        have h0 := (mem_ready.1 hr).1
        rw [heq] at h1
        rcases Nat.lt_or_ge k listed.size with h' | h'
        · simp [h'] at h0 h1; rw [h0] at h1; cases h1
        · simp [Array.getElem?_eq_none h'] at h1
      have h2 := wpOpU_put hoj (hfree j oj hoj hji hjun hnot) (fun cs b => hsel k ok cs b hk) (fun cs b => hsel j oj cs b hoj) hy h1
      have hfree' : ∀ m om, ops[m]? = some om → m ≠ k → (listed.setIfInBounds j true).getD m true = false →
          (∀ e ∈ om.after, Region.binds md e = true → e.on ≠ k) → ok.apart ops om = true := fun m om hm hmk hun hno => by
        refine hfree m om hm hmk ?_ hno
        by_cases hjm : j = m
        · subst hjm; exact hjun
        · rw [Go.getD_set_ne true hjm] at hun; exact hun
      refine wpOp_mono (fun a' w' ⟨h3, i', h4, h5⟩ => ⟨i', h4, ih (listed.setIfInBounds j true) a' i' hfree' (ready_mono hr (Ne.symm hji)) h3 ?_⟩) h2
      rw [Array.setIfInBounds_comm _ _ hji]
      exact h5

/-! The walk, in the canonical order: an operation, and whether it is quiet. -/
def wpMix (P : Program) (ops : Array Oper) (Q : Exit → Act → World → Prop) (Cl : I → World → Prop) : List (Bool × Oper) → Act → I → Prop
  | [], a, i => ∀ w, Cl i w → Q .normal a w
  | (true, o) :: r, a, i => ∃ v, YieldsU P ops Cl o v a ∧ wpMix P ops Q Cl r (a.put o.dst v) i
  | (false, o) :: r, a, i => ∀ w, Cl i w → wpList P ops (mixQ Q fun a' w' => ∃ i', Cl i' w' ∧ wpMix P ops Q Cl r a' i') [o] a w

def atL : List Oper → Nat → Option Oper
  | [], _ => none
  | o :: _, 0 => some o
  | _ :: r, k + 1 => atL r k
theorem atL_eq : ∀ (l : List Oper) (k : Nat), atL l k = l[k]?
  | [], _ => rfl
  | _ :: _, 0 => rfl
  | _ :: r, k + 1 => by rw [atL, atL_eq r k]; rfl
def pickL (l : List Oper) : List (Nat × Bool) → List (Bool × Oper)
  | [] => []
  | (k, b) :: r => match atL l k with
    | some o => (b, o) :: pickL l r
    | none => pickL l r

def Region.mixB (md : Region.Mode) (ops : Array Oper) : List (Nat × Bool) → Array Bool → Bool
  | [], listed => (Region.ready md ops listed).isEmpty
  | (k, b) :: r, listed => decide (k < ops.size) && (match b with
      | true => (Region.ready md ops listed).contains k && Region.free md ops listed k
      | false => decide (Region.ready md ops listed = [k])) && Region.mixB md ops r (listed.setIfInBounds k true)

theorem wpAnyI_of_mix {l : List Oper} (hs : Region.noSelect l.toArray = true) : ∀ (ord : List (Nat × Bool)) (listed : Array Bool) (a : Act) (i : I),
    Region.mixB md l.toArray ord listed = true → wpMix P l.toArray Q Cl (pickL l ord) a i → wpAnyI P md l.toArray Q Cl ord.length listed a i
  | [], _, _, _, hB, h => ⟨by simpa [Region.mixB] using hB, h⟩
  | (k, b) :: r, listed, a, i, hB, h => by
    simp only [Region.mixB, Bool.and_eq_true, decide_eq_true_eq] at hB
    obtain ⟨⟨hk, hb⟩, hB'⟩ := hB
    have hk' : k < l.length := by simpa using hk
    have h0 : l.toArray[k]? = some l[k] := by simp [hk']
    have h1 : pickL l ((k, b) :: r) = (b, l[k]) :: pickL l r := by
      have : atL l k = some l[k] := by rw [atL_eq]; simp [hk']
      simp only [pickL, this]
    rw [h1] at h
    cases b with
    | true =>
      obtain ⟨v, hy, hK⟩ := h
      simp only [Bool.and_eq_true] at hb
      exact wpAnyI_first h0 (Region.noSelect_spec hs) r.length listed a i (Region.free_spec h0 hb.2) (by simpa using hb.1) hy (wpAnyI_of_mix hs r _ _ _ hB' hK)
    | false =>
      simp only [decide_eq_true_eq] at hb
      refine ⟨fun h2 => (by rw [h2] at hb; cases hb), fun w hw j hj => ?_⟩
      rw [hb] at hj
      obtain rfl : j = k := by simpa using hj
      have h3 := h w hw
      simp only [wpList] at h3
      unfold wpOp
      simp only [h0]
      have mono : ∀ a' w', (mixQ Q (fun a' w' => ∃ i', Cl i' w' ∧ wpMix P l.toArray Q Cl (pickL l r) a' i') .normal a' w') → ∃ i', Cl i' w' ∧ wpAnyI P md l.toArray Q Cl r.length (listed.setIfInBounds j true) a' i' :=
        fun a' w' ⟨i', h4, h5⟩ => ⟨i', h4, wpAnyI_of_mix hs r _ _ _ hB' h5⟩
      split
      · rename_i hw'
        simp only [hw', if_true] at h3
        rcases h3 with h3 | ⟨h3, h4⟩
        · exact .inl (Oper.wp_mono mono (Oper.wp_mixQ h3))
        · exact .inr ⟨h3, letsOut_mixQ h4⟩
      · rename_i hw'
        simp only [hw'] at h3
        exact mono _ _ h3

theorem noPan_imp {e : Exit} {a : Act} {w : World} (h : noPan Q e a w) : Q e a w := by
  cases e <;> first | exact h | cases h

theorem wp_region_mix {id : Nat} {a : Act} {w : World} {l : List Oper} (ord : List (Nat × Bool)) (i : I) (hm : P.follows .mixedOrders = true) (hs : Region.noSelect l.toArray = true) (hl : ord.length = l.length)
    (hB : Region.mixB .any l.toArray ord (Array.replicate l.length false) = true) (hC : Cl i { w with drawn := w.drawn + 1 }) (h : wpMix P l.toArray Q Cl (pickL l ord) a i) : (Code.region id l.toArray true).wp P Q a w := by
  refine Code.wp_mono (fun e a w h => noPan_imp h) (wp_region_any hm ?_)
  have := wpAny_of_I _ _ a i _ hC (wpAnyI_of_mix (md := .any) hs ord _ a i hB h)
  rw [hl] at this
  simpa using this
end

/-! The classes: what is known grows, the entries 'Hr' stay. -/
def Cla (w0 : World) (M : Mem) (Hr : List Ent) (i : Mem × List Ent) (w : World) : Prop := M.le i.1 ∧ Hp w0 i.1 (i.2 ++ Hr) w
section
variable {P : Program} {ops : Array Oper} {n : Nat} {Q : Exit → Act → World → Prop} {L : Fr} {a : Act} {w0 w : World} {M : Mem} {Hr : List Ent} {i : Mem × List Ent}

theorem Cla.hp (h : Cla w0 M Hr i w) : Hp w0 M Hr w := by
  obtain ⟨h1, h2⟩ := h
  have : Hp w0 i.1 Hr w := by
    have := h2.dropN i.2.length
    simpa using this
  exact this.less h1

theorem R_mix {id : Nat} {l : List Oper} {E : List Ent} (ord : List (Nat × Bool)) (hp : Hp w0 M (E ++ Hr) w) (hm : P.follows .mixedOrders = true) (hs : Region.noSelect l.toArray = true) (hl : ord.length = l.length)
    (hB : Region.mixB .any l.toArray ord (Array.replicate l.length false) = true) (h : wpMix P l.toArray Q (Cla w0 M Hr) (pickL l ord) a (M, E)) : (Code.region id l.toArray true).wp P Q a w :=
  wp_region_mix ord (M, E) hm hs hl hB ⟨Mem.le_refl M, hp.drew⟩ h

theorem M_eq {o : Oper} {rest : List (Bool × Oper)} {v : Value} {d : Nat} (hf : Frm n L a dd) (hw : wantedL ops L o = some true) (hr : readyL L o = true) (hd : o.dst = some d) (hdn : Nat.blt d n = true)
    (hx : ∀ w, Hp w0 M Hr w → (execOp (ev L) o).run P w = .ok (.value v) w) (hk : ∀ a', Frm n ((d, v) :: L) a' dd → wpMix P ops Q (Cla w0 M Hr) rest a' i) : wpMix P ops Q (Cla w0 M Hr) ((true, o) :: rest) a i := by
  refine ⟨v, .inl ⟨hf.wanted hw, fun j w hC => ?_⟩, ?_⟩
  · unfold Oper.quietAt
    rw [hf.exec hr, hx w hC.hp]
    exact ⟨rfl, rfl⟩
  · rw [hd]; exact hk _ (hf.put (by simpa [Nat.blt_eq] using hdn) v)

theorem M_not {o : Oper} {rest : List (Bool × Oper)} {d : Nat} (hf : Frm n L a dd) (hw : wantedL ops L o = some false) (hd : o.dst = some d) (hdn : Nat.blt d n = true)
    (hk : ∀ a', Frm n ((d, undef) :: L) a' dd → wpMix P ops Q (Cla w0 M Hr) rest a' i) : wpMix P ops Q (Cla w0 M Hr) ((true, o) :: rest) a i := by
  refine ⟨undef, .inr ⟨hf.wanted hw, rfl⟩, ?_⟩
  rw [hd]; exact hk _ (hf.put (by simpa [Nat.blt_eq] using hdn) undef)

theorem M_okv {o : Oper} {rest : List (Bool × Oper)} {d : Nat} {f : FuncId} {args : List Value} {v : Value} (hf : Frm n L a dd) (hw : wantedL ops L o = some true) (hr : readyL L o = true)
    (hd : o.dst = some d) (hdn : Nat.blt d n = true) (hx : ∀ w, (execOp (ev L) o).run P w = .ok (.enter f args.toArray) w) (hc : Ok P M f args fun _ u => u = v)
    (hk : ∀ a', Frm n ((d, v) :: L) a' dd → wpMix P ops Q (Cla w0 M Hr) rest a' i) : wpMix P ops Q (Cla w0 M Hr) ((true, o) :: rest) a i := by
  refine ⟨v, .inl ⟨hf.wanted hw, fun j w hC => ?_⟩, ?_⟩
  · unfold Oper.quietAt
    rw [hf.exec hr, hx w]
    refine ⟨rfl, (hc j.1 hC.1 w0 _ w hC.2).mono fun e w' ⟨u, he, M', hM, hp, hv⟩ => ?_⟩
    exact ⟨by rw [he, hv], hC.1, hp.less hM⟩
  · rw [hd]; exact hk _ (hf.put (by simpa [Nat.blt_eq] using hdn) v)

theorem M_fix {o : Oper} {rest : List (Bool × Oper)} {M1 : Mem} {E : List Ent}
    (h : ∀ w, Hp w0 M1 (E ++ Hr) w → wpList P ops (mixQ Q fun a' w' => ∃ i', Cla w0 M Hr i' w' ∧ wpMix P ops Q (Cla w0 M Hr) rest a' i') [o] a w) : wpMix P ops Q (Cla w0 M Hr) ((false, o) :: rest) a (M1, E) :=
  fun w hw => h w hw.2
theorem M_go {rest : List (Bool × Oper)} {M1 : Mem} {E : List Ent} (hM : M.le M1) (hp : Hp w0 M1 (E ++ Hr) w) (h : wpMix P ops Q (Cla w0 M Hr) rest a (M1, E)) :
    mixQ Q (fun a' w' => ∃ i', Cla w0 M Hr i' w' ∧ wpMix P ops Q (Cla w0 M Hr) rest a' i') .normal a w := ⟨(M1, E), ⟨hM, hp⟩, h⟩
theorem M_end {l : List (Bool × Oper)} {M1 : Mem} {E : List Ent} (hl : l = []) (h : ∀ w, Hp w0 M1 (E ++ Hr) w → Q .normal a w) : wpMix P ops Q (Cla w0 M Hr) l a (M1, E) := by
  subst hl
  exact fun w hw => h w hw.2
end
end Go.Vc

/-
  VC, part 23: strings.Builder: pointers beside nil and beside themselves, unsafe pointers, unsafe.String. Own work.
-/
namespace Go.Vc
open Go Go.RowKit
variable {dd : List Deferred}
section
variable {P : Program} {w w0 : World} {M : Mem} {H : List Ent} {ρ : Operand → Value} {o : Oper}
theorem X_here {v : Value} (h : (execOp ρ o).run P w = .ok (.value v) w) : (execOp ρ o).run P w = .ok (.value v) w := h
theorem eqPtrNil {T e : TypeId} (ht : P.underlying T = some (.pointer e)) (q : Option Addr) (d : Nat) (w : World) : (Op.equalIn (d + 1) T (.pointer q) (.pointer none)).run P w = .ok q.isNone w := by
  rcases q with _ | b
  · unfold Op.equalIn
    rw [Sem.run_bind, run_underlying ht]; rfl
  · unfold Op.equalIn
    rw [Sem.run_bind, run_underlying ht]; rfl
theorem X_ptrNil {T t' e : TypeId} {x y : Operand} {q : Option Addr} (ho : o.op = .binOp .eql T x y t') (hx : ρ x = .pointer q) (hy : ρ y = .pointer none) (ht : P.underlying T = some (.pointer e)) (w : World) :
    (execOp ρ o).run P w = .ok (.value (.bool q.isNone)) w := by
  have h3 := eqPtrNil (P := P) ht q 9999 w
  have h : binOp .eql T (.pointer q) (.pointer none) = (do pure (.bool (← Op.equal T (.pointer q) (.pointer none)))) := rfl
  have h2 : eqGuard .eql T x y (.pointer q) (.pointer none) = pure () := rfl
  unfold execOp
  simp only [ho, hx, hy, h, h2, Sem.run_bind, Sem.run_pure, Result.andThen_ok]
  have h4 : (Op.equal T (.pointer q) (.pointer none)).run P w = .ok q.isNone w := h3
  rw [h4]; rfl
theorem X_ptrNeSame {T t' e : TypeId} {x y : Operand} {a : Addr} (ho : o.op = .binOp .neq T x y t') (hx : ρ x = .pointer (some a)) (hy : ρ y = .pointer (some a)) (ht : P.underlying T = some (.pointer e)) (hi : (P.info? e).isSome = true) (w : World) :
    (execOp ρ o).run P w = .ok (.value (.bool false)) w := by
  obtain ⟨j, hj⟩ := Option.isSome_iff_exists.1 hi
  have h2 : eqGuard .neq T x y (.pointer (some a)) (.pointer (some a)) = pure () := rfl
  unfold execOp
  simp only [ho, hx, hy, h2, Sem.run_bind, Sem.run_pure, Result.andThen_ok, Lib.run_neq_ptr_same w a ht hj]
def infoPos (P : Program) (t : TypeId) : Bool := match P.info? t with
  | some j => Nat.blt 0 j.size
  | none => false
theorem infoPos_get {t : TypeId} (h : infoPos P t = true) : ∃ j, P.info? t = some j ∧ j.size ≠ 0 := by
  unfold infoPos at h
  cases hj : P.info? t with
  | none => simp [hj] at h
  | some j =>
    simp only [hj, Nat.blt_eq] at h
    exact ⟨j, rfl, by omega⟩
theorem X_toUnsafe {src dst t : TypeId} {x : Operand} {b off i : Nat} {cs : Array Value} {T : TypeId} {fr : Nat × Nat} (ho : o.op = .convert src dst x) (hx : ρ x = .pointer (some ⟨b, off, none⟩)) (hs : P.underlying src = some (.pointer t)) (hd : P.underlying dst = some .unsafePointer)
    (ht : infoPos P t = true) (hp : Hp w0 M H w) (he : H[i]? = some (.obj b (.cells cs T fr))) (hoff : off < cs.size) : (execOp ρ o).run P w = .ok (.value (.pointer (some ⟨b, off, none⟩))) w := by
  obtain ⟨j, hj, hj0⟩ := infoPos_get ht
  have hsh : w.shape? b = some (T, cs.size) := by
    have := hp.ownObj i he
    simp [World.shape?, this]
  have h := Lib.run_to_unsafe (P := P) w ⟨b, off, none⟩ hs hd hj hj0 hsh hoff
  unfold execOp
  simp only [ho, hx, Sem.run_bind, h, Sem.run_pure, Result.andThen_ok]
theorem X_fromUnsafe {src dst u : TypeId} {x : Operand} {b off i : Nat} {cs : Array Value} {T : TypeId} {fr : Nat × Nat} (ho : o.op = .convert src dst x) (hx : ρ x = .pointer (some ⟨b, off, none⟩)) (hs : P.underlying src = some .unsafePointer) (hd : P.underlying dst = some (.pointer u))
    (hu : infoPos P u = true) (hp : Hp w0 M H w) (he : H[i]? = some (.obj b (.cells cs T fr))) (hl : liesAt P P.depth T (cs.size / P.cellsOf T) off u 1 = true) : (execOp ρ o).run P w = .ok (.value (.pointer (some ⟨b, off, none⟩))) w := by
  obtain ⟨j, hj, _⟩ := infoPos_get hu
  have hsh : w.shape? b = some (T, cs.size) := by
    have := hp.ownObj i he
    simp [World.shape?, this]
  have h := Lib.run_from_unsafe (P := P) w ⟨b, off, none⟩ hs hd hj hsh hl
  unfold execOp
  simp only [ho, hx, Sem.run_bind, h, Sem.run_pure, Result.andThen_ok]
end
section
variable {P : Program} {ops : Array Oper} {n : Nat} {Q : Exit → Act → World → Prop} {L : Fr} {a : Act} {w0 w : World} {M : Mem} {H : List Ent}
/-- What unsafe.SliceData gives of an owned row. -/
def DataPtr (v : Value) (k : Nat) (q : Option Addr) : Prop := k = 0 ∨ ∃ g cap, v = .slice (some ⟨g, 0, none⟩) k cap ∧ q = some ⟨g, 0, none⟩
theorem W_sliceData {o : Oper} {rest : List Oper} {d t e k sz : Nat} {x : Operand} {v : Value} {cs : List Value} (hf : Frm n L a dd) (hp : Hp w0 M (.row e sz v k cs :: H) w) (hw : wantedL ops L o = some true) (hr : readyL L o = true)
    (hd : o.dst = some d) (hdn : Nat.blt d n = true) (ho : o.op = .call { callee := .builtin .unsafeSliceData, args := #[x], argTypes := #[t] }) (hx : ev L x = v) (ht : (match P.underlying o.type with | some (.pointer _) => true | _ => false) = true)
    (hk : ∀ q w', Hp w0 M (.row e sz v k cs :: H) w' → DataPtr v k q → ∀ a', Frm n ((d, .pointer q) :: L) a' dd → wpList P ops Q rest a' w') : wpList P ops Q (o :: rest) a w := by
  obtain ⟨te, hte⟩ : ∃ te, P.underlying o.type = some (.pointer te) := by
    split at ht
    · exact ⟨_, by assumption⟩
    · cases ht
  have run : ∀ q w', (Builtin.unsafeSliceData_ #[t] o.type #[v]).run P w = .ok (.pointer q) w' → (execOp (ev L) o).run P w = .ok (.value (.pointer q)) w' := fun q w' h => by
    unfold execOp
    simp only [ho, resolve, invoke, builtin, Sem.run_bind, Sem.run_pure, Result.andThen_ok, List.map_toArray, List.map_cons, List.map_nil, hx, h]
  rcases hp.rowObj with ⟨h1, h2, h3, h4⟩ | ⟨g, cap, cur, h1, h2, h3, h4, h5, h6, h7⟩
  · subst h1; subst h2
    exact W_eq hf hw hr hd hdn (run none w (Lib.run_unsafeSliceData_nil _ _ _ _ _)) (hk none w hp (.inl rfl))
  · by_cases hc : cap = 0
    · subst hc
      have hk0 : k = 0 := by omega
      have hsh : w.shape? g = some (e, cur.size) := by
        have := h7.ownObj 0 rfl
        simp [World.shape?, this]
      subst h1
      exact W_eq hf hw hr hd hdn (run _ _ (Lib.run_unsafeSliceData_zero w _ _ te hte ⟨g, 0, none⟩ k _ hsh)) (hk _ _ (hp.alloc _).drop (.inl hk0))
    · subst h1
      exact W_eq hf hw hr hd hdn (run _ _ (Lib.run_unsafeSliceData_row w _ _ ⟨g, 0, none⟩ k cap hc)) (hk _ _ hp (.inr ⟨g, cap, rfl, rfl⟩))

theorem Hp.freezeHead {b : Nat} {cs : Array Value} {T : TypeId} (h : Hp w0 M (.obj b (.cells cs T (0, 0)) :: H) w) (k : Nat) (hk : k ≠ 0) : Hp w0 M (.obj b (.cells cs T (0, k)) :: H) (w.freeze ⟨b, 0, none⟩ k) := by
  have hb := (h.own _ List.mem_cons_self).2
  have h1 : (w.freeze ⟨b, 0, none⟩ k).os = w.os := by unfold World.freeze; split <;> rfl
  have h2 : (w.freeze ⟨b, 0, none⟩ k).tape = w.tape := by unfold World.freeze; split <;> rfl
  have h3 : (w.freeze ⟨b, 0, none⟩ k).output = w.output := by unfold World.freeze; split <;> rfl
  refine h.write h1 h2 h3 (by simp [World.freeze, hk]) (by simp [World.freeze, hk, Array.getElem?_modify, hb]) (fun j hj => by simp [World.freeze, hk, Array.getElem?_modify, Ne.symm hj])

/-- unsafe.String over an owned row of bytes: the row becomes known. -/
theorem W_unsafeString {o : Oper} {rest : List Oper} {d t t' e : Nat} {x y : Operand} {q A : Option Addr} {cap : Nat} {v : Value} {cs : List Value} {l : List UInt8} (hv0 : v = .slice A l.length cap) (hf : Frm n L a dd) (hp : Hp w0 M (.row e 1 v l.length cs :: H) w) (hcs : RepSeq M (l.map embB) cs) (hq : DataPtr v l.length q)
    (hw : wantedL ops L o = some true) (hr : readyL L o = true) (hd : o.dst = some d) (hdn : Nat.blt d n = true) (ho : o.op = .call { callee := .builtin .unsafeString, args := #[x, y], argTypes := #[t, t'] })
    (hx : ev L x = .pointer q) (hy : ev L y = .int .i64 (l.length : Int)) (ht : P.underlying t = some (.pointer e)) (hce : Nat.beq (P.cellsOf e) 1 = true)
    (hk' : ∀ M' w', M.le M' → Hp w0 M' H w' → Sli M' 1 embB A cap l → ∀ a', Frm n ((d, S l) :: L) a' dd → wpList P ops Q rest a' w') : wpList P ops Q (o :: rest) a w := by
  have hk : ∀ A cap M' w', M.le M' → v = .slice A l.length cap → Hp w0 M' H w' → Sli M' 1 embB A cap l → ∀ a', Frm n ((d, S l) :: L) a' dd → wpList P ops Q rest a' w' := fun A2 cap2 M' w' h1 h2 h3 h4 => by
    rw [hv0] at h2
    obtain ⟨rfl, rfl⟩ : A = A2 ∧ cap = cap2 := by
      have := Value.slice.inj h2
      exact ⟨this.1, this.2.2⟩
    exact hk' M' w' h1 h3 h4
  have hce' := Nat.eq_of_beq_eq_true hce
  have run : ∀ w', (Builtin.unsafeString_ #[t, t'] o.type #[.pointer q, .int .i64 (l.length : Int)]).run P w = .ok (S l) w' → (execOp (ev L) o).run P w = .ok (.value (S l)) w' := fun w' h => by
    unfold execOp
    simp only [ho, resolve, invoke, builtin, Sem.run_bind, Sem.run_pure, Result.andThen_ok, List.map_toArray, List.map_cons, List.map_nil, hx, hy, h]
  by_cases hl : l = []
  · subst hl
    obtain ⟨A, cap, M', hv, hM, hp', hs⟩ := hp.rowSli (f := embB) (xs := []) (fun c => szd_byte c) hcs
    exact W_eq hf hw hr hd hdn (run w (Lib.run_unsafeString_none w t t' o.type q)) (hk A cap M' w hM hv hp' hs)
  · have hl0 : l.length ≠ 0 := by simpa using hl
    rcases hq with hq | ⟨g', cap', hv', rfl⟩
    · exact absurd hq hl0
    rcases hp.rowObj with ⟨h1, h2, h3, h4⟩ | ⟨g, cap1, cur, h1, h2, h3, h4, h5, h6, h7⟩
    · exact absurd h2 hl0
    · rw [h1] at hv'
      obtain ⟨rfl, rfl⟩ : g' = g ∧ cap' = cap1 := by
        simp only [Value.slice.injEq, Option.some.injEq, Addr.mk.injEq, true_and, and_true] at hv'
        exact ⟨hv'.1.symm, hv'.2.symm⟩
      have hsz : cap' ≤ cur.size := by have := h4.1; omega
      have hsz2 : cur.size ≤ maxLen := by have := h4.2; omega
      have hobj := h7.ownObj 0 rfl
      have hsh : w.shape? g' = some (e, cur.size) := by simp [World.shape?, hobj]
      have hcb := hcs.bytes_eq
      have hcell : ∀ j x, l[j]? = some x → w.cell? ((⟨g', 0, none⟩ : Addr).add j) = some (.int .u8 x.toNat) := fun j x hx => by
        have hj : j < l.length := (List.getElem?_eq_some_iff.1 hx).1
        rw [Addr.add_lit, h7.ownCell 0 rfl, Nat.zero_add, ← Array.getElem?_toList]
        have : (cur.toList.take (l.length * 1))[j]? = some (.int .u8 x.toNat) := by
          rw [h5, hcb]
          simp only [byteCs, List.getElem?_map, hx]
          rfl
        rwa [List.getElem?_take_of_lt (by omega)] at this
      have hrun := Lib.run_unsafeString_row (P := P) w t t' o.type e ht hce' g' cur.size hsh l hl (by omega) (by unfold maxLen at hsz2; omega) hcell
      have h8 := h7.freezeHead l.length hl0
      obtain ⟨k1, k2⟩ := h8.freeze
      refine W_eq hf hw hr hd hdn (run _ hrun) (hk (some ⟨g', 0, none⟩) cap' _ _ k1 h1 k2 ⟨h2, (fun e => by cases e), .inr ⟨_, rfl, RepSeq.arr (szd_all fun c => szd_byte c) (RepSeq.mono k1 _ _ hcs) fun j u hu => ?_⟩⟩)
      rw [Addr.add_lit, add_cell, ← Array.getElem?_toList, Nat.zero_add]
      have hj : j < l.length * 1 := h6 ▸ (List.getElem?_eq_some_iff.1 hu).1
      rw [← h5, List.getElem?_take_of_lt hj] at hu
      exact hu
end
end Go.Vc

/-
  VC, part 24: contracts of the shelf; what is known of variables. Own work.
-/
namespace Go.Vc
open Go Go.RowKit
variable {dd : List Deferred}
section
variable {P : Program} {w w' w0 : World} {M M' : Mem} {H : List Ent}
theorem Hp.newer (hp : Hp w0 M H w) (h : Below w.heap.size w w') : Hp w0 M H w' := by
  have hb : ∀ k, k < w.heap.size → w'.heap[k]? = w.heap[k]? := h.block
  refine ⟨⟨h.os.trans hp.below.os, h.tape.trans hp.below.tape, h.output.trans hp.below.output, Nat.le_trans hp.below.size h.size, fun k hk => ?_⟩, fun b o hm => ?_, fun e he => ?_, hp.apart, hp.free⟩
  · rw [hb k (by have := hp.below.size; omega)]
    exact hp.below.block k hk
  · have := hp.mem b o hm
    rw [hb b (lt_of_get this)]
    exact this
  · exact Ent.owns_keep (hp.own e he) fun b hb' => hb b (Ent.blk_lt (hp.own e he) hb').2
theorem Ok.ofBelow {f : FuncId} {args : List Value} {v : Value} (h : ∀ M2 w0 H w, M.le M2 → Hp w0 M2 H w → Calls P f args.toArray w fun e w' => e = .returned v ∧ Below w.heap.size w w') : Ok P M f args fun _ u => u = v :=
  fun M2 hM w0 H w hp => (h M2 w0 H w hM hp).mono fun _ _ ⟨h1, h2⟩ => ⟨v, h1, M2, Mem.le_refl _, hp.newer h2, rfl⟩
theorem Ok.ofDrew {f : FuncId} {args : List Value} {v : Value} (h : ∀ M2 w0 H w, M.le M2 → Hp w0 M2 H w → Calls P f args.toArray w fun e w' => e = .returned v ∧ ∃ n, w' = w.drewN n) : Ok P M f args fun _ u => u = v :=
  fun M2 hM w0 H w hp => (h M2 w0 H w hM hp).mono fun _ _ ⟨h1, n, h2⟩ => ⟨v, h1, M2, Mem.le_refl _, h2 ▸ hp.drewN n, rfl⟩

/-- The tables of package utf8. -/
def Tabs (g3 g4 : Nat) (M : Mem) : Prop :=
  (∀ c, c < 256 → M.cell? ⟨g3, c, none⟩ = some (.int .u8 (Lib.firstT c))) ∧
  (∀ i, i < 16 → M.cell? ⟨g4, 2 * i, none⟩ = some (.int .u8 (Lib.accLo i)) ∧ M.cell? ⟨g4, 2 * i + 1, none⟩ = some (.int .u8 (Lib.accHi i)))
theorem Tabs.mono {g3 g4 : Nat} (h : Tabs g3 g4 M) (hM : M.le M') : Tabs g3 g4 M' := ⟨fun c hc => hM.cell (h.1 c hc), fun i hi => ⟨hM.cell (h.2 i hi).1, hM.cell (h.2 i hi).2⟩⟩
theorem Tabs.at {g3 g4 : Nat} (h : Tabs g3 g4 M) (hp : Hp w0 M H w) : Lib.Utf8Tabs g3 g4 w := ⟨fun c hc => hp.cell (h.1 c hc), fun i hi => ⟨hp.cell (h.2 i hi).1, hp.cell (h.2 i hi).2⟩⟩
/-- A variable that holds some int. -/
def IntVar (g : Nat) (M : Mem) : Prop := ∃ m, M.cell? ⟨g, 0, none⟩ = some (.int .i64 m)
theorem IntVar.mono {g : Nat} (h : IntVar g M) (hM : M.le M') : IntVar g M' := h.imp fun _ h => hM.cell h
end
end Go.Vc

/-
  VC, part 25: going over a string's runes; a struct stored into an owned row. Own work.
-/
namespace Go.Vc
open Go Go.RowKit
variable {dd : List Deferred}
section
variable {P : Program} {ops : Array Oper} {n : Nat} {Q : Exit → Act → World → Prop} {L : Fr} {a : Act} {w0 w : World} {M : Mem} {H : List Ent}
theorem run_nextS_go (k : Nat) (s : ByteArray) (pos : Nat) (ty : TypeId) (hk : w.heap[k]? = some (.stringIter s pos)) (h : pos < s.size) :
    (Instr.next (.pointer (some ⟨k, 0, none⟩)) true ty).run P w = .ok (.tuple #[.bool true, .int .i64 pos, .int .i32 (Utf8.decode s pos).1]) { w with heap := w.heap.setIfInBounds k (.stringIter s (pos + (Utf8.decode s pos).2)) } := by
  simp only [Instr.next, getObj, setObj, Sem.run_bind, Sem.run, hk, Result.andThen, h, if_true]
  simp [goInt]
theorem run_nextS_end (k : Nat) (s : ByteArray) (pos : Nat) (ty : TypeId) (hk : w.heap[k]? = some (.stringIter s pos)) (h : ¬ pos < s.size) :
    (Instr.next (.pointer (some ⟨k, 0, none⟩)) true ty).run P w = .ok (.tuple #[.bool false]) w := by
  simp [Instr.next, getObj, Sem.run, hk, h]
theorem W_rangeS {o : Oper} {rest : List Oper} {d t : Nat} {x : Operand} {l : List UInt8} (hf : Frm n L a dd) (hp : Hp w0 M H w) (hw : wantedL ops L o = some true) (hr : readyL L o = true)
    (hd : o.dst = some d) (hdn : Nat.blt d n = true) (ho : o.op = .range t x) (hx : ev L x = S l) (ht : P.underlying t = some .string)
    (hk : ∀ b w', Hp w0 M (.obj b (.stringIter (mkS l) 0) :: H) w' → ∀ a', Frm n ((d, .pointer (some ⟨b, 0, none⟩)) :: L) a' dd → wpList P ops Q rest a' w') : wpList P ops Q (o :: rest) a w := by
  have hx' : (execOp (ev L) o).run P w = .ok (.value (.pointer (some ⟨w.heap.size, 0, none⟩))) (w.alloc (.stringIter (mkS l) 0)) := by
    unfold execOp
    simp only [ho, hx, S, Instr.range, Sem.run_bind, run_underlying ht, Result.andThen_ok]
    rfl
  exact W_eq hf hw hr hd hdn hx' (hk _ _ (hp.alloc _))
theorem W_nextS_end {o : Oper} {rest : List Oper} {d b p : Nat} {x : Operand} {l : List UInt8} (hf : Frm n L a dd) (hp : Hp w0 M (.obj b (.stringIter (mkS l) p) :: H) w) (hw : wantedL ops L o = some true) (hr : readyL L o = true)
    (hd : o.dst = some d) (hdn : Nat.blt d n = true) (ho : o.op = .next x true) (hx : ev L x = .pointer (some ⟨b, 0, none⟩)) (h : ¬ p < l.length)
    (hk : ∀ w', Hp w0 M (.obj b (.stringIter (mkS l) p) :: H) w' → ∀ a', Frm n ((d, .tuple #[.bool false]) :: L) a' dd → wpList P ops Q rest a' w') : wpList P ops Q (o :: rest) a w := by
  have h1 := run_nextS_end (P := P) (w := w) b (mkS l) p o.type (hp.ownObj 0 rfl) h
  have hx' : (execOp (ev L) o).run P w = .ok (.value (.tuple #[.bool false])) w := by
    unfold execOp
    simp only [ho, hx, Sem.run_bind, h1, Result.andThen_ok]
    rfl
  exact W_eq hf hw hr hd hdn hx' (hk _ hp)
theorem W_nextS_go {o : Oper} {rest : List Oper} {d b p : Nat} {x : Operand} {l : List UInt8} {v : Nat × Nat} (hf : Frm n L a dd) (hp : Hp w0 M (.obj b (.stringIter (mkS l) p) :: H) w) (hw : wantedL ops L o = some true) (hr : readyL L o = true)
    (hd : o.dst = some d) (hdn : Nat.blt d n = true) (ho : o.op = .next x true) (hx : ev L x = .pointer (some ⟨b, 0, none⟩)) (h : p < l.length) (hv : some (Lib.decodeL (l.drop p)) = some v)
    (hk : ∀ w', Hp w0 M (.obj b (.stringIter (mkS l) (p + v.2)) :: H) w' → ∀ a', Frm n ((d, .tuple #[.bool true, .int .i64 ((p : Nat) : Int), .int .i32 ((v.1 : Nat) : Int)]) :: L) a' dd → wpList P ops Q rest a' w') : wpList P ops Q (o :: rest) a w := by
  have h1 := run_nextS_go (P := P) (w := w) b (mkS l) p o.type (hp.ownObj 0 rfl) h
  have h2 : Utf8.decode (mkS l) p = v := by
    rw [← Lib.decodeL_drop]
    exact Option.some.inj hv
  rw [h2] at h1
  have hx' : (execOp (ev L) o).run P w = .ok (.value (.tuple #[.bool true, .int .i64 ((p : Nat) : Int), .int .i32 ((v.1 : Nat) : Int)])) { w with heap := w.heap.setIfInBounds b (.stringIter (mkS l) (p + v.2)) } := by
    unfold execOp
    simp only [ho, hx, Sem.run_bind, h1, Result.andThen_ok]
    rfl
  refine W_eq hf hw hr hd hdn hx' (hk _ ?_)
  exact hp.put
end
section
variable {α : Type} {P : Program} {ops : Array Oper} {n : Nat} {Q : Exit → Act → World → Prop} {L : Fr} {a : Act} {w0 w : World} {M : Mem} {H : List Ent} {sz : Nat} {f : α → Dat}
theorem take_patch {β : Type} (cl vs : List β) (a s N : Nat) (hv : vs.length = s) (h1 : a + s ≤ N) (h2 : N ≤ cl.length) : (cl.take a ++ vs ++ cl.drop (a + s)).take N = (cl.take N).take a ++ (vs ++ (cl.take N).drop (a + s)) := by
  have hl : (cl.take a).length = a := by rw [List.length_take]; omega
  have e1 : (cl.take a).take N = cl.take a := List.take_of_length_le (by omega)
  have e2 : vs.take (N - a) = vs := List.take_of_length_le (by omega)
  have e3 : (cl.take N).take a = cl.take a := by rw [List.take_take, Nat.min_eq_left (by omega)]
  have e4 : (cl.drop (a + s)).take (N - a - s) = (cl.take N).drop (a + s) := by rw [List.drop_take, Nat.sub_sub]
  rw [List.append_assoc, List.take_append, List.take_append, hl, hv, e1, e2, e3, e4]
/-- Storing an element into an owned row, of elements of many cells. -/
theorem W_rowstoreN {o : Oper} {rest : List Oper} {t e : TypeId} {x y : Operand} {it : Int} {m cap g : Nat} {v0 : Value} {d : List α} {xv x0 : α} {cs vs : List Value} (hf : Frm n L a dd) (hp : Hp w0 M (.row e sz v0 d.length cs :: H) w) (hv0 : v0 = .slice (some ⟨g, 0, none⟩) m cap)
    (hw : wantedL ops L o = some true) (hr : readyL L o = true) (hd : o.dst = none) (ho : o.op = .store t x y) (hx : ev L x = .pointer (some ((⟨g, 0, none⟩ : Addr).add (it.toNat * sz)))) (hy : ev L y = .agg vs.toArray) (hv : Rep M (f xv) vs) (hs : szIs P t sz = true) (hfs : ∀ x, Szd sz (f x)) (hg : getI d it = some x0)
    (hcs : RepSeq M (d.map f) cs) (hk : ∀ cs' w', Hp w0 M (.row e sz v0 (d.set it.toNat xv).length cs' :: H) w' → RepSeq M ((d.set it.toNat xv).map f) cs' → ∀ a', Frm n L a' dd → wpList P ops Q rest a' w') : wpList P ops Q (o :: rest) a w := by
  have hlen := RepSeq.len (szd_all hfs) hcs
  rw [List.length_map] at hlen
  have hvl : vs.length = sz := hfs xv M vs hv
  have hlt : it.toNat < d.length := by have := getI_lt hg; have := getI_nn hg; omega
  have hmul : (it.toNat + 1) * sz ≤ d.length * sz := Nat.mul_le_mul_right _ hlt
  rw [Nat.add_mul, Nat.one_mul] at hmul
  have hseq : RepSeq M ((d.set it.toNat xv).map f) (cs.take (it.toNat * sz) ++ (vs ++ cs.drop ((it.toNat + 1) * sz))) := by
    rw [List.set_eq_take_append_cons_drop, if_pos hlt, List.map_append, List.map_cons]
    refine RepSeq.append ?_ ⟨vs, _, rfl, hv, ?_⟩
    · rw [List.map_take]
      exact RepSeq.takeD _ (szd_all hfs) hcs
    · rw [List.map_drop]
      exact RepSeq.dropD _ (szd_all hfs) hcs
  rcases hp.rowObj with ⟨h1, h2, h3, h4⟩ | ⟨g', cap', cur, h1, h2, h3, h4, h5, h6, h7⟩
  · rw [h1] at hv0; cases hv0
  · rw [h1] at hv0; cases hv0
    have hcm : d.length * sz ≤ cap * sz := Nat.mul_le_mul_right _ h2
    rw [Addr.add_lit, Nat.zero_add] at hx
    have h8 := h7.setCells vs (it.toNat * sz)
    have hrun := run_storeCells_cells (P := P) g (it.toNat * sz) vs 0 w
      (fun i hi => by
        rw [Nat.add_zero, h7.ownCell 0 rfl]
        simp
        omega)
      (fun i _ => by
        rw [Nat.add_zero]
        exact h7.ownFrozen 0 rfl _ (by omega)) (Rep.one _ _ hv)
    rw [Nat.add_zero] at hrun
    refine W_skip hf hw hr hd ?_ (hk (cs.take (it.toNat * sz) ++ (vs ++ cs.drop ((it.toNat + 1) * sz))) (w.setCells g (it.toNat * sz) vs) ?_ hseq)
    · unfold execOp
      simp only [ho, hx, hy, Instr.storeAt, Instr.sureAddr, Sem.run_bind, Sem.run_pure, Result.andThen_ok, storeVar, Value.cells, run_sizeOf hs]
      simp only [List.size_toArray, hvl, ne_eq, not_true_eq_false, if_false]
      simpa using congrArg (fun r => Result.andThen r _) hrun
    · rw [List.length_set, h1]
      refine h8.objRow h2 h3 (by rw [setM_size]; exact h4) ?_ ?_
      · rw [setM_list _ _ _ (by omega), hvl, ← h5]
        have e1 : it.toNat * sz + sz = (it.toNat + 1) * sz := by rw [Nat.add_mul, Nat.one_mul]
        rw [e1, List.append_assoc]
        rw [← List.append_assoc, ← e1]
        exact take_patch _ _ _ _ _ hvl (by omega) (by have h10 : cur.toList.length = cur.size := Array.length_toList; rw [h10]; exact Nat.le_trans hcm h4.1)
      · rw [List.length_append, List.length_append, List.length_take, List.length_drop, h6, hvl, Nat.min_eq_left (by omega)]
        have h9 : (it.toNat + 1) * sz = it.toNat * sz + sz := by rw [Nat.add_mul, Nat.one_mul]
        omega
end
end Go.Vc

/-
  VC, part 26: regions that draw their order: a tree of orders. Own work.
-/
namespace Go.Vc
open Go Go.RowKit
variable {dd : List Deferred}
inductive Plan
  | done
  | quiet (k : Nat) (p : Plan)
  | alt (k : Nat) (p q : Plan)
  | none
def pickN (l : List Oper) : List Nat → List Oper
  | [] => []
  | k :: r => match atL l k with
    | some o => o :: pickN l r
    | none => pickN l r
/-- who is ready waits for all that is listed -/
def barB (md : Region.Mode) (ops : Array Oper) (listed : Array Bool) : Bool := (Region.ready md ops listed).all fun j => match ops[j]? with
  | some o => (List.range listed.size).all fun k => !listed.getD k false || o.after.toList.any fun e => Region.binds md e && Nat.beq e.on k
  | none => true
def tailB (md : Region.Mode) (ops : Array Oper) : List Nat → Array Bool → Bool
  | [], listed => (Region.ready md ops listed).isEmpty
  | k :: r, listed => decide (k < ops.size) && decide (Region.ready md ops listed = [k]) && tailB md ops r (listed.setIfInBounds k true)
section
variable {P : Program} {ops : Array Oper} {md : Region.Mode} {Q : Exit → Act → World → Prop} {I : Type} {Cl : I → World → Prop}
/-- What is to be shown of a plan; ks: the operations behind it, one by one. -/
def wpPlan (P : Program) (l : List Oper) (ks : List Nat) (Q : Exit → Act → World → Prop) (Cl : I → World → Prop) : Plan → Act → I → Prop
  | .done, a, i => ∀ w, Cl i w → wpList P l.toArray (noPan Q) (pickN l ks) a w
  | .quiet k p, a, i => match atL l k with
    | some o => ∃ v, YieldsU P l.toArray Cl o v a ∧ wpPlan P l ks Q Cl p (a.put o.dst v) i
    | .none => False
  | .alt k p q, a, i => (match atL l k with
    | some o => ∀ w, Cl i w → wpList P l.toArray (mixQ Q fun a' w' => ∃ i', Cl i' w' ∧ wpPlan P l ks Q Cl p a' i') [o] a w
    | .none => False) ∧ wpPlan P l ks Q Cl q a i
  | .none, _, _ => True
def Plan.ks : Plan → List Nat
  | .alt k _ q => k :: q.ks
  | _ => []
def Plan.ok (md : Region.Mode) (ops : Array Oper) (ks : List Nat) : Plan → Bool → Nat → Array Bool → Bool
  | .done, b, n, listed => b && barB md ops listed && tailB md ops ks listed && Nat.beq n 0
  | .quiet k p, b, n, listed => match n with
    | 0 => false
    | n + 1 => b && decide (k < ops.size) && (Region.ready md ops listed).contains k && Region.free md ops listed k && p.ok md ops ks true n (listed.setIfInBounds k true)
  | .alt k p q, b, n, listed => match n with
    | 0 => false
    | m + 1 => decide (k < ops.size) && (!b || decide (Region.ready md ops listed = k :: q.ks)) && p.ok md ops ks true m (listed.setIfInBounds k true) && q.ok md ops ks false (m + 1) listed
  | .none, b, _, _ => !b
theorem wpAny_of_tail {l : List Oper} : ∀ (ks : List Nat) (listed : Array Bool) (a : Act) (w : World), tailB md l.toArray ks listed = true → wpList P l.toArray (noPan Q) (pickN l ks) a w → wpAny P md l.toArray (noPan Q) ks.length listed a w
  | [], listed, a, w, hB, h => ⟨by simpa [tailB] using hB, h⟩
  | k :: r, listed, a, w, hB, h => by
    simp only [tailB, Bool.and_eq_true, decide_eq_true_eq] at hB
    obtain ⟨⟨hk, hr⟩, hB'⟩ := hB
    have hk' : k < l.length := by simpa using hk
    have h0 : l.toArray[k]? = some l[k] := by simp [hk']
    have e : atL l k = some l[k] := by rw [atL_eq]; simp [hk']
    refine ⟨fun h2 => (by rw [h2] at hr; cases hr), fun j hj => ?_⟩
    rw [hr] at hj
    obtain rfl : j = k := by simpa using hj
    simp only [pickN, e, wpList] at h
    unfold wpOp
    simp only [h0]
    have mono : ∀ a' w', wpList P l.toArray (noPan Q) (pickN l r) a' w' → wpAny P md l.toArray (noPan Q) r.length (listed.setIfInBounds j true) a' w' := fun a' w' h => wpAny_of_tail r _ a' w' hB' h
    split
    · rename_i hw'
      simp only [hw', if_true] at h
      rcases h with h | h
      · exact .inl (Oper.wp_mono mono h)
      · exact .inr h
    · rename_i hw'
      simp only [hw'] at h
      exact mono _ _ h
def wpAnyT (P : Program) (md : Region.Mode) (ops : Array Oper) (m : Nat) (Q : Exit → Act → World → Prop) (Cl : I → World → Prop) : Nat → Array Bool → Act → I → Prop
  | 0, listed, a, i => barB md ops listed = true ∧ ∀ w, Cl i w → wpAny P md ops (noPan Q) m listed a w
  | f + 1, listed, a, i => Region.ready md ops listed ≠ [] ∧
    ∀ w, Cl i w → ∀ j ∈ Region.ready md ops listed, wpOp P ops (noPan Q) j (fun a' w' => ∃ i', Cl i' w' ∧ wpAnyT P md ops m Q Cl f (listed.setIfInBounds j true) a' i') a w
theorem wpAny_of_T {m : Nat} : ∀ (f : Nat) (listed : Array Bool) (a : Act) (i : I) (w : World), Cl i w → wpAnyT P md ops m Q Cl f listed a i → wpAny P md ops (noPan Q) (f + m) listed a w
  | 0, _, _, _, w, hw, h => by rw [Nat.zero_add]; exact h.2 w hw
  | f + 1, _, _, _, w, hw, h => by
    rw [Nat.succ_add]
    exact ⟨fun h0 => absurd h0 h.1, fun j hj => wpOp_mono (fun a' w' ⟨i', h1, h2⟩ => wpAny_of_T f _ a' i' w' h1 h2) (h.2 w hw j hj)⟩
theorem wpAnyT_first {m k : Nat} {ok : Oper} {v : Value} (hk : ops[k]? = some ok) (hsel : ∀ (j : Nat) (o : Oper) cs b, ops[j]? = some o → o.op ≠ .select cs b) :
    ∀ (f : Nat) (listed : Array Bool) (a : Act) (i : I),
      (∀ j oj, ops[j]? = some oj → j ≠ k → listed.getD j true = false → (∀ e ∈ oj.after, Region.binds md e = true → e.on ≠ k) → ok.apart ops oj = true) →
      k ∈ Region.ready md ops listed → YieldsU P ops Cl ok v a →
      wpAnyT P md ops m Q Cl f (listed.setIfInBounds k true) (a.put ok.dst v) i → wpAnyT P md ops m Q Cl (f + 1) listed a i := by
  intro f
  induction f with
  | zero =>
    intro listed a i _ hr hy H
    refine ⟨fun h => (by rw [h] at hr; cases hr), fun w hw j hj => ?_⟩
    by_cases hji : j = k
    · subst hji; exact hy.wpOp hk hw fun w' hw' => ⟨i, hw', H⟩
    · exfalso
      have hj2 := ready_mono hj hji
      have hb := H.1
      obtain ⟨hjun, oj, hoj, hall⟩ := mem_ready.1 hj
      have h1 := List.all_eq_true.1 hb j hj2
      simp only [hoj] at h1
      have hun := (mem_ready.1 hr).1
      have hks : k < listed.size := by
        rcases Nat.lt_or_ge k listed.size with h' | h'
        · exact h'
        · simp [Array.getElem?_eq_none h'] at hun
      have h2 := List.all_eq_true.1 h1 k (by simp [hks])
      have h3 : (listed.setIfInBounds k true).getD k false = true := by simp [hks]
      rw [h3] at h2
      obtain ⟨e, he, h4⟩ := List.any_eq_true.1 (by simpa using h2 : oj.after.toList.any (fun e => Region.binds md e && Nat.beq e.on k) = true)
      simp only [Bool.and_eq_true] at h4
      have h5 := hall e (Array.mem_toList_iff.1 he) h4.1
      have h6 : e.on = k := Nat.eq_of_beq_eq_true h4.2
      rw [h6] at h5
      simp [hks] at hun h5
      rw [hun] at h5; cases h5
  | succ f ih =>
    intro listed a i hfree hr hy H
    refine ⟨fun h => (by rw [h] at hr; cases hr), fun w hw j hj => ?_⟩
    by_cases hji : j = k
    · subst hji; exact hy.wpOp hk hw fun w' hw' => ⟨i, hw', H⟩
    · have h1 := H.2 w hw j (ready_mono hj hji)
      obtain ⟨hjun, oj, hoj, hall⟩ := mem_ready.1 hj
      have hnot : ∀ e ∈ oj.after, Region.binds md e = true → e.on ≠ k := fun e he hb heq => by
        have h1 := hall e he hb
        have h0 := (mem_ready.1 hr).1
        rw [heq] at h1
        rcases Nat.lt_or_ge k listed.size with h' | h'
        · simp [h'] at h0 h1; rw [h0] at h1; cases h1
        · simp [Array.getElem?_eq_none h'] at h1
      have h2 := wpOpU_put hoj (hfree j oj hoj hji hjun hnot) (fun cs b => hsel k ok cs b hk) (fun cs b => hsel j oj cs b hoj) hy h1
      have hfree' : ∀ m om, ops[m]? = some om → m ≠ k → (listed.setIfInBounds j true).getD m true = false →
          (∀ e ∈ om.after, Region.binds md e = true → e.on ≠ k) → ok.apart ops om = true := fun m om hm hmk hun hno => by
        refine hfree m om hm hmk ?_ hno
        by_cases hjm : j = m
        · subst hjm; exact hjun
        · rw [Go.getD_set_ne true hjm] at hun; exact hun
      refine wpOp_mono (fun a' w' ⟨h3, i', h4, h5⟩ => ⟨i', h4, ih (listed.setIfInBounds j true) a' i' hfree' (ready_mono hr (Ne.symm hji)) h3 ?_⟩) h2
      rw [Array.setIfInBounds_comm _ _ hji]
      exact h5

theorem alts_of {l : List Oper} {ks : List Nat} {n : Nat} {listed : Array Bool} {a : Act} {i : I}
    (ih : ∀ (p : Plan) (listed : Array Bool) (a : Act) (i : I), Plan.ok md l.toArray ks p true n listed = true → wpPlan P l ks Q Cl p a i → wpAnyT P md l.toArray ks.length Q Cl n listed a i) :
    ∀ (q : Plan), Plan.ok md l.toArray ks q false (n + 1) listed = true → wpPlan P l ks Q Cl q a i → ∀ w, Cl i w → ∀ j ∈ q.ks,
      wpOp P l.toArray (noPan Q) j (fun a' w' => ∃ i', Cl i' w' ∧ wpAnyT P md l.toArray ks.length Q Cl n (listed.setIfInBounds j true) a' i') a w
  | .done, _, _, _, _, _, hj => by cases hj
  | .quiet _ _, _, _, _, _, _, hj => by cases hj
  | .none, _, _, _, _, _, hj => by cases hj
  | .alt k p q, hB, h, w, hw, j, hj => by
    simp only [Plan.ok, Bool.and_eq_true, decide_eq_true_eq] at hB
    obtain ⟨⟨⟨hk, _⟩, hp⟩, hq⟩ := hB
    obtain ⟨h1, h2⟩ := h
    rcases List.mem_cons.1 hj with rfl | hj
    · have hk' : j < l.length := by simpa using hk
      have h0 : l.toArray[j]? = some l[j] := by simp [hk']
      have e : atL l j = some l[j] := by rw [atL_eq]; simp [hk']
      simp only [e] at h1
      have h3 := h1 w hw
      simp only [wpList] at h3
      unfold wpOp
      simp only [h0]
      have mono : ∀ a' w', (mixQ Q (fun a' w' => ∃ i', Cl i' w' ∧ wpPlan P l ks Q Cl p a' i') .normal a' w') → ∃ i', Cl i' w' ∧ wpAnyT P md l.toArray ks.length Q Cl n (listed.setIfInBounds j true) a' i' :=
        fun a' w' ⟨i', h4, h5⟩ => ⟨i', h4, ih p _ _ _ hp h5⟩
      split
      · rename_i hw'
        simp only [hw', if_true] at h3
        rcases h3 with h3 | ⟨h3, h4⟩
        · exact .inl (Oper.wp_mono mono (Oper.wp_mixQ h3))
        · exact .inr ⟨h3, letsOut_mixQ h4⟩
      · rename_i hw'
        simp only [hw'] at h3
        exact mono _ _ h3
    · exact alts_of ih q hq h2 w hw j hj

theorem wpAnyT_of_plan {l : List Oper} {ks : List Nat} (hs : Region.noSelect l.toArray = true) : ∀ (n : Nat) (p : Plan) (listed : Array Bool) (a : Act) (i : I),
    Plan.ok md l.toArray ks p true n listed = true → wpPlan P l ks Q Cl p a i → wpAnyT P md l.toArray ks.length Q Cl n listed a i
  | 0, p, listed, a, i, hB, h => by
    cases p with
    | done =>
      simp only [Plan.ok, Bool.and_eq_true] at hB
      exact ⟨hB.1.1.2, fun w hw => wpAny_of_tail ks listed a w hB.1.2 (h w hw)⟩
    | quiet k p => simp [Plan.ok] at hB
    | alt k p q => simp [Plan.ok] at hB
    | none => simp [Plan.ok] at hB
  | n + 1, p, listed, a, i, hB, h => by
    cases p with
    | done => simp [Plan.ok] at hB
    | none => simp [Plan.ok] at hB
    | quiet k p =>
      simp only [Plan.ok, Bool.and_eq_true, decide_eq_true_eq] at hB
      obtain ⟨⟨⟨⟨_, hk⟩, hr⟩, hf⟩, hB'⟩ := hB
      have hk' : k < l.length := by simpa using hk
      have h0 : l.toArray[k]? = some l[k] := by simp [hk']
      have e : atL l k = some l[k] := by rw [atL_eq]; simp [hk']
      simp only [wpPlan, e] at h
      obtain ⟨v, hy, hK⟩ := h
      exact wpAnyT_first h0 (Region.noSelect_spec hs) n listed a i (Region.free_spec h0 hf) (by simpa using hr) hy (wpAnyT_of_plan hs n p _ _ _ hB' hK)
    | alt k p q =>
      have hB2 := hB
      simp only [Plan.ok, Bool.and_eq_true, Bool.not_true, Bool.false_or, decide_eq_true_eq] at hB
      obtain ⟨⟨⟨hk, hr⟩, hp⟩, hq⟩ := hB
      refine ⟨fun h2 => (by rw [h2] at hr; cases hr), fun w hw j hj => ?_⟩
      refine alts_of (n := n) (fun p listed a i => wpAnyT_of_plan hs n p listed a i) (.alt k p q) ?_ h w hw j (by rw [hr] at hj; exact hj)
      simp only [Plan.ok, Bool.and_eq_true, Bool.not_false, Bool.true_or, decide_eq_true_eq]
      exact ⟨⟨⟨hk, trivial⟩, hp⟩, hq⟩

theorem wp_region_plan {id : Nat} {a : Act} {w : World} {l : List Oper} {ks : List Nat} (pl : Plan) (i : I) (hm : P.follows .mixedOrders = true) (hs : Region.noSelect l.toArray = true)
    (hB : (Nat.ble ks.length l.length && Plan.ok .any l.toArray ks pl true (l.length - ks.length) (Array.replicate l.length false)) = true) (hC : Cl i { w with drawn := w.drawn + 1 }) (h : wpPlan P l ks Q Cl pl a i) : (Code.region id l.toArray true).wp P Q a w := by
  refine Code.wp_mono (fun e a w h => noPan_imp h) (wp_region_any hm ?_)
  rw [Bool.and_eq_true] at hB
  have hle := Nat.le_of_ble_eq_true hB.1
  have := wpAny_of_T _ _ a i _ hC (wpAnyT_of_plan (md := .any) hs (l.length - ks.length) pl _ a i hB.2 h)
  rw [Nat.sub_add_cancel hle] at this
  simpa using this
end
section
variable {P : Program} {l : List Oper} {ks : List Nat} {n : Nat} {Q : Exit → Act → World → Prop} {L : Fr} {a : Act} {w0 w : World} {M : Mem} {Hr : List Ent} {i : Mem × List Ent}
theorem R_plan {id : Nat} {E : List Ent} (pl : Plan) (hp : Hp w0 M (E ++ Hr) w) (hm : P.follows .mixedOrders = true) (hs : Region.noSelect l.toArray = true)
    (hB : (Nat.ble ks.length l.length && Plan.ok .any l.toArray ks pl true (l.length - ks.length) (Array.replicate l.length false)) = true) (h : wpPlan P l ks Q (Cla w0 M Hr) pl a (M, E)) : (Code.region id l.toArray true).wp P Q a w :=
  wp_region_plan pl (M, E) hm hs hB ⟨Mem.le_refl M, hp.drew⟩ h
theorem N_eq {k : Nat} {p : Plan} {o : Oper} (ho : atL l k = some o) {v : Value} {d : Nat} (hf : Frm n L a dd) (hw : wantedL l.toArray L o = some true) (hr : readyL L o = true) (hd : o.dst = some d) (hdn : Nat.blt d n = true)
    (hx : ∀ w, Hp w0 M Hr w → (execOp (ev L) o).run P w = .ok (.value v) w) (hk : ∀ a', Frm n ((d, v) :: L) a' dd → wpPlan P l ks Q (Cla w0 M Hr) p a' i) : wpPlan P l ks Q (Cla w0 M Hr) (.quiet k p) a i := by
  simp only [wpPlan, ho]
  refine ⟨v, .inl ⟨hf.wanted hw, fun j w hC => ?_⟩, ?_⟩
  · unfold Oper.quietAt
    rw [hf.exec hr, hx w hC.hp]
    exact ⟨rfl, rfl⟩
  · rw [hd]; exact hk _ (hf.put (by simpa [Nat.blt_eq] using hdn) v)
theorem N_not {k : Nat} {p : Plan} {o : Oper} (ho : atL l k = some o) {d : Nat} (hf : Frm n L a dd) (hw : wantedL l.toArray L o = some false) (hd : o.dst = some d) (hdn : Nat.blt d n = true)
    (hk : ∀ a', Frm n ((d, undef) :: L) a' dd → wpPlan P l ks Q (Cla w0 M Hr) p a' i) : wpPlan P l ks Q (Cla w0 M Hr) (.quiet k p) a i := by
  simp only [wpPlan, ho]
  refine ⟨undef, .inr ⟨hf.wanted hw, rfl⟩, ?_⟩
  rw [hd]; exact hk _ (hf.put (by simpa [Nat.blt_eq] using hdn) undef)
theorem N_okv {k : Nat} {p : Plan} {o : Oper} (ho : atL l k = some o) {d : Nat} {f : FuncId} {args : List Value} {v : Value} (hf : Frm n L a dd) (hw : wantedL l.toArray L o = some true) (hr : readyL L o = true)
    (hd : o.dst = some d) (hdn : Nat.blt d n = true) (hx : ∀ w, (execOp (ev L) o).run P w = .ok (.enter f args.toArray) w) (hc : Ok P M f args fun _ u => u = v)
    (hk : ∀ a', Frm n ((d, v) :: L) a' dd → wpPlan P l ks Q (Cla w0 M Hr) p a' i) : wpPlan P l ks Q (Cla w0 M Hr) (.quiet k p) a i := by
  simp only [wpPlan, ho]
  refine ⟨v, .inl ⟨hf.wanted hw, fun j w hC => ?_⟩, ?_⟩
  · unfold Oper.quietAt
    rw [hf.exec hr, hx w]
    refine ⟨rfl, (hc j.1 hC.1 w0 _ w hC.2).mono fun e w' ⟨u, he, M', hM, hp, hv⟩ => ?_⟩
    exact ⟨by rw [he, hv], hC.1, hp.less hM⟩
  · rw [hd]; exact hk _ (hf.put (by simpa [Nat.blt_eq] using hdn) v)
theorem N_alt {k : Nat} {p q : Plan} {o : Oper} (ho : atL l k = some o) {M1 : Mem} {E : List Ent}
    (h : ∀ w, Hp w0 M1 (E ++ Hr) w → wpList P l.toArray (mixQ Q fun a' w' => ∃ i', Cla w0 M Hr i' w' ∧ wpPlan P l ks Q (Cla w0 M Hr) p a' i') [o] a w) (h2 : wpPlan P l ks Q (Cla w0 M Hr) q a (M1, E)) : wpPlan P l ks Q (Cla w0 M Hr) (.alt k p q) a (M1, E) := by
  simp only [wpPlan, ho]
  exact ⟨fun w hw => h w hw.2, h2⟩
theorem N_none : wpPlan P l ks Q (Cla w0 M Hr) .none a i := trivial
theorem N_go {p : Plan} {M1 : Mem} {E : List Ent} (hM : M.le M1) (hp : Hp w0 M1 (E ++ Hr) w) (h : wpPlan P l ks Q (Cla w0 M Hr) p a (M1, E)) :
    mixQ Q (fun a' w' => ∃ i', Cla w0 M Hr i' w' ∧ wpPlan P l ks Q (Cla w0 M Hr) p a' i') .normal a w := ⟨(M1, E), ⟨hM, hp⟩, h⟩
theorem N_end {M1 : Mem} {E : List Ent} (h : ∀ w, Hp w0 M1 (E ++ Hr) w → Q .normal a w) : wpPlan P l [] Q (Cla w0 M Hr) .done a (M1, E) := fun w hw => h w hw.2
theorem N_tail {M1 : Mem} {E : List Ent} (h : ∀ w, Hp w0 M1 (E ++ Hr) w → wpList P l.toArray (noPan Q) (pickN l ks) a w) : wpPlan P l ks Q (Cla w0 M Hr) .done a (M1, E) := fun w hw => h w hw.2
theorem N_te (h : Q .normal a w) : noPan Q .normal a w := h
end
end Go.Vc

