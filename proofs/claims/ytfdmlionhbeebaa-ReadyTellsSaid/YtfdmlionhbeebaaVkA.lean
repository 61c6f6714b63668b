/-
  Own kit: walks of programs by symbolic steps. Own work.
-/
import Derived.WalkKit
import Derived.Deep.Quiet
import Derived.Below
import Derived.Deep.Draws
import Derived.Laws.OwnMore
import Derived.Laws.Rows
import Derived.Laws.IdiomStrings
import Derived.Laws.BytesString
import Derived.Laws.BytesArg
import Derived.Lib.Strings
import Derived.Deep.LoopGhost
import Derived.Maps.AppendAt
import Derived.OwnWalk
import Derived.IntWalk
import Derived.ArgAppend
import Derived.Sort.Grow
import Derived.Deep.OwnRows
import Derived.StillTail
import Derived.Deep.AppendSrc
import Derived.Deep.Upon
/-
  VC, part 1: a frame as a short list of known slots; runs of operations that the kernel reckons; the rules of control flow.
  Own work. Nothing here knows a program: P is a variable.
-/
namespace Go.Vc
open Go
variable {dd : List Deferred}

abbrev Fr := List (Nat × Value)

def look : Fr → Nat → Option Value
  | [], _ => none
  | (s, v) :: r, t => bif Nat.beq s t then some v else look r t

def ev (L : Fr) : Operand → Value
  | .tmp t => (look L t).getD undef
  | .const v => v
  | .global g => .pointer (some ⟨g, 0, none⟩)
  | .func f => .func (.func f) #[] #[]

def has (L : Fr) : Operand → Bool
  | .tmp t => (look L t).isSome
  | _ => true

def wantedL (ops : Array Oper) (L : Fr) (o : Oper) : Option Bool :=
  match o.guard with
  | none => some true
  | some (j, want) => match ((ops[j]?).bind (·.dst)).bind (look L) with
    | some (.bool b) => some (b == want)
    | some _ => some false
    | none => none

def putL (n : Nat) (L : Fr) (d : Option Nat) (v : Value) : Option Fr :=
  match d with
  | none => some L
  | some d => bif Nat.blt d n then some ((d, v) :: L) else none

def noSelect (o : Oper) : Bool := match o.op with | .select .. => false | _ => true

def readyL (L : Fr) (o : Oper) : Bool := o.op.operands.toList.all (has L) && noSelect o

def runL (P : Program) (ops : Array Oper) (n : Nat) : List Oper → Fr → World → Option (Fr × World)
  | [], L, w => some (L, w)
  | o :: os, L, w => match wantedL ops L o with
    | none => none
    | some false => (putL n L o.dst undef).bind fun L' => runL P ops n os L' w
    | some true => bif readyL L o then
        match (execOp (ev L) o).run P w with
        | .ok (.value v) w' => (putL n L o.dst v).bind fun L' => runL P ops n os L' w'
        | .ok .skip w' => (putL n L o.dst undef).bind fun L' => runL P ops n os L' w'
        | _ => none
      else none

/-- Of the slots ks alone. -/
def keep : List Nat → Fr → Option Fr
  | [], _ => some []
  | k :: ks, L => match look L k, keep ks L with
    | some v, some r => some ((k, v) :: r)
    | _, _ => none

def runK (P : Program) (ops : Array Oper) (n : Nat) (l : List Oper) (ks : List Nat) (L : Fr) (w : World) : Option (Fr × World) :=
  (runL P ops n l L w).bind fun r => (keep ks r.1).map fun K => (K, r.2)

structure Frm (n : Nat) (L : Fr) (a : Act) (dd : List Deferred := []) : Prop where
  size : a.tmps.size = n
  defers : a.defers = dd
  at_ : ∀ t v, look L t = some v → a.tmps[t]? = some v

section
variable {n : Nat} {L L' : Fr} {a : Act}

theorem beq_ne {a b : Nat} (h : ¬ a = b) : Nat.beq a b = false := by
  cases h' : Nat.beq a b with
  | false => rfl
  | true => exact absurd (Nat.eq_of_beq_eq_true h') h

theorem Frm.ev (h : Frm n L a dd) {x : Operand} (hx : has L x = true) : a.eval x = ev L x := by
  cases x with
  | tmp t =>
    simp only [has] at hx
    obtain ⟨v, hv⟩ := Option.isSome_iff_exists.1 hx
    have := h.at_ t v hv
    simp [Act.eval, Vc.ev, hv, this]
  | const v => rfl
  | global g => rfl
  | func f => rfl

theorem Frm.exec (h : Frm n L a dd) {o : Oper} (hr : readyL L o = true) : execOp a.eval o = execOp (Vc.ev L) o := by
  simp only [readyL, Bool.and_eq_true, List.all_eq_true] at hr
  refine execOp_congr o (fun cs b e => ?_) (fun x hx => h.ev (hr.1 x (by simpa using hx)))
  have := hr.2
  simp [noSelect, e] at this

theorem Frm.wanted (h : Frm n L a dd) {ops : Array Oper} {o : Oper} {b : Bool} (hw : wantedL ops L o = some b) : Region.wanted o (yielded ops a.tmps) = b := by
  unfold wantedL at hw
  unfold Region.wanted
  cases hg : o.guard with
  | none => simp only [hg] at hw ⊢; exact (Option.some.inj hw)
  | some jw =>
    obtain ⟨j, want⟩ := jw
    simp only [hg] at hw ⊢
    unfold yielded
    cases ht : (ops[j]?).bind (·.dst) with
    | none => simp [ht] at hw
    | some t =>
      simp only [ht, Option.bind_some] at hw ⊢
      cases hv : look L t with
      | none => simp [hv] at hw
      | some v =>
        rw [h.at_ t v hv]
        simp only [hv] at hw
        cases v <;> simp_all

theorem Frm.put (h : Frm n L a dd) {d : Nat} (hd : d < n) (v : Value) : Frm n ((d, v) :: L) (a.put (some d) v) dd := by
  refine ⟨by simp [Act.put, h.size], by simp [Act.put, h.defers], fun t u hu => ?_⟩
  simp only [look] at hu
  by_cases e : d = t
  · subst e
    simp only [Nat.beq_refl, cond_true, Option.some.injEq] at hu
    subst hu
    simp [Act.put, h.size, hd]
  · have : Nat.beq d t = false := beq_ne e
    simp only [this, cond_false] at hu
    simp [Act.put, e, h.at_ t u hu]

theorem Frm.putL (h : Frm n L a dd) {d : Option Nat} {v : Value} (hp : putL n L d v = some L') : Frm n L' (a.put d v) dd := by
  cases d with
  | none => simp only [Vc.putL, Option.some.injEq] at hp; subst hp; exact h
  | some d =>
    simp only [Vc.putL] at hp
    cases hb : Nat.blt d n with
    | false => simp [hb] at hp
    | true =>
      simp only [hb, cond_true, Option.some.injEq] at hp
      subst hp
      exact h.put (by simpa [Nat.blt_eq] using hb) v

theorem keep_look : ∀ {ks : List Nat} {K : Fr}, keep ks L = some K → ∀ t v, look K t = some v → look L t = some v
  | [], K, h, t, v, hv => by simp only [keep, Option.some.injEq] at h; subst h; simp [look] at hv
  | k :: ks, K, h, t, v, hv => by
    simp only [keep] at h
    split at h
    · rename_i u r hu hr
      simp only [Option.some.injEq] at h
      subst h
      simp only [look] at hv
      by_cases e : k = t
      · subst e
        simp only [Nat.beq_refl, cond_true, Option.some.injEq] at hv
        subst hv
        exact hu
      · have : Nat.beq k t = false := beq_ne e
        simp only [this, cond_false] at hv
        exact keep_look hr t v hv
    · cases h

theorem Frm.keep (h : Frm n L a dd) {ks : List Nat} {K : Fr} (hk : keep ks L = some K) : Frm n K a dd :=
  ⟨h.size, h.defers, fun t v hv => h.at_ t v (keep_look hk t v hv)⟩

/-- A frame whose slots hold the same under another spelling. -/
theorem Frm.of_eq (h : Frm n L a dd) (e : L = L') : Frm n L' a dd := e ▸ h

theorem look_cons_ne {L : Fr} {s t : Nat} {v : Value} (h : Nat.beq s t = false) : look ((s, v) :: L) t = look L t := by simp [look, h]

/-- One slot's value under another spelling: laid ahead of the others. -/
theorem Frm.set (h : Frm n L a dd) (k : Nat) {v v' : Value} (hl : look L k = some v) (e : v = v') : Frm n ((k, v') :: L) a dd := by
  subst e
  refine ⟨h.size, h.defers, fun t u hu => ?_⟩
  simp only [look] at hu
  by_cases e : k = t
  · subst e
    simp only [Nat.beq_refl, cond_true, Option.some.injEq] at hu
    subst hu
    exact h.at_ _ _ hl
  · have : Nat.beq k t = false := beq_ne e
    simp only [this, cond_false] at hu
    exact h.at_ t u hu
end

/-! ### Runs -/
section
variable {P : Program} {ops : Array Oper} {n : Nat} {Q : Exit → Act → World → Prop}

theorem wp_value {o : Oper} {a : Act} {w w' : World} {K : Act → World → Prop} {v : Value} (h : (execOp a.eval o).run P w = .ok (.value v) w') (hk : K (a.put o.dst v) w') : o.wp P a w K Q := by
  unfold Oper.wp; rw [h]; exact hk
theorem wp_skip' {o : Oper} {a : Act} {w w' : World} {K : Act → World → Prop} (h : (execOp a.eval o).run P w = .ok .skip w') (hk : K (a.put o.dst undef) w') : o.wp P a w K Q := by
  unfold Oper.wp; rw [h]; exact hk

theorem run_sound (rest : List Oper) : ∀ (pre : List Oper) (L : Fr) (w : World) (a : Act), Frm n L a dd → ∀ L' w', runL P ops n pre L w = some (L', w') →
    (∀ a', Frm n L' a' dd → wpList P ops Q rest a' w') → wpList P ops Q (pre ++ rest) a w
  | [], L, w, a, hf, L', w', hr, hk => by
    simp only [runL, Option.some.injEq, Prod.mk.injEq] at hr
    obtain ⟨rfl, rfl⟩ := hr
    exact hk a hf
  | o :: os, L, w, a, hf, L', w', hr, hk => by
    simp only [runL] at hr
    simp only [List.cons_append, wpList]
    cases hw : wantedL ops L o with
    | none => simp [hw] at hr
    | some b =>
      rw [hf.wanted hw]
      cases b with
      | false =>
        simp only [hw] at hr
        obtain ⟨L1, h1, h2⟩ := Option.bind_eq_some_iff.1 hr
        exact run_sound rest os L1 w _ (hf.putL h1) L' w' h2 hk
      | true =>
        simp only [hw] at hr
        cases hrd : readyL L o with
        | false => simp [hrd] at hr
        | true =>
          simp only [hrd, cond_true] at hr
          have he := hf.exec hrd
          cases hx : (execOp (ev L) o).run P w with
          | halt x w1 => simp [hx] at hr
          | ok nx w1 =>
            cases nx with
            | value v =>
              simp only [hx] at hr
              obtain ⟨L1, h1, h2⟩ := Option.bind_eq_some_iff.1 hr
              exact .inl (wp_value (he ▸ hx) (run_sound rest os L1 w1 _ (hf.putL h1) L' w' h2 hk))
            | skip =>
              simp only [hx] at hr
              obtain ⟨L1, h1, h2⟩ := Option.bind_eq_some_iff.1 hr
              exact .inl (wp_skip' (he ▸ hx) (run_sound rest os L1 w1 _ (hf.putL h1) L' w' h2 hk))
            | _ => simp [hx] at hr

/-- THE RUN of the next m operations; of what is known behind them the slots ks are kept. -/
theorem W_run {L : Fr} {a : Act} {w : World} {l : List Oper} {L' : Fr} {w' : World} (hf : Frm n L a dd) (m : Nat) (ks : List Nat)
    (h : runK P ops n (l.take m) ks L w = some (L', w')) (hk : ∀ a', Frm n L' a' dd → wpList P ops Q (l.drop m) a' w') : wpList P ops Q l a w := by
  obtain ⟨r, h1, h2⟩ := Option.bind_eq_some_iff.1 h
  obtain ⟨K, h3, h4⟩ := Option.map_eq_some_iff.1 h2
  simp only [Prod.mk.injEq] at h4
  obtain ⟨rfl, rfl⟩ := h4
  have := run_sound (Q := Q) (l.drop m) (l.take m) L w a hf r.1 r.2 (by rw [h1]) (fun a' ha' => hk a' (ha'.keep h3))
  rwa [List.take_append_drop] at this

/-- ONE operation, by an equation on its run. -/
theorem W_eq {L : Fr} {a : Act} {w w' : World} {o : Oper} {rest : List Oper} {v : Value} {d : Nat} (hf : Frm n L a dd) (hw : wantedL ops L o = some true) (hr : readyL L o = true)
    (hd : o.dst = some d) (hdn : Nat.blt d n = true) (hx : (execOp (ev L) o).run P w = .ok (.value v) w') (hk : ∀ a', Frm n ((d, v) :: L) a' dd → wpList P ops Q rest a' w') : wpList P ops Q (o :: rest) a w := by
  simp only [wpList]
  rw [hf.wanted hw]
  refine .inl (wp_value ((hf.exec hr) ▸ hx) (hk _ ?_))
  rw [hd]
  exact hf.put (by simpa [Nat.blt_eq] using hdn) v

/-- ONE operation that yields nothing (a store). -/
theorem W_skip {L : Fr} {a : Act} {w w' : World} {o : Oper} {rest : List Oper} (hf : Frm n L a dd) (hw : wantedL ops L o = some true) (hr : readyL L o = true)
    (hd : o.dst = none) (hx : (execOp (ev L) o).run P w = .ok .skip w') (hk : ∀ a', Frm n L a' dd → wpList P ops Q rest a' w') : wpList P ops Q (o :: rest) a w := by
  simp only [wpList]
  rw [hf.wanted hw]
  refine .inl (wp_skip' ((hf.exec hr) ▸ hx) (hk _ ?_))
  rw [hd]
  exact hf

/-- A call of a Go function, by its contract. -/
theorem W_call {L : Fr} {a : Act} {w : World} {o : Oper} {rest : List Oper} {d : Nat} {f : FuncId} {args : Array Value} {R : Value → World → Prop} (hf : Frm n L a dd) (hw : wantedL ops L o = some true) (hr : readyL L o = true)
    (hd : o.dst = some d) (hdn : Nat.blt d n = true) (hx : (execOp (ev L) o).run P w = .ok (.enter f args) w) (hc : Calls P f args w fun e w' => ∃ v, e = .returned v ∧ R v w')
    (hk : ∀ v w', R v w' → ∀ a', Frm n ((d, v) :: L) a' dd → wpList P ops Q rest a' w') : wpList P ops Q (o :: rest) a w := by
  simp only [wpList]
  rw [hf.wanted hw]
  refine .inl ?_
  unfold Oper.wp
  rw [hf.exec hr, hx]
  refine hc.mono fun e w' he => ?_
  obtain ⟨v, rfl, hR⟩ := he
  refine hk v w' hR _ ?_
  rw [hd]
  exact hf.put (by simpa [Nat.blt_eq] using hdn) v

theorem W_end {a : Act} {w : World} {l : List Oper} (hl : l = []) (h : Q .normal a w) : wpList P ops Q l a w := by subst hl; exact h

/-! ### Control flow -/
theorem R_reg {id : Nat} {a : Act} {w : World} (h : wpList P ops Q ops.toList a w) : (Code.region id ops false).wp P Q a w := wp_region_list h

theorem R_seq {x y : Code} {a : Act} {w : World} (h : x.wp P (Exit.then (y.wp P Q) Q) a w) : (Code.seq x y).wp P Q a w := wp_seq h

theorem R_cond {L : Fr} {a : Act} {w : World} {c : Operand} {x y : Code} {b : Bool} (hf : Frm n L a dd) (hc : ev L c = .bool b) (hh : has L c = true)
    (ht : b = true → x.wp P Q a w) (hF : b = false → y.wp P Q a w) : (Code.cond c x y).wp P Q a w :=
  wp_cond_split ((hf.ev hh).trans hc) ht hF
theorem R_cond_t {L : Fr} {a : Act} {w : World} {c : Operand} {x y : Code} (hf : Frm n L a dd) (hc : ev L c = .bool true) (hh : has L c = true)
    (ht : x.wp P Q a w) : (Code.cond c x y).wp P Q a w := wp_cond ((hf.ev hh).trans hc) ht
theorem R_cond_f {L : Fr} {a : Act} {w : World} {c : Operand} {x y : Code} (hf : Frm n L a dd) (hc : ev L c = .bool false) (hh : has L c = true)
    (ht : y.wp P Q a w) : (Code.cond c x y).wp P Q a w := wp_cond ((hf.ev hh).trans hc) ht

theorem T_n {K : Act → World → Prop} {a : Act} {w : World} (h : K a w) : Exit.then K Q .normal a w := h
theorem T_x {K : Act → World → Prop} {a : Act} {w : World} {i : Nat} (h : Q (.exit i) a w) : Exit.then K Q (.exit i) a w := h
theorem T_r {K : Act → World → Prop} {a : Act} {w : World} (h : Q .ret a w) : Exit.then K Q .ret a w := h
theorem B_n {i : Nat} {a : Act} {w : World} (h : Q .normal a w) : Exit.inBlock i Q .normal a w := h
theorem B_r {i : Nat} {a : Act} {w : World} (h : Q .ret a w) : Exit.inBlock i Q .ret a w := h
theorem B_x {i : Nat} {a : Act} {w : World} (h : Q .normal a w) : Exit.inBlock i Q (.exit i) a w := by
  show (if i = i then Q .normal a w else Q (.exit i) a w)
  rw [if_pos rfl]; exact h
theorem B_o {i j : Nat} {a : Act} {w : World} (hij : Nat.beq j i = false) (h : Q (.exit j) a w) : Exit.inBlock i Q (.exit j) a w := by
  show (if j = i then Q .normal a w else Q (.exit j) a w)
  rw [if_neg (Nat.ne_of_beq_eq_false hij)]; exact h
end

/-! ### A call's beginning and end -/
def frame0 (args : List Value) (i : Nat) : Fr := match args with
  | [] => []
  | v :: r => (i, v) :: frame0 r (i + 1)

theorem look_frame0 : ∀ (args : List Value) (i t : Nat) (v : Value), look (frame0 args i) t = some v → i ≤ t ∧ args[t - i]? = some v
  | [], i, t, v, h => by simp [frame0, look] at h
  | u :: r, i, t, v, h => by
    simp only [frame0, look] at h
    by_cases e : i = t
    · subst e
      simp only [Nat.beq_refl, cond_true, Option.some.injEq] at h
      subst h
      simp
    · have : Nat.beq i t = false := beq_ne e
      simp only [this, cond_false] at h
      obtain ⟨h1, h2⟩ := look_frame0 r (i + 1) t v h
      refine ⟨by omega, ?_⟩
      rw [show t - i = (t - (i + 1)) + 1 by omega]
      simpa using h2

theorem R_enter {P : Program} {f : FuncId} {fn : Func} {c : Code} {args : List Value} {w : World} {R : Ending → World → Prop} (n : Nat)
    (hf : P.funcs[f]? = some fn) (hb : fn.body = some c) (hn : fn.ntmps = n) (hle : args.length ≤ n)
    (h : ∀ a, Frm n (frame0 args 0) a → c.wp P (bodyPost P fn R) a w) : Calls P f args.toArray w R := by
  refine calls_of_wp hf hb (h _ ⟨by simp [hn]; omega, rfl, fun t v hv => ?_⟩)
  obtain ⟨_, h2⟩ := look_frame0 args 0 t v hv
  simp only [Nat.sub_zero] at h2
  have hlt : t < args.length := (List.getElem?_eq_some_iff.1 h2).1
  rw [List.getElem?_eq_getElem hlt] at h2
  simp only [Option.some.injEq] at h2
  simp [Array.getElem?_append, hlt, h2]

/-! The end: the results stand in slots. -/
section
variable {P : Program} {fn : Func} {n : Nat} {L : Fr} {a : Act} {w : World} {R : Ending → World → Prop}
theorem slot_of (hf : Frm n L a dd) {t : Nat} {v : Value} (h : look L t = some v) : a.tmps.getD t undef = v := by simp [hf.at_ t v h]

theorem E_ret0 (hf : Frm n L a) (hr : fn.results = #[]) (h : R (.returned (.tuple #[])) w) : bodyPost P fn R .ret a w :=
  ⟨hf.defers, _, results_none hr _ P w, h⟩
theorem E_end0 (hf : Frm n L a) (hr : fn.results = #[]) (h : R (.returned (.tuple #[])) w) : bodyPost P fn R .normal a w :=
  ⟨hf.defers, _, results_none hr _ P w, h⟩
theorem E_ret1 {t : Nat} {v : Value} (hf : Frm n L a) (hr : fn.results = #[.tmp t]) (hv : look L t = some v) (h : R (.returned v) w) : bodyPost P fn R .ret a w :=
  ⟨hf.defers, _, by rw [results_tmp hr, slot_of hf hv], h⟩
theorem E_ret2 {t u : Nat} {v x : Value} (hf : Frm n L a) (hr : fn.results = #[.tmp t, .tmp u]) (hv : look L t = some v) (hx : look L u = some x) (h : R (.returned (.tuple #[v, x])) w) : bodyPost P fn R .ret a w :=
  ⟨hf.defers, _, by rw [results_tmp2 hr, slot_of hf hv, slot_of hf hx], h⟩
theorem E_ret3 {t u s : Nat} {v x y : Value} (hf : Frm n L a) (hr : fn.results = #[.tmp t, .tmp u, .tmp s]) (hv : look L t = some v) (hx : look L u = some x) (hy : look L s = some y)
    (h : R (.returned (.tuple #[v, x, y])) w) : bodyPost P fn R .ret a w :=
  ⟨hf.defers, _, by
    have h1 := slot_of hf hv; have h2 := slot_of hf hx; have h3 := slot_of hf hy
    simp only [Array.getD_eq_getD_getElem?] at h1 h2 h3
    simp [results, hr, h1, h2, h3], h⟩
end
end Go.Vc

/-
  VC, part 2: memory. M: what is known and never turns; H: the blocks that the call made and may still write. Own work.
-/
namespace Go.Vc
open Go Go.RowKit
variable {dd : List Deferred}

def Mem := Nat → Option Obj
def Mem.le (M M' : Mem) : Prop := ∀ b o, M b = some o → M' b = some o
theorem Mem.le_refl (M : Mem) : M.le M := fun _ _ h => h
theorem Mem.le.trans {M M' M'' : Mem} (h : M.le M') (h' : M'.le M'') : M.le M'' := fun b o e => h' b o (h b o e)
def Mem.cell? (M : Mem) (a : Addr) : Option Value :=
  match M a.block with
  | some (.cells c _ _) => if a.spot.isSome then none else c[a.off]?
  | _ => none
theorem Mem.le.cell {M M' : Mem} (h : M.le M') {a : Addr} {v : Value} (hc : M.cell? a = some v) : M'.cell? a = some v := by
  unfold Mem.cell? at *
  cases hb : M a.block with
  | none => simp [hb] at hc
  | some o => rw [h _ _ hb]; rw [hb] at hc; exact hc
def Mem.add (M : Mem) (b : Nat) (o : Obj) : Mem := fun i => if i = b then some o else M i
def Mem.of (w : World) : Mem := fun b => w.heap[b]?

/-- a row that is owned: of a block that may be greater than the row's room -/
def ownsRowG (w : World) (base : Nat) (e : TypeId) (size : Nat) (v : Value) (n : Nat) (xs : List Value) : Prop :=
  xs.length = n * size ∧
  ((v = .slice none 0 0 ∧ n = 0) ∨
   ∃ g cap cur, v = .slice (some ⟨g, 0, none⟩) n cap ∧ base ≤ g ∧ w.heap[g]? = some (.cells cur e (0, 0)) ∧ n ≤ cap ∧ cap ≤ maxLen ∧ (cap * size ≤ cur.size ∧ cur.size ≤ maxLen * size) ∧ cur.toList.take (n * size) = xs)
theorem blk_eq {cap size m : Nat} (h : cap ≤ maxLen) (e : m = cap * size) : cap * size ≤ m ∧ m ≤ maxLen * size := ⟨Nat.le_of_eq e.symm, by rw [e]; exact Nat.mul_le_mul_right _ h⟩
theorem ownsRowG.of {w : World} {base : Nat} {e : TypeId} {size : Nat} {v : Value} {n : Nat} {xs : List Value} (h : w.ownsRow base e size v n xs) : ownsRowG w base e size v n xs := by
  obtain ⟨h1, h2⟩ := h
  refine ⟨h1, ?_⟩
  rcases h2 with h2 | ⟨g, cap, cur, r1, r2, r3, r4, r5, r6, r7⟩
  · exact .inl h2
  · exact .inr ⟨g, cap, cur, r1, r2, r3, r4, r5, blk_eq r5 r6, r7⟩
theorem ownsRowG.lt {w : World} {base : Nat} {e : TypeId} {size : Nat} {v : Value} {n : Nat} {xs : List Value} (h : ownsRowG w base e size v n xs) (b : Nat) (hb : v.ownBlock = some b) : base ≤ b ∧ b < w.heap.size := by
  obtain ⟨_, ⟨rfl, _⟩ | ⟨g, cap, cur, rfl, h2, h3, _⟩⟩ := h
  · simp [Value.ownBlock] at hb
  · simp [Value.ownBlock] at hb
    subst hb
    exact ⟨h2, (Array.getElem?_eq_some_iff.1 h3).1⟩
inductive Ent
  | obj (b : Nat) (o : Obj)
  | row (e : TypeId) (size : Nat) (v : Value) (n : Nat) (xs : List Value)

def Ent.blk : Ent → Option Nat
  | .obj b _ => some b
  | .row _ _ v _ _ => v.ownBlock
def Ent.owns (B : Nat) (w : World) : Ent → Prop
  | .obj b o => B ≤ b ∧ w.heap[b]? = some o
  | .row e size v n xs => ownsRowG w B e size v n xs

structure Hp (w0 : World) (M : Mem) (H : List Ent) (w : World) : Prop where
  below : Below w0.heap.size w0 w
  mem : ∀ b o, M b = some o → w.heap[b]? = some o
  own : ∀ e ∈ H, e.owns w0.heap.size w
  apart : H.Pairwise fun x y => ∀ b, x.blk = some b → y.blk ≠ some b
  free : ∀ e ∈ H, ∀ b, e.blk = some b → M b = none

theorem lt_of_get {w : World} {b : Nat} {o : Obj} (h : w.heap[b]? = some o) : b < w.heap.size := (Array.getElem?_eq_some_iff.1 h).1

theorem Hp.start (w : World) : Hp w (Mem.of w) [] w :=
  ⟨Below.refl _ _, fun _ _ h => h, fun _ h => by simp at h, .nil, fun _ h => by simp at h⟩

section
variable {w0 w w' : World} {M M' : Mem} {H H' : List Ent} {e : Ent} {b : Nat} {o : Obj}

theorem Hp.cell (h : Hp w0 M H w) {a : Addr} {v : Value} (hc : M.cell? a = some v) : w.cell? a = some v := by
  unfold Mem.cell? at hc
  unfold World.cell?
  cases hb : M a.block with
  | none => simp [hb] at hc
  | some o => rw [h.mem _ _ hb]; rw [hb] at hc; exact hc

theorem Hp.less (h : Hp w0 M' H w) (hm : M.le M') : Hp w0 M H w :=
  ⟨h.below, fun b o hb => h.mem b o (hm b o hb), h.own, h.apart, fun e he b hb => by
    have := h.free e he b hb
    cases hM : M b with
    | none => rfl
    | some o => rw [hm b o hM] at this; cases this⟩

theorem Hp.perm (h : Hp w0 M H w) (hp : H.Perm H') : Hp w0 M H' w :=
  ⟨h.below, h.mem, fun e he => h.own e (hp.mem_iff.2 he), hp.pairwise h.apart (fun hxy b hy hx => hxy b hx hy), fun e he => h.free e (hp.mem_iff.2 he)⟩

theorem Hp.drop (h : Hp w0 M (e :: H) w) : Hp w0 M H w :=
  ⟨h.below, h.mem, fun x hx => h.own x (List.mem_cons_of_mem _ hx), (List.pairwise_cons.1 h.apart).2, fun x hx => h.free x (List.mem_cons_of_mem _ hx)⟩

theorem Hp.dropN (h : Hp w0 M H w) (k : Nat) : Hp w0 M (H.drop k) w :=
  ⟨h.below, h.mem, fun x hx => h.own x (List.mem_of_mem_drop hx), h.apart.sublist (List.drop_sublist _ _), fun x hx => h.free x (List.mem_of_mem_drop hx)⟩

theorem perm_pull : ∀ (H : List Ent) (i : Nat) (e : Ent), H[i]? = some e → H.Perm (e :: H.eraseIdx i)
  | [], i, e, h => by simp at h
  | x :: r, 0, e, h => by simp only [List.getElem?_cons_zero, Option.some.injEq] at h; subst h; exact .refl _
  | x :: r, i + 1, e, h => by
    simp only [List.getElem?_cons_succ] at h
    exact ((perm_pull r i e h).cons x).trans (.swap e x _)

/-- Entry i ahead of the others. -/
theorem Hp.pull (h : Hp w0 M H w) (i : Nat) {e : Ent} {H' : List Ent} (he : H[i]? = some e) (hH : H.eraseIdx i = H') : Hp w0 M (e :: H') w := by
  subst hH; exact h.perm (perm_pull H i e he)

theorem Ent.blk_lt {B : Nat} (h : e.owns B w) (hb : e.blk = some b) : B ≤ b ∧ b < w.heap.size := by
  cases e with
  | obj c o => simp only [Ent.blk, Option.some.injEq] at hb; subst hb; exact ⟨h.1, lt_of_get h.2⟩
  | row t size v n xs => exact ownsRowG.lt h b hb

/-- What an entry owns stays owned while its own block is as it was. -/
theorem Ent.owns_keep {B : Nat} (h : e.owns B w) (hk : ∀ b, e.blk = some b → w'.heap[b]? = w.heap[b]?) : e.owns B w' := by
  cases e with
  | obj c o => exact ⟨h.1, (hk c rfl).trans h.2⟩
  | row t size v n xs =>
    obtain ⟨h1, h2⟩ := h
    refine ⟨h1, ?_⟩
    rcases h2 with h2 | ⟨g, cap, cur, rfl, hg, hh, r⟩
    · exact .inl h2
    · exact .inr ⟨g, cap, cur, rfl, hg, (hk g rfl).trans hh, r⟩

theorem Hp.drew (h : Hp w0 M H w) : Hp w0 M H w.drew :=
  ⟨h.below.drew, h.mem, fun e he => Ent.owns_keep (h.own e he) fun _ _ => rfl, h.apart, h.free⟩

theorem Hp.drewN (h : Hp w0 M H w) (n : Nat) : Hp w0 M H (w.drewN n) :=
  ⟨⟨h.below.os, h.below.tape, h.below.output, h.below.size, h.below.block⟩, h.mem, fun e he => Ent.owns_keep (h.own e he) fun _ _ => rfl, h.apart, h.free⟩

theorem get_alloc (w : World) (o : Obj) : (w.alloc o).heap[w.heap.size]? = some o := by
  show (w.heap.push o)[w.heap.size]? = _
  simp

/-- A new block. -/
theorem Hp.alloc (h : Hp w0 M H w) (o : Obj) : Hp w0 M (.obj w.heap.size o :: H) (w.alloc o) := by
  have hlt : ∀ e ∈ H, ∀ b, e.blk = some b → b < w.heap.size := fun e he b hb => (Ent.blk_lt (h.own e he) hb).2
  refine ⟨h.below.alloc h.below.size o, fun b x hb => ?_, fun e he => ?_, ?_, fun e he b hb => ?_⟩
  · have := h.mem b x hb
    rw [Below.heap_alloc w o b (lt_of_get this)]; exact this
  · rcases List.mem_cons.1 he with rfl | he
    · exact ⟨h.below.size, get_alloc w o⟩
    · exact Ent.owns_keep (h.own e he) fun b hb => Below.heap_alloc w o b (hlt e he b hb)
  · refine List.pairwise_cons.2 ⟨fun e he b hb hb' => ?_, h.apart⟩
    simp only [Ent.blk, Option.some.injEq] at hb
    have := hlt e he b hb'
    omega
  · rcases List.mem_cons.1 he with rfl | he
    · simp only [Ent.blk, Option.some.injEq] at hb
      subst hb
      cases hM : M w.heap.size with
      | none => rfl
      | some x => have := lt_of_get (h.mem _ _ hM); omega
    · exact h.free e he b hb

/-- A write to the first entry's own block. -/
theorem Hp.write (h : Hp w0 M (.obj b o :: H) w) {o' : Obj} (h1 : w'.os = w.os) (h2 : w'.tape = w.tape) (h3 : w'.output = w.output) (h4 : w'.heap.size = w.heap.size)
    (h5 : w'.heap[b]? = some o') (h6 : ∀ k, k ≠ b → w'.heap[k]? = w.heap[k]?) : Hp w0 M (.obj b o' :: H) w' := by
  have hb := h.own _ List.mem_cons_self
  have hM := h.free _ List.mem_cons_self b rfl
  have hap := List.pairwise_cons.1 h.apart
  refine ⟨⟨h1.trans h.below.os, h2.trans h.below.tape, h3.trans h.below.output, by have := h.below.size; omega, fun k hk => ?_⟩, fun k x hk => ?_, fun e he => ?_, ?_, fun e he k hk => ?_⟩
  · rw [h6 k (by have := hb.1; omega)]; exact h.below.block k hk
  · rw [h6 k (fun e => by subst e; rw [hM] at hk; cases hk)]; exact h.mem k x hk
  · rcases List.mem_cons.1 he with rfl | he2
    · exact ⟨hb.1, h5⟩
    · exact Ent.owns_keep (h.own e (List.mem_cons_of_mem _ he2)) fun k hk => h6 k (fun e' => hap.1 e he2 b rfl (e' ▸ hk))
  · exact List.pairwise_cons.2 ⟨fun e he k hk => hap.1 e he k hk, hap.2⟩
  · rcases List.mem_cons.1 he with rfl | he
    · exact h.free _ List.mem_cons_self k hk
    · exact h.free e (List.mem_cons_of_mem _ he) k hk

theorem Hp.setCell {T : TypeId} {cs : Array Value} {fr : Nat × Nat} (h : Hp w0 M (.obj b (.cells cs T fr) :: H) w) (i : Nat) (v : Value) :
    Hp w0 M (.obj b (.cells (cs.setIfInBounds i v) T fr) :: H) (w.setCell ⟨b, i, none⟩ v) := by
  have hb := (h.own _ List.mem_cons_self).2
  refine h.write rfl rfl rfl (by simp [World.setCell]) ?_ (fun k hk => Below.heap_setCell w ⟨b, i, none⟩ v k hk)
  simp [World.setCell, Array.getElem?_modify, hb]

theorem Hp.ownCell {T : TypeId} {cs : Array Value} {fr : Nat × Nat} (h : Hp w0 M H w) (i : Nat) (he : H[i]? = some (.obj b (.cells cs T fr))) (j : Nat) : w.cell? ⟨b, j, none⟩ = cs[j]? := by
  have := (h.own _ (List.mem_of_getElem? he)).2
  simp [World.cell?, this]

theorem Hp.ownFrozen {T : TypeId} {cs : Array Value} {lo hi : Nat} (h : Hp w0 M H w) (i : Nat) (he : H[i]? = some (.obj b (.cells cs T (lo, hi)))) (j : Nat) (hj : ¬ (lo ≤ j ∧ j < hi)) : w.frozen? ⟨b, j, none⟩ = false := by
  have := (h.own _ (List.mem_of_getElem? he)).2
  simp [World.frozen?, this]
  omega

/-- The first entry becomes known memory. -/
theorem Hp.freeze (h : Hp w0 M (.obj b o :: H) w) : M.le (M.add b o) ∧ Hp w0 (M.add b o) H w := by
  have hM := h.free _ List.mem_cons_self b rfl
  have hb := h.own _ List.mem_cons_self
  have hap := List.pairwise_cons.1 h.apart
  refine ⟨fun k x hk => ?_, h.below, fun k x hk => ?_, fun e he => h.own e (List.mem_cons_of_mem _ he), hap.2, fun e he k hk => ?_⟩
  · unfold Mem.add
    split
    · rename_i hkb; subst hkb; rw [hM] at hk; cases hk
    · exact hk
  · unfold Mem.add at hk
    split at hk
    · rename_i hkb; subst hkb; cases hk; exact hb.2
    · exact h.mem k x hk
  · unfold Mem.add
    split
    · rename_i hkb; subst hkb; exact absurd hk (hap.1 e he k rfl)
    · exact h.free e (List.mem_cons_of_mem _ he) k hk

/-- A row that is nil as yet. -/
theorem Hp.nilRow (h : Hp w0 M H w) (t : TypeId) (size : Nat) : Hp w0 M (.row t size (.slice none 0 0) 0 [] :: H) w :=
  ⟨h.below, h.mem, fun e he => by
      rcases List.mem_cons.1 he with rfl | he
      · exact .of (World.ownsRow_nil _ _ _ _)
      · exact h.own e he,
    List.pairwise_cons.2 ⟨fun e _ b hb => by simp [Ent.blk, Value.ownBlock] at hb, h.apart⟩,
    fun e he b hb => by
      rcases List.mem_cons.1 he with rfl | he
      · simp [Ent.blk, Value.ownBlock] at hb
      · exact h.free e he b hb⟩

/-- Behind an append to the first entry's row. -/
theorem Hp.grown {t : TypeId} {size n n' : Nat} {v v' : Value} {xs xs' : List Value} (h : Hp w0 M (.row t size v n xs :: H) w) (hown : ownsRowG w' w0.heap.size t size v' n' xs') (hg : w.grownBy w' v.ownBlock)
    (hv : v'.ownBlock = v.ownBlock ∨ ∀ k, v'.ownBlock = some k → w.heap.size ≤ k) : Hp w0 M (.row t size v' n' xs' :: H) w' := by
  have hb : ∀ k, v.ownBlock = some k → w0.heap.size ≤ k ∧ k < w.heap.size := fun k hk => ownsRowG.lt (h.own _ List.mem_cons_self) k hk
  have hM : ∀ k, v.ownBlock = some k → M k = none := fun k hk => h.free _ List.mem_cons_self k hk
  have hap := List.pairwise_cons.1 h.apart
  have hnew : ∀ k, v'.ownBlock = some k → v.ownBlock = some k ∨ w.heap.size ≤ k := fun k hk => by
    rcases hv with e | e
    · exact .inl (e ▸ hk)
    · exact .inr (e k hk)
  have keepB : ∀ k x, w.heap[k]? = some x → some k ≠ v.ownBlock → w'.heap[k]? = some x := fun k x hk hne => (hg.block k (lt_of_get hk) hne).trans hk
  refine ⟨h.below.grown hg h.below.size (fun k hk => (hb k hk).1), fun k x hk => keepB k x (h.mem k x hk) (fun e => by rw [hM k e.symm] at hk; cases hk), fun e he => ?_, ?_, fun e he k hk => ?_⟩
  · rcases List.mem_cons.1 he with rfl | he
    · exact hown
    · refine Ent.owns_keep (h.own e (List.mem_cons_of_mem _ he)) fun k hk => hg.block k (Ent.blk_lt (h.own e (List.mem_cons_of_mem _ he)) hk).2 (fun e' => hap.1 e he k e'.symm hk)
  · refine List.pairwise_cons.2 ⟨fun e he k hk hk' => ?_, hap.2⟩
    rcases hnew k hk with h1 | h1
    · exact hap.1 e he k h1 hk'
    · have := (Ent.blk_lt (h.own e (List.mem_cons_of_mem _ he)) hk').2
      omega
  · rcases List.mem_cons.1 he with rfl | he
    · rcases hnew k hk with h1 | h1
      · exact hM k h1
      · cases hMk : M k with
        | none => rfl
        | some x => have := lt_of_get (h.mem _ _ hMk); omega
    · exact h.free e (List.mem_cons_of_mem _ he) k hk

theorem Hp.rowAt {t : TypeId} {size n : Nat} {v : Value} {xs : List Value} (h : Hp w0 M H w) (i : Nat) (he : H[i]? = some (.row t size v n xs)) : ownsRowG w w0.heap.size t size v n xs := h.own _ (List.mem_of_getElem? he)
end
end Go.Vc

/-
  VC, part 3: the equations of single operations. Own work.
-/
namespace Go.Vc
open Go Go.RowKit
variable {dd : List Deferred}

/-- A text by its bytes. -/
abbrev mkS (l : List UInt8) : ByteArray := ⟨l.toArray⟩
abbrev S (l : List UInt8) : Value := .string ⟨l.toArray⟩
theorem mkS_toList (l : List UInt8) : (mkS l).toList = l := by rw [Lib.toList_data]
theorem S_eta (s : ByteArray) : Value.string s = S s.data.toList := by simp [S]

def isAggD : TypeDesc → Bool
  | .struct _ | .array _ _ => true
  | _ => false
def one1 (P : Program) (t : TypeId) : Bool := match P.underlying t with | some d => !isAggD d | none => false
def aggN (P : Program) (t : TypeId) (n : Nat) : Bool := match P.underlying t, P.info? t with | some d, some i => isAggD d && Nat.beq i.size n | _, _ => false
def szIs (P : Program) (t : TypeId) (n : Nat) : Bool := match P.info? t with | some i => Nat.beq i.size n | none => false

section
variable {P : Program} {w : World} {ρ : Operand → Value} {o : Oper}

theorem run_sizeOf {t n : Nat} (h : szIs P t n = true) : (sizeOf t).run P w = .ok n w := by
  unfold szIs at h
  cases hi : P.info? t with
  | none => simp [hi] at h
  | some i => simp only [hi] at h; have := Nat.eq_of_beq_eq_true h; simp [sizeOf, typeInfo, hi, this]

theorem run_isAgg1 {t : TypeId} (h : one1 P t = true) : (isAgg t).run P w = .ok false w := by
  unfold one1 at h
  cases hu : P.underlying t with
  | none => simp [hu] at h
  | some d =>
    unfold isAgg
    rw [Sem.run_bind, run_underlying hu w]
    cases d <;> simp_all [isAggD]

theorem run_isAggN {t n : Nat} (h : aggN P t n = true) : (isAgg t).run P w = .ok true w ∧ szIs P t n = true := by
  unfold aggN at h
  cases hu : P.underlying t with
  | none => simp [hu] at h
  | some d =>
    cases hi : P.info? t with
    | none => simp [hu, hi] at h
    | some i =>
      simp only [hu, hi, Bool.and_eq_true] at h
      refine ⟨?_, by simp [szIs, hi, h.2]⟩
      unfold isAgg
      rw [Sem.run_bind, run_underlying hu w]
      cases d <;> simp_all [isAggD]

theorem X_load1 {t : TypeId} {x : Operand} {ad : Addr} {v : Value} (ho : o.op = .load t x) (hx : ρ x = .pointer (some ad)) (ht : one1 P t = true) (hc : w.cell? ad = some v) : (execOp ρ o).run P w = .ok (.value v) w := by
  unfold execOp
  simp only [ho, hx, Instr.loadAt, Instr.sureAddr, Sem.run_bind, Sem.run_pure, Result.andThen_ok, loadVar, run_isAgg1 ht]
  simp [hc]

theorem X_loadN {t : TypeId} {x : Operand} {ad : Addr} {cs : List Value} (ho : o.op = .load t x) (hx : ρ x = .pointer (some ad)) (ht : aggN P t cs.length = true) (hc : ∀ j v, cs[j]? = some v → w.cell? (ad.add j) = some v) :
    (execOp ρ o).run P w = .ok (.value (.agg cs.toArray)) w := by
  obtain ⟨h1, h2⟩ := run_isAggN (w := w) ht
  unfold execOp
  simp only [ho, hx, Instr.loadAt, Instr.sureAddr, Sem.run_bind, Sem.run_pure, Result.andThen_ok, loadVar, h1, if_true, run_sizeOf h2, run_loadCells_list w ad cs hc]

theorem X_store1 {t : TypeId} {x y : Operand} {ad : Addr} {v u : Value} (ho : o.op = .store t x y) (hx : ρ x = .pointer (some ad)) (hy : ρ y = v) (hv : v.oneCell' = true) (hs : szIs P t 1 = true) (hc : w.cell? ad = some u) (hf : w.frozen? ad = false) :
    (execOp ρ o).run P w = .ok .skip (w.setCell ad v) := by
  have hcells : v.cells = #[v] := by cases v <;> simp_all [Value.cells, Value.oneCell']
  unfold execOp
  simp only [ho, hx, hy, Instr.storeAt, Instr.sureAddr, Sem.run_bind, Sem.run_pure, Result.andThen_ok, storeVar, hcells, run_sizeOf hs]
  cases v <;> simp_all [storeCells, store, Sem.run, Addr.add, Value.oneCell']

theorem X_indexAddr {t e sz : Nat} {x ix : Operand} {ad : Addr} {len cap : Nat} {k : IntKind} {i : Int} (ho : o.op = .indexAddr t x ix) (hx : ρ x = .slice (some ad) len cap) (hi : ρ ix = .int k i) (ht : P.underlying t = some (.slice e))
    (hs : szIs P e sz = true) (h0 : 0 ≤ i) (h1 : i < len) : (execOp ρ o).run P w = .ok (.value (.pointer (some (ad.add (i.toNat * sz))))) w := by
  unfold execOp
  simp only [ho, hx, hi, Instr.indexAt, asIntOf, Sem.run_bind, Sem.run_pure, Result.andThen_ok, run_underlying ht]
  simp [h0, h1, run_sizeOf hs]

theorem X_strIndex {t : Nat} {x ix : Operand} {l : List UInt8} {k : IntKind} {i : Int} (ho : o.op = .index t x ix) (hx : ρ x = S l) (hi : ρ ix = .int k i) (ht : P.underlying t = some .string)
    (h0 : 0 ≤ i) (h1 : i < l.length) : (execOp ρ o).run P w = .ok (.value (.int .u8 (l.getD i.toNat 0).toNat)) w := by
  have hlt : i.toNat < l.length := by omega
  have hg : (mkS l)[i.toNat]? = some (l.getD i.toNat 0) := by
    have : (mkS l).size = l.length := rfl
    rw [getElem?_pos (mkS l) i.toNat (by omega)]
    simp [List.getD, hlt]
    rfl
  unfold execOp
  simp only [ho, hx, hi, Instr.index, asIntOf, Sem.run_bind, Sem.run_pure, Result.andThen_ok, run_underlying ht]
  simp only [h0, if_true, hg]
  rfl

theorem extract_mkS (l : List UInt8) (a b : Nat) : (mkS l).extract a b = mkS ((l.take b).drop a) := by
  have h := Lib.extract_data (mkS l) a b
  have e : ∀ s : ByteArray, s = ⟨s.data.toList.toArray⟩ := fun s => by simp
  rw [e ((mkS l).extract a b), h]
  simp [List.drop_take]

/-- 's[lo:hi]' of a text. -/
theorem X_strSlice {t : Nat} {x lo hi : Operand} {l : List UInt8} {k k' : IntKind} {a b : Int} (ho : o.op = .slice t x (some lo) (some hi) none) (hx : ρ x = S l) (hlo : ρ lo = .int k a) (hhi : ρ hi = .int k' b) (ht : P.underlying t = some .string)
    (h0 : 0 ≤ a) (h1 : a ≤ b) (h2 : b ≤ l.length) : (execOp ρ o).run P w = .ok (.value (S ((l.take b.toNat).drop a.toNat))) w := by
  have hb0 : 0 ≤ b := by omega
  have hsz : ((mkS l).size : Int) = l.length := rfl
  obtain ⟨a, rfl⟩ := Int.eq_ofNat_of_zero_le h0
  obtain ⟨b, rfl⟩ := Int.eq_ofNat_of_zero_le hb0
  have hn : a ≤ b := by omega
  unfold execOp
  simp only [ho, hx, hlo, hhi, Option.map, Instr.sliceAt, Sem.run_bind, Sem.run_pure, Result.andThen_ok, run_underlying ht, Instr.slice, Instr.sliceBounds, Instr.sliceBound, asIntOf]
  simp only [Int.toNat_natCast]
  have hm' : ¬ (({ data := l.toArray } : ByteArray).size < b) := by show ¬ (l.length < b); omega
  simp [hsz, hm', hn, extract_mkS]
theorem X_strFrom {t : Nat} {x lo : Operand} {l : List UInt8} {k : IntKind} {a : Int} (ho : o.op = .slice t x (some lo) none none) (hx : ρ x = S l) (hlo : ρ lo = .int k a) (ht : P.underlying t = some .string)
    (h0 : 0 ≤ a) (h1 : a ≤ l.length) : (execOp ρ o).run P w = .ok (.value (S (l.drop a.toNat))) w := by
  have hsz : (mkS l).size = l.length := rfl
  unfold execOp
  simp only [ho, hx, hlo, Option.map, Instr.sliceAt, Sem.run_bind, Sem.run_pure, Result.andThen_ok, run_underlying ht, Instr.slice, Instr.sliceBounds, Instr.sliceBound, asIntOf]
  simp [h0, hsz, h1, extract_mkS]
theorem X_strTo {t : Nat} {x hi : Operand} {l : List UInt8} {k' : IntKind} {b : Int} (ho : o.op = .slice t x none (some hi) none) (hx : ρ x = S l) (hhi : ρ hi = .int k' b) (ht : P.underlying t = some .string)
    (h0 : 0 ≤ b) (h2 : b ≤ l.length) : (execOp ρ o).run P w = .ok (.value (S (l.take b.toNat))) w := by
  have hsz : ((mkS l).size : Int) = l.length := rfl
  unfold execOp
  simp only [ho, hx, hhi, Option.map, Instr.sliceAt, Sem.run_bind, Sem.run_pure, Result.andThen_ok, run_underlying ht, Instr.slice, Instr.sliceBounds, Instr.sliceBound, asIntOf]
  simp [h0, hsz, h2, extract_mkS]

theorem beq_dec (l m : List UInt8) : (l == m) = decide (l = m) := by rw [Bool.eq_iff_iff]; simp
theorem append_mkS (l m : List UInt8) : mkS l ++ mkS m = mkS (l ++ m) := by
  apply ByteArray.ext
  simp [ByteArray.data_append]

theorem X_concat {t t' : Nat} {x y : Operand} {l m : List UInt8} (ho : o.op = .binOp .add t x y t') (hx : ρ x = S l) (hy : ρ y = S m) (h : l.length + m.length ≤ 9223372036854775807) : (execOp ρ o).run P w = .ok (.value (S (l ++ m))) w := by
  have h1 : (mkS l).size = l.length := rfl
  have h2 : (mkS m).size = m.length := rfl
  have hs : ¬ ((((mkS l).size + (mkS m).size : Nat) : Int) > IntKind.i64.max) := by
    rw [h1, h2]; simp only [IntKind.max, IntKind.signed, IntKind.bits]; omega
  unfold execOp
  simp only [ho, hx, hy, eqGuard, binOp, Op.stringOp, Sem.run_bind]
  simp only [if_neg hs, append_mkS]
  rfl

/-- '==' of two texts, as a question on their bytes. -/
theorem X_streq {t t' : Nat} {x y : Operand} {l m : List UInt8} (ho : o.op = .binOp .eql t x y t') (hx : ρ x = S l) (hy : ρ y = S m) : (execOp ρ o).run P w = .ok (.value (.bool (decide (l = m)))) w := by
  unfold execOp
  simp only [ho, hx, hy, eqGuard, binOp, Op.stringOp, mkS_toList, beq_dec]
  rfl
theorem X_strne {t t' : Nat} {x y : Operand} {l m : List UInt8} (ho : o.op = .binOp .neq t x y t') (hx : ρ x = S l) (hy : ρ y = S m) : (execOp ρ o).run P w = .ok (.value (.bool (!decide (l = m)))) w := by
  unfold execOp
  simp only [ho, hx, hy, eqGuard, binOp, Op.stringOp, mkS_toList, beq_dec]
  rfl
theorem X_strlt {t t' : Nat} {x y : Operand} {l m : List UInt8} (ho : o.op = .binOp .lss t x y t') (hx : ρ x = S l) (hy : ρ y = S m) : (execOp ρ o).run P w = .ok (.value (.bool (Op.bytesLess l m))) w := by
  unfold execOp
  simp only [ho, hx, hy, eqGuard, binOp, Op.stringOp, mkS_toList]
  rfl

/-- 'x[lo:hi]' of a slice, the address as the model has it. -/
def cutA (A : Option Addr) (sz l m : Nat) : Option Addr := if m = l then A else A.map (·.add (l * sz))
theorem X_slice {t e sz : Nat} {x lo hi : Operand} {A : Option Addr} {len cap : Nat} {k k' : IntKind} {a b : Int} (ho : o.op = .slice t x (some lo) (some hi) none) (hx : ρ x = .slice A len cap) (hlo : ρ lo = .int k a) (hhi : ρ hi = .int k' b) (ht : P.underlying t = some (.slice e))
    (hs : szIs P e sz = true) (h0 : 0 ≤ a) (h1 : a ≤ b) (h2 : b ≤ cap) : (execOp ρ o).run P w = .ok (.value (.slice (cutA A sz a.toNat cap) (b.toNat - a.toNat) (cap - a.toNat))) w := by
  have hb0 : 0 ≤ b := by omega
  obtain ⟨a, rfl⟩ := Int.eq_ofNat_of_zero_le h0
  obtain ⟨b, rfl⟩ := Int.eq_ofNat_of_zero_le hb0
  have hn : a ≤ b := by omega
  unfold execOp
  simp only [ho, hx, hlo, hhi, Option.map, Instr.sliceAt, Sem.run_bind, Sem.run_pure, Result.andThen_ok, run_underlying ht, Instr.slice, Instr.sliceBounds, Instr.sliceBound, asIntOf]
  have hm : b ≤ cap := by omega
  simp only [Int.toNat_natCast]
  simp [hm, hn, run_sizeOf hs, cutA]
  cases A <;> rfl
theorem X_sliceFrom {t e sz : Nat} {x lo : Operand} {A : Option Addr} {len cap : Nat} {k : IntKind} {a : Int} (ho : o.op = .slice t x (some lo) none none) (hx : ρ x = .slice A len cap) (hlo : ρ lo = .int k a) (ht : P.underlying t = some (.slice e))
    (hs : szIs P e sz = true) (h0 : 0 ≤ a) (h1 : a ≤ len) : (execOp ρ o).run P w = .ok (.value (.slice (cutA A sz a.toNat cap) (len - a.toNat) (cap - a.toNat))) w := by
  unfold execOp
  simp only [ho, hx, hlo, Option.map, Instr.sliceAt, Sem.run_bind, Sem.run_pure, Result.andThen_ok, run_underlying ht, Instr.slice, Instr.sliceBounds, Instr.sliceBound, asIntOf]
  simp [h0, h1, run_sizeOf hs, cutA]
  rfl
theorem X_sliceTo {t e sz : Nat} {x hi : Operand} {A : Option Addr} {len cap : Nat} {k' : IntKind} {b : Int} (ho : o.op = .slice t x none (some hi) none) (hx : ρ x = .slice A len cap) (hhi : ρ hi = .int k' b) (ht : P.underlying t = some (.slice e))
    (hs : szIs P e sz = true) (h0 : 0 ≤ b) (h2 : b ≤ cap) : (execOp ρ o).run P w = .ok (.value (.slice (cutA A sz 0 cap) b.toNat cap)) w := by
  unfold execOp
  simp only [ho, hx, hhi, Option.map, Instr.sliceAt, Sem.run_bind, Sem.run_pure, Result.andThen_ok, run_underlying ht, Instr.slice, Instr.sliceBounds, Instr.sliceBound, asIntOf]
  simp [h0, h2, run_sizeOf hs, cutA]
  rfl

/-- '[]byte(s)'. -/
def byteCs (l : List UInt8) : List Value := l.map fun b => .int .u8 b.toNat
theorem X_bytes {t t' e : Nat} {x : Operand} {l : List UInt8} (ho : o.op = .convert t t' x) (hx : ρ x = S l) (ht : P.underlying t = some .string) (ht' : P.underlying t' = some (.slice e)) (he : P.underlying e = some (.int .u8)) :
    ∃ cap, l.length ≤ cap ∧ (execOp ρ o).run P w = .ok (.value (.slice (some ⟨w.heap.size, 0, none⟩) l.length cap))
      (w.drew.alloc (.cells (byteCs l ++ List.replicate (cap - l.length) (Value.int .u8 0)).toArray e (cap, cap + 1))) := by
  refine ⟨grownCap w l.length 0 e, grownCap_ge w _ _ _, ?_⟩
  have h := run_bytes_of_string (P := P) w t t' e (mkS l) ht ht' he
  have hz : (mkS l).size = l.length := rfl
  have hrow : bytesRow (mkS l) (grownCap w l.length 0 e) = (byteCs l ++ List.replicate (grownCap w l.length 0 e - l.length) (Value.int .u8 0)).toArray := by
    apply Array.ext'
    simp [bytesRow, byteCs, hz]
  have hsz : (bytesRow (mkS l) (grownCap w l.length 0 e)).size = grownCap w l.length 0 e := by
    rw [hrow]; simp [byteCs]; have := grownCap_ge w l.length 0 e; omega
  rw [hz] at h
  rw [hsz, hrow] at h
  unfold execOp
  simp only [ho, hx, Sem.run_bind]
  show ((convert t t' (.string (mkS l))).run P w).andThen _ = _
  rw [h]
  rfl
end
end Go.Vc

/-
  VC, part 4: contracts; operations over what is known of memory; loops; joins; calls. Own work.
-/
namespace Go.Vc
open Go Go.RowKit
variable {dd : List Deferred}

/-- A CONTRACT: from every heap that fits (M: what it must know; M2: what is known there), the call returns a value that fits, and what was known or owned stays so. -/
def Ok (P : Program) (M : Mem) (f : FuncId) (args : List Value) (Post : Mem → Value → Prop) : Prop :=
  ∀ M2, M.le M2 → ∀ w0 H w, Hp w0 M2 H w → Calls P f args.toArray w fun e w' => ∃ v, e = .returned v ∧ ∃ M', M2.le M' ∧ Hp w0 M' H w' ∧ Post M' v

/-- A contract of a function that writes blocks of its caller's (E: before, E': behind). -/
def OkH (P : Program) (M : Mem) (E : List Ent) (f : FuncId) (args : List Value) (Post : Mem → List Ent → Value → Prop) : Prop :=
  ∀ M2, M.le M2 → ∀ w0 H w, Hp w0 M2 (E ++ H) w → Calls P f args.toArray w fun e w' => ∃ v, e = .returned v ∧ ∃ M' E', M2.le M' ∧ Hp w0 M' (E' ++ H) w' ∧ Post M' E' v

theorem Ok.up {P : Program} {M M1 : Mem} {f : FuncId} {args : List Value} {Post : Mem → Value → Prop} (h : Ok P M f args Post) (hM : M.le M1) : Ok P M1 f args Post := fun M2 h2 => h M2 (hM.trans h2)
theorem OkH.up {P : Program} {M M1 : Mem} {E : List Ent} {f : FuncId} {args : List Value} {Post : Mem → List Ent → Value → Prop} (h : OkH P M E f args Post) (hM : M.le M1) : OkH P M1 E f args Post := fun M2 h2 => h M2 (hM.trans h2)

theorem Ok.mono {P : Program} {M : Mem} {f : FuncId} {args : List Value} {Post Post' : Mem → Value → Prop} (h : Ok P M f args Post) (hq : ∀ M' v, M.le M' → Post M' v → Post' M' v) : Ok P M f args Post' :=
  fun M2 h2 w0 H w hp => (h M2 h2 w0 H w hp).mono fun _ _ ⟨v, he, M', hM, hp', hv⟩ => ⟨v, he, M', hM, hp', hq M' v (h2.trans hM) hv⟩

theorem Ok.args {P : Program} {M : Mem} {f : FuncId} {args args' : List Value} {Post : Mem → Value → Prop} (h : Ok P M f args Post) (e : args = args') : Ok P M f args' Post := e ▸ h

theorem Hp.at_set {w0 w : World} {M : Mem} {H : List Ent} {e : Ent} (i : Nat) (hi : i < H.length) (h : Hp w0 M (e :: H.eraseIdx i) w) : Hp w0 M (H.set i e) w := by
  have := perm_pull (H.set i e) i e (by simp [hi])
  rw [List.eraseIdx_set_eq] at this
  exact h.perm this.symm

section
variable {P : Program} {ops : Array Oper} {n : Nat} {Q : Exit → Act → World → Prop} {L : Fr} {a : Act} {w0 w : World} {M : Mem} {H : List Ent}

/-- A run that makes one block. -/
theorem W_alloc {l : List Oper} (hf : Frm n L a dd) (hp : Hp w0 M H w) (m : Nat) (ks : List Nat) (o : Obj) (L' : Nat → Fr)
    (h : ∀ w, runK P ops n (l.take m) ks L w = some (L' w.heap.size, w.alloc o)) (hk : ∀ b w', Hp w0 M (.obj b o :: H) w' → ∀ a', Frm n (L' b) a' dd → wpList P ops Q (l.drop m) a' w') : wpList P ops Q l a w :=
  W_run hf m ks (h w) (hk w.heap.size (w.alloc o) (hp.alloc o))

theorem W_store1 {o : Oper} {rest : List Oper} {t : TypeId} {x y : Operand} {b j : Nat} {v : Value} {cs : Array Value} {T : TypeId} {lo hi : Nat} (hf : Frm n L a dd) (hp : Hp w0 M H w) (i : Nat)
    (hw : wantedL ops L o = some true) (hr : readyL L o = true) (hd : o.dst = none) (ho : o.op = .store t x y) (hx : ev L x = .pointer (some ⟨b, j, none⟩)) (hy : ev L y = v) (hv : v.oneCell' = true) (hs : szIs P t 1 = true)
    (he : H[i]? = some (.obj b (.cells cs T (lo, hi)))) (hj : j < cs.size) (hfr : ¬ (lo ≤ j ∧ j < hi)) (H' : List Ent) (hH : H.set i (.obj b (.cells (cs.setIfInBounds j v) T (lo, hi))) = H')
    (hk : ∀ w', Hp w0 M H' w' → ∀ a', Frm n L a' dd → wpList P ops Q rest a' w') : wpList P ops Q (o :: rest) a w := by
  subst hH
  have hc : w.cell? ⟨b, j, none⟩ = some cs[j] := (hp.ownCell i he j).trans (by simp [hj])
  refine W_skip hf hw hr hd (X_store1 ho hx hy hv hs hc (hp.ownFrozen i he j hfr)) (hk _ ?_)
  exact Hp.at_set i (List.getElem?_eq_some_iff.1 he).1 ((hp.pull i he rfl).setCell j v)

/-- A call by its contract. -/
theorem W_ok {o : Oper} {rest : List Oper} {d : Nat} {f : FuncId} {args : List Value} {Post : Mem → Value → Prop} (hf : Frm n L a dd) (hp : Hp w0 M H w) (hw : wantedL ops L o = some true) (hr : readyL L o = true)
    (hd : o.dst = some d) (hdn : Nat.blt d n = true) (hx : ∀ w, (execOp (ev L) o).run P w = .ok (.enter f args.toArray) w) (hc : Ok P M f args Post)
    (hk : ∀ v M' w', M.le M' → Hp w0 M' H w' → Post M' v → ∀ a', Frm n ((d, v) :: L) a' dd → wpList P ops Q rest a' w') : wpList P ops Q (o :: rest) a w :=
  W_call (R := fun v w' => ∃ M', M.le M' ∧ Hp w0 M' H w' ∧ Post M' v) hf hw hr hd hdn (hx w) (hc M (Mem.le_refl M) w0 H w hp) fun v w' ⟨M', h1, h2, h3⟩ a' ha => hk v M' w' h1 h2 h3 a' ha

/-- A call whose value is one that the contract tells: what is known stays as it was named. -/
theorem W_okv {o : Oper} {rest : List Oper} {d : Nat} {f : FuncId} {args : List Value} {v : Value} (hf : Frm n L a dd) (hp : Hp w0 M H w) (hw : wantedL ops L o = some true) (hr : readyL L o = true)
    (hd : o.dst = some d) (hdn : Nat.blt d n = true) (hx : ∀ w, (execOp (ev L) o).run P w = .ok (.enter f args.toArray) w) (hc : Ok P M f args fun _ u => u = v)
    (hk : ∀ w', Hp w0 M H w' → ∀ a', Frm n ((d, v) :: L) a' dd → wpList P ops Q rest a' w') : wpList P ops Q (o :: rest) a w :=
  W_ok hf hp hw hr hd hdn hx hc fun u M' w' h1 h2 h3 a' ha => by subst h3; exact hk w' (h2.less h1) a' ha

theorem W_okH {o : Oper} {rest : List Oper} {d : Nat} {f : FuncId} {args : List Value} {E : List Ent} {Post : Mem → List Ent → Value → Prop} (hf : Frm n L a dd) (hp : Hp w0 M (E ++ H) w) (hw : wantedL ops L o = some true) (hr : readyL L o = true)
    (hd : o.dst = some d) (hdn : Nat.blt d n = true) (hx : ∀ w, (execOp (ev L) o).run P w = .ok (.enter f args.toArray) w) (hc : OkH P M E f args Post)
    (hk : ∀ v M' E' w', M.le M' → Hp w0 M' (E' ++ H) w' → Post M' E' v → ∀ a', Frm n ((d, v) :: L) a' dd → wpList P ops Q rest a' w') : wpList P ops Q (o :: rest) a w :=
  W_call (R := fun v w' => ∃ M' E', M.le M' ∧ Hp w0 M' (E' ++ H) w' ∧ Post M' E' v) hf hw hr hd hdn (hx w) (hc M (Mem.le_refl M) w0 H w hp) fun v w' ⟨M', E', h1, h2, h3⟩ a' ha => hk v M' E' w' h1 h2 h3 a' ha

/-- '[]byte(s)'. -/
theorem W_bytes {o : Oper} {rest : List Oper} {d : Nat} {t t' e : Nat} {x : Operand} {l : List UInt8} (hf : Frm n L a dd) (hp : Hp w0 M H w) (hw : wantedL ops L o = some true) (hr : readyL L o = true)
    (hd : o.dst = some d) (hdn : Nat.blt d n = true) (ho : o.op = .convert t t' x) (hx : ev L x = S l) (ht : P.underlying t = some .string) (ht' : P.underlying t' = some (.slice e)) (he : P.underlying e = some (.int .u8))
    (hk : ∀ b cap w', l.length ≤ cap → Hp w0 M (.obj b (.cells (byteCs l ++ List.replicate (cap - l.length) (Value.int .u8 0)).toArray e (cap, cap + 1)) :: H) w' → ∀ a', Frm n ((d, .slice (some ⟨b, 0, none⟩) l.length cap) :: L) a' dd → wpList P ops Q rest a' w') :
    wpList P ops Q (o :: rest) a w := by
  obtain ⟨cap, h1, h2⟩ := X_bytes (w := w) ho hx ht ht' he
  exact W_eq hf hw hr hd hdn h2 (hk w.heap.size cap _ h1 (hp.drew.alloc _))

/-! ### Joins and loops -/
theorem R_mid {c : Code} (Mid : Act → World → Prop) (h : c.wp P (Exit.then Mid Q) a w) (hk : ∀ a w, Mid a w → Q .normal a w) : c.wp P Q a w :=
  wp_mono h fun e a w hq => by
    cases e with
    | normal => exact hk a w hq
    | _ => exact hq

theorem wp_loop_x {σ : Type} {c : Code} (J : σ → Act → World → Prop) (μ : σ → Nat) (x0 : σ) (h0 : J x0 a w)
    (round : ∀ x a w, J x a w → c.wp P (Exit.then (fun a' w' => ∃ x', μ x' < μ x ∧ J x' a' w') Q) a w) : (Code.loop c).wp P Q a w := by
  refine wp_loop_ghost (fun k a w => ∃ x, μ x = k ∧ J x a w) (μ x0) ⟨x0, rfl, h0⟩ ?_
  rintro k a w ⟨x, rfl, hx⟩
  refine wp_mono (round x a w hx) fun e a' w' hq => ?_
  cases e with
  | normal => obtain ⟨x', h1, h2⟩ := hq; exact ⟨μ x', h1, x', rfl, h2⟩
  | _ => exact hq

/-- A LOOP: its state x; the slots, the owned blocks, what is known, each as a function of x. -/
theorem R_loop {σ : Type} {c : Code} (Lf : σ → Fr) (Hf : σ → List Ent) (I : σ → Mem → Prop) (μ : σ → Nat) (x0 : σ) (hf : Frm n (Lf x0) a dd) (hp : Hp w0 M (Hf x0) w) (hi : I x0 M)
    (round : ∀ x M' a w, M.le M' → I x M' → Frm n (Lf x) a dd → Hp w0 M' (Hf x) w → c.wp P (Exit.then (fun a' w' => ∃ x', μ x' < μ x ∧ ∃ M', M.le M' ∧ I x' M' ∧ Frm n (Lf x') a' dd ∧ Hp w0 M' (Hf x') w') Q) a w) :
    (Code.loop c).wp P Q a w :=
  wp_loop_x (fun x a w => ∃ M', M.le M' ∧ I x M' ∧ Frm n (Lf x) a dd ∧ Hp w0 M' (Hf x) w) μ x0 ⟨M, Mem.le_refl M, hi, hf, hp⟩ fun x a w ⟨M', h1, h2, h3, h4⟩ => round x M' a w h1 h2 h3 h4

/-- The round's end. -/
theorem L_back {σ : Type} {Lf : σ → Fr} {Hf : σ → List Ent} {I : σ → Mem → Prop} {μ : σ → Nat} {x : σ} {M0 : Mem} (x' : σ) (hμ : μ x' < μ x) (hM : M0.le M) (hi : I x' M) (hf : Frm n (Lf x') a dd) (hp : Hp w0 M (Hf x') w) :
    ∃ x', μ x' < μ x ∧ ∃ M', M0.le M' ∧ I x' M' ∧ Frm n (Lf x') a dd ∧ Hp w0 M' (Hf x') w := ⟨x', hμ, M, hM, hi, hf, hp⟩
end

/-! ### Known memory that holds data -/
inductive Dat
  | int (k : IntKind) (n : Int)
  | bool (b : Bool)
  | str (l : List UInt8)
  | list (sz : Nat) (ds : List Dat)
  | struct (ds : List Dat)

mutual
def Rep (M : Mem) : Dat → List Value → Prop
  | .int k n, cs => cs = [.int k n]
  | .bool b, cs => cs = [.bool b]
  | .str l, cs => cs = [S l]
  | .list sz ds, cs => ∃ A cap, cs = [.slice A ds.length cap] ∧ ds.length ≤ cap ∧ (A = none → cap = 0) ∧ (ds = [] ∨ ∃ ad, A = some ad ∧ RepArr M sz ds ad)
  | .struct ds, cs => RepSeq M ds cs
def RepSeq (M : Mem) : List Dat → List Value → Prop
  | [], cs => cs = []
  | d :: ds, cs => ∃ c1 c2, cs = c1 ++ c2 ∧ Rep M d c1 ∧ RepSeq M ds c2
def RepArr (M : Mem) (sz : Nat) : List Dat → Addr → Prop
  | [], _ => True
  | d :: ds, ad => (∃ c, c.length = sz ∧ Rep M d c ∧ ∀ j v, c[j]? = some v → M.cell? (ad.add j) = some v) ∧ RepArr M sz ds (ad.add sz)
end

mutual
theorem Rep.mono {M M' : Mem} (h : M.le M') : ∀ (d : Dat) (cs : List Value), Rep M d cs → Rep M' d cs
  | .int _ _, _, hr => hr
  | .bool _, _, hr => hr
  | .str _, _, hr => hr
  | .list sz ds, cs, hr => by
    obtain ⟨A, cap, h1, h2, hn, h3⟩ := hr
    refine ⟨A, cap, h1, h2, hn, ?_⟩
    rcases h3 with h3 | ⟨ad, h4, h5⟩
    · exact .inl h3
    · exact .inr ⟨ad, h4, RepArr.mono h sz ds ad h5⟩
  | .struct ds, cs, hr => RepSeq.mono h ds cs hr
theorem RepSeq.mono {M M' : Mem} (h : M.le M') : ∀ (ds : List Dat) (cs : List Value), RepSeq M ds cs → RepSeq M' ds cs
  | [], _, hr => hr
  | d :: ds, cs, hr => by
    obtain ⟨c1, c2, h1, h2, h3⟩ := hr
    exact ⟨c1, c2, h1, Rep.mono h d c1 h2, RepSeq.mono h ds c2 h3⟩
theorem RepArr.mono {M M' : Mem} (h : M.le M') (sz : Nat) : ∀ (ds : List Dat) (ad : Addr), RepArr M sz ds ad → RepArr M' sz ds ad
  | [], _, _ => trivial
  | d :: ds, ad, hr => by
    obtain ⟨⟨c, h1, h2, h3⟩, h4⟩ := hr
    exact ⟨⟨c, h1, Rep.mono h d c h2, fun j v hv => h.cell (h3 j v hv)⟩, RepArr.mono h sz ds _ h4⟩
end

theorem add_of_add (a : Addr) (i j : Nat) : (a.add i).add j = a.add (i + j) := by
  unfold Addr.add
  by_cases hi : i = 0 <;> by_cases hj : j = 0 <;> simp [hi, hj, Nat.add_assoc]

/-- Element i of a row. -/
theorem RepArr.get {M : Mem} {sz : Nat} : ∀ {ds : List Dat} {ad : Addr} (i : Nat) (d : Dat), RepArr M sz ds ad → ds[i]? = some d →
    ∃ c, c.length = sz ∧ Rep M d c ∧ ∀ j v, c[j]? = some v → M.cell? ((ad.add (i * sz)).add j) = some v
  | [], _, i, d, _, h => by simp at h
  | x :: ds, ad, 0, d, hr, h => by
    simp only [List.getElem?_cons_zero, Option.some.injEq] at h
    subst h
    obtain ⟨⟨c, h1, h2, h3⟩, _⟩ := hr
    exact ⟨c, h1, h2, by simpa [Addr.add] using h3⟩
  | x :: ds, ad, i + 1, d, hr, h => by
    simp only [List.getElem?_cons_succ] at h
    obtain ⟨c, h1, h2, h3⟩ := RepArr.get i d hr.2 h
    refine ⟨c, h1, h2, fun j v hv => ?_⟩
    have := h3 j v hv
    simp only [add_of_add] at this ⊢
    rwa [show (i + 1) * sz + j = sz + i * sz + j by rw [Nat.add_mul]; omega]
end Go.Vc

/-
  VC, part 5: small words that the printed proofs use. Own work.
-/
namespace Go.Vc
open Go Go.RowKit
variable {dd : List Deferred}

theorem not_iff {b : Bool} {p : Prop} (h : b = true ↔ p) : (!b) = true ↔ ¬ p := by cases b <;> simp_all
theorem and_iff {b c : Bool} {p q : Prop} (h : b = true ↔ p) (k : c = true ↔ q) : (b && c) = true ↔ (p ∧ q) := by simp [h, k]
theorem or_iff {b c : Bool} {p q : Prop} (h : b = true ↔ p) (k : c = true ↔ q) : (b || c) = true ↔ (p ∨ q) := by simp [h, k]
theorem iff_f {b : Bool} {p : Prop} (h : b = true ↔ p) (k : b = false) : ¬ p := fun hp => by rw [h.2 hp] at k; cases k
theorem byte_lt (c : UInt8) : (c.toNat : Int) < 256 := by have := c.toNat_lt; omega
theorem own_cells {w : World} {b : Nat} {cells : Array Value} {cs : List Value} (h : ∀ j, w.cell? ⟨b, j, none⟩ = cells[j]?) (off' : Nat) (he : (cells.toList.drop off').take cs.length = cs) :
    ∀ j v, cs[j]? = some v → w.cell? ((⟨b, off', none⟩ : Addr).add j) = some v := by
  intro j v hv
  rw [Addr.add_lit, h, ← Array.getElem?_toList]
  have hj : j < cs.length := (List.getElem?_eq_some_iff.1 hv).1
  rw [← he, List.getElem?_take_of_lt hj, List.getElem?_drop] at hv
  exact hv
theorem rem_nn {x y : Int} (h : 0 ≤ x) : x.tmod y = x % y := Int.tmod_eq_emod_of_nonneg h
theorem quo_i64 {x y : Int} (h : 0 ≤ x) (hy : 0 < y) (hx : x ≤ 9223372036854775807) : IntKind.i64.wrap (x.tdiv y) = x / y := by
  rw [Int.tdiv_eq_ediv_of_nonneg h]
  refine IntWalk.i64_in _ ⟨?_, ?_⟩
  · have := Int.ediv_nonneg h (Int.le_of_lt hy); omega
  · have := Int.ediv_le_self y h; omega
theorem i8_in {x : Int} (h : -128 ≤ x ∧ x ≤ 127) : IntKind.i8.wrap x = x := by simp [IntKind.wrap, IntKind.bits, IntKind.signed]; omega
theorem i32_in {x : Int} (h : -2147483648 ≤ x ∧ x ≤ 2147483647) : IntKind.i32.wrap x = x := by simp [IntKind.wrap, IntKind.bits, IntKind.signed]; omega
end Go.Vc

/-
  VC, part 6: rows that grow; bytes that are known. Own work.
-/
namespace Go.Vc
open Go Go.RowKit
variable {dd : List Deferred}

section
variable {w0 w w' : World} {M M' : Mem} {H : List Ent}

theorem ownsRow_base {w : World} {B B' : Nat} {e : TypeId} {size : Nat} {v : Value} {n : Nat} {xs : List Value} (h : ownsRowG w B e size v n xs) (hB : B' ≤ B) : ownsRowG w B' e size v n xs := by
  obtain ⟨h1, h2⟩ := h
  refine ⟨h1, ?_⟩
  rcases h2 with h2 | ⟨g, cap, cur, r1, r2, r⟩
  · exact .inl h2
  · exact .inr ⟨g, cap, cur, r1, Nat.le_trans hB r2, r⟩

theorem Hp.rowObj {e : TypeId} {size : Nat} {v : Value} {n : Nat} {xs : List Value} (h : Hp w0 M (.row e size v n xs :: H) w) :
    (v = .slice none 0 0 ∧ n = 0 ∧ xs = [] ∧ Hp w0 M H w) ∨ ∃ g cap cur, v = .slice (some ⟨g, 0, none⟩) n cap ∧ n ≤ cap ∧ cap ≤ maxLen ∧ (cap * size ≤ cur.size ∧ cur.size ≤ maxLen * size) ∧ cur.toList.take (n * size) = xs ∧ xs.length = n * size ∧ Hp w0 M (.obj g (.cells cur e (0, 0)) :: H) w := by
  have ho := h.own _ List.mem_cons_self
  obtain ⟨h1, h2⟩ := ho
  rcases h2 with ⟨rfl, rfl⟩ | ⟨g, cap, cur, rfl, hg, hh, hnc, hcm, hcs, htk⟩
  · refine .inl ⟨rfl, rfl, List.eq_nil_of_length_eq_zero (by simpa using h1), h.drop⟩
  · refine .inr ⟨g, cap, cur, rfl, hnc, hcm, hcs, htk, h1, ⟨h.below, h.mem, fun x hx => ?_, ?_, fun x hx => ?_⟩⟩
    · rcases List.mem_cons.1 hx with rfl | hx
      · exact ⟨hg, hh⟩
      · exact h.own x (List.mem_cons_of_mem _ hx)
    · have hap := List.pairwise_cons.1 h.apart
      exact List.pairwise_cons.2 ⟨fun x hx b hb => hap.1 x hx b (by simpa [Ent.blk, Value.ownBlock] using hb), hap.2⟩
    · intro b hb
      rcases List.mem_cons.1 hx with rfl | hx
      · exact h.free _ List.mem_cons_self b (by simpa [Ent.blk, Value.ownBlock] using hb)
      · exact h.free x (List.mem_cons_of_mem _ hx) b hb

theorem add_cell (M : Mem) (b : Nat) (c : Array Value) (T : TypeId) (fr : Nat × Nat) (j : Nat) : (M.add b (.cells c T fr)).cell? ⟨b, j, none⟩ = c[j]? := by simp [Mem.cell?, Mem.add]

/-- A row becomes known. -/
theorem Hp.rowKnown {e : TypeId} {size : Nat} {v : Value} {n : Nat} {xs : List Value} (h : Hp w0 M (.row e size v n xs :: H) w) :
    ∃ M', M.le M' ∧ Hp w0 M' H w ∧ ((v = .slice none 0 0 ∧ n = 0 ∧ xs = []) ∨ ∃ ad cap, v = .slice (some ad) n cap ∧ n ≤ cap ∧ xs.length = n * size ∧ ∀ j u, xs[j]? = some u → M'.cell? (ad.add j) = some u) := by
  rcases h.rowObj with ⟨h1, h2, h3, h4⟩ | ⟨g, cap, cur, h1, h2, h3, h4, h5, h6, h7⟩
  · exact ⟨M, Mem.le_refl M, h4, .inl ⟨h1, h2, h3⟩⟩
  · obtain ⟨k1, k2⟩ := h7.freeze
    refine ⟨_, k1, k2, .inr ⟨⟨g, 0, none⟩, cap, h1, h2, h6, fun j u hu => ?_⟩⟩
    rw [Addr.add_lit, add_cell, ← Array.getElem?_toList]
    have hj : j < n * size := h6 ▸ (List.getElem?_eq_some_iff.1 hu).1
    rw [← h5, List.getElem?_take_of_lt hj] at hu
    simpa using hu

theorem Hp.newRow {t : TypeId} {size n : Nat} {v : Value} {xs : List Value} (h : Hp w0 M H w) (hown : w'.ownsRow w.heap.size t size v n xs) (hg : w.grownBy w' none) : Hp w0 M (.row t size v n xs :: H) w' :=
  (h.nilRow t size).grown (ownsRow_base (.of hown) h.below.size) (by simpa [Value.ownBlock] using hg) (.inr fun k hk => (World.ownsRow.lt hown k hk).1)
end

section
variable {w0 w w' : World} {M M' : Mem} {H : List Ent} {b : Nat}
theorem Hp.objRow {e : TypeId} {size n cap : Nat} {cur : Array Value} {xs : List Value} (h : Hp w0 M (.obj b (.cells cur e (0, 0)) :: H) w) (h1 : n ≤ cap) (h2 : cap ≤ maxLen) (h3 : cap * size ≤ cur.size ∧ cur.size ≤ maxLen * size) (h4 : cur.toList.take (n * size) = xs) (h5 : xs.length = n * size) :
    Hp w0 M (.row e size (.slice (some ⟨b, 0, none⟩) n cap) n xs :: H) w := by
  have hb := h.own _ List.mem_cons_self
  have hap := List.pairwise_cons.1 h.apart
  refine ⟨h.below, h.mem, fun x hx => ?_, List.pairwise_cons.2 ⟨fun x hx k hk => hap.1 x hx k (by simpa [Ent.blk, Value.ownBlock] using hk), hap.2⟩, fun x hx k hk => ?_⟩
  · rcases List.mem_cons.1 hx with rfl | hx
    · exact ⟨h5, .inr ⟨b, cap, cur, rfl, hb.1, hb.2, h1, h2, h3, h4⟩⟩
    · exact h.own x (List.mem_cons_of_mem _ hx)
  · rcases List.mem_cons.1 hx with rfl | hx
    · exact h.free _ List.mem_cons_self k (by simpa [Ent.blk, Value.ownBlock] using hk)
    · exact h.free x (List.mem_cons_of_mem _ hx) k hk
end
def setM (cs : Array Value) (o : Nat) : List Value → Array Value
  | [] => cs
  | v :: r => setM (cs.setIfInBounds o v) (o + 1) r
theorem setM_size : ∀ (vs : List Value) (cs : Array Value) (o : Nat), (setM cs o vs).size = cs.size
  | [], _, _ => rfl
  | v :: r, cs, o => by rw [setM, setM_size r]; simp
theorem setM_list : ∀ (vs : List Value) (cs : Array Value) (o : Nat), o + vs.length ≤ cs.size → (setM cs o vs).toList = cs.toList.take o ++ vs ++ cs.toList.drop (o + vs.length)
  | [], cs, o, _ => by simp [setM]
  | v :: r, cs, o, h => by
    simp only [List.length_cons] at h
    rw [setM, setM_list r _ _ (by simp; omega), Array.toList_setIfInBounds]
    have hl : o < cs.toList.length := by simp; omega
    rw [List.take_succ_eq_append_getElem (by simpa using hl), List.take_set_of_le (Nat.le_refl _), List.drop_set_of_lt (by omega)]
    simp [Nat.add_comm, Nat.add_left_comm]
section
variable {w0 w : World} {M : Mem} {H : List Ent} {b : Nat} {T : TypeId} {fr : Nat × Nat} {sz : Nat}
theorem Hp.setCells : ∀ (vs : List Value) {cs : Array Value} {w : World} (o : Nat), Hp w0 M (.obj b (.cells cs T fr) :: H) w → Hp w0 M (.obj b (.cells (setM cs o vs) T fr) :: H) (w.setCells b o vs)
  | [], _, _, _, h => h
  | v :: r, _, _, o, h => Hp.setCells r (o + 1) (h.setCell o v)
end
section
variable {P : Program} {w0 w : World} {M : Mem} {H : List Ent} {sz : Nat}
/-- append to an owned row, of whatever source. -/
theorem Hp.appendSrc {t tx ty e : TypeId} {i : TypeInfo} {z x v : Value} {k m : Nat} {xs news : List Value} (hp : Hp w0 M (.row e sz v k xs :: H) w) (hs : Src P sz tx x m news w)
    (ht : P.underlying t = some (.slice e)) (hi : P.info? e = some i) (hz : i.zero = some z) (hsz : i.size = sz) (hzs : z.cells.size = sz) (h0 : 0 < sz) (hb : (k + m) * i.bytes ≤ 140737488355328) (h63 : k + m ≤ 9223372036854775807) :
    ∃ v' w', (Builtin.append_ #[t, tx] ty #[v, x]).run P w = .ok v' w' ∧ Hp w0 M (.row e sz v' (k + m) (xs ++ news) :: H) w' := by
  subst hsz
  have hl := hs.newsLen
  have grow : ∀ (base : Option Addr) (cap : Nat) (o : Nat), cap < k + m → xs.length = k * i.size → Hp w0 M H w → (Builtin.firstCells i.size k (.slice base k cap)).run P w.drew = .ok xs.toArray w.drew →
      ∃ v' w', (Builtin.append_ #[t, tx] ty #[.slice base k cap, x]).run P w = .ok v' w' ∧ Hp w0 M (.row e i.size v' (k + m) (xs ++ news) :: H) w' := by
    intro base cap _ hc hxl hpH hold
    have hr := run_append_grow_src (P := P) w t tx ty e i z ht hi hz base k cap xs hold x m news hs hc (by omega) (growslice_fits hc hb)
    have hlen : (xs ++ news).length = (k + m) * i.size := by rw [List.length_append, hxl, hl, Nat.add_mul]
    refine ⟨_, _, hr, ?_⟩
    refine (hpH.drew.alloc _).objRow (grownCap_ge w (k + m) cap e) (grownCap_le_maxLen w (k + m) cap e (by unfold maxLen; exact h63)) (blk_eq (grownCap_le_maxLen w (k + m) cap e (by unfold maxLen; exact h63)) ?_) ?_ hlen
    · have := grownCap_ge w (k + m) cap e
      rw [Array.size_append, List.size_toArray, size_zeroCells, hzs, hlen, ← Nat.add_mul]
      congr 1
      omega
    · rw [Array.toList_append, ← hlen]
      exact List.take_left
  rcases hp.rowObj with ⟨h1, h2, h3, h4⟩ | ⟨g, cap, cur, h1, h2, h3, h4, h5, h6, h7⟩
  · subst h1; subst h2; subst h3
    rcases Nat.eq_zero_or_pos m with h | h
    · subst h
      have hn : news = [] := List.eq_nil_of_length_eq_zero (by simpa using hl)
      subst hn
      exact ⟨_, _, run_append_nothing w t tx ty e i ht hi none 0 0 (Nat.le_refl _) x hs, h4.nilRow _ _⟩
    · exact grow none 0 0 (by omega) (by simp) h4 (run_firstCells_none w.drew i.size 0 0 0)
  · subst h1
    by_cases hroom : k + m ≤ cap
    · have hle : (k + m) * i.size ≤ cap * i.size := Nat.mul_le_mul_right _ hroom
      rw [Nat.add_mul] at hle
      have hr := run_append_room_src (P := P) w t tx ty e i ht hi g 0 k cap x m news hs hroom
        (fun j hj => by
          rw [Nat.zero_add, h7.ownCell 0 rfl]
          have : k * i.size + j < cur.size := by omega
          simp [this])
        (fun j hj => by rw [Nat.zero_add]; exact h7.ownFrozen 0 rfl _ (by omega))
      rw [Nat.zero_add] at hr
      have h8 := h7.setCells news (k * i.size)
      refine ⟨_, _, hr, h8.objRow hroom h3 (by rw [setM_size]; exact h4) ?_ (by rw [List.length_append, h6, hl, Nat.add_mul])⟩
      rw [setM_list _ _ _ (by omega), h5, List.take_append_of_le_length (by rw [List.length_append, h6, hl, Nat.add_mul]; omega), List.take_of_length_le (by rw [List.length_append, h6, hl, Nat.add_mul]; omega)]
    · have holds : ∀ j u, xs[j]? = some u → w.drew.cell? ((⟨g, 0, none⟩ : Addr).add j) = some u := fun j u hu => by
        rw [Addr.add_lit, h7.drew.ownCell 0 rfl, Nat.zero_add, ← Array.getElem?_toList]
        have hj : j < k * i.size := h6 ▸ (List.getElem?_eq_some_iff.1 hu).1
        rw [← h5, List.getElem?_take_of_lt hj] at hu
        exact hu
      exact grow (some ⟨g, 0, none⟩) cap 0 (by omega) h6 h7.drop (run_firstCells_some w.drew i.size k ⟨g, 0, none⟩ k cap xs h6 holds)

end

section
variable {P : Program} {ops : Array Oper} {n : Nat} {Q : Exit → Act → World → Prop} {L : Fr} {a : Act} {w0 w : World} {M : Mem} {H : List Ent}

def infoIs (P : Program) (e : TypeId) (z : Value) (size bytes : Nat) : Bool :=
  match P.info? e with
  | some i => (match i.zero with | some u => Nat.beq u.cells.size z.cells.size | none => false) && Nat.beq i.size size && Nat.beq i.bytes bytes && Nat.beq z.cells.size size && Nat.blt 0 size
  | none => false

theorem info_of {P : Program} {e : TypeId} {z : Value} {size bytes : Nat} (h : infoIs P e z size bytes = true) : ∃ i u, P.info? e = some i ∧ i.zero = some u ∧ i.size = size ∧ i.bytes = bytes ∧ u.cells.size = size ∧ 0 < size := by
  unfold infoIs at h
  cases hi : P.info? e with
  | none => simp [hi] at h
  | some i =>
    simp only [hi, Bool.and_eq_true] at h
    obtain ⟨⟨⟨⟨h1, h2⟩, h3⟩, h4⟩, h5⟩ := h
    cases hz : i.zero with
    | none => simp [hz] at h1
    | some u =>
      simp only [hz] at h1
      have e1 := Nat.eq_of_beq_eq_true h1; have e2 := Nat.eq_of_beq_eq_true h2; have e3 := Nat.eq_of_beq_eq_true h3; have e4 := Nat.eq_of_beq_eq_true h4
      exact ⟨i, u, rfl, hz, e2, e3, by omega, by simpa [Nat.blt_eq] using h5⟩

theorem X_append {o : Oper} {ρ : Operand → Value} {x y : Operand} {t : TypeId} {v u : Value} {w w' : World} {r : Value} (ho : o.op = .call { callee := .builtin .append, args := #[x, y], argTypes := #[t, t] }) (hx : ρ x = v) (hy : ρ y = u)
    (h : (Builtin.append_ #[t, t] o.type #[v, u]).run P w = .ok r w') : (execOp ρ o).run P w = .ok (.value r) w' := by
  unfold execOp
  simp only [ho, resolve, invoke, builtin, Sem.run_bind, Sem.run_pure, Result.andThen_ok, List.map_toArray, List.map_cons, List.map_nil, hx, hy, h]

/-- append to the row that stands first among the owned. -/
theorem W_append {o : Oper} {rest : List Oper} {d : Nat} {t e : TypeId} {x y : Operand} {z v : Value} {size bytes k m c : Nat} {xs news : List Value} {ad : Addr} (hf : Frm n L a dd) (hp : Hp w0 M (.row e size v k xs :: H) w)
    (hw : wantedL ops L o = some true) (hr : readyL L o = true) (hd : o.dst = some d) (hdn : Nat.blt d n = true) (ho : o.op = .call { callee := .builtin .append, args := #[x, y], argTypes := #[t, t] })
    (hx : ev L x = v) (hy : ev L y = .slice (some ad) m c) (ht : P.underlying t = some (.slice e)) (hi : infoIs P e z size bytes = true)
    (hl : news.length = m * size) (hnews : ∀ j u, news[j]? = some u → w.cell? (ad.add j) = some u) (h1 : ∀ u ∈ news, u.oneCell' = true) (hb : (k + m) * bytes ≤ 140737488355328) (h63 : k + m ≤ 9223372036854775807)
    (hk : ∀ v' w', Hp w0 M (.row e size v' (k + m) (xs ++ news) :: H) w' → ∀ a', Frm n ((d, v') :: L) a' dd → wpList P ops Q rest a' w') : wpList P ops Q (o :: rest) a w := by
  obtain ⟨i, u, hi1, hi2, hi3, hi4, hi5, hi6⟩ := info_of hi
  subst hi3
  have hs : Src P i.size t (.slice (some ad) m c) m news w := Src.ofSlice (P := P) (size := i.size) w ht ad m c news hl hnews h1
  obtain ⟨v', w', hrun, hp'⟩ := hp.appendSrc (ty := o.type) hs ht hi1 hi2 rfl hi5 hi6 (by rw [hi4]; exact hb) h63
  exact W_eq hf hw hr hd hdn (X_append ho hx hy hrun) (hk v' w' hp')

/-- append of a source that is nil. -/
theorem W_append_nil {o : Oper} {rest : List Oper} {d : Nat} {t e : TypeId} {x y : Operand} {z v : Value} {size bytes k : Nat} {xs : List Value} (hf : Frm n L a dd) (hp : Hp w0 M (.row e size v k xs :: H) w)
    (hw : wantedL ops L o = some true) (hr : readyL L o = true) (hd : o.dst = some d) (hdn : Nat.blt d n = true) (ho : o.op = .call { callee := .builtin .append, args := #[x, y], argTypes := #[t, t] })
    (hx : ev L x = v) (hy : ev L y = .slice none 0 0) (ht : P.underlying t = some (.slice e)) (hi : infoIs P e z size bytes = true)
    (hk : ∀ a', Frm n ((d, v) :: L) a' dd → wpList P ops Q rest a' w) : wpList P ops Q (o :: rest) a w := by
  obtain ⟨i, u, hi1, hi2, hi3, hi4, hi5, hi6⟩ := info_of hi
  subst hi3
  have hs : Src P i.size t (.slice none 0 0) 0 [] w := Src.ofNil w ht 0
  have hrun : (Builtin.append_ #[t, t] o.type #[v, .slice none 0 0]).run P w = .ok v w := by
    rcases (hp.own _ List.mem_cons_self).2 with ⟨e1, e2⟩ | ⟨g, cap, cur, e1, _, _, hnc, _⟩
    · subst e1
      exact run_append_nothing w t t o.type e i ht hi1 none 0 0 (Nat.le_refl _) _ hs
    · subst e1
      exact run_append_nothing w t t o.type e i ht hi1 (some ⟨g, 0, none⟩) k cap hnc _ hs
  exact W_eq hf hw hr hd hdn (X_append ho hx hy hrun) hk

/-- Bytes that are known. -/
def KB (M : Mem) (ad : Addr) (l : List UInt8) : Prop := ∀ j, j < l.length → M.cell? (ad.add j) = some (.int .u8 (l.getD j 0).toNat)
theorem KB.mono {M M' : Mem} {ad : Addr} {l : List UInt8} (h : KB M ad l) (hM : M.le M') : KB M' ad l := fun j hj => hM.cell (h j hj)

theorem KB.get {M : Mem} {ad : Addr} {l : List UInt8} (h : KB M ad l) {i : Int} (h0 : 0 ≤ i) (h1 : i < l.length) : M.cell? (ad.add (i.toNat * 1)) = some (.int .u8 (l.getD i.toNat 0).toNat) := by
  rw [Nat.mul_one]; exact h _ (by omega)
/-- Bytes that are known, and a 0 behind them. -/
def KZ (M : Mem) (ad : Addr) (l : List UInt8) : Prop := ∀ j, j ≤ l.length → M.cell? (ad.add j) = some (.int .u8 (l.getD j 0).toNat)
theorem KZ.mono {M M' : Mem} {ad : Addr} {l : List UInt8} (h : KZ M ad l) (hM : M.le M') : KZ M' ad l := fun j hj => hM.cell (h j hj)
theorem KZ.get {M : Mem} {ad : Addr} {l : List UInt8} (h : KZ M ad l) {i : Int} (h0 : 0 ≤ i) (h1 : i ≤ l.length) : M.cell? (ad.add (i.toNat * 1)) = some (.int .u8 (l.getD i.toNat 0).toNat) := by
  rw [Nat.mul_one]; exact h _ (by omega)
theorem KB.z {M : Mem} {ad : Addr} {l : List UInt8} (h : KB M ad (l ++ [0])) : KZ M ad l := fun j hj => by
  rw [h j (by simp; omega)]
  congr 4
  simp only [List.getD, List.getElem?_append]
  split
  · rfl
  · rename_i hn
    have : j = l.length := by omega
    subst this
    simp
theorem byteCs_get {l : List UInt8} {r : List Value} {j : Nat} (hj : j < l.length) : (byteCs l ++ r)[j]? = some (.int .u8 (l.getD j 0).toNat) := by
  rw [List.getElem?_append_left (by simpa [byteCs] using hj)]
  simp [byteCs, List.getD, hj]

/-- append([]byte(s), c): the bytes are known behind it. -/
theorem W_bytes_push {o : Oper} {rest : List Oper} {d : Nat} {t e : TypeId} {x y : Operand} {b b1 cap : Nat} {l : List UInt8} {c : UInt8} {cv : Int} (hf : Frm n L a dd)
    (hp : Hp w0 M (.obj b1 (.cells #[.int .u8 cv] e (0, 0)) :: .obj b (.cells (byteCs l ++ List.replicate (cap - l.length) (Value.int .u8 0)).toArray e (cap, cap + 1)) :: H) w)
    (hw : wantedL ops L o = some true) (hr : readyL L o = true) (hd : o.dst = some d) (hdn : Nat.blt d n = true) (ho : o.op = .call { callee := .builtin .append, args := #[x, y], argTypes := #[t, t] })
    (hx : ev L x = .slice (some ⟨b, 0, none⟩) l.length cap) (hy : ev L y = .slice (some ⟨b1, 0, none⟩) 1 1) (ht : P.underlying t = some (.slice e)) (hi : infoIs P e (.int .u8 0) 1 1 = true) (hc : cv = c.toNat)
    (hcap : l.length ≤ cap) (hl : l.length + 1 ≤ 140737488355328)
    (hk : ∀ ad cap' M' w', M.le M' → Hp w0 M' H w' → KB M' ad (l ++ [c]) → l.length + 1 ≤ cap' → ∀ a', Frm n ((d, .slice (some ad) (l.length + 1) cap') :: L) a' dd → wpList P ops Q rest a' w') : wpList P ops Q (o :: rest) a w := by
  subst hc
  obtain ⟨i, u, hi1, hi2, hi3, hi4, hi5, hi6⟩ := info_of hi
  have hn : ∀ j u, [Value.int .u8 c.toNat][j]? = some u → w.cell? ((⟨b1, 0, none⟩ : Addr).add j) = some u := fun j u hu => by
    rw [Addr.add_lit, hp.ownCell 0 rfl, ← Array.getElem?_toList]; simpa using hu
  have hone : ∀ u ∈ [Value.int .u8 c.toNat], u.oneCell' = true := fun u hu => by simp at hu; subst hu; rfl
  have kb : ∀ j, j < (l ++ [c]).length → ((byteCs l).append [.int .u8 c.toNat])[j]? = some (.int .u8 ((l ++ [c]).getD j 0).toNat) := fun j hj => by
    have : (byteCs l).append [.int .u8 c.toNat] = byteCs (l ++ [c]) := by simp [byteCs]
    rw [this]
    have := byteCs_get (l := l ++ [c]) (r := []) hj
    simpa using this
  by_cases hroom : l.length + 1 ≤ cap
  · have hcell : w.cell? ⟨b, l.length, none⟩ = (byteCs l ++ List.replicate (cap - l.length) (Value.int .u8 0))[l.length]? := by
      rw [hp.ownCell 1 rfl]; simp
    have hlt : l.length < (byteCs l ++ List.replicate (cap - l.length) (Value.int .u8 0)).length := by simp [byteCs]; omega
    have hrun := run_append_room_cells (P := P) (w := w) t o.type e i ht hi1 b 0 l.length cap ⟨b1, 0, none⟩ 1 1 [.int .u8 c.toNat] (by simp [hi3]) hn hone hroom
      (fun j hj => by
        have : j = 0 := by simpa using hj
        subst this
        simp only [hi3, Nat.mul_one, Nat.zero_add, Nat.add_zero]
        rw [hcell, List.getElem?_eq_getElem hlt]; rfl)
      (fun j hj => by
        have : j = 0 := by simpa using hj
        subst this
        simp only [hi3, Nat.mul_one, Nat.zero_add, Nat.add_zero]
        exact hp.ownFrozen 1 rfl _ (by omega))
    simp only [hi3, Nat.mul_one, Nat.zero_add, World.setCells] at hrun
    obtain ⟨k1, k2⟩ := ((hp.drop).setCell l.length (.int .u8 c.toNat)).freeze
    refine W_eq hf hw hr hd hdn (X_append ho hx hy hrun) (hk ⟨b, 0, none⟩ cap _ _ k1 k2 (fun j hj => ?_) hroom)
    rw [Addr.add_lit, add_cell, ← kb j hj, ← Array.getElem?_toList]
    simp only [Array.toList_setIfInBounds, Nat.zero_add]
    simp only [List.length_append, List.length_cons, List.length_nil] at hj
    rw [List.getElem?_set]
    have hbl : (byteCs l).length = l.length := by simp [byteCs]
    show _ = (byteCs l ++ [Value.int .u8 c.toNat])[j]?
    by_cases e1 : l.length = j
    · subst e1
      rw [if_pos rfl, if_pos (by simpa using hlt), List.getElem?_append_right (by omega)]
      simp [hbl]
    · rw [if_neg e1, List.getElem?_append_left (by omega), List.getElem?_append_left (by omega)]
  · have hcapE : cap = l.length := by omega
    subst hcapE
    have holds : ∀ j u, (byteCs l)[j]? = some u → w.cell? ((⟨b, 0, none⟩ : Addr).add j) = some u := fun j u hu => by
      rw [Addr.add_lit, hp.ownCell 1 rfl, ← Array.getElem?_toList]; simpa using hu
    obtain ⟨v', w', hrun, r1, r2⟩ := run_append_arg_grows (P := P) (w := w) t o.type e i u 1 1 ht hi1 hi2 hi3 hi4 hi5 hi6 ⟨b, 0, none⟩ l.length l.length (byteCs l) (by simp [byteCs]) holds ⟨b1, 0, none⟩ 1 1 [.int .u8 c.toNat] (by simp) hn (by omega)
      (by unfold maxLen; omega) (by omega)
    obtain ⟨M', m1, m2, m3⟩ := ((hp.dropN 2).newRow r1 r2).rowKnown
    rcases m3 with ⟨_, h0, _⟩ | ⟨ad, cap', rfl, hcap', hlen, hc'⟩
    · omega
    · refine W_eq hf hw hr hd hdn (X_append ho hx hy hrun) (hk ad cap' M' w' m1 m2 (fun j hj => hc' j _ (kb j hj)) hcap')

end
end Go.Vc
namespace Go.Vc
open Go Go.RowKit
variable {dd : List Deferred}
/-- A law's contract, from any world. -/
theorem Ok.top {P : Program} {f : FuncId} {args : List Value} {W : World} (h : Ok P (Mem.of W) f args fun _ v => v = .bool true) : Calls P f args.toArray W fun e w' => e = .returned (.bool true) ∧ Below W.heap.size W w' :=
  (h (Mem.of W) (Mem.le_refl _) W [] W (Hp.start W)).mono fun e w' ⟨v, he, M', _, hp, hv⟩ => ⟨by rw [he, hv], hp.below⟩
theorem wf_i64 {x : Int} (h : (Lit.int .i64 x).wf = true) : -9223372036854775808 ≤ x ∧ x ≤ 9223372036854775807 := by
  simp [Lit.wf, IntKind.min, IntKind.max, IntKind.signed, IntKind.bits] at h; omega
theorem wf_i8 {x : Int} (h : (Lit.int .i8 x).wf = true) : -128 ≤ x ∧ x ≤ 127 := by
  simp [Lit.wf, IntKind.min, IntKind.max, IntKind.signed, IntKind.bits] at h; omega
theorem wf_u8 {x : Int} (h : (Lit.int .u8 x).wf = true) : 0 ≤ x ∧ x ≤ 255 := by
  simp [Lit.wf, IntKind.min, IntKind.max, IntKind.signed, IntKind.bits] at h; omega
theorem byte_ex {x : Int} (h : (Lit.int .u8 x).wf = true) : ∃ c : UInt8, x = (c.toNat : Int) := by
  obtain ⟨h1, h2⟩ := wf_u8 h
  refine ⟨UInt8.ofNat x.toNat, ?_⟩
  rw [UInt8.toNat_ofNat']; omega
end Go.Vc

/-
  VC, part 7: texts out of bytes; small words for rows handed to callees. Own work.
-/
namespace Go.Vc
open Go Go.RowKit
variable {dd : List Deferred}

section
variable {P : Program} {w : World} {ρ : Operand → Value} {o : Oper}

theorem X_string {t t' e : Nat} {x : Operand} {ad : Addr} {cap : Nat} {l : List UInt8} (ho : o.op = .convert t t' x) (hx : ρ x = .slice (some ad) l.length cap) (ht : P.underlying t = some (.slice e)) (he : P.underlying e = some (.int .u8)) (ht' : P.underlying t' = some .string)
    (hc : ∀ j u, (byteCs l)[j]? = some u → w.cell? (ad.add j) = some u) : (execOp ρ o).run P w = .ok (.value (S l)) w := by
  have h := run_convert_bytes_back (P := P) w t t' e ad cap l ht he ht' (fun j hj => by
    refine hc j _ ?_
    simp [byteCs, List.getElem?_eq_getElem hj])
  unfold execOp
  simp only [ho, hx, Sem.run_bind, h]
  rfl

theorem X_string_row {t t' e B : Nat} {x : Operand} {v : Value} {l : List UInt8} (ho : o.op = .convert t t' x) (hx : ρ x = v) (ht : P.underlying t = some (.slice e)) (he : P.underlying e = some (.int .u8)) (ht' : P.underlying t' = some .string)
    (hown : ownsRowG w B e 1 v l.length (byteCs l)) : (execOp ρ o).run P w = .ok (.value (S l)) w := by
  rcases hown.2 with ⟨rfl, h0⟩ | ⟨g, cap, cur, rfl, hg, hh, hnc, hcm, hcs, htk⟩
  · have : l = [] := List.eq_nil_of_length_eq_zero h0
    subst this
    unfold execOp
    simp only [ho, hx, Sem.run_bind, run_convert_bytes_string w t t' e none 0 0 ht he ht']
    rfl
  · refine X_string ho hx ht he ht' (fun j u hu => ?_)
    have hj : j < l.length * 1 := by have := (List.getElem?_eq_some_iff.1 hu).1; simpa [byteCs] using this
    rw [Addr.add_lit, cell_of_row w g _ cur e (0, 0) hh, ← Array.getElem?_toList]
    rw [← htk, List.getElem?_take_of_lt hj] at hu
    simpa using hu
end

theorem row_one {w : World} {B : Nat} {e : TypeId} {size : Nat} {v : Value} {n : Nat} {xs : List Value} (h : ownsRowG w B e size v n xs) : v.oneCell' = true := by
  rcases h.2 with ⟨rfl, _⟩ | ⟨g, cap, cur, rfl, _⟩ <;> rfl
theorem all_one {l : List Value} (h : (l.all fun u => u.oneCell') = true) : ∀ u ∈ l, u.oneCell' = true := List.all_eq_true.1 h
theorem byteCs_append (l m : List UInt8) : byteCs (l ++ m) = byteCs l ++ byteCs m := by simp [byteCs]
theorem byteCs_length (l : List UInt8) : (byteCs l).length = l.length := by simp [byteCs]
theorem byteCs_one (l : List UInt8) : ∀ u ∈ byteCs l, u.oneCell' = true := by
  intro u hu
  simp only [byteCs, List.mem_map] at hu
  obtain ⟨b, _, rfl⟩ := hu
  rfl
theorem byte_mk {n : Int} (h0 : 0 ≤ n) (h1 : n < 256) : n = ((UInt8.ofNat n.toNat).toNat : Int) := by
  rw [UInt8.toNat_ofNat']; omega
/-- The same row, its cells and length under other names. -/
theorem Hp.rowEq {w0 w : World} {M : Mem} {H : List Ent} {e : TypeId} {size n n' : Nat} {v : Value} {xs xs' : List Value} (h : Hp w0 M (.row e size v n xs :: H) w) (hn : n = n') (hx : xs = xs') : Hp w0 M (.row e size v n' xs' :: H) w := by subst hn; subst hx; exact h
end Go.Vc

/-
  VC, part 8: slices of one-cell values that are known; boxes that never turn; borrowing an owned block. Own work.
-/
namespace Go.Vc
open Go Go.RowKit
variable {dd : List Deferred}

/-- The cells from A on are known to be vs. -/
def Arr (M : Mem) (A : Option Addr) (vs : List Value) : Prop := vs = [] ∨ ∃ ad, A = some ad ∧ ∀ j v, vs[j]? = some v → M.cell? (ad.add j) = some v
theorem Arr.mono {M M' : Mem} {A : Option Addr} {vs : List Value} (h : Arr M A vs) (hM : M.le M') : Arr M' A vs := by
  rcases h with h | ⟨ad, h1, h2⟩
  · exact .inl h
  · exact .inr ⟨ad, h1, fun j v hv => hM.cell (h2 j v hv)⟩
theorem Arr.at_ {M : Mem} {A : Option Addr} {vs : List Value} (h : Arr M A vs) {i : Nat} (hi : i < vs.length) : ∃ ad, A = some ad ∧ M.cell? (ad.add i) = some (vs.getD i undef) := by
  rcases h with h | ⟨ad, h1, h2⟩
  · subst h; simp at hi
  · exact ⟨ad, h1, h2 i _ (by simp [List.getD, hi])⟩

/-- A slice of integers. -/
def Ints (M : Mem) (k : IntKind) (A : Option Addr) (xs : List Int) : Prop := Arr M A (xs.map (Value.int k))
theorem Ints.mono {M M' : Mem} {k : IntKind} {A : Option Addr} {xs : List Int} (h : Ints M k A xs) (hM : M.le M') : Ints M' k A xs := Arr.mono h hM
theorem Ints.at_ {M : Mem} {k : IntKind} {A : Option Addr} {xs : List Int} (h : Ints M k A xs) {i : Int} (h0 : 0 ≤ i) (h1 : i < xs.length) :
    ∃ ad, A = some ad ∧ M.cell? (ad.add (i.toNat * 1)) = some (.int k (xs.getD i.toNat 0)) := by
  obtain ⟨ad, e, hc⟩ := Arr.at_ h (i := i.toNat) (by simp; omega)
  refine ⟨ad, e, ?_⟩
  rw [Nat.mul_one, hc]
  have : i.toNat < xs.length := by omega
  simp [List.getD, this]
theorem Ints.nil (M : Mem) (k : IntKind) (A : Option Addr) : Ints M k A [] := .inl rfl

/-- A slice of slices of integers: the headers hs. -/
def IntRow (M : Mem) (k : IntKind) (h : Value) (xs : List Int) : Prop := ∃ A cap, h = .slice A xs.length cap ∧ (xs.length ≤ cap ∧ (A = none → cap = 0)) ∧ Ints M k A xs
theorem IntRow.mono {M M' : Mem} {k : IntKind} {h : Value} {xs : List Int} (hr : IntRow M k h xs) (hM : M.le M') : IntRow M' k h xs := by
  obtain ⟨A, cap, h1, h2, h3⟩ := hr; exact ⟨A, cap, h1, h2, h3.mono hM⟩
def Rows (M : Mem) (k : IntKind) (A : Option Addr) (xss : List (List Int)) : Prop :=
  ∃ hs : List Value, hs.length = xss.length ∧ Arr M A hs ∧ ∀ i, i < xss.length → IntRow M k (hs.getD i undef) (xss.getD i [])
theorem Rows.mono {M M' : Mem} {k : IntKind} {A : Option Addr} {xss : List (List Int)} (h : Rows M k A xss) (hM : M.le M') : Rows M' k A xss := by
  obtain ⟨hs, h1, h2, h3⟩ := h; exact ⟨hs, h1, h2.mono hM, fun i hi => (h3 i hi).mono hM⟩
theorem Rows.at_ {M : Mem} {k : IntKind} {A : Option Addr} {xss : List (List Int)} (h : Rows M k A xss) {i : Int} (h0 : 0 ≤ i) (h1 : i < xss.length) :
    ∃ ad, A = some ad ∧ ∃ B cap, M.cell? (ad.add (i.toNat * 1)) = some (.slice B (xss.getD i.toNat []).length cap) ∧ (xss.getD i.toNat []).length ≤ cap ∧ Ints M k B (xss.getD i.toNat []) := by
  obtain ⟨hs, e1, e2, e3⟩ := h
  obtain ⟨ad, e, hc⟩ := e2.at_ (i := i.toNat) (by omega)
  obtain ⟨B, cap, g1, g2, g3⟩ := e3 i.toNat (by omega)
  exact ⟨ad, e, B, cap, by rw [Nat.mul_one, hc, g1], g2.1, g3⟩

section
variable {P : Program} {w : World} {ρ : Operand → Value} {o : Oper}
theorem X_indexAddrA {t e sz : Nat} {x ix : Operand} {A : Option Addr} {ad : Addr} {len cap : Nat} {k : IntKind} {i : Int} (hA : A = some ad) (ho : o.op = .indexAddr t x ix) (hx : ρ x = .slice A len cap) (hi : ρ ix = .int k i) (ht : P.underlying t = some (.slice e))
    (hs : szIs P e sz = true) (h0 : 0 ≤ i) (h1 : i < len) : (execOp ρ o).run P w = .ok (.value (.pointer (some (ad.add (i.toNat * sz))))) w := X_indexAddr ho (by rw [hx, hA]) hi ht hs h0 h1
end

/-! ### Freezing at once; borrowing -/
section
variable {w0 w : World} {M M' : Mem} {H : List Ent} {b : Nat} {o : Obj}
def Mem.del (M : Mem) (b : Nat) : Mem := fun i => if i = b then none else M i
theorem Mem.le_del (h : M.le M') (hb : M b = none) : M.le (M'.del b) := fun i x hx => by
  unfold Mem.del
  split
  · rename_i e; subst e; rw [hb] at hx; cases hx
  · exact h i x hx
theorem Mem.add_get (M : Mem) (b : Nat) (o : Obj) : M.add b o b = some o := by simp [Mem.add]
theorem Hp.start_le (h : Hp w0 M (.obj b o :: H) w) : w0.heap.size ≤ b := (h.own _ List.mem_cons_self).1
theorem Hp.head_free (h : Hp w0 M (.obj b o :: H) w) : M b = none := h.free _ List.mem_cons_self b rfl
/-- A known block becomes an owned one. -/
theorem Hp.thaw (h : Hp w0 M' H w) (hM : M' b = some o) (hb : w0.heap.size ≤ b) : Hp w0 (M'.del b) (.obj b o :: H) w := by
  refine ⟨h.below, fun i x hx => ?_, fun e he => ?_, List.pairwise_cons.2 ⟨fun e he i hi hi' => ?_, h.apart⟩, fun e he i hi => ?_⟩
  · unfold Mem.del at hx
    split at hx
    · cases hx
    · exact h.mem i x hx
  · rcases List.mem_cons.1 he with rfl | he
    · exact ⟨hb, h.mem b o hM⟩
    · exact h.own e he
  · simp only [Ent.blk, Option.some.injEq] at hi
    subst hi
    have := h.free e he _ hi'
    rw [hM] at this; cases this
  · rcases List.mem_cons.1 he with rfl | he
    · simp only [Ent.blk, Option.some.injEq] at hi; subst hi; simp [Mem.del]
    · unfold Mem.del
      split
      · rfl
      · exact h.free e he i hi
theorem Arr.del {A : Option Addr} {vs : List Value} (h : Arr M' A vs) (hb : ∀ ad, A = some ad → ad.block ≠ b) : Arr (M'.del b) A vs := by
  rcases h with h | ⟨ad, h1, h2⟩
  · exact .inl h
  · refine .inr ⟨ad, h1, fun j v hv => ?_⟩
    have hne := hb ad h1
    have hbl : (ad.add j).block = ad.block := by unfold Addr.add; split <;> rfl
    rw [← h2 j v hv]
    unfold Mem.cell? Mem.del
    rw [hbl, if_neg hne]
/-- The block of an address that is there. -/
def newTo (M : Mem) (A : Option Addr) : Prop := ∀ ad, A = some ad → M ad.block = none
theorem newTo.ne {A : Option Addr} (h : newTo M A) (hM : M b = some o) : ∀ ad, A = some ad → ad.block ≠ b := fun ad e hb => by
  have := h ad e; rw [hb, hM] at this; cases this
theorem newTo.less {A : Option Addr} (h : newTo M' A) (hM : M.le M') : newTo M A := fun ad e => by
  have := h ad e
  cases hx : M ad.block with
  | none => rfl
  | some o => rw [hM _ _ hx] at this; cases this
end

section
variable {P : Program} {ops : Array Oper} {n : Nat} {Q : Exit → Act → World → Prop} {L : Fr} {a : Act} {w0 w : World} {M : Mem} {H : List Ent}
/-- A run that makes one block, which never turns: its cells are known at once. -/
theorem W_box {l : List Oper} {cs : Array Value} {T : TypeId} (hf : Frm n L a dd) (hp : Hp w0 M H w) (m : Nat) (ks : List Nat) (L' : Nat → Fr)
    (h : ∀ w, runK P ops n (l.take m) ks L w = some (L' w.heap.size, w.alloc (.cells cs T (0, 0))))
    (hk : ∀ b M' w', M.le M' → (∀ j v, cs[j]? = some v → M'.cell? ⟨b, j, none⟩ = some v) → Hp w0 M' H w' → ∀ a', Frm n (L' b) a' dd → wpList P ops Q (l.drop m) a' w') : wpList P ops Q l a w :=
  W_alloc hf hp m ks _ L' h fun b w' hp' => hk b _ w' hp'.freeze.1 (fun j v hv => by rw [add_cell, hv]) hp'.freeze.2

def Entr (P : Program) (c : FuncId) : Prop := ∀ args w, (callFunc c args).run P w = .ok (.enter c args) w
theorem X_callv {ρ : Operand → Value} {o : Oper} {x : Operand} {as_ : Array Operand} {ts : Array TypeId} {c : FuncId} {caps vs : List Value} (ho : o.op = .call { callee := .value x, args := as_, argTypes := ts }) (hx : ρ x = .func (.func c) #[] caps.toArray)
    (ha : as_.toList.map ρ = vs) (he : Entr P c) (w : World) : (execOp ρ o).run P w = .ok (.enter c (vs ++ caps).toArray) w := by
  have ha' : as_.map ρ = vs.toArray := Array.ext' (by rw [Array.toList_map, ha])
  unfold execOp
  simp only [ho, resolve, hx, ha', Deferred.ofValue, Sem.run_bind, Sem.run_pure, Result.andThen_ok, invoke]
  have := he (#[] ++ vs.toArray ++ caps.toArray) w
  simpa using this
theorem add_one (M : Mem) (b : Nat) (cs : Array Value) (T : TypeId) (fr : Nat × Nat) (j : Nat) (v : Value) (h : cs[j]? = some v) : (M.add b (.cells cs T fr)).cell? ⟨b, j, none⟩ = some v := by rw [add_cell, h]

/-- What a function hands back that makes a slice of integers of its own. -/
def RetInts (M : Mem) (k : IntKind) (xs : List Int) (M' : Mem) (v : Value) : Prop := ∃ A cap, v = .slice A xs.length cap ∧ (xs.length ≤ cap ∧ (A = none → cap = 0)) ∧ Ints M' k A xs ∧ newTo M A
theorem Hp.rowInts {e : TypeId} {k : IntKind} {v : Value} {n : Nat} {xs : List Int} (h : Hp w0 M (.row e 1 v n (xs.map (Value.int k)) :: H) w) :
    ∃ M', M.le M' ∧ Hp w0 M' H w ∧ RetInts M k xs M' v := by
  rcases h.rowObj with ⟨h1, h2, h3, h4⟩ | ⟨g, cap, cur, h1, h2, h3, h4, h5, h6, h7⟩
  · have : xs = [] := by simpa using h3
    subst this
    exact ⟨M, Mem.le_refl M, h4, none, 0, h1, ⟨by simp, fun _ => rfl⟩, .inl rfl, fun _ e => by cases e⟩
  · obtain ⟨k1, k2⟩ := h7.freeze
    have hn : n = xs.length := by simpa using h6.symm
    subst hn
    refine ⟨_, k1, k2, some ⟨g, 0, none⟩, cap, h1, ⟨h2, fun e => by cases e⟩, .inr ⟨_, rfl, fun j u hu => ?_⟩, fun ad e => ?_⟩
    · rw [Addr.add_lit, add_cell, ← Array.getElem?_toList]
      have hj : j < xs.length * 1 := h6 ▸ (List.getElem?_eq_some_iff.1 hu).1
      rw [← h5, List.getElem?_take_of_lt hj] at hu
      simpa using hu
    · cases e; exact h7.head_free
theorem RetInts.more {k : IntKind} {xs : List Int} {M0 M1 M2 M3 : Mem} {v : Value} (h : RetInts M1 k xs M2 v) (h0 : M0.le M1) (h2 : M2.le M3) : RetInts M0 k xs M3 v := by
  obtain ⟨A, cap, e1, e2, e3, e4⟩ := h
  exact ⟨A, cap, e1, e2, e3.mono h2, e4.less h0⟩
end
end Go.Vc

/-
  VC, part 9: regions that draw their order, where all operations read or call quietly: one operation at a time. Own work.
-/
namespace Go.Vc
open Go Go.RowKit
variable {dd : List Deferred}

section
variable {P : Program} {ops : Array Oper} {n : Nat} {C : World → Prop} {K : Act → Prop} {L : Fr} {a : Act} {w0 w : World} {M : Mem} {H : List Ent}

/-- An operation that yields v in every world of the class, and leaves the world. -/
theorem Q_eq {o : Oper} {rest : List Oper} {v : Value} {d : Nat} (hf : Frm n L a dd) (hw : wantedL ops L o = some true) (hr : readyL L o = true) (hd : o.dst = some d) (hdn : Nat.blt d n = true)
    (hx : ∀ w, C w → (execOp (ev L) o).run P w = .ok (.value v) w) (hk : ∀ a', Frm n ((d, v) :: L) a' dd → wpQuiet P ops C K rest a') : wpQuiet P ops C K (o :: rest) a := by
  simp only [wpQuiet]
  rw [hf.wanted hw, if_pos rfl]
  refine ⟨v, fun w hC => ?_, ?_⟩
  · unfold Oper.quietAt
    rw [hf.exec hr, hx w hC]
    exact ⟨rfl, rfl⟩
  · rw [hd]; exact hk _ (hf.put (by simpa [Nat.blt_eq] using hdn) v)

/-- An operation that is not wanted. -/
theorem Q_not {o : Oper} {rest : List Oper} {d : Nat} (hf : Frm n L a dd) (hw : wantedL ops L o = some false) (hd : o.dst = some d) (hdn : Nat.blt d n = true)
    (hk : ∀ a', Frm n ((d, undef) :: L) a' dd → wpQuiet P ops C K rest a') : wpQuiet P ops C K (o :: rest) a := by
  simp only [wpQuiet]
  rw [hf.wanted hw, if_neg (by simp)]
  rw [hd]; exact hk _ (hf.put (by simpa [Nat.blt_eq] using hdn) undef)

/-- A call by a contract that tells the value. -/
theorem Q_okv {o : Oper} {rest : List Oper} {d : Nat} {f : FuncId} {args : List Value} {v : Value} (hf : Frm n L a dd) (hw : wantedL ops L o = some true) (hr : readyL L o = true)
    (hd : o.dst = some d) (hdn : Nat.blt d n = true) (hx : ∀ w, (execOp (ev L) o).run P w = .ok (.enter f args.toArray) w) (hc : Ok P M f args fun _ u => u = v)
    (hk : ∀ a', Frm n ((d, v) :: L) a' dd → wpQuiet P ops (fun w => Hp w0 M H w) K rest a') : wpQuiet P ops (fun w => Hp w0 M H w) K (o :: rest) a := by
  simp only [wpQuiet]
  rw [hf.wanted hw, if_pos rfl]
  refine ⟨v, fun w hC => ?_, ?_⟩
  · unfold Oper.quietAt
    rw [hf.exec hr, hx w]
    refine ⟨rfl, (hc M (Mem.le_refl M) w0 H w hC).mono fun e w' ⟨u, he, M', hM, hp, hv⟩ => ?_⟩
    exact ⟨by rw [he, hv], hp.less hM⟩
  · rw [hd]; exact hk _ (hf.put (by simpa [Nat.blt_eq] using hdn) v)

theorem Q_end {l : List Oper} (hl : l = []) (h : K a) : wpQuiet P ops C K l a := by subst hl; exact h

theorem R_draw {id : Nat} {Q : Exit → Act → World → Prop} (hp : Hp w0 M H w) (hm : P.follows .mixedOrders = true) (hB : Region.lexB .any ops = true)
    (h : wpQuiet P ops (fun w => Hp w0 M H w) (fun a => ∀ w, Hp w0 M H w → Q .normal a w) ops.toList a) : (Code.region id ops true).wp P Q a w :=
  wp_region_quiet (C := fun w => Hp w0 M H w) hm hB hp.drew h
end
end Go.Vc

/-
  VC, part 10: maps that the text itself made (no entry is ever deleted): what they hold, in the order of their making. Own work.
-/
namespace Go.Vc
open Go Go.RowKit
variable {dd : List Deferred}

structure KeyLaw (P : Program) (t : TypeId) {κ : Type} [DecidableEq κ] (enc : κ → Value) : Prop where
  desc : ∃ d, P.underlying t = some d ∧ (∀ a b, Instr.sameNow d (enc a) (enc b) = some (decide (a = b))) ∧ (∀ w n e k, (Instr.checkKey e (n + 1) t (enc k)).run P w = .ok () w)
  same : ∀ a, Instr.sameBits 10000 (enc a) (enc a) = true

theorem intKey {P : Program} {t : TypeId} {k : IntKind} (h : P.underlying t = some (.int k)) : KeyLaw P t (Value.int k) := by
  refine ⟨⟨_, h, fun a b => by simp [Instr.sameNow]; rfl, fun w n e x => ?_⟩, fun a => by simp [Instr.sameBits]⟩
  unfold Instr.checkKey
  rw [Sem.run_bind, run_underlying h]
  rfl
theorem byteArray_beq (s t : ByteArray) : (s == t) = (s.data == t.data) := rfl
theorem mkS_beq (a b : List UInt8) : (mkS a == mkS b) = decide (a = b) := by
  rw [byteArray_beq, Bool.eq_iff_iff]; simp
theorem strKey {P : Program} {t : TypeId} (h : P.underlying t = some .string) : KeyLaw P t S := by
  refine ⟨⟨_, h, fun a b => ?_, fun w n e x => ?_⟩, fun a => by simp only [Instr.sameBits]; rw [mkS_beq]; simp⟩
  · simp only [Instr.sameNow, Option.some.injEq]; exact mkS_beq a b
  · unfold Instr.checkKey
    rw [Sem.run_bind, run_underlying h]
    rfl

section
variable {κ : Type} [DecidableEq κ] {enc : κ → Value}
def mEnt (enc : κ → Value) (p : (κ × Value) × Nat) : MapEntry := { key := enc p.1.1, val := p.1.2, born := p.2 }
/-- The object of a map that holds m, in the order of making. -/
def mObj (enc : κ → Value) (m : List (κ × Value)) : Obj := .map (m.zipIdx.map (mEnt enc)).toArray m.length
def lkAt (k : κ) : List (κ × Value) → Nat → Option (Nat × Value)
  | [], _ => none
  | p :: r, i => if p.1 = k then some (i, p.2) else lkAt k r (i + 1)
theorem findNow_eq {d : TypeDesc} (h : ∀ a b, Instr.sameNow d (enc a) (enc b) = some (decide (a = b))) (k : κ) : ∀ (m : List (κ × Value)) (n j : Nat),
    Instr.findNow d (enc k) ((m.zipIdx n).map (mEnt enc)) j = some (lkAt k m j)
  | [], n, j => rfl
  | p :: r, n, j => by
    simp only [List.zipIdx_cons, List.map_cons, Instr.findNow, mEnt, h, lkAt]
    by_cases e : p.1 = k
    · simp [e]
    · have e' : ¬ k = p.1 := fun x => e x.symm
      simp only [e', decide_false, e, if_false]
      exact findNow_eq h k r (n + 1) (j + 1)
theorem lkAt_some {k : κ} : ∀ {m : List (κ × Value)} {j i : Nat} {v : Value}, lkAt k m j = some (i, v) → j ≤ i ∧ m[i - j]? = some (k, v)
  | [], j, i, v, h => by simp [lkAt] at h
  | p :: r, j, i, v, h => by
    simp only [lkAt] at h
    split at h
    · rename_i e
      simp only [Option.some.injEq, Prod.mk.injEq] at h
      obtain ⟨rfl, rfl⟩ := h
      exact ⟨Nat.le_refl _, by simp [← e]⟩
    · obtain ⟨h1, h2⟩ := lkAt_some h
      refine ⟨by omega, ?_⟩
      rw [show i - j = (i - (j + 1)) + 1 by omega]
      simpa using h2
theorem lkAt_none {k : κ} : ∀ {m : List (κ × Value)} {j : Nat}, lkAt k m j = none ↔ k ∉ m.map (·.1)
  | [], j => by simp [lkAt]
  | p :: r, j => by
    simp only [lkAt, List.map_cons, List.mem_cons]
    by_cases e : p.1 = k
    · simp [e]
    · have e' : ¬ k = p.1 := fun x => e x.symm
      simp only [e, e', if_false, false_or]
      exact lkAt_none
def updM (m : List (κ × Value)) (k : κ) (v : Value) : List (κ × Value) :=
  match lkAt k m 0 with
  | some (i, _) => m.set i (k, v)
  | none => m ++ [(k, v)]

variable {P : Program} {w : World} {ρ : Operand → Value} {o : Oper}
theorem run_getObj {b : Nat} {x : Obj} (h : w.heap[b]? = some x) (hn : ∀ c t f, x ≠ .cells c t f) : (getObj b).run P w = .ok x w := by
  simp only [getObj, Sem.run, h]
theorem mObj_ne {κ : Type} {enc : κ → Value} (m : List (κ × Value)) : ∀ c t f, mObj enc m ≠ .cells c t f := fun _ _ _ h => by simp [mObj] at h

theorem X_lookup {t kt et : TypeId} {x ix : Operand} {ok : Bool} {b : Nat} {m : List (κ × Value)} {k : κ} {z : Value} (ho : o.op = .lookup t x ix ok) (hx : ρ x = .map (some b)) (hk : ρ ix = enc k) (ht : P.underlying t = some (.map kt et)) (K : KeyLaw P kt enc)
    (hz : (P.info? et).bind (·.zero) = some z) (hb : w.heap[b]? = some (mObj enc m)) :
    (execOp ρ o).run P w = .ok (.value (if ok then .tuple #[((lkAt k m 0).map (·.2)).getD z, .bool (lkAt k m 0).isSome] else ((lkAt k m 0).map (·.2)).getD z)) w := by
  obtain ⟨d, h1, h2, h3⟩ := K.desc
  have hzero : (zeroValue et).run P w = .ok z w := by
    cases hi : P.info? et with
    | none => simp [hi] at hz
    | some i => simp only [hi, Option.bind_some] at hz; simp [zeroValue, typeInfo, hi, hz]
  have hg : (getObj b).run P w = .ok (mObj enc m) w := run_getObj hb (mObj_ne m)
  unfold execOp
  simp only [ho, hx, hk, Instr.lookup, Sem.run_bind, run_underlying ht, Result.andThen_ok, hg]
  simp only [mObj, Sem.run_bind, Sem.run_pure, Result.andThen_ok, h3 w 9999, Instr.findKey, run_underlying h1, findNow_eq h2 k m 0 0]
  cases lkAt k m 0 with
  | none => simp [hzero]
  | some p => simp

theorem X_lookup_nil {t kt et : TypeId} {x ix : Operand} {ok : Bool} {k : κ} {z : Value} (ho : o.op = .lookup t x ix ok) (hx : ρ x = .map none) (hk : ρ ix = enc k) (ht : P.underlying t = some (.map kt et)) (K : KeyLaw P kt enc)
    (hz : (P.info? et).bind (·.zero) = some z) : (execOp ρ o).run P w = .ok (.value (if ok then .tuple #[z, .bool false] else z)) w := by
  obtain ⟨d, h1, h2, h3⟩ := K.desc
  have hzero : (zeroValue et).run P w = .ok z w := by
    cases hi : P.info? et with
    | none => simp [hi] at hz
    | some i => simp only [hi, Option.bind_some] at hz; simp [zeroValue, typeInfo, hi, hz]
  unfold execOp
  simp only [ho, hx, hk, Instr.lookup, Sem.run_bind, run_underlying ht, Result.andThen_ok]
  simp [h3 w 9999, Instr.findKey, run_underlying h1, Instr.findNow, hzero]

theorem setObj_run {b : Nat} {x y : Obj} (h : w.heap[b]? = some x) (hn : ∀ c t f, x ≠ .cells c t f) : (setObj b y).run P w = .ok () { w with heap := w.heap.setIfInBounds b y } := by
  simp only [setObj, Sem.run, h]

theorem set_ent {κ : Type} {enc : κ → Value} (m : List (κ × Value)) (i : Nat) (k : κ) (v u : Value) (h : m[i]? = some (k, u)) :
    (m.zipIdx.map (mEnt enc)).toArray.modify i (fun e => { e with key := enc k, val := v }) = ((m.set i (k, v)).zipIdx.map (mEnt enc)).toArray := by
  apply Array.ext'
  apply List.ext_getElem?
  intro j
  rw [Array.getElem?_toList, Array.getElem?_modify]
  simp only [List.getElem?_toArray, List.getElem?_map, List.getElem?_zipIdx, List.getElem?_set, Option.map_map]
  by_cases e : i = j
  · subst e
    have hlt : i < m.length := (List.getElem?_eq_some_iff.1 h).1
    simp [hlt, mEnt]
  · simp [e]

theorem X_mapUpdate {t kt et : TypeId} {x ix y : Operand} {b : Nat} {m : List (κ × Value)} {k : κ} {v : Value} (ho : o.op = .mapUpdate t x ix y ∨ o.op = .insert t x ix y) (hx : ρ x = .map (some b)) (hk : ρ ix = enc k) (hv : ρ y = v) (ht : P.underlying t = some (.map kt et)) (K : KeyLaw P kt enc)
    (hb : w.heap[b]? = some (mObj enc m)) : (execOp ρ o).run P w = .ok .skip { w with heap := w.heap.setIfInBounds b (mObj enc (updM m k v)) } := by
  obtain ⟨d, h1, h2, h3⟩ := K.desc
  have hg : (getObj b).run P w = .ok (mObj enc m) w := run_getObj hb (mObj_ne m)
  have hs : ∀ y : Obj, (setObj b y).run P w = .ok () { w with heap := w.heap.setIfInBounds b y } := fun y => setObj_run hb (mObj_ne m)
  have main : (Instr.mapUpdate t (.map (some b)) (enc k) v).run P w = .ok () { w with heap := w.heap.setIfInBounds b (mObj enc (updM m k v)) } := by
    simp only [Instr.mapUpdate, Sem.run_bind, run_underlying ht, Result.andThen_ok, hg]
    simp only [mObj, Sem.run_bind, Result.andThen_ok, h3 w 9999, Instr.findKey, run_underlying h1, findNow_eq h2 k m 0 0, Sem.run_pure]
    cases hl : lkAt k m 0 with
    | none =>
      simp only [hs, updM, hl]
      congr 4
      · apply Array.ext'; simp [List.zipIdx_append, mEnt]
      · simp
    | some p =>
      obtain ⟨i, u⟩ := p
      have hm := (lkAt_some hl).2
      simp only [Nat.sub_zero] at hm
      have hkey : ((m.zipIdx.map (mEnt enc)).toArray[i]?.map (·.key)).getD (enc k) = enc k := by
        simp [List.getElem?_zipIdx, hm, mEnt]
      simp only [hkey, Instr.keyThatStays, K.same, if_true, Sem.run_bind, Sem.run_pure, Result.andThen_ok, hs, updM, hl]
      rw [set_ent m i k v u hm]
      simp
  unfold execOp
  rcases ho with ho | ho <;> simp only [ho, hx, hk, hv, Sem.run_bind, main] <;> rfl
end
end Go.Vc

/-
  VC, part 11: going over a map in whatever order; maps among the owned and the known. Own work.
-/
namespace Go.Vc
open Go Go.RowKit
variable {dd : List Deferred}

section
variable {κ : Type} {enc : κ → Value} {P : Program} {w : World} {ρ : Operand → Value} {o : Oper}

theorem X_range {t kt et : TypeId} {x : Operand} {b : Nat} {m : List (κ × Value)} (ho : o.op = .range t x) (hx : ρ x = .map (some b)) (ht : P.underlying t = some (.map kt et)) (hb : w.heap[b]? = some (mObj enc m)) :
    (execOp ρ o).run P w = .ok (.value (.pointer (some ⟨w.heap.size, 0, none⟩))) (w.alloc (.mapIter (some b) m.length #[] m.length)) := by
  have hg : (getObj b).run P w = .ok (mObj enc m) w := run_getObj hb (mObj_ne m)
  unfold execOp
  simp only [ho, hx, Instr.range, Sem.run_bind, run_underlying ht, Result.andThen_ok, hg]
  rfl

theorem X_range_nil {t kt et : TypeId} {x : Operand} (ho : o.op = .range t x) (hx : ρ x = .map none) (ht : P.underlying t = some (.map kt et)) :
    (execOp ρ o).run P w = .ok (.value (.pointer (some ⟨w.heap.size, 0, none⟩))) (w.alloc (.mapIter none 0 #[] 0)) := by
  unfold execOp
  simp only [ho, hx, Instr.range, Sem.run_bind, run_underlying ht, Result.andThen_ok]
  rfl

theorem X_next_nil {x : Operand} {r : Nat} (ho : o.op = .next x false) (hx : ρ x = .pointer (some ⟨r, 0, none⟩)) (hr : w.heap[r]? = some (.mapIter none 0 #[] 0)) :
    (execOp ρ o).run P w = .ok (.value (.tuple #[.bool false])) w := by
  have hg : (getObj r).run P w = .ok (.mapIter none 0 #[] 0) w := run_getObj hr (by intro _ _ _ h; cases h)
  unfold execOp
  simp only [ho, hx, Instr.next, Sem.run_bind, hg, Result.andThen_ok]
  rfl

/-- The entries that are still to come. -/
def todo (m : List (κ × Value)) (seen : Array Nat) : List ((κ × Value) × Nat) := m.zipIdx.filter fun p => !seen.contains p.2

theorem todo_map (m : List (κ × Value)) (seen : Array Nat) : ((m.zipIdx.map (mEnt enc)).toArray.filter fun e => !seen.contains e.born) = ((todo m seen).map (mEnt enc)).toArray := by
  apply Array.ext'
  simp only [todo, Array.toList_filter, List.filter_map]
  rfl

theorem todo_mem {m : List (κ × Value)} {seen : Array Nat} {p : (κ × Value) × Nat} (h : p ∈ todo m seen) : m[p.2]? = some p.1 ∧ p.2 < m.length ∧ p.2 ∉ seen := by
  obtain ⟨h1, h2⟩ := List.mem_filter.1 h
  have h3 := List.mem_zipIdx h1
  refine ⟨?_, by omega, by simpa using h2⟩
  obtain ⟨a, b, c⟩ := h3
  simp only [Nat.sub_zero] at c
  rw [c]
  exact List.getElem?_eq_getElem _

/-- 'next' over a map: it is over when nothing is left, else whichever entry is left. -/
theorem X_next {x : Operand} {r b : Nat} {m : List (κ × Value)} {seen : Array Nat} (ho : o.op = .next x false) (hx : ρ x = .pointer (some ⟨r, 0, none⟩)) (hr : w.heap[r]? = some (.mapIter (some b) m.length seen m.length))
    (hb : w.heap[b]? = some (mObj enc m)) :
    ∃ w1 : World, w1.heap = w.heap ∧ w1.os = w.os ∧ w1.tape = w.tape ∧ w1.output = w.output ∧
      ((todo m seen = [] ∧ (execOp ρ o).run P w = .ok (.value (.tuple #[.bool false])) w1) ∨
       ∃ p ∈ todo m seen, (execOp ρ o).run P w = .ok (.value (.tuple #[.bool true, enc p.1.1, p.1.2])) { w1 with heap := w1.heap.setIfInBounds r (.mapIter (some b) m.length (seen.push p.2) m.length) }) := by
  have hg : (getObj r).run P w = .ok (.mapIter (some b) m.length seen m.length) w := run_getObj hr (by intro _ _ _ h; cases h)
  have hg2 : (getObj b).run P w = .ok (mObj enc m) w := run_getObj hb (mObj_ne m)
  have hguard : (!seen.isEmpty && !((m.zipIdx.map (mEnt enc)).toArray).isEmpty && ((m.zipIdx.map (mEnt enc)).toArray.all (·.born ≥ m.length))) = false := by
    cases hm : m with
    | nil => simp
    | cons p q =>
      have : ((((p :: q).zipIdx.map (mEnt enc)).toArray).all (·.born ≥ (p :: q).length)) = false := by
        simp [List.zipIdx_cons, mEnt]
      rw [this]; simp
  have hold : ((((todo m seen).map (mEnt enc)).toArray).filter (·.born < m.length)) = ((todo m seen).map (mEnt enc)).toArray := by
    apply Array.filter_eq_self.2
    intro e he
    simp only [List.mem_toArray, List.mem_map] at he
    obtain ⟨p, hp, rfl⟩ := he
    exact decide_eq_true (todo_mem hp).2.1
  have hnew : ((((todo m seen).map (mEnt enc)).toArray).filter (·.born ≥ m.length)) = #[] := by
    apply Array.filter_eq_empty_iff.2
    intro e he
    simp only [List.mem_toArray, List.mem_map] at he
    obtain ⟨p, hp, rfl⟩ := he
    have := (todo_mem hp).2.1
    simp [mEnt]; omega
  -- the choice
  let cands : Array (Option MapEntry) := (if (((todo m seen).map (mEnt enc)).toArray).isEmpty then #[none] else #[]) ++ ((((todo m seen).map (mEnt enc)).toArray) ++ #[]).map some
  have hrun : ∀ (i : Nat) (w1 : World), (choose (.mapNext cands.size)).run P w = .ok i w1 → w1.heap = w.heap →
      (execOp ρ o).run P w = ((match cands[i]? with
        | some (some e) => do setObj r (.mapIter (some b) m.length (seen.push e.born) m.length); pure (Value.tuple #[.bool true, e.key, e.val])
        | some none => pure (Value.tuple #[.bool false])
        | none => stuck "Next: no such candidate").run P w1).andThen fun v w' => .ok (.value v) w' := by
    intro i w1 hc _
    unfold execOp
    simp only [ho, hx, Instr.next, Sem.run_bind, hg, Result.andThen_ok, mObj] at hg2 ⊢
    simp only [hg2, Result.andThen_ok]
    simp only [hguard, Bool.false_eq_true, if_false, todo_map, hold, hnew, Sem.run_bind, Sem.run_pure]
    have hc' := hc
    simp only [cands] at hc'
    rw [hc']
    rfl
  have hch : ∃ i w1, (choose (.mapNext cands.size)).run P w = .ok i w1 ∧ w1.heap = w.heap ∧ w1.os = w.os ∧ w1.tape = w.tape ∧ w1.output = w.output ∧ i < cands.size := by
    have hpos : 0 < cands.size := by
      simp only [cands]
      cases htd : todo m seen with
      | nil => simp
      | cons p q => simp
    by_cases h1 : cands.size ≤ 1
    · exact ⟨0, w, by simp [Question.forced, h1], rfl, rfl, rfl, rfl, hpos⟩
    · exact ⟨(Question.mapNext cands.size).cut (w.tape w.drawn (.mapNext cands.size)), { w with drawn := w.drawn + 1 }, by simp [Question.forced, h1], rfl, rfl, rfl, rfl, Nat.mod_lt _ hpos⟩
  obtain ⟨i, w1, hc, e1, e2, e3, e4, hi⟩ := hch
  have hx' := hrun i w1 hc e1
  refine ⟨w1, e1, e2, e3, e4, ?_⟩
  cases htd : todo m seen with
  | nil =>
    left
    have hcs : cands = #[none] := by simp [cands, htd]
    rw [hcs] at hx' hi
    have hi0 : i = 0 := by simpa using hi
    subst hi0
    exact ⟨rfl, by simpa using hx'⟩
  | cons p0 q0 =>
    right
    have hcs : cands = (((todo m seen).map (mEnt enc)).toArray).map some := by simp [cands, htd]
    rw [hcs] at hx' hi
    simp only [Array.size_map, List.size_toArray, List.length_map] at hi
    refine ⟨(todo m seen)[i], by rw [← htd]; exact List.getElem_mem _, ?_⟩
    have hget : ((((todo m seen).map (mEnt enc)).toArray).map some)[i]? = some (some (mEnt enc (todo m seen)[i])) := by
      simp [hi]
    rw [hget] at hx'
    have hs : ∀ y : Obj, (setObj r y).run P w1 = .ok () { w1 with heap := w1.heap.setIfInBounds r y } := fun y => setObj_run (x := .mapIter (some b) m.length seen m.length) (by rw [e1]; exact hr) (by intro _ _ _ h; cases h)
    simp only [Sem.run_bind, hs, Result.andThen_ok, Sem.run_pure] at hx'
    exact hx'

/-- 'entry': the entry of the last step. -/
theorem X_entry {x : Operand} {r b j : Nat} {m : List (κ × Value)} {seen : Array Nat} {p : κ × Value} (ho : o.op = .entry x) (hx : ρ x = .pointer (some ⟨r, 0, none⟩)) (hr : w.heap[r]? = some (.mapIter (some b) m.length (seen.push j) m.length))
    (hb : w.heap[b]? = some (mObj enc m)) (hj : m[j]? = some p) : (execOp ρ o).run P w = .ok (.value (.tuple #[enc p.1, p.2])) w := by
  have hg : (getObj r).run P w = .ok (.mapIter (some b) m.length (seen.push j) m.length) w := run_getObj hr (by intro _ _ _ h; cases h)
  have hg2 : (getObj b).run P w = .ok (mObj enc m) w := run_getObj hb (mObj_ne m)
  have hfind : ∀ (l : List (κ × Value)) (n j : Nat) (q : κ × Value), l[j]? = some q → ((l.zipIdx n).map (mEnt enc)).find? (fun e => e.born == n + j) = some (mEnt enc (q, n + j)) := by
    intro l
    induction l with
    | nil => intro n j q h; simp at h
    | cons a l ih =>
      intro n j q h
      cases j with
      | zero =>
        simp only [List.getElem?_cons_zero, Option.some.injEq] at h
        subst h
        simp [List.zipIdx_cons, mEnt]
      | succ j =>
        simp only [List.getElem?_cons_succ] at h
        have := ih (n + 1) j q h
        rw [List.zipIdx_cons, List.map_cons, List.find?_cons_of_neg (by simp [mEnt])]
        rw [show n + (j + 1) = n + 1 + j by omega]
        exact this
  have hf := hfind m 0 j p hj
  simp only [Nat.zero_add] at hf
  unfold execOp
  simp only [ho, hx, Instr.entry, Sem.run_bind, hg, Result.andThen_ok, Array.back?_push, mObj] at hg2 ⊢
  simp only [hg2, Result.andThen_ok]
  simp [hf, mEnt]
end

section
variable {κ : Type} {enc : κ → Value} {P : Program} {ops : Array Oper} {n : Nat} {Q : Exit → Act → World → Prop} {L : Fr} {a : Act} {w0 w : World} {M : Mem} {H : List Ent}

theorem Hp.ownObj {b : Nat} {x : Obj} (h : Hp w0 M H w) (i : Nat) (he : H[i]? = some (.obj b x)) : w.heap[b]? = some x := (h.own _ (List.mem_of_getElem? he)).2

/-- A write of a whole block. -/
theorem Hp.put {b : Nat} {x y : Obj} (h : Hp w0 M (.obj b x :: H) w) : Hp w0 M (.obj b y :: H) { w with heap := w.heap.setIfInBounds b y } := by
  have hb := (h.own _ List.mem_cons_self).2
  have hlt := lt_of_get hb
  refine h.write rfl rfl rfl (by simp) (by simp [hlt]) (fun k hk => ?_)
  simp only [Array.getElem?_setIfInBounds]
  rw [if_neg (fun e => hk e.symm)]

theorem Hp.sameHeap {w1 : World} (h : Hp w0 M H w) (e1 : w1.heap = w.heap) (e2 : w1.os = w.os) (e3 : w1.tape = w.tape) (e4 : w1.output = w.output) : Hp w0 M H w1 :=
  ⟨⟨e2.trans h.below.os, e3.trans h.below.tape, e4.trans h.below.output, by rw [e1]; exact h.below.size, fun k hk => by rw [e1]; exact h.below.block k hk⟩,
    fun b o hb => by rw [e1]; exact h.mem b o hb, fun e he => Ent.owns_keep (h.own e he) fun _ _ => by rw [e1], h.apart, h.free⟩

/-- A store into the map that stands first among the owned. -/
theorem W_mapUpdate [DecidableEq κ] {o : Oper} {rest : List Oper} {t kt et : TypeId} {x ix y : Operand} {b : Nat} {m : List (κ × Value)} {k : κ} {v : Value} (hf : Frm n L a dd) (hp : Hp w0 M (.obj b (mObj enc m) :: H) w) (hw : wantedL ops L o = some true) (hr : readyL L o = true) (hd : o.dst = none)
    (ho : o.op = .mapUpdate t x ix y ∨ o.op = .insert t x ix y) (hx : ev L x = .map (some b)) (hk : ev L ix = enc k) (hv : ev L y = v) (ht : P.underlying t = some (.map kt et)) (K : KeyLaw P kt enc)
    (hq : ∀ w', Hp w0 M (.obj b (mObj enc (updM m k v)) :: H) w' → ∀ a', Frm n L a' dd → wpList P ops Q rest a' w') : wpList P ops Q (o :: rest) a w :=
  W_skip hf hw hr hd (X_mapUpdate ho hx hk hv ht K (hp.ownObj 0 rfl)) (hq _ hp.put)

/-- One step over a map whose object is there (hb), the iterator first among the owned. -/
theorem W_next {o : Oper} {rest : List Oper} {d : Nat} {x : Operand} {r b : Nat} {m : List (κ × Value)} {seen : Array Nat} (hf : Frm n L a dd) (hp : Hp w0 M (.obj r (.mapIter (some b) m.length seen m.length) :: H) w) (hw : wantedL ops L o = some true) (hr : readyL L o = true)
    (hd : o.dst = some d) (hdn : Nat.blt d n = true) (ho : o.op = .next x false) (hx : ev L x = .pointer (some ⟨r, 0, none⟩)) (hb : w.heap[b]? = some (mObj enc m))
    (hover : todo m seen = [] → ∀ w', Hp w0 M (.obj r (.mapIter (some b) m.length seen m.length) :: H) w' → ∀ a', Frm n ((d, .tuple #[.bool false]) :: L) a' dd → wpList P ops Q rest a' w')
    (hstep : ∀ p ∈ todo m seen, ∀ w', Hp w0 M (.obj r (.mapIter (some b) m.length (seen.push p.2) m.length) :: H) w' → ∀ a', Frm n ((d, .tuple #[.bool true, enc p.1.1, p.1.2]) :: L) a' dd → wpList P ops Q rest a' w') :
    wpList P ops Q (o :: rest) a w := by
  obtain ⟨w1, e1, e2, e3, e4, h⟩ := X_next (P := P) ho hx (hp.ownObj 0 rfl) hb
  have hp1 := hp.sameHeap e1 e2 e3 e4
  rcases h with ⟨h1, h2⟩ | ⟨p, hpm, h2⟩
  · exact W_eq hf hw hr hd hdn h2 (hover h1 w1 hp1)
  · exact W_eq hf hw hr hd hdn h2 (hstep p hpm _ hp1.put)

theorem W_range {o : Oper} {rest : List Oper} {d : Nat} {t kt et : TypeId} {x : Operand} {b : Nat} {m : List (κ × Value)} (hf : Frm n L a dd) (hp : Hp w0 M H w) (hw : wantedL ops L o = some true) (hr : readyL L o = true)
    (hd : o.dst = some d) (hdn : Nat.blt d n = true) (ho : o.op = .range t x) (hx : ev L x = .map (some b)) (ht : P.underlying t = some (.map kt et)) (hb : w.heap[b]? = some (mObj enc m))
    (hk : ∀ r w', Hp w0 M (.obj r (.mapIter (some b) m.length #[] m.length) :: H) w' → ∀ a', Frm n ((d, .pointer (some ⟨r, 0, none⟩)) :: L) a' dd → wpList P ops Q rest a' w') : wpList P ops Q (o :: rest) a w :=
  W_eq hf hw hr hd hdn (X_range ho hx ht hb) (hk _ _ (hp.alloc _))
theorem W_range_nil {o : Oper} {rest : List Oper} {d : Nat} {t kt et : TypeId} {x : Operand} (hf : Frm n L a dd) (hp : Hp w0 M H w) (hw : wantedL ops L o = some true) (hr : readyL L o = true)
    (hd : o.dst = some d) (hdn : Nat.blt d n = true) (ho : o.op = .range t x) (hx : ev L x = .map none) (ht : P.underlying t = some (.map kt et))
    (hk : ∀ r w', Hp w0 M (.obj r (.mapIter none 0 #[] 0) :: H) w' → ∀ a', Frm n ((d, .pointer (some ⟨r, 0, none⟩)) :: L) a' dd → wpList P ops Q rest a' w') : wpList P ops Q (o :: rest) a w :=
  W_eq hf hw hr hd hdn (X_range_nil ho hx ht) (hk _ _ (hp.alloc _))
end
end Go.Vc

/-
  VC, part 12: sorting an owned row by the library's contract. Own work.
-/
namespace Go.Vc
open Go Go.RowKit Go.Sort
variable {dd : List Deferred}

section
variable {w0 w : World} {M : Mem} {H : List Ent} {b : Nat}
theorem Hp.grow_ (h : Hp w0 M H w) (os : Array Obj) : Hp w0 M H (grow w os) := by
  have hk : ∀ k, k < w.heap.size → (grow w os).heap[k]? = w.heap[k]? := fun k hk => by simp [grow, Array.getElem?_append, hk]
  refine ⟨⟨h.below.os, h.below.tape, h.below.output, ?_, fun k hk' => ?_⟩, fun k o ho => ?_, fun e he => Ent.owns_keep (h.own e he) fun k hb => hk k (Ent.blk_lt (h.own e he) hb).2, h.apart, h.free⟩
  · have := h.below.size
    simp [grow]; omega
  · rw [hk k (by have := h.below.size; omega)]; exact h.below.block k hk'
  · have := h.mem k o ho
    rw [hk k (lt_of_get this)]; exact this
theorem Hp.mapCells {cur : Array Value} {e : TypeId} {fr : Nat × Nat} (h : Hp w0 M (.obj b (.cells cur e fr) :: H) w) (f : Array Value → Array Value) : Hp w0 M (.obj b (.cells (f cur) e fr) :: H) (mapBlock w b f) := by
  have hb := (h.own _ List.mem_cons_self).2
  refine h.write rfl rfl rfl (by simp [mapBlock]) (by simp [mapBlock, Array.getElem?_modify, hb, onCells]) (fun k hk => ?_)
  simp only [mapBlock, Array.getElem?_modify]
  rw [if_neg (fun e => hk e.symm)]
end

theorem Ok.ofPure {P : Program} {M : Mem} {f : FuncId} {args : List Value} {v : Value} (h : ∀ w, Calls P f args.toArray w fun e w' => e = .returned v ∧ w' = w) : Ok P M f args fun _ u => u = v :=
  fun M2 _ _ _ w hp => (h w).mono fun _ _ ⟨he, hw⟩ => ⟨v, he, M2, Mem.le_refl _, hw ▸ hp, rfl⟩

theorem sortRow {α : Type} [Inhabited α] {P : Program} {f : FuncId} {e : TypeId} {enc : α → Value} {zs ys : List α} (hl : ys.length = zs.length)
    (hS : ∀ blk off cap w, Holds enc w blk off zs.toArray → blk < w.heap.size → Calls P f #[.slice (some ⟨blk, off, none⟩) zs.length cap] w fun e w' => e = .returned (.tuple #[]) ∧ ∃ n os, w' = grow (putRow enc (Sort.ahead w n) blk off ys.toArray) os)
    (hN : zs = [] → ∀ M, Ok P M f [.slice none 0 0] fun _ u => u = .tuple #[]) (M : Mem) (v : Value) :
    OkH P M [.row e 1 v zs.length (zs.map enc)] f [v] fun _ E' u => u = .tuple #[] ∧ E' = [.row e 1 v zs.length (ys.map enc)] := by
  intro M2 hM w0 H w hp
  rcases hp.rowObj with ⟨h1, h2, h3, h4⟩ | ⟨g, cap, cur, h1, h2, h3, h4, h5, h6, h7⟩
  · have hz : zs = [] := List.eq_nil_of_length_eq_zero h2
    have hy : ys = [] := List.eq_nil_of_length_eq_zero (by rw [hl, h2])
    subst h1
    refine (hN hz M2 M2 (Mem.le_refl _) w0 H w h4).mono fun _ _ ⟨u, he, M', hM', hp', hu⟩ => ⟨u, he, M', _, hM', ?_, hu, rfl⟩
    subst hz; subst hy
    exact hp'.nilRow _ _
  · subst h1
    have hcell : ∀ j, j < zs.length → cur[j]? = (zs.map enc)[j]? := fun j hj => by
      rw [← h5, List.getElem?_take_of_lt (by omega), Array.getElem?_toList]
    have hH : Holds enc w g 0 zs.toArray := fun j hj => by
      have hj' : j < zs.length := by simpa using hj
      refine ⟨?_, ?_⟩
      · rw [Nat.zero_add, h7.ownCell 0 rfl, hcell j hj']
        simp [hj']
      · rw [Nat.zero_add]
        exact h7.ownFrozen 0 rfl j (by omega)
    have hg : g < w.heap.size := lt_of_get (h7.own _ List.mem_cons_self).2
    refine (hS g 0 cap w hH hg).mono fun _ w' ⟨he, n, os, hw⟩ => ⟨_, he, M2, _, Mem.le_refl _, ?_, rfl, rfl⟩
    subst hw
    have h8 : Hp w0 M2 (.obj g (.cells cur e (0, 0)) :: H) (Sort.ahead w n) := h7.sameHeap rfl rfl rfl rfl
    have h9 := (h8.mapCells (putCells enc 0 ys.toArray)).grow_ os
    have hcs : cap ≤ cur.size := by have := h4.1; omega
    have hlen : zs.length ≤ cap := h2
    refine h9.objRow h2 h3 (by simpa [putCells] using h4) ?_ (by simp [hl])
    apply List.ext_getElem?
    intro j
    by_cases hj : j < zs.length
    · rw [List.getElem?_take_of_lt (by omega), Array.getElem?_toList]
      have hjc : j < cur.size := by omega
      have hjy : j < ys.length := by omega
      simp [putCells, hjc, hjy]
    · rw [List.getElem?_eq_none (by simp; omega), List.getElem?_eq_none (by simp; omega)]
end Go.Vc

/-
  VC, part 13: going over a map, each entry once. Own work.
-/
namespace Go.Vc
open Go Go.RowKit
variable {dd : List Deferred}

section
variable {κ : Type}
theorem perm_filter {l : List ((κ × Value) × Nat)} (h : l.Pairwise fun x y => x.2 ≠ y.2) : ∀ {p}, p ∈ l → l.Perm (p :: l.filter fun q => decide (q.2 ≠ p.2)) := by
  induction l with
  | nil => intro p hp; cases hp
  | cons x r ih =>
    intro p hp
    obtain ⟨h1, h2⟩ := List.pairwise_cons.1 h
    rcases List.mem_cons.1 hp with rfl | hp
    · rw [List.filter_cons_of_neg (by simp)]
      rw [List.filter_eq_self.2 fun q hq => by simpa using (h1 q hq).symm]
    · rw [List.filter_cons_of_pos (by simpa using h1 p hp)]
      exact ((ih h2 hp).cons x).trans (.swap p x _)
theorem todo_push (m : List (κ × Value)) (seen : Array Nat) (i : Nat) : todo m (seen.push i) = (todo m seen).filter fun q => decide (q.2 ≠ i) := by
  unfold todo
  rw [List.filter_filter]
  congr 1
  funext q
  simp only [Array.contains_push]
  by_cases h : q.2 = i <;> simp [h]
theorem todo_apart (m : List (κ × Value)) (seen : Array Nat) : (todo m seen).Pairwise fun x y => x.2 ≠ y.2 := by
  have : ∀ (m : List (κ × Value)) (n : Nat), (m.zipIdx n).Pairwise fun x y => x.2 ≠ y.2 := by
    intro m
    induction m with
    | nil => intro n; exact .nil
    | cons a r ih =>
      intro n
      rw [List.zipIdx_cons]
      refine List.pairwise_cons.2 ⟨fun q hq => ?_, ih _⟩
      have := (List.mem_zipIdx hq).1
      simp only; omega
  exact (this m 0).filter _
theorem todo_step {m : List (κ × Value)} {seen : Array Nat} {p : (κ × Value) × Nat} (h : p ∈ todo m seen) : (todo m seen).Perm (p :: todo m (seen.push p.2)) := by
  rw [todo_push]; exact perm_filter (todo_apart m seen) h
theorem todo_less {m : List (κ × Value)} {seen : Array Nat} {p : (κ × Value) × Nat} (h : p ∈ todo m seen) : (todo m (seen.push p.2)).length < (todo m seen).length := by
  have := (todo_step h).length_eq
  simp at this; omega
/-- xs: the keys that were seen. -/
def CollI (m : List (κ × Value)) (seen : Array Nat) (xs : List κ) : Prop := ((todo m seen).map (·.1.1) ++ xs).Perm (m.map (·.1))
theorem CollI.start (m : List (κ × Value)) : CollI m #[] [] := by
  have h : todo m #[] = m.zipIdx := List.filter_eq_self.2 fun q _ => by simp
  unfold CollI
  rw [h, List.append_nil]
  have : ∀ (m : List (κ × Value)) (n : Nat), (m.zipIdx n).map (·.1.1) = m.map (·.1) := by
    intro m
    induction m with
    | nil => intro n; rfl
    | cons a r ih => intro n; rw [List.zipIdx_cons, List.map_cons, List.map_cons, ih]
  rw [this]
theorem CollI.step {m : List (κ × Value)} {seen : Array Nat} {xs : List κ} {p : (κ × Value) × Nat} (h : CollI m seen xs) (hp : p ∈ todo m seen) : CollI m (seen.push p.2) (xs ++ [p.1.1]) := by
  unfold CollI at *
  have h1 := ((todo_step hp).map fun q => q.1.1).append_right xs
  refine List.Perm.trans ?_ (h1.symm.trans h)
  rw [List.map_cons, ← List.append_assoc]
  exact (List.perm_append_singleton _ _)
theorem CollI.all {m : List (κ × Value)} {seen : Array Nat} {xs : List κ} (h : CollI m seen xs) (h0 : todo m seen = []) : xs.Perm (m.map (·.1)) := by
  unfold CollI at h; rw [h0] at h; simpa using h
theorem CollI.len {m : List (κ × Value)} {seen : Array Nat} {xs : List κ} (h : CollI m seen xs) : xs.length ≤ m.length := by
  have := h.length_eq
  simp at this; omega
end
/-- Rising. -/
def rise (xs : List Int) : List Int := xs.mergeSort fun x y => decide (x ≤ y)
theorem rise_perm {xs ys : List Int} (h : xs.Perm ys) : rise xs = rise ys := by
  have tot : ∀ a b : Int, (decide (a ≤ b) || decide (b ≤ a)) = true := fun a b => by simp; omega
  have tr : ∀ a b c : Int, decide (a ≤ b) = true → decide (b ≤ c) = true → decide (a ≤ c) = true := fun a b c h1 h2 => by simp at *; omega
  have h1 := List.pairwise_mergeSort (le := fun x y : Int => decide (x ≤ y)) tr tot xs
  have h2 := List.pairwise_mergeSort (le := fun x y : Int => decide (x ≤ y)) tr tot ys
  refine List.Perm.eq_of_pairwise (le := fun x y : Int => decide (x ≤ y) = true) ?_ h1 h2 ((List.mergeSort_perm xs _).trans (h.trans (List.mergeSort_perm ys _).symm))
  intro a b _ _ h1 h2
  simp at h1 h2; omega
theorem rise_nil : rise [] = [] := by simp [rise]
theorem rise_len (xs : List Int) : (rise xs).length = xs.length := List.length_mergeSort _
theorem rise_mem {xs : List Int} {x : Int} : x ∈ rise xs ↔ x ∈ xs := (List.mergeSort_perm xs _).mem_iff
end Go.Vc

/-
  VC, part 14: a row of maps that the text makes one by one; 'make' of n places. Own work.
-/
namespace Go.Vc
open Go Go.RowKit
variable {dd : List Deferred}

section
variable {P : Program} {ops : Array Oper} {n : Nat} {Q : Exit → Act → World → Prop} {L : Fr} {a : Act} {w0 w : World} {M : Mem} {H : List Ent}
theorem madeOne (z : Value) (m : Nat) : madeCells #[z] m = (List.replicate m z).toArray := by
  apply Array.ext'
  simp only [madeCells]
  simp [Nat.mod_one, List.map_const']
/-- 'make([]T, m)', T of one cell. -/
theorem W_make {o : Oper} {rest : List Oper} {d : Nat} {t e : TypeId} {l c : Operand} {z : Value} {bytes m : Nat} (hf : Frm n L a dd) (hp : Hp w0 M H w) (hw : wantedL ops L o = some true) (hr : readyL L o = true)
    (hd : o.dst = some d) (hdn : Nat.blt d n = true) (ho : o.op = .makeSlice t l c) (hl : ev L l = .int .i64 (m : Int)) (hc : ev L c = .int .i64 (m : Int)) (ht : P.underlying t = some (.slice e)) (hinfo : (P.info? e).map (fun i => (i.zero, i.size, i.bytes)) = some (some z, 1, bytes)) (hz : z.cells = #[z])
    (hb : bytes * m ≤ 281474976710656) (h63 : m ≤ 9223372036854775807)
    (hk : ∀ b w', Hp w0 M (.obj b (.cells (List.replicate m z).toArray e (0, 0)) :: H) w' → ∀ a', Frm n ((d, .slice (some ⟨b, 0, none⟩) m m) :: L) a' dd → wpList P ops Q rest a' w') : wpList P ops Q (o :: rest) a w := by
  have hx : (execOp (ev L) o).run P w = .ok (.value (.slice (some ⟨w.heap.size, 0, none⟩) m m)) (w.alloc (.cells (List.replicate m z).toArray e (0, 0))) := by
    have := run_make_row' (P := P) t e z bytes ht hinfo hz .i64 .i64 m hb h63 w
    rw [madeOne] at this
    unfold execOp
    simp only [ho, hl, hc, Sem.run_bind, this, Result.andThen_ok]
    rfl
  exact W_eq hf hw hr hd hdn hx (hk _ _ (hp.alloc _))
end

/-! ### A row of maps -/
section
variable {κ : Type} {enc : κ → Value} {w0 w : World} {M : Mem} {H : List Ent}
abbrev MapRow (κ : Type) := List (Option (Nat × List (κ × Value)))
def hdOf {κ : Type} : Option (Nat × List (κ × Value)) → Value
  | none => .map none
  | some (b, _) => .map (some b)
def keysOf {κ : Type} : Option (Nat × List (κ × Value)) → List κ
  | none => []
  | some (_, m) => m.map (·.1)
def entOf (enc : κ → Value) : Option (Nat × List (κ × Value)) → Option Ent
  | none => none
  | some (b, m) => some (.obj b (mObj enc m))
def bag (enc : κ → Value) (G : MapRow κ) : List Ent := G.filterMap (entOf enc)
theorem bag_none (enc : κ → Value) (n : Nat) : bag enc (List.replicate n none) = [] := by
  unfold bag
  rw [List.filterMap_eq_nil_iff]
  intro x hx
  rw [List.eq_of_mem_replicate hx]; rfl
theorem hd_none (κ : Type) (n : Nat) : ((List.replicate n none : MapRow κ).map hdOf) = List.replicate n (.map none) := by simp [hdOf]
theorem bag_set {enc : κ → Value} : ∀ {G : MapRow κ} {k : Nat} (b : Nat) (m : List (κ × Value)), k < G.length → (bag enc (G.set k (some (b, m)))).Perm (.obj b (mObj enc m) :: bag enc (G.set k none))
  | [], k, b, m, h => by simp at h
  | x :: r, 0, b, m, h => by simp only [List.set_cons_zero, bag, List.filterMap_cons, entOf]; exact .refl _
  | x :: r, k + 1, b, m, h => by
    simp only [List.length_cons, Nat.add_lt_add_iff_right] at h
    have ih := bag_set (enc := enc) b m h
    unfold bag at ih ⊢
    simp only [List.set_cons_succ, List.filterMap_cons]
    cases entOf enc x with
    | none => exact ih
    | some e => exact (ih.cons e).trans (.swap _ _ _)
theorem set_self {G : MapRow κ} {k : Nat} {x : Option (Nat × List (κ × Value))} (h : G[k]? = some x) : G.set k x = G := by
  apply List.ext_getElem?
  intro i
  rw [List.getElem?_set]
  split
  · rename_i e; subst e
    split
    · exact h.symm
    · rename_i hn; rw [List.getElem?_eq_none (by omega)] at h; cases h
  · rfl
/-- The map at k, ahead of the others. -/
theorem Hp.bagPull {G : MapRow κ} {k b : Nat} {m : List (κ × Value)} {e : Ent} (h : Hp w0 M (e :: (bag enc G ++ H)) w) (hk : G[k]? = some (some (b, m))) : Hp w0 M (.obj b (mObj enc m) :: e :: (bag enc (G.set k none) ++ H)) w := by
  have hl : k < G.length := (List.getElem?_eq_some_iff.1 hk).1
  have hp := bag_set (enc := enc) b m hl
  rw [set_self hk] at hp
  exact h.perm (((hp.append_right H).cons e).trans (.swap _ _ _))
/-- .. and back among them. -/
theorem Hp.bagPut {G : MapRow κ} {k b : Nat} {m : List (κ × Value)} {e : Ent} (h : Hp w0 M (.obj b (mObj enc m) :: e :: (bag enc (G.set k none) ++ H)) w) (hl : k < G.length) : Hp w0 M (e :: (bag enc (G.set k (some (b, m))) ++ H)) w := by
  have hp := bag_set (enc := enc) b m hl
  exact h.perm ((List.Perm.swap _ _ _).trans ((hp.symm.append_right H).cons e))
theorem hd_set {G : MapRow κ} {k b : Nat} {m m' : List (κ × Value)} (hk : G[k]? = some (some (b, m))) : (G.set k (some (b, m'))).map hdOf = G.map hdOf := by
  rw [List.map_set]
  have : (G.map hdOf)[k]? = some (.map (some b)) := by rw [List.getElem?_map, hk]; rfl
  apply List.ext_getElem?
  intro i
  rw [List.getElem?_set]
  split
  · rename_i e; subst e
    split
    · exact this.symm
    · rename_i hn; rw [List.getElem?_eq_none (by omega)] at this; cases this
  · rfl
/-- All maps become known. -/
theorem Hp.bagKnown : ∀ {G : MapRow κ} {M : Mem}, Hp w0 M (bag enc G ++ H) w → ∃ M', M.le M' ∧ Hp w0 M' H w ∧ ∀ b m, some (b, m) ∈ G → M' b = some (mObj enc m)
  | [], M, h => ⟨M, Mem.le_refl M, h, fun _ _ hm => by cases hm⟩
  | none :: G, M, h => by
    obtain ⟨M', h1, h2, h3⟩ := Hp.bagKnown (G := G) (M := M) h
    exact ⟨M', h1, h2, fun b m hm => h3 b m (by simpa using hm)⟩
  | some (b, m) :: G, M, h => by
    have h' : Hp w0 M (.obj b (mObj enc m) :: (bag enc G ++ H)) w := h
    obtain ⟨k1, k2⟩ := h'.freeze
    obtain ⟨M', h1, h2, h3⟩ := Hp.bagKnown (G := G) k2
    refine ⟨M', k1.trans h1, h2, fun c x hm => ?_⟩
    rcases List.mem_cons.1 hm with e | hm
    · cases e; exact h1 _ _ (Mem.add_get M b _)
    · exact h3 c x hm
theorem gotCell {G : MapRow κ} {b k : Nat} {T : TypeId} (h : Hp w0 M H w) (i : Nat) (he : H[i]? = some (.obj b (.cells (G.map hdOf).toArray T (0, 0)))) (hk : k < G.length) : w.cell? ⟨b, k, none⟩ = some (hdOf (G.getD k none)) := by
  rw [h.ownCell i he k]
  simp [List.getD, hk]
theorem hd_one (g : Option (Nat × List (κ × Value))) : (hdOf g).oneCell' = true := by
  rcases g with _ | ⟨b, m⟩ <;> rfl
/-- A new map at a place that has none. -/
theorem Hp.bagNew {G : MapRow κ} {k b c : Nat} {T : TypeId} (h : Hp w0 M (.obj b (mObj enc []) :: .obj c (.cells ((G.map hdOf).toArray.setIfInBounds k (.map (some b))) T (0, 0)) :: (bag enc G ++ H)) w) (hk : k < G.length) (hn : G.getD k none = none) :
    Hp w0 M (.obj c (.cells ((G.set k (some (b, []))).map hdOf).toArray T (0, 0)) :: (bag enc (G.set k (some (b, []))) ++ H)) w := by
  have hs : G.set k none = G := set_self (by simpa [List.getD, hk] using hn)
  have e : ((G.map hdOf).toArray.setIfInBounds k (.map (some b))) = ((G.set k (some (b, []))).map hdOf).toArray := by
    rw [List.map_set]; simp [hdOf]
  rw [← hs, hs, e] at h
  refine Hp.bagPut ?_ hk
  rw [hs]; exact h
theorem getD_set_self {G : MapRow κ} {k : Nat} {x : Option (Nat × List (κ × Value))} (hk : k < G.length) : (G.set k x).getD k none = x := by simp [List.getD, hk]
theorem getD_set_ne {G : MapRow κ} {k j : Nat} {x : Option (Nat × List (κ × Value))} (h : j ≠ k) : (G.set k x).getD j none = G.getD j none := by
  simp only [List.getD_eq_getElem?_getD]
  rw [List.getElem?_set_ne (by omega)]
end

section
variable {κ : Type} {enc : κ → Value} {P : Program} {ops : Array Oper} {n : Nat} {Q : Exit → Act → World → Prop} {L : Fr} {a : Act} {w0 w : World} {M : Mem} {H : List Ent}
theorem eqMapNil {T kt et : TypeId} (ht : P.underlying T = some (.map kt et)) (g : Option (Nat × List (κ × Value))) (d : Nat) (w : World) : (Op.equalIn (d + 1) T (hdOf g) (.map none)).run P w = .ok g.isNone w := by
  rcases g with _ | ⟨b, m⟩
  · unfold Op.equalIn
    rw [Sem.run_bind, run_underlying ht]; rfl
  · unfold Op.equalIn
    rw [Sem.run_bind, run_underlying ht]; rfl
theorem X_mapnil {ρ : Operand → Value} {o : Oper} {T t' kt et : TypeId} {x y : Operand} {g : Option (Nat × List (κ × Value))} (ho : o.op = .binOp .eql T x y t') (hx : ρ x = hdOf g) (hy : ρ y = .map none) (ht : P.underlying T = some (.map kt et)) (w : World) :
    (execOp ρ o).run P w = .ok (.value (.bool g.isNone)) w := by
  have h : ∀ g' : Option (Nat × List (κ × Value)), binOp .eql T (hdOf g') (.map none) = (do pure (.bool (← Op.equal T (hdOf g') (.map none)))) := fun g' => by rcases g' with _ | ⟨b, m⟩ <;> rfl
  have h2 : ∀ g' : Option (Nat × List (κ × Value)), eqGuard .eql T x y (hdOf g') (.map none) = pure () := fun g' => by rcases g' with _ | ⟨b, m⟩ <;> rfl
  have h3 := eqMapNil (P := P) ht g 9999 w
  unfold execOp
  simp only [ho, hx, hy, h, h2, Sem.run_bind, Sem.run_pure, Result.andThen_ok]
  have h4 : (Op.equal T (hdOf g) (.map none)).run P w = .ok g.isNone w := h3
  rw [h4]; rfl
theorem W_makeMap {o : Oper} {rest : List Oper} {d : Nat} {t : TypeId} (enc : κ → Value) (hf : Frm n L a dd) (hp : Hp w0 M H w) (hw : wantedL ops L o = some true) (hr : readyL L o = true)
    (hd : o.dst = some d) (hdn : Nat.blt d n = true) (ho : o.op = .makeMap t none)
    (hk : ∀ b w', Hp w0 M (.obj b (mObj enc []) :: H) w' → ∀ a', Frm n ((d, .map (some b)) :: L) a' dd → wpList P ops Q rest a' w') : wpList P ops Q (o :: rest) a w := by
  have hx : (execOp (ev L) o).run P w = .ok (.value (.map (some w.heap.size))) (w.alloc (mObj enc [])) := by
    unfold execOp
    simp only [ho]
    rfl
  exact W_eq hf hw hr hd hdn hx (hk _ _ (hp.alloc _))
/-- A store into the map at place k of a row of maps. -/
theorem W_bagUpdate [DecidableEq κ] {o : Oper} {rest : List Oper} {t kt et T : TypeId} {x ix y : Operand} {b c j : Nat} {G : MapRow κ} {m : List (κ × Value)} {k : κ} {v : Value} (hf : Frm n L a dd) (hp : Hp w0 M (.obj c (.cells (G.map hdOf).toArray T (0, 0)) :: (bag enc G ++ H)) w) (hg : G.getD j none = some (b, m)) (hw : wantedL ops L o = some true) (hr : readyL L o = true) (hd : o.dst = none)
    (ho : o.op = .mapUpdate t x ix y ∨ o.op = .insert t x ix y) (hx : ev L x = .map (some b)) (hk : ev L ix = enc k) (hv : ev L y = v) (ht : P.underlying t = some (.map kt et)) (K : KeyLaw P kt enc)
    (hq : ∀ w', Hp w0 M (.obj c (.cells ((G.set j (some (b, updM m k v))).map hdOf).toArray T (0, 0)) :: (bag enc (G.set j (some (b, updM m k v))) ++ H)) w' → ∀ a', Frm n L a' dd → wpList P ops Q rest a' w') : wpList P ops Q (o :: rest) a w := by
  have hj : j < G.length := by
    rcases Nat.lt_or_ge j G.length with h | h
    · exact h
    · rw [List.getD_eq_getElem?_getD, List.getElem?_eq_none h] at hg; cases hg
  have hg' : G[j]? = some (some (b, m)) := by
    rw [List.getD_eq_getElem?_getD, List.getElem?_eq_getElem hj] at hg
    rw [List.getElem?_eq_getElem hj]; exact congrArg some hg
  refine W_mapUpdate hf (hp.bagPull hg') hw hr hd ho hx hk hv ht K fun w' hp' a' ha => hq w' ?_ a' ha
  rw [hd_set hg']
  exact hp'.bagPut hj
end
end Go.Vc

/-
  VC, part 15: slices beside nil; a known slice of integers as an append's source. Own work.
-/
namespace Go.Vc
open Go Go.RowKit
variable {dd : List Deferred}

section
variable {P : Program} {w0 w : World} {M : Mem} {H : List Ent}
theorem eqSliceNil {T e : TypeId} (ht : P.underlying T = some (.slice e)) (A : Option Addr) (n c d : Nat) (w : World) : (Op.equalIn (d + 1) T (.slice A n c) (.slice none 0 0)).run P w = .ok A.isNone w := by
  rcases A with _ | b
  · unfold Op.equalIn
    rw [Sem.run_bind, run_underlying ht]; rfl
  · unfold Op.equalIn
    rw [Sem.run_bind, run_underlying ht]; rfl
theorem X_slicenil {ρ : Operand → Value} {o : Oper} {T t' e n c : TypeId} {x y : Operand} {A : Option Addr} (ho : o.op = .binOp .eql T x y t') (hx : ρ x = .slice A n c) (hy : ρ y = .slice none 0 0) (ht : P.underlying T = some (.slice e)) (w : World) :
    (execOp ρ o).run P w = .ok (.value (.bool A.isNone)) w := by
  have h3 := eqSliceNil (P := P) ht A n c 9999 w
  have h : binOp .eql T (.slice A n c) (.slice none 0 0) = (do pure (.bool (← Op.equal T (.slice A n c) (.slice none 0 0)))) := rfl
  have h2 : eqGuard .eql T x y (.slice A n c) (.slice none 0 0) = pure () := rfl
  unfold execOp
  simp only [ho, hx, hy, h, h2, Sem.run_bind, Sem.run_pure, Result.andThen_ok]
  have h4 : (Op.equal T (.slice A n c) (.slice none 0 0)).run P w = .ok A.isNone w := h3
  rw [h4]; rfl
theorem Ints.src {k : IntKind} {ad : Addr} {xs : List Int} (h : Ints M k (some ad) xs) (hp : Hp w0 M H w) : ∀ j u, (xs.map (Value.int k))[j]? = some u → w.cell? (ad.add j) = some u := fun j u hu => by
  rcases h with h | ⟨ad', e, h2⟩
  · rw [h] at hu; simp at hu
  · cases e; exact hp.cell (h2 j u hu)
theorem Ints.none_nil {k : IntKind} {xs : List Int} (h : Ints M k none xs) : xs = [] := by
  rcases h with h | ⟨ad', e, h2⟩
  · simpa using h
  · cases e
theorem ints_one (k : IntKind) (xs : List Int) : ∀ u ∈ xs.map (Value.int k), u.oneCell' = true := fun u hu => by
  obtain ⟨x, _, rfl⟩ := List.mem_map.1 hu; rfl
end
end Go.Vc

/-
  VC, part 16: typed data: what a slice, a struct holds, by an embedding into 'Dat'; owned rows of such; the shallow reading's words. Own work.
-/
namespace Go.Vc
open Go Go.RowKit
variable {dd : List Deferred}

/-! ### The shallow reading -/
def need (p : Prop) [Decidable p] {α : Type} (x : Option α) : Option α := if p then x else none
theorem need_some {p : Prop} [Decidable p] {α : Type} {x : Option α} {r : α} (h : need p x = some r) : p ∧ x = some r := by
  unfold need at h
  split at h
  · exact ⟨‹_›, h⟩
  · cases h
theorem need_t {p : Prop} [Decidable p] {α : Type} {x : Option α} (h : p) : need p x = x := by unfold need; rw [if_pos h]
theorem cnd_t {α : Type} {b : Bool} {x y r : α} (hb : b = true) (h : (bif b then x else y) = r) : x = r := by rw [hb] at h; exact h
theorem cnd_f {α : Type} {b : Bool} {x y r : α} (hb : b = false) (h : (bif b then x else y) = r) : y = r := by rw [hb] at h; exact h
theorem bind_some' {α β : Type} {x : Option α} {f : α → Option β} {r : β} (h : x.bind f = some r) : ∃ a, x = some a ∧ f a = some r := Option.bind_eq_some_iff.1 h
inductive Lp (σ β : Type)
  | nx (s : σ)
  | br (b : β)
def loopF {σ β : Type} (step : σ → Option (Lp σ β)) : Nat → σ → Option β
  | 0, _ => none
  | n + 1, s => (step s).bind fun r => match r with
    | .nx s' => loopF step n s'
    | .br b => some b
theorem loop_step {σ β : Type} {step : σ → Option (Lp σ β)} {n : Nat} {s : σ} {b : β} (h : loopF step n s = some b) : ∃ m r, n = m + 1 ∧ step s = some r ∧ (match r with | .nx s' => loopF step m s' | .br b => some b) = some b := by
  cases n with
  | zero => cases h
  | succ m =>
    obtain ⟨r, h1, h2⟩ := Option.bind_eq_some_iff.1 h
    exact ⟨m, r, rfl, h1, h2⟩
def joinF {τ Λ : Type} (j : Lp τ Λ) (k : τ → Option Λ) : Option Λ := match j with | .nx x => k x | .br l => some l
def getI {α : Type} (xs : List α) (i : Int) : Option α := if 0 ≤ i then xs[i.toNat]? else none
theorem getI_some {α : Type} {xs : List α} {i : Int} {x : α} (h : getI xs i = some x) : 0 ≤ i ∧ i < xs.length ∧ xs[i.toNat]? = some x := by
  unfold getI at h
  split at h
  · have := (List.getElem?_eq_some_iff.1 h).1
    exact ⟨‹_›, by omega, h⟩
  · cases h
theorem getI_lt {α : Type} {xs : List α} {i : Int} {x : α} (h : getI xs i = some x) : i < xs.length := (getI_some h).2.1
theorem getI_nn {α : Type} {xs : List α} {i : Int} {x : α} (h : getI xs i = some x) : 0 ≤ i := (getI_some h).1
def inR (k : IntKind) (x : Int) : Prop := k.min ≤ x ∧ x ≤ k.max
instance (k : IntKind) (x : Int) : Decidable (inR k x) := by unfold inR; exact inferInstance
theorem inR_i64 {x : Int} (h : inR .i64 x) : IntKind.i64.wrap x = x := IntWalk.i64_in _ (by simp [inR, IntKind.min, IntKind.max, IntKind.signed, IntKind.bits] at h; omega)
theorem inR_mk {x : Int} : inR .i64 x ↔ -9223372036854775808 ≤ x ∧ x ≤ 9223372036854775807 := by simp [inR, IntKind.min, IntKind.max, IntKind.signed, IntKind.bits]

/-! ### Slices of typed data -/
section
variable {α : Type} {M M' : Mem} {sz : Nat} {f : α → Dat} {A : Option Addr} {cap : Nat} {xs : List α}
def eL (sz : Nat) (f : α → Dat) (xs : List α) : Dat := .list sz (xs.map f)
def Sli (M : Mem) (sz : Nat) (f : α → Dat) (A : Option Addr) (cap : Nat) (xs : List α) : Prop :=
  xs.length ≤ cap ∧ (A = none → cap = 0) ∧ (xs = [] ∨ ∃ ad, A = some ad ∧ RepArr M sz (xs.map f) ad)
theorem Sli.mono (h : Sli M sz f A cap xs) (hM : M.le M') : Sli M' sz f A cap xs := by
  obtain ⟨h1, h2, h3⟩ := h
  refine ⟨h1, h2, ?_⟩
  rcases h3 with h3 | ⟨ad, h4, h5⟩
  · exact .inl h3
  · exact .inr ⟨ad, h4, RepArr.mono hM _ _ _ h5⟩
theorem Sli.nil : Sli M sz f none 0 [] := ⟨Nat.le_refl _, fun _ => rfl, .inl rfl⟩
theorem Sli.rep (h : Sli M sz f A cap xs) : Rep M (eL sz f xs) [.slice A xs.length cap] := by
  obtain ⟨h1, h2, h3⟩ := h
  refine ⟨A, cap, by simp, by simpa using h1, h2, ?_⟩
  rcases h3 with h3 | ⟨ad, h4, h5⟩
  · exact .inl (by simp [h3])
  · exact .inr ⟨ad, h4, h5⟩
theorem Rep.sli {cs : List Value} (h : Rep M (eL sz f xs) cs) : ∃ A cap, cs = [.slice A xs.length cap] ∧ Sli M sz f A cap xs := by
  obtain ⟨A, cap, h1, h2, h3, h4⟩ := h
  refine ⟨A, cap, by simpa using h1, by simpa using h2, h3, ?_⟩
  rcases h4 with h4 | ⟨ad, h5, h6⟩
  · exact .inl (by simpa using h4)
  · exact .inr ⟨ad, h5, h6⟩
theorem Sli.at_ (h : Sli M sz f A cap xs) {i : Int} {x : α} (hx : getI xs i = some x) :
    ∃ ad c, A = some ad ∧ c.length = sz ∧ Rep M (f x) c ∧ ∀ j v, c[j]? = some v → M.cell? ((ad.add (i.toNat * sz)).add j) = some v := by
  obtain ⟨_, _, h3⟩ := h
  obtain ⟨h0, h1, h2⟩ := getI_some hx
  rcases h3 with h3 | ⟨ad, h4, h5⟩
  · subst h3; simp at h2
  · obtain ⟨c, k1, k2, k3⟩ := RepArr.get i.toNat (f x) h5 (by simp [h2])
    exact ⟨ad, c, h4, k1, k2, k3⟩
theorem add_of_add' (a : Addr) (i j : Nat) : (a.add i).add j = a.add (i + j) := add_of_add a i j
theorem RepArr.drop : ∀ (k : Nat) {ds : List Dat} {ad : Addr}, RepArr M sz ds ad → RepArr M sz (ds.drop k) (ad.add (k * sz))
  | 0, ds, ad, h => by simpa [Addr.add] using h
  | k + 1, [], ad, h => by simp [RepArr]
  | k + 1, d :: ds, ad, h => by
    have := RepArr.drop (ds := ds) k h.2
    rw [add_of_add] at this
    rw [List.drop_succ_cons, show (k + 1) * sz = sz + k * sz by rw [Nat.add_mul]; omega]
    exact this
theorem RepArr.take : ∀ (k : Nat) {ds : List Dat} {ad : Addr}, RepArr M sz ds ad → RepArr M sz (ds.take k) ad
  | 0, ds, ad, h => by simp [RepArr]
  | k + 1, [], ad, h => by simp [RepArr]
  | k + 1, d :: ds, ad, h => ⟨h.1, RepArr.take k h.2⟩
theorem Sli.cut (h : Sli M sz f A cap xs) {a b : Nat} (hab : a ≤ b) (hb : b ≤ xs.length) : Sli M sz f (cutA A sz a cap) (cap - a) ((xs.take b).drop a) := by
  obtain ⟨h1, h2, h3⟩ := h
  refine ⟨by simp; omega, fun e => ?_, ?_⟩
  · unfold cutA at e
    split at e
    · omega
    · cases A with
      | none => have := h2 rfl; omega
      | some ad => simp at e
  · rcases h3 with h3 | ⟨ad, h4, h5⟩
    · exact .inl (by simp [h3])
    · by_cases hac : cap = a
      · exact .inl (by simp; omega)
      · refine .inr ⟨ad.add (a * sz), by simp [cutA, hac, h4], ?_⟩
        rw [List.map_drop, List.map_take]
        exact RepArr.drop a (RepArr.take b h5)
theorem Sli.len (h : Sli M sz f A cap xs) : xs.length ≤ cap := h.1
end

/-- Data all of whose spellings have n cells. -/
def Szd (n : Nat) (d : Dat) : Prop := ∀ M cs, Rep M d cs → cs.length = n
theorem szd_int (k : IntKind) (n : Int) : Szd 1 (.int k n) := fun _ _ h => by rw [show _ = _ from h]; rfl
theorem szd_bool (b : Bool) : Szd 1 (.bool b) := fun _ _ h => by rw [show _ = _ from h]; rfl
theorem szd_str (l : List UInt8) : Szd 1 (.str l) := fun _ _ h => by rw [show _ = _ from h]; rfl
theorem szd_list (sz : Nat) (ds : List Dat) : Szd 1 (.list sz ds) := fun _ _ h => by obtain ⟨A, cap, h1, _⟩ := h; rw [h1]; rfl
theorem szd_nil : Szd 0 (.struct []) := fun _ _ h => by rw [show _ = [] from h]; rfl
theorem szd_cons {a b : Nat} {d : Dat} {ds : List Dat} (h1 : Szd a d) (h2 : Szd b (.struct ds)) : Szd (a + b) (.struct (d :: ds)) := fun M cs h => by
  obtain ⟨c1, c2, e, k1, k2⟩ := h
  rw [e, List.length_append, h1 M c1 k1, h2 M c2 k2]

section
variable {M M' : Mem} {sz : Nat}
theorem RepSeq.append {M : Mem} : ∀ {ds es : List Dat} {c c' : List Value}, RepSeq M ds c → RepSeq M es c' → RepSeq M (ds ++ es) (c ++ c')
  | [], es, c, c', h, h' => by rw [show c = [] from h]; exact h'
  | d :: ds, es, c, c', h, h' => by
    obtain ⟨c1, c2, e, k1, k2⟩ := h
    exact ⟨c1, c2 ++ c', by rw [e, List.append_assoc], k1, RepSeq.append k2 h'⟩
theorem RepSeq.one {d : Dat} {c : List Value} (h : Rep M d c) : RepSeq M [d] c := ⟨c, [], by simp, h, rfl⟩
theorem RepSeq.snoc {α : Type} {f : α → Dat} {xs : List α} {x : α} {c c' : List Value} (h : RepSeq M (xs.map f) c) (h' : Rep M (f x) c') : RepSeq M ((xs ++ [x]).map f) (c ++ c') := by
  rw [List.map_append]; exact h.append (RepSeq.one h')
theorem RepSeq.more {α : Type} {f : α → Dat} {xs ys : List α} {c c' : List Value} (h : RepSeq M (xs.map f) c) (h' : RepSeq M (ys.map f) c') : RepSeq M ((xs ++ ys).map f) (c ++ c') := by
  rw [List.map_append]; exact h.append h'
theorem RepSeq.len : ∀ {ds : List Dat} {c : List Value}, (∀ d ∈ ds, Szd sz d) → RepSeq M ds c → c.length = ds.length * sz
  | [], c, _, h => by rw [show c = [] from h]; simp
  | d :: ds, c, hs, h => by
    obtain ⟨c1, c2, e, k1, k2⟩ := h
    rw [e, List.length_append, hs d List.mem_cons_self M c1 k1, RepSeq.len (fun d hd => hs d (List.mem_cons_of_mem _ hd)) k2, List.length_cons, Nat.add_mul]; omega
theorem RepSeq.arr : ∀ {ds : List Dat} {c : List Value} {ad : Addr}, (∀ d ∈ ds, Szd sz d) → RepSeq M ds c → (∀ j u, c[j]? = some u → M.cell? (ad.add j) = some u) → RepArr M sz ds ad
  | [], _, _, _, _, _ => trivial
  | d :: ds, c, ad, hs, h, hc => by
    obtain ⟨c1, c2, e, k1, k2⟩ := h
    have hl := hs d List.mem_cons_self M c1 k1
    refine ⟨⟨c1, hl, k1, fun j v hv => hc j v ?_⟩, RepSeq.arr (fun d hd => hs d (List.mem_cons_of_mem _ hd)) k2 fun j v hv => ?_⟩
    · rw [e, List.getElem?_append_left (List.getElem?_eq_some_iff.1 hv).1]; exact hv
    · rw [add_of_add]
      refine hc _ v ?_
      rw [e, List.getElem?_append_right (by omega), show sz + j - c1.length = j by omega]; exact hv
/-- Element i's cells. -/
theorem RepSeq.get {M : Mem} : ∀ {ds : List Dat} {c : List Value} (i : Nat) {d : Dat}, (∀ d ∈ ds, Szd sz d) → RepSeq M ds c → ds[i]? = some d → ∃ e, e.length = sz ∧ Rep M d e ∧ ∀ j v, e[j]? = some v → c[i * sz + j]? = some v
  | [], _, i, d, _, _, h => by simp at h
  | x :: ds, c, 0, d, hs, h, hd => by
    simp only [List.getElem?_cons_zero, Option.some.injEq] at hd
    subst hd
    obtain ⟨c1, c2, e, k1, k2⟩ := h
    refine ⟨c1, hs _ List.mem_cons_self M c1 k1, k1, fun j v hv => ?_⟩
    rw [e, Nat.zero_mul, Nat.zero_add, List.getElem?_append_left (List.getElem?_eq_some_iff.1 hv).1]; exact hv
  | x :: ds, c, i + 1, d, hs, h, hd => by
    simp only [List.getElem?_cons_succ] at hd
    obtain ⟨c1, c2, e, k1, k2⟩ := h
    obtain ⟨y, h1, h2, h3⟩ := RepSeq.get i (fun d hd => hs d (List.mem_cons_of_mem _ hd)) k2 hd
    refine ⟨y, h1, h2, fun j v hv => ?_⟩
    have hl := hs x List.mem_cons_self M c1 k1
    rw [e, List.getElem?_append_right (by rw [Nat.add_mul]; omega), show (i + 1) * sz + j - c1.length = i * sz + j by rw [Nat.add_mul]; omega]
    exact h3 j v hv
theorem RepArr.cells : ∀ {ds : List Dat} {ad : Addr}, RepArr M sz ds ad → ∃ cs : List Value, cs.length = ds.length * sz ∧ RepSeq M ds cs ∧ ∀ j v, cs[j]? = some v → M.cell? (ad.add j) = some v
  | [], _, _ => ⟨[], by simp, rfl, fun j v h => by simp at h⟩
  | d :: ds, ad, h => by
    obtain ⟨⟨c, h1, h2, h3⟩, h4⟩ := h
    obtain ⟨cs, k1, k2, k3⟩ := RepArr.cells h4
    refine ⟨c ++ cs, by rw [List.length_append, k1, h1, List.length_cons, Nat.add_mul]; omega, ⟨c, cs, rfl, h2, k2⟩, fun j v hv => ?_⟩
    by_cases hj : j < c.length
    · rw [List.getElem?_append_left hj] at hv; exact h3 j v hv
    · rw [List.getElem?_append_right (by omega)] at hv
      have := k3 _ v hv
      rw [add_of_add, show sz + (j - c.length) = j by omega] at this
      exact this
mutual
theorem Rep.one {M : Mem} : ∀ (d : Dat) (cs : List Value), Rep M d cs → ∀ u ∈ cs, u.oneCell' = true
  | .int _ _, cs, h => by intro u hu; rw [show cs = _ from h] at hu; simp at hu; subst hu; rfl
  | .bool _, cs, h => by intro u hu; rw [show cs = _ from h] at hu; simp at hu; subst hu; rfl
  | .str _, cs, h => by intro u hu; rw [show cs = _ from h] at hu; simp at hu; subst hu; rfl
  | .list _ _, cs, h => by
    obtain ⟨A, cap, e, _⟩ := h
    intro u hu; rw [e] at hu; simp at hu; subst hu; rfl
  | .struct ds, cs, h => RepSeq.oneC ds cs h
theorem RepSeq.oneC {M : Mem} : ∀ (ds : List Dat) (cs : List Value), RepSeq M ds cs → ∀ u ∈ cs, u.oneCell' = true
  | [], cs, h => by intro u hu; rw [show cs = [] from h] at hu; cases hu
  | d :: ds, cs, h => by
    obtain ⟨c1, c2, e, k1, k2⟩ := h
    intro u hu
    rw [e] at hu
    rcases List.mem_append.1 hu with hu | hu
    · exact Rep.one d c1 k1 u hu
    · exact RepSeq.oneC ds c2 k2 u hu
end
end

/-! ### Owned rows of typed data -/
section
variable {α : Type} {w0 w : World} {M M' : Mem} {H : List Ent} {sz : Nat} {f : α → Dat} {xs : List α}
/-- An owned row becomes known. -/
theorem Hp.rowSli {e : TypeId} {v : Value} {cs : List Value} (h : Hp w0 M (.row e sz v xs.length cs :: H) w) (hf : ∀ x, Szd sz (f x)) (hr : RepSeq M (xs.map f) cs) :
    ∃ A cap M', v = .slice A xs.length cap ∧ M.le M' ∧ Hp w0 M' H w ∧ Sli M' sz f A cap xs := by
  have hs : ∀ d ∈ xs.map f, Szd sz d := fun d hd => by obtain ⟨x, _, rfl⟩ := List.mem_map.1 hd; exact hf x
  obtain ⟨M', h1, h2, h3⟩ := h.rowKnown
  rcases h3 with ⟨rfl, hn, rfl⟩ | ⟨ad, cap, rfl, hcap, _, hc⟩
  · have : xs = [] := List.eq_nil_of_length_eq_zero hn
    subst this
    exact ⟨none, 0, M', rfl, h1, h2, Sli.nil⟩
  · exact ⟨some ad, cap, M', rfl, h1, h2, hcap, (fun e => by cases e), .inr ⟨ad, rfl, RepSeq.arr hs (RepSeq.mono h1 _ _ hr) hc⟩⟩
/-- The row's block: its address and its cells. -/
theorem Hp.rowAddr {e : TypeId} {n : Nat} {v : Value} {cs : List Value} (h : Hp w0 M H w) (i : Nat) (he : H[i]? = some (.row e sz v n cs)) (hn : 0 < n) :
    ∃ g cap, v = .slice (some ⟨g, 0, none⟩) n cap ∧ n ≤ cap := by
  obtain ⟨h1, h2⟩ := h.rowAt i he
  rcases h2 with ⟨rfl, hn'⟩ | ⟨g, cap, cur, rfl, hg, hh, hnc, hcm, hcs, htk⟩
  · omega
  · exact ⟨g, cap, rfl, hnc⟩
theorem Hp.rowCell {e : TypeId} {n m cap g : Nat} {v : Value} {cs : List Value} (h : Hp w0 M H w) (i : Nat) (he : H[i]? = some (.row e sz v n cs)) (hv : v = .slice (some ⟨g, 0, none⟩) m cap) (j : Nat) (u : Value) (hu : cs[j]? = some u) :
    w.cell? ⟨g, j, none⟩ = some u := by
  obtain ⟨h1, h2⟩ := h.rowAt i he
  rcases h2 with ⟨h3, _⟩ | ⟨g', cap', cur, h3, hg, hh, hnc, hcm, hcs, htk⟩
  · rw [h3] at hv; cases hv
  · rw [h3] at hv; cases hv
    have hj : j < n * sz := h1 ▸ (List.getElem?_eq_some_iff.1 hu).1
    rw [cell_of_row w _ _ cur e (0, 0) hh, ← Array.getElem?_toList]
    rw [← htk, List.getElem?_take_of_lt hj] at hu
    simpa using hu
/-- Cutting an owned row at its front part. -/
theorem Hp.rowShape {e : TypeId} {n : Nat} {v : Value} {cs : List Value} (h : Hp w0 M H w) (i : Nat) (he : H[i]? = some (.row e sz v n cs)) : ∃ A cap, v = .slice A n cap ∧ n ≤ cap ∧ (A = none → cap = 0) := by
  rcases (h.rowAt i he).2 with ⟨rfl, rfl⟩ | ⟨g, cap, cur, rfl, hg, hh, hnc, _⟩
  · exact ⟨none, 0, rfl, Nat.le_refl _, fun _ => rfl⟩
  · exact ⟨_, cap, rfl, hnc, fun e => by cases e⟩
theorem Hp.rowTrunc {e : TypeId} {n m cap g : Nat} {v : Value} {cs : List Value} (h : Hp w0 M (.row e sz v n cs :: H) w) (hv : v = .slice (some ⟨g, 0, none⟩) n cap) (hm : m ≤ n) :
    Hp w0 M (.row e sz (.slice (some ⟨g, 0, none⟩) m cap) m (cs.take (m * sz)) :: H) w := by
  rcases h.rowObj with ⟨h1, h2, h3, h4⟩ | ⟨g', cap', cur, h1, h2, h3, h4, h5, h6, h7⟩
  · rw [h1] at hv; cases hv
  · rw [h1] at hv; cases hv
    have hle : m * sz ≤ n * sz := Nat.mul_le_mul_right _ hm
    refine h7.objRow (by omega) h3 h4 ?_ ?_
    · rw [← h5, List.take_take, Nat.min_eq_left hle]
    · rw [List.length_take, h6, Nat.min_eq_left hle]
/-- Storing into one cell of an owned row. -/
theorem Hp.rowSet {e : TypeId} {n m cap g : Nat} {v : Value} {cs : List Value} (h : Hp w0 M (.row e sz v n cs :: H) w) (hv : v = .slice (some ⟨g, 0, none⟩) m cap) (j : Nat) (hj : j < cs.length) (u : Value) :
    Hp w0 M (.row e sz v n (cs.set j u) :: H) (w.setCell ⟨g, j, none⟩ u) ∧ w.frozen? ⟨g, j, none⟩ = false ∧ ∃ x, w.cell? ⟨g, j, none⟩ = some x := by
  rcases h.rowObj with ⟨h1, h2, h3, h4⟩ | ⟨g', cap', cur, h1, h2, h3, h4, h5, h6, h7⟩
  · rw [h1] at hv; cases hv
  · rw [h1] at hv; cases hv
    have hjl : j < n * sz := h6 ▸ hj
    have hsz : n * sz ≤ cur.size := Nat.le_trans (Nat.mul_le_mul_right _ h2) h4.1
    refine ⟨?_, h7.ownFrozen 0 rfl j (by omega), ⟨_, (h7.ownCell 0 rfl j).trans (Array.getElem?_eq_getElem (by omega))⟩⟩
    subst h1
    refine (h7.setCell j u).objRow h2 h3 (by simpa using h4) ?_ (by simp [h6])
    rw [← h5, Array.toList_setIfInBounds, List.take_set]
end

section
variable {α : Type} {P : Program} {ops : Array Oper} {n : Nat} {Q : Exit → Act → World → Prop} {L : Fr} {a : Act} {w0 w : World} {M : Mem} {H : List Ent} {sz : Nat} {f : α → Dat}
/-- append of a known slice to the row that stands first among the owned. -/
theorem W_appendS {o : Oper} {rest : List Oper} {d : Nat} {t e : TypeId} {x y : Operand} {z v : Value} {bytes c : Nat} {A : Option Addr} {xs ys : List α} {cs : List Value} (hf : Frm n L a dd) (hp : Hp w0 M (.row e sz v xs.length cs :: H) w) 
    (hcs : RepSeq M (xs.map f) cs) (hys : Sli M sz f A c ys)
    (hw : wantedL ops L o = some true) (hr : readyL L o = true) (hd : o.dst = some d) (hdn : Nat.blt d n = true) (ho : o.op = .call { callee := .builtin .append, args := #[x, y], argTypes := #[t, t] })
    (hx : ev L x = v) (hy : ev L y = .slice A ys.length c) (ht : P.underlying t = some (.slice e)) (hi : infoIs P e z sz bytes = true)
    (hb : (xs.length + ys.length) * bytes ≤ 140737488355328) (h63 : xs.length + ys.length ≤ 9223372036854775807)
    (hk' : ∀ A cap cs' w', Hp w0 M (.row e sz (.slice A (xs ++ ys).length cap) (xs ++ ys).length cs' :: H) w' → RepSeq M ((xs ++ ys).map f) cs' → ∀ a', Frm n ((d, .slice A (xs ++ ys).length cap) :: L) a' dd → wpList P ops Q rest a' w') : wpList P ops Q (o :: rest) a w := by
  have hk : ∀ v' cs' w', Hp w0 M (.row e sz v' (xs ++ ys).length cs' :: H) w' → RepSeq M ((xs ++ ys).map f) cs' → ∀ a', Frm n ((d, v') :: L) a' dd → wpList P ops Q rest a' w' := fun v' cs' w' hp' hr' a' ha => by
    obtain ⟨A, cap, rfl, _⟩ := hp'.rowShape 0 rfl
    exact hk' A cap cs' w' hp' hr' a' ha
  obtain ⟨h1, h2, h3⟩ := hys
  rcases A with _ | ad
  · have h0 := h2 rfl
    have hy0 : ys = [] := List.eq_nil_of_length_eq_zero (by omega)
    subst hy0; subst h0
    refine W_append_nil hf hp hw hr hd hdn ho hx hy ht hi fun a' ha => hk v cs w ?_ ?_ a' ha
    · simpa using hp
    · simpa using hcs
  · have h5 : RepArr M sz (ys.map f) ad := by
      rcases h3 with h3 | ⟨ad', e', h5⟩
      · subst h3; trivial
      · cases e'; exact h5
    obtain ⟨news, k1, k2, k3⟩ := RepArr.cells h5
    refine W_append (z := z) (news := news) hf hp hw hr hd hdn ho hx hy ht hi (by simpa using k1) (fun j u hu => hp.cell (k3 j u hu)) (RepSeq.oneC _ _ k2) hb h63 fun v' w' hp' a' ha => hk v' (cs ++ news) w' ?_ (hcs.more k2) a' ha
    rw [List.length_append]; exact hp'
end
end Go.Vc

/-
  VC, part 17: what the automatic generator's proofs use. Own work.
-/
namespace Go.Vc
open Go Go.RowKit
variable {dd : List Deferred}

theorem br_elim {τ Λ : Type} {x : Option Λ} {j : Lp τ Λ} {k : τ → Option Λ} {r : Λ} (h : x.map Lp.br = some j) (h2 : joinF j k = some r) : x = some r := by
  obtain ⟨l, h3, rfl⟩ := Option.map_eq_some_iff.1 h
  rw [h3]; exact h2
theorem getI_getD {xs : List UInt8} {i : Int} {c : UInt8} (h : getI xs i = some c) : xs.getD i.toNat 0 = c := by
  obtain ⟨_, _, h3⟩ := getI_some h
  simp [List.getD, h3]
theorem getI_pos {α : Type} {xs : List α} {i : Int} {x : α} (h : getI xs i = some x) : 0 < xs.length := by
  have := getI_lt h; have := getI_nn h; omega
theorem getI_map {α β : Type} {f : α → β} {xs : List α} {i : Int} {x : α} (h : getI xs i = some x) : (xs.map f)[i.toNat]? = some (f x) := by
  rw [List.getElem?_map, (getI_some h).2.2]; rfl
theorem inR_wrap {k : IntKind} {x : Int} (h : inR k x) : k.wrap x = x := by
  cases k <;> simp [inR, IntKind.min, IntKind.max, IntKind.signed, IntKind.bits, IntKind.wrap] at * <;> omega
theorem szd_all {α : Type} {sz : Nat} {f : α → Dat} {xs : List α} (h : ∀ x, Szd sz (f x)) : ∀ d ∈ xs.map f, Szd sz d := fun d hd => by
  obtain ⟨x, _, rfl⟩ := List.mem_map.1 hd; exact h x
def embB (c : UInt8) : Dat := .int .u8 (c.toNat : Int)
theorem szd_byte (c : UInt8) : Szd 1 (embB c) := szd_int _ _
theorem embB_of {M : Mem} {n : Int} (h : 0 ≤ n ∧ n < 256) : Rep M (embB (UInt8.ofNat n.toNat)) [.int .u8 n] := by
  show _ = [_]
  rw [← byte_mk h.1 h.2]
theorem fz_part {C : Addr → Option Value} {cells : List Value} {base : Addr} (h : ∀ j v, cells[j]? = some v → C (base.add j) = some v) (off : Nat) {cs : List Value} (he : (cells.drop off).take cs.length = cs) :
    ∀ j v, cs[j]? = some v → C ((base.add off).add j) = some v := fun j v hv => by
  rw [add_of_add]
  have hj : j < cs.length := (List.getElem?_eq_some_iff.1 hv).1
  rw [← he, List.getElem?_take_of_lt hj, List.getElem?_drop] at hv
  exact h _ _ hv
theorem fz_whole {C : Addr → Option Value} {cells : List Value} {base : Addr} (h : ∀ j v, cells[j]? = some v → C (base.add j) = some v) : ∀ j v, cells[j]? = some v → C (base.add j) = some v := h
theorem row_at {w : World} {g k : Nat} {cs c : List Value} (h : ∀ j u, cs[j]? = some u → w.cell? ⟨g, j, none⟩ = some u) (hc : ∀ j v, c[j]? = some v → cs[k + j]? = some v) (j : Nat) (v : Value) (hv : c[j]? = some v) :
    w.cell? (((⟨g, 0, none⟩ : Addr).add k).add j) = some v := by
  rw [add_of_add, Addr.add_lit, Nat.zero_add]; exact h _ _ (hc j v hv)
theorem RepSeq.set1 {M : Mem} {α : Type} {f : α → Dat} {x : α} {v : Value} (hf : ∀ x, Szd 1 (f x)) (hv : Rep M (f x) [v]) : ∀ {xs : List α} {cs : List Value} (i : Nat), RepSeq M (xs.map f) cs → RepSeq M ((xs.set i x).map f) (cs.set i v)
  | [], cs, i, h => by rw [show cs = [] from h]; rfl
  | y :: xs, cs, i, h => by
    obtain ⟨c1, c2, e, k1, k2⟩ := h
    have hl := hf y M c1 k1
    obtain ⟨u, rfl⟩ := List.length_eq_one_iff.1 hl
    subst e
    cases i with
    | zero => exact ⟨[v], c2, rfl, hv, k2⟩
    | succ i => exact ⟨[u], c2.set i v, rfl, k1, RepSeq.set1 hf hv i k2⟩
theorem Sli.cutFrom {α : Type} {M : Mem} {sz : Nat} {f : α → Dat} {A : Option Addr} {cap : Nat} {xs : List α} (h : Sli M sz f A cap xs) {a : Nat} (ha : a ≤ xs.length) : Sli M sz f (cutA A sz a cap) (cap - a) (xs.drop a) := by
  have := h.cut ha (Nat.le_refl _)
  rwa [List.take_length] at this

section
variable {P : Program} {w : World} {ρ : Operand → Value} {o : Oper}
theorem X_rem {t t' : Nat} {x y : Operand} {k : IntKind} {a b : Int} (ho : o.op = .binOp .rem t x y t') (hx : ρ x = .int k a) (hy : ρ y = .int k b) (h : b ≠ 0) : (execOp ρ o).run P w = .ok (.value (.int k (a.tmod b))) w := by
  unfold execOp
  simp only [ho, hx, hy, eqGuard, binOp, Op.intDiv, Sem.run_bind]
  simp only [if_neg h]
  simp
theorem X_quo {t t' : Nat} {x y : Operand} {k : IntKind} {a b : Int} (ho : o.op = .binOp .quo t x y t') (hx : ρ x = .int k a) (hy : ρ y = .int k b) (h : b ≠ 0) (hr : inR k (a.tdiv b)) : (execOp ρ o).run P w = .ok (.value (.int k (a.tdiv b))) w := by
  unfold execOp
  simp only [ho, hx, hy, eqGuard, binOp, Op.intDiv, Sem.run_bind]
  simp only [if_neg h, inR_wrap hr]
  simp
theorem X_strgt {t t' : Nat} {x y : Operand} {l m : List UInt8} (ho : o.op = .binOp .gtr t x y t') (hx : ρ x = S l) (hy : ρ y = S m) : (execOp ρ o).run P w = .ok (.value (.bool (!(Op.bytesLess l m || l == m)))) w := by
  unfold execOp
  simp only [ho, hx, hy, eqGuard, binOp, Op.stringOp, mkS_toList]
  rfl
theorem X_strle {t t' : Nat} {x y : Operand} {l m : List UInt8} (ho : o.op = .binOp .leq t x y t') (hx : ρ x = S l) (hy : ρ y = S m) : (execOp ρ o).run P w = .ok (.value (.bool (Op.bytesLess l m || l == m))) w := by
  unfold execOp
  simp only [ho, hx, hy, eqGuard, binOp, Op.stringOp, mkS_toList]
  rfl
theorem X_strge {t t' : Nat} {x y : Operand} {l m : List UInt8} (ho : o.op = .binOp .geq t x y t') (hx : ρ x = S l) (hy : ρ y = S m) : (execOp ρ o).run P w = .ok (.value (.bool (!(Op.bytesLess l m)))) w := by
  unfold execOp
  simp only [ho, hx, hy, eqGuard, binOp, Op.stringOp, mkS_toList]
  rfl
end

section
variable {α : Type} {P : Program} {ops : Array Oper} {n : Nat} {Q : Exit → Act → World → Prop} {L : Fr} {a : Act} {w0 w : World} {M : Mem} {H : List Ent} {sz : Nat} {f : α → Dat}
/-- append of new elements to the row that stands first among the owned. -/
theorem W_appendL {o : Oper} {rest : List Oper} {d : Nat} {t e : TypeId} {x y : Operand} {z v : Value} {bytes m c : Nat} {ad : Addr} {xs ys : List α} {cs news : List Value} (hf : Frm n L a dd) (hp : Hp w0 M (.row e sz v xs.length cs :: H) w)
    (hcs : RepSeq M (xs.map f) cs) (hys : RepSeq M (ys.map f) news)
    (hw : wantedL ops L o = some true) (hr : readyL L o = true) (hd : o.dst = some d) (hdn : Nat.blt d n = true) (ho : o.op = .call { callee := .builtin .append, args := #[x, y], argTypes := #[t, t] })
    (hx : ev L x = v) (hy : ev L y = .slice (some ad) m c) (ht : P.underlying t = some (.slice e)) (hi : infoIs P e z sz bytes = true) (hl : (ys.length, news.length) = (m, m * sz))
    (hn : ∀ j u, news[j]? = some u → w.cell? (ad.add j) = some u)
    (hb : (xs.length + m) * bytes ≤ 140737488355328) (h63 : xs.length + m ≤ 9223372036854775807)
    (hk' : ∀ A cap cs' w', Hp w0 M (.row e sz (.slice A (xs ++ ys).length cap) (xs ++ ys).length cs' :: H) w' → RepSeq M ((xs ++ ys).map f) cs' → ∀ a', Frm n ((d, .slice A (xs ++ ys).length cap) :: L) a' dd → wpList P ops Q rest a' w') : wpList P ops Q (o :: rest) a w := by
  have hk : ∀ v' cs' w', Hp w0 M (.row e sz v' (xs ++ ys).length cs' :: H) w' → RepSeq M ((xs ++ ys).map f) cs' → ∀ a', Frm n ((d, v') :: L) a' dd → wpList P ops Q rest a' w' := fun v' cs' w' hp' hr' a' ha => by
    obtain ⟨A, cap, rfl, _⟩ := hp'.rowShape 0 rfl
    exact hk' A cap cs' w' hp' hr' a' ha
  simp only [Prod.mk.injEq] at hl
  refine W_append (z := z) (news := news) hf hp hw hr hd hdn ho hx hy ht hi hl.2 hn (RepSeq.oneC _ _ hys) hb h63 fun v' w' hp' a' ha => hk v' (cs ++ news) w' ?_ (hcs.more hys) a' ha
  rw [List.length_append, hl.1]; exact hp'
/-- Storing an element into an owned row (of one-cell elements). -/
theorem W_rowstore {o : Oper} {rest : List Oper} {t e : TypeId} {x y : Operand} {it : Int} {m cap g : Nat} {v0 v : Value} {d : List α} {xv x0 : α} {cs : List Value} (hf : Frm n L a dd) (hp : Hp w0 M (.row e 1 v0 d.length cs :: H) w) (hv0 : v0 = .slice (some ⟨g, 0, none⟩) m cap)
    (hw : wantedL ops L o = some true) (hr : readyL L o = true) (hd : o.dst = none) (ho : o.op = .store t x y) (hx : ev L x = .pointer (some ((⟨g, 0, none⟩ : Addr).add (it.toNat * 1)))) (hy : ev L y = v) (hv : Rep M (f xv) [v]) (hs : szIs P t 1 = true) (hfs : ∀ x, Szd 1 (f x)) (hg : getI d it = some x0)
    (hcs : RepSeq M (d.map f) cs) (hk : ∀ w', Hp w0 M (.row e 1 v0 (d.set it.toNat xv).length (cs.set it.toNat v) :: H) w' → RepSeq M ((d.set it.toNat xv).map f) (cs.set it.toNat v) → ∀ a', Frm n L a' dd → wpList P ops Q rest a' w') : wpList P ops Q (o :: rest) a w := by
  have hlen : cs.length = d.length := by have := RepSeq.len (szd_all hfs) hcs; simpa using this
  have hlt : it.toNat < cs.length := by have := getI_lt hg; have := getI_nn hg; omega
  obtain ⟨h1, h2, u, h3⟩ := hp.rowSet hv0 it.toNat hlt v
  rw [Nat.mul_one, Addr.add_lit, Nat.zero_add] at hx
  refine W_skip hf hw hr hd (X_store1 ho hx hy (Rep.one _ _ hv v (by simp)) hs h3 h2) (hk _ ?_ (RepSeq.set1 hfs hv _ hcs))
  rw [List.length_set]; exact h1
end
theorem fz_box {C : Addr → Option Value} {b : Nat} {cs : Array Value} (h : ∀ j v, cs[j]? = some v → C ⟨b, j, none⟩ = some v) : ∀ j v, cs.toList[j]? = some v → C ((⟨b, 0, none⟩ : Addr).add j) = some v := fun j v hv => by
  rw [Addr.add_lit, Nat.zero_add]; exact h j v (by simpa using hv)
theorem fz_at {C : Addr → Option Value} {cells : List Value} {base : Addr} (h : ∀ j v, cells[j]? = some v → C (base.add j) = some v) (off : Nat) {cs : List Value} (he : (cells.drop off).take cs.length = cs) :
    ∀ j v, cs[j]? = some v → C ((base.add off).add j) = some v := fz_part h off he
/-- Data whose spelling hangs on no memory. -/
def Flat (d : Dat) : Prop := ∀ M M' cs, Rep M d cs → Rep M' d cs
theorem flat_int (k : IntKind) (n : Int) : Flat (.int k n) := fun _ _ _ h => h
theorem flat_bool (b : Bool) : Flat (.bool b) := fun _ _ _ h => h
theorem flat_str (l : List UInt8) : Flat (.str l) := fun _ _ _ h => h
theorem flat_byte (c : UInt8) : Flat (embB c) := fun _ _ _ h => h
theorem flat_nil : Flat (.struct []) := fun _ _ _ h => h
theorem flat_cons {d : Dat} {ds : List Dat} (h1 : Flat d) (h2 : Flat (.struct ds)) : Flat (.struct (d :: ds)) := fun M M' cs h => by
  obtain ⟨c1, c2, e, k1, k2⟩ := h
  exact ⟨c1, c2, e, h1 M M' c1 k1, h2 M M' c2 k2⟩
theorem RepSeq.flat {α : Type} {f : α → Dat} (hf : ∀ x, Flat (f x)) : ∀ {M M' : Mem} (xs : List α) {cs : List Value}, RepSeq M (xs.map f) cs → RepSeq M' (xs.map f) cs
  | _, _, [], _, h => h
  | M, M', x :: xs, cs, h => by
    obtain ⟨c1, c2, e, k1, k2⟩ := h
    exact ⟨c1, c2, e, hf x M M' c1 k1, RepSeq.flat hf xs k2⟩
/-- An owned row is lent: known for a while, and given back. -/
theorem Hp.lend {α : Type} {w0 w : World} {M : Mem} {H : List Ent} {sz : Nat} {f : α → Dat} {xs : List α} {e : TypeId} {v : Value} {cs : List Value} (h : Hp w0 M (.row e sz v xs.length cs :: H) w) (hf : ∀ x, Szd sz (f x)) (hr : RepSeq M (xs.map f) cs) :
    ∃ M1 A cap, M.le M1 ∧ v = .slice A xs.length cap ∧ Hp w0 M1 H w ∧ Sli M1 sz f A cap xs ∧
      ∀ M' H' w', M1.le M' → Hp w0 M' H' w' → ∃ M2, M.le M2 ∧ Hp w0 M2 (.row e sz v xs.length cs :: H') w' := by
  have hs : ∀ d ∈ xs.map f, Szd sz d := szd_all hf
  rcases h.rowObj with ⟨h1, h2, h3, h4⟩ | ⟨g, cap, cur, h1, h2, h3, h4, h5, h6, h7⟩
  · have hx : xs = [] := List.eq_nil_of_length_eq_zero h2
    subst hx; subst h1; subst h3
    exact ⟨M, none, 0, Mem.le_refl M, rfl, h4, Sli.nil, fun M' H' w' hM hp => ⟨M', hM, hp.nilRow _ _⟩⟩
  · obtain ⟨k1, k2⟩ := h7.freeze
    have hfree := h7.head_free
    have hge := h7.start_le
    refine ⟨_, some ⟨g, 0, none⟩, cap, k1, h1, k2, ⟨h2, (fun e => by cases e), .inr ⟨_, rfl, RepSeq.arr hs (RepSeq.mono k1 _ _ hr) fun j u hu => ?_⟩⟩, fun M' H' w' hM hp => ?_⟩
    · rw [Addr.add_lit, add_cell, ← Array.getElem?_toList, Nat.zero_add]
      have hj : j < xs.length * sz := h6 ▸ (List.getElem?_eq_some_iff.1 hu).1
      rw [← h5, List.getElem?_take_of_lt hj] at hu
      exact hu
    · refine ⟨M'.del g, Mem.le_del (k1.trans hM) hfree, ?_⟩
      have h8 := hp.thaw (hM _ _ (Mem.add_get M g _)) hge
      rw [h1]
      exact h8.objRow h2 h3 h4 h5 h6
theorem RepSeq.replicate {α : Type} {M : Mem} {f : α → Dat} {x : α} {z : Value} (h : Rep M (f x) [z]) : ∀ n, RepSeq M ((List.replicate n x).map f) (List.replicate n z)
  | 0 => rfl
  | n + 1 => by
    rw [List.replicate_succ, List.replicate_succ, List.map_cons]
    exact ⟨[z], _, rfl, h, RepSeq.replicate h n⟩
/-- 'make([]T, m)', T of one cell: an owned row. -/
theorem W_makeD {α : Type} {P : Program} {ops : Array Oper} {n : Nat} {Q : Exit → Act → World → Prop} {L : Fr} {a : Act} {w0 w : World} {M : Mem} {H : List Ent} {f : α → Dat} {o : Oper} {rest : List Oper} {d : Nat} {t e : TypeId} {l c : Operand} {z : Value} {bytes : Nat} {m : Int} {x : α} (hf : Frm n L a dd) (hp : Hp w0 M H w) (hx : Rep M (f x) [z]) (hw : wantedL ops L o = some true) (hr : readyL L o = true)
    (hd : o.dst = some d) (hdn : Nat.blt d n = true) (ho : o.op = .makeSlice t l c) (hl : ev L l = .int .i64 m) (hc : ev L c = .int .i64 m) (ht : P.underlying t = some (.slice e)) (hinfo : (P.info? e).map (fun i => (i.zero, i.size, i.bytes)) = some (some z, 1, bytes)) (hz : z.cells = #[z])
    (hb : 0 ≤ m ∧ m * bytes ≤ 140737488355328 ∧ m ≤ 140737488355328)
    (hk' : ∀ A cap cs w', Hp w0 M (.row e 1 (.slice A (List.replicate m.toNat x).length cap) (List.replicate m.toNat x).length cs :: H) w' → RepSeq M ((List.replicate m.toNat x).map f) cs → ∀ a', Frm n ((d, .slice A (List.replicate m.toNat x).length cap) :: L) a' dd → wpList P ops Q rest a' w') : wpList P ops Q (o :: rest) a w := by
  have hk : ∀ v cs w', Hp w0 M (.row e 1 v (List.replicate m.toNat x).length cs :: H) w' → RepSeq M ((List.replicate m.toNat x).map f) cs → ∀ a', Frm n ((d, v) :: L) a' dd → wpList P ops Q rest a' w' := fun v cs w' hp' hr' a' ha => by
    obtain ⟨A, cap, rfl, _⟩ := hp'.rowShape 0 rfl
    exact hk' A cap cs w' hp' hr' a' ha
  obtain ⟨k, rfl⟩ := Int.eq_ofNat_of_zero_le hb.1
  have h1 : bytes * k ≤ 140737488355328 := by
    have h := hb.2.1
    have e : ((k * bytes : Nat) : Int) = (k : Int) * (bytes : Int) := Int.natCast_mul k bytes
    rw [Nat.mul_comm]
    omega
  have h2 : k ≤ 140737488355328 := by have := hb.2.2; omega
  refine W_make hf hp hw hr hd hdn ho hl hc ht hinfo hz (by omega) (by omega) fun b w' hp' a' ha => ?_
  refine hk _ (List.replicate k z) w' ?_ (RepSeq.replicate hx _) a' ha
  rw [List.length_replicate]
  exact hp'.objRow (Nat.le_refl _) (by unfold maxLen; omega) (blk_eq (by unfold maxLen; omega) (by rw [List.size_toArray, List.length_replicate, Nat.mul_one])) (by rw [Nat.mul_one]; exact List.take_of_length_le (by rw [List.length_replicate]; exact Nat.le_refl _)) (by rw [List.length_replicate, Nat.mul_one])
theorem Hp.rowVal {w0 w : World} {M : Mem} {H : List Ent} {e : TypeId} {sz n : Nat} {v v' : Value} {cs : List Value} (h : Hp w0 M (.row e sz v n cs :: H) w) (he : v = v') : Hp w0 M (.row e sz v' n cs :: H) w := he ▸ h
/-- Bytes known as data. -/
theorem RepSeq.bytes {M : Mem} : ∀ l : List UInt8, RepSeq M (l.map embB) (byteCs l)
  | [] => rfl
  | c :: l => ⟨[.int .u8 c.toNat], byteCs l, rfl, rfl, RepSeq.bytes l⟩
theorem RepSeq.bytes_eq {M : Mem} : ∀ {l : List UInt8} {cs : List Value}, RepSeq M (l.map embB) cs → cs = byteCs l
  | [], cs, h => h
  | c :: l, cs, h => by
    obtain ⟨c1, c2, e, k1, k2⟩ := h
    rw [e, show c1 = [_] from k1, RepSeq.bytes_eq k2]; rfl
end Go.Vc

/-
  VC, part 18: scopes of labels; maps of typed data among the owned. Own work.
-/
namespace Go.Vc
open Go Go.RowKit
variable {dd : List Deferred}

def inScope (Q : Exit → Act → World → Prop) : Exit → Act → World → Prop
  | .goto _, _, _ => False
  | e, a, w => Q e a w
section
variable {P : Program} {Q : Exit → Act → World → Prop} {a : Act} {w : World}
theorem S_n (h : Q .normal a w) : inScope Q .normal a w := h
theorem S_x {i : Nat} (h : Q (.exit i) a w) : inScope Q (.exit i) a w := h
theorem S_r (h : Q .ret a w) : inScope Q .ret a w := h
theorem step_scope {c : Code} {b : Frame} {k : List Item} {cs : List Frame} : step P (lone (b.at a (.code (.scope c) :: k)) cs w) = .next (lone (b.at a (.code c :: .inScope c :: k)) cs w) :=
  step_lone_go (by simp [stepG, stepG.exec, Frame.at])
theorem step_inScope {c : Code} {b : Frame} {k : List Item} {cs : List Frame} : step P (lone (b.at a (.inScope c :: k)) cs w) = .next (lone (b.at a k) cs w) :=
  step_lone_go (by simp [stepG, stepG.exec, Frame.at])
theorem wp_scope {c : Code} (h : c.wp P (inScope Q) a w) : (Code.scope c).wp P Q a w := by
  intro b k cs
  obtain ⟨e, a₁, w₁, hq, harr⟩ := h b (.inScope c :: k) cs
  cases e with
  | normal => exact ⟨.normal, a₁, w₁, hq, .head step_scope (Steps.trans harr (.one step_inScope))⟩
  | exit id => exact ⟨.exit id, a₁, w₁, hq, fun k' hk => .head step_scope (harr k' (by simp [exitTo, hk]))⟩
  | goto l => exact hq.elim
  | ret => exact ⟨_, a₁, w₁, hq, .of_steps (.one step_scope) harr⟩
  | panic ch => exact ⟨_, a₁, w₁, hq, .of_steps (.one step_scope) harr⟩
  | outgrown => exact ⟨_, a₁, w₁, hq, .of_steps (b := b) (k := k) (cs := cs) (e := .outgrown) (.one step_scope) harr⟩
end

/-- 'len' of an owned row. -/
theorem X_lenRow {P : Program} {w0 w : World} {M : Mem} {H : List Ent} {ρ : Operand → Value} {o : Oper} {x : Operand} {t : TypeId} {e : TypeId} {sz n : Nat} {v : Value} {cs : List Value} (ho : o.op = .call { callee := .builtin .len, args := #[x], argTypes := #[t] }) (hx : ρ x = v) {e' : TypeId} (ht : P.underlying t = some (.slice e'))
    (hp : Hp w0 M H w) (i : Nat) (he : H[i]? = some (.row e sz v n cs)) : (execOp ρ o).run P w = .ok (.value (.int .i64 ((n : Nat) : Int))) w := by
  have : ∃ A cap, v = .slice A n cap := by
    rcases (hp.rowAt i he).2 with ⟨rfl, rfl⟩ | ⟨g, cap, cur, rfl, _⟩
    · exact ⟨_, _, rfl⟩
    · exact ⟨_, _, rfl⟩
  obtain ⟨A, cap, rfl⟩ := this
  unfold execOp
  have hu : (underlying t).run P w = .ok (.slice e') w := run_underlying ht w
  simp only [ho, resolve, invoke, builtin, List.map_toArray, List.map_cons, List.map_nil, hx, Sem.run_bind, Sem.run_pure, Result.andThen_ok]
  simp [Builtin.len_, Sem.run_bind, hu, goInt]

def bAnd (k : IntKind) (x y : Int) : Int := k.wrap ((BitVec.ofInt k.bits x &&& BitVec.ofInt k.bits y).toNat)
def bOr (k : IntKind) (x y : Int) : Int := k.wrap ((BitVec.ofInt k.bits x ||| BitVec.ofInt k.bits y).toNat)
def bXor (k : IntKind) (x y : Int) : Int := k.wrap ((BitVec.ofInt k.bits x ^^^ BitVec.ofInt k.bits y).toNat)
def bNot (k : IntKind) (x y : Int) : Int := k.wrap ((BitVec.ofInt k.bits x &&& ~~~(BitVec.ofInt k.bits y)).toNat)
def bShr (k : IntKind) (x y : Int) : Int := x.fdiv (2 ^ min y.toNat k.bits)
def bShl (k : IntKind) (x y : Int) : Int := k.wrap (x * 2 ^ min y.toNat k.bits)
theorem wrap_byte (k : IntKind) (h : k = .i64 ∨ k = .i32 ∨ k = .u8 ∨ k = .u32 ∨ k = .u64 ∨ k = .u16 ∨ k = .i16) (c : UInt8) : k.wrap ((c.toNat : Nat) : Int) = ((c.toNat : Nat) : Int) := by
  have := c.toNat_lt
  rcases h with rfl | rfl | rfl | rfl | rfl | rfl | rfl <;> simp [IntKind.wrap, IntKind.bits, IntKind.signed] <;> omega
/-! ### Maps -/
section
variable {κ V : Type} [DecidableEq κ]
def mget : List (κ × V) → κ → Option V
  | [], _ => none
  | p :: r, k => if p.1 = k then some p.2 else mget r k
def mput : List (κ × V) → κ → V → List (κ × V)
  | [], k, v => [(k, v)]
  | p :: r, k, v => if p.1 = k then (k, v) :: r else p :: mput r k v
theorem mget_mput {m : List (κ × V)} {k j : κ} {v : V} : mget (mput m k v) j = if k = j then some v else mget m j := by
  induction m with
  | nil => simp [mput, mget]
  | cons p r ih =>
    unfold mput
    by_cases h : p.1 = k
    · rw [if_pos h]
      simp only [mget]
      by_cases hk : k = j
      · simp [hk]
      · have : ¬ p.1 = j := fun e => hk (h ▸ e)
        simp [hk, this]
    · rw [if_neg h]
      simp only [mget, ih]
      by_cases hp : p.1 = j
      · have : ¬ k = j := fun e => h (hp.trans e.symm)
        simp [hp, this]
      · simp [hp]
theorem lkAt_map {ev : V → Value} {k : κ} : ∀ (m : List (κ × V)) (j : Nat), (lkAt k (m.map fun p => (p.1, ev p.2)) j).map (·.2) = (mget m k).map ev
  | [], j => rfl
  | p :: r, j => by
    simp only [List.map_cons, lkAt, mget]
    by_cases h : p.1 = k
    · simp [h]
    · simp only [h, if_false]; exact lkAt_map r (j + 1)
theorem lkAt_shift {k : κ} : ∀ (m : List (κ × Value)) (j : Nat), lkAt k m (j + 1) = (lkAt k m j).map fun q => (q.1 + 1, q.2)
  | [], j => rfl
  | p :: r, j => by
    simp only [lkAt]
    by_cases h : p.1 = k
    · simp [h]
    · simp only [h, if_false]; exact lkAt_shift r (j + 1)
theorem updM_map {ev : V → Value} {k : κ} {v : V} : ∀ (m : List (κ × V)), updM (m.map fun p => (p.1, ev p.2)) k (ev v) = (mput m k v).map fun p => (p.1, ev p.2)
  | [] => rfl
  | p :: r => by
    have ih := updM_map (ev := ev) (k := k) (v := v) r
    unfold updM at ih ⊢
    simp only [List.map_cons, lkAt, mput]
    by_cases h : p.1 = k
    · simp [h]
    · simp only [h, if_false, List.map_cons]
      rw [lkAt_shift]
      cases hl : lkAt k (r.map fun p => (p.1, ev p.2)) 0 with
      | none => rw [hl] at ih; simp only [Option.map_none] at ih ⊢; rw [← ih]; rfl
      | some q => rw [hl] at ih; simp only [Option.map_some, List.set_cons_succ] at ih ⊢; rw [← ih]
/-- The object of a map of typed data. -/
def mapO (ek : κ → Value) (ev : V → Value) (m : List (κ × V)) : Obj := mObj ek (m.map fun p => (p.1, ev p.2))
variable {P : Program} {ops : Array Oper} {n : Nat} {Q : Exit → Act → World → Prop} {L : Fr} {a : Act} {w0 w : World} {M : Mem} {H : List Ent} {ek : κ → Value} {ev : V → Value}
theorem X_lookup1 {o : Oper} {ρ : Operand → Value} {t kt et : TypeId} {x ix : Operand} {b : Nat} {m : List (κ × V)} {k : κ} {z : V} (ho : o.op = .lookup t x ix false) (hx : ρ x = .map (some b)) (hk : ρ ix = ek k) (ht : P.underlying t = some (.map kt et)) (K : KeyLaw P kt ek)
    (hz : (P.info? et).bind (·.zero) = some (ev z)) (hb : w.heap[b]? = some (mapO ek ev m)) : (execOp ρ o).run P w = .ok (.value (ev ((mget m k).getD z))) w := by
  have := X_lookup (ok := false) ho hx hk ht K hz hb
  rw [this, lkAt_map]
  cases mget m k <;> rfl
theorem X_lookup2 {o : Oper} {ρ : Operand → Value} {t kt et : TypeId} {x ix : Operand} {b : Nat} {m : List (κ × V)} {k : κ} {z : V} (ho : o.op = .lookup t x ix true) (hx : ρ x = .map (some b)) (hk : ρ ix = ek k) (ht : P.underlying t = some (.map kt et)) (K : KeyLaw P kt ek)
    (hz : (P.info? et).bind (·.zero) = some (ev z)) (hb : w.heap[b]? = some (mapO ek ev m)) : (execOp ρ o).run P w = .ok (.value (.tuple #[ev ((mget m k).getD z), .bool (mget m k).isSome])) w := by
  have := X_lookup (ok := true) ho hx hk ht K hz hb
  have e := lkAt_map (ev := ev) (k := k) m 0
  rw [this, e]
  have h2 : (lkAt k (m.map fun p => (p.1, ev p.2)) 0).isSome = (mget m k).isSome := by
    cases h : lkAt k (m.map fun p => (p.1, ev p.2)) 0 <;> cases h' : mget m k <;> simp [h, h'] at e ⊢
  rw [h2]
  cases mget m k <;> rfl
theorem W_newmap {κ V : Type} {o : Oper} {rest : List Oper} {d : Nat} {t : TypeId} (ek : κ → Value) (ev : V → Value) (hf : Frm n L a dd) (hp : Hp w0 M H w) (hw : wantedL ops L o = some true) (hr : readyL L o = true)
    (hd : o.dst = some d) (hdn : Nat.blt d n = true) (ho : o.op = .makeMap t none)
    (hk : ∀ b w', Hp w0 M (.obj b (mapO ek ev []) :: H) w' → ∀ a', Frm n ((d, .map (some b)) :: L) a' dd → wpList P ops Q rest a' w') : wpList P ops Q (o :: rest) a w :=
  W_makeMap ek hf hp hw hr hd hdn ho hk
theorem W_mapput {o : Oper} {rest : List Oper} {t kt et : TypeId} {x ix y : Operand} {b : Nat} {m : List (κ × V)} {k : κ} {v : V} (hf : Frm n L a dd) (hp : Hp w0 M (.obj b (mapO ek ev m) :: H) w) (hw : wantedL ops L o = some true) (hr : readyL L o = true) (hd : o.dst = none)
    (ho : o.op = .mapUpdate t x ix y ∨ o.op = .insert t x ix y) (hx : Vc.ev L x = .map (some b)) (hk : Vc.ev L ix = ek k) (hv : Vc.ev L y = ev v) (ht : P.underlying t = some (.map kt et)) (K : KeyLaw P kt ek)
    (hq : ∀ w', Hp w0 M (.obj b (mapO ek ev (mput m k v)) :: H) w' → ∀ a', Frm n L a' dd → wpList P ops Q rest a' w') : wpList P ops Q (o :: rest) a w := by
  refine W_mapUpdate hf hp hw hr hd ho hx hk hv ht K fun w' hp' a' ha => hq w' ?_ a' ha
  rw [updM_map] at hp'; exact hp'
end
end Go.Vc

/-
  VC, part 19: parts of owned rows. Own work.
-/
namespace Go.Vc
open Go Go.RowKit
variable {dd : List Deferred}

section
variable {w0 w : World} {M : Mem} {H : List Ent} {b : Nat} {T : TypeId} {fr : Nat × Nat} {sz : Nat}
/-- The front part of an owned row. -/
theorem Hp.rowFront {e : TypeId} {n m : Nat} {A : Option Addr} {cap : Nat} {v : Value} {cs : List Value} (h : Hp w0 M (.row e sz v n cs :: H) w) (hv : v = .slice A n cap) (hm : m ≤ n) :
    Hp w0 M (.row e sz (.slice (cutA A sz 0 cap) m cap) m (cs.take (m * sz)) :: H) w := by
  have hown := h.own _ List.mem_cons_self
  rcases hown.2 with ⟨h1, h2⟩ | ⟨g, cap', cur, h1, _⟩
  · rw [h1] at hv; cases hv
    have : m = 0 := by omega
    subst this
    have hcs : cs = [] := List.eq_nil_of_length_eq_zero (by rw [hown.1, h2]; simp)
    subst hcs
    simpa [cutA] using h.drop.nilRow e sz
  · rw [h1] at hv; cases hv
    have : cutA (some ⟨g, 0, none⟩) sz 0 cap = some ⟨g, 0, none⟩ := by
      unfold cutA; split
      · rfl
      · simp [Addr.add]
    rw [this]
    exact h.rowTrunc h1 hm
/-- The front part of an owned row, its room cut off. -/
theorem Hp.rowFull {e : TypeId} {n m : Nat} {A : Option Addr} {cap : Nat} {v : Value} {cs : List Value} (h : Hp w0 M (.row e sz v n cs :: H) w) (hv : v = .slice A n cap) (hm : m ≤ n) :
    Hp w0 M (.row e sz (.slice (cutA A sz 0 m) m m) m (cs.take (m * sz)) :: H) w := by
  rcases h.rowObj with ⟨h1, h2, h3, h4⟩ | ⟨g, cap', cur, h1, h2, h3, h4, h5, h6, h7⟩
  · rw [h1] at hv; cases hv
    have : m = 0 := by omega
    subst this
    subst h3
    simpa [cutA] using h4.nilRow e sz
  · rw [h1] at hv; cases hv
    have hA : cutA (some ⟨g, 0, none⟩) sz 0 m = some ⟨g, 0, none⟩ := by
      unfold cutA; split
      · rfl
      · simp [Addr.add]
    rw [hA]
    have hle : m * sz ≤ n * sz := Nat.mul_le_mul_right _ hm
    refine h7.objRow (Nat.le_refl _) (by omega) ⟨Nat.le_trans (Nat.mul_le_mul_right _ (by omega : m ≤ cap)) h4.1, h4.2⟩ ?_ ?_
    · rw [← h5, List.take_take, Nat.min_eq_left hle]
    · rw [List.length_take, h6, Nat.min_eq_left hle]
/-- A part of an owned row, as a source. -/
theorem Hp.rowPart {e : TypeId} {n lo hi : Nat} {A : Option Addr} {cap : Nat} {v : Value} {cs : List Value} (h : Hp w0 M H w) (i : Nat) (he : H[i]? = some (.row e sz v n cs)) (hv : v = .slice A n cap) (h1 : lo ≤ hi) (h2 : hi ≤ n) :
    (cutA A sz lo cap = none ∧ hi - lo = 0 ∧ cap - lo = 0) ∨ ∃ ad, cutA A sz lo cap = some ad ∧ ∀ j u, ((cs.take (hi * sz)).drop (lo * sz))[j]? = some u → w.cell? (ad.add j) = some u := by
  have hown := h.rowAt i he
  rcases hown.2 with ⟨h3, h4⟩ | ⟨g, cap', cur, h3, hg, hh, hnc, hcm, hcs, htk⟩
  · rw [h3] at hv; cases hv
    exact .inl ⟨by unfold cutA; split <;> rfl, by omega, by omega⟩
  · have hvv : v = .slice (some ⟨g, 0, none⟩) n cap' := h3
    rw [h3] at hv; cases hv
    by_cases hc : cap = lo
    · refine .inr ⟨⟨g, 0, none⟩, by simp [cutA, hc], fun j u hu => ?_⟩
      have : hi = lo := by omega
      subst this
      simp at hu
    · refine .inr ⟨(⟨g, 0, none⟩ : Addr).add (lo * sz), by simp [cutA, hc], fun j u hu => ?_⟩
      rw [add_of_add, Addr.add_lit, Nat.zero_add]
      refine h.rowCell i he hvv _ u ?_
      rw [List.getElem?_drop] at hu
      have hj : lo * sz + j < hi * sz := by
        have := (List.getElem?_eq_some_iff.1 hu).1
        rw [List.length_take] at this; omega
      rwa [List.getElem?_take_of_lt hj] at hu
end
section
variable {α : Type} {P : Program} {ops : Array Oper} {n : Nat} {Q : Exit → Act → World → Prop} {L : Fr} {a : Act} {w0 w : World} {M : Mem} {H : List Ent} {sz : Nat} {f : α → Dat}
theorem RepSeq.takeD {M : Mem} : ∀ {ds : List Dat} {c : List Value} (i : Nat), (∀ d ∈ ds, Szd sz d) → RepSeq M ds c → RepSeq M (ds.take i) (c.take (i * sz))
  | [], c, i, _, h => by rw [show c = [] from h]; simp [RepSeq]
  | d :: ds, c, 0, _, _ => by simp [RepSeq]
  | d :: ds, c, i + 1, hs, h => by
    obtain ⟨c1, c2, e, k1, k2⟩ := h
    have hl := hs d List.mem_cons_self M c1 k1
    refine ⟨c1, c2.take (i * sz), ?_, k1, RepSeq.takeD i (fun d hd => hs d (List.mem_cons_of_mem _ hd)) k2⟩
    rw [e, List.take_append, hl, show (i + 1) * sz - sz = i * sz by rw [Nat.add_mul]; omega, List.take_of_length_le (by rw [hl, Nat.add_mul]; omega)]
theorem RepSeq.dropD {M : Mem} : ∀ {ds : List Dat} {c : List Value} (i : Nat), (∀ d ∈ ds, Szd sz d) → RepSeq M ds c → RepSeq M (ds.drop i) (c.drop (i * sz))
  | [], c, i, _, h => by rw [show c = [] from h]; simp [RepSeq]
  | d :: ds, c, 0, _, h => by simpa using h
  | d :: ds, c, i + 1, hs, h => by
    obtain ⟨c1, c2, e, k1, k2⟩ := h
    have hl := hs d List.mem_cons_self M c1 k1
    have := RepSeq.dropD i (fun d hd => hs d (List.mem_cons_of_mem _ hd)) k2
    have e0 : c1.drop ((i + 1) * sz) = [] := List.drop_eq_nil_of_le (by rw [hl, Nat.add_mul]; omega)
    rw [List.drop_succ_cons, e, List.drop_append, e0, List.nil_append, hl, show (i + 1) * sz - sz = i * sz by rw [Nat.add_mul]; omega]
    exact this
/-- append of a part of an owned row (which stays) to the row that stands first. -/
theorem W_appendP {o : Oper} {rest : List Oper} {d : Nat} {t e : TypeId} {x y : Operand} {z v : Value} {bytes lo hi : Nat} {A : Option Addr} {cap : Nat} {v2 : Value} {xs ys : List α} {cs cs2 : List Value} (hf : Frm n L a dd) (hp : Hp w0 M (.row e sz v xs.length cs :: H) w) (hs : ∀ x, Szd sz (f x))
    (hcs : RepSeq M (xs.map f) cs) (hys : RepSeq M (ys.map f) cs2) (i : Nat) (he : (.row e sz v xs.length cs :: H)[i]? = some (.row e sz v2 ys.length cs2)) (hv2 : v2 = .slice A ys.length cap) (h1 : lo ≤ hi) (h2 : hi ≤ ys.length)
    (hw : wantedL ops L o = some true) (hr : readyL L o = true) (hd : o.dst = some d) (hdn : Nat.blt d n = true) (ho : o.op = .call { callee := .builtin .append, args := #[x, y], argTypes := #[t, t] })
    (hx : ev L x = v) (hy : ev L y = .slice (cutA A sz lo cap) (hi - lo) (cap - lo)) (ht : P.underlying t = some (.slice e)) (hi' : infoIs P e z sz bytes = true)
    (hb : (xs.length + (hi - lo)) * bytes ≤ 140737488355328) (h63 : xs.length + (hi - lo) ≤ 9223372036854775807)
    (hk' : ∀ A cap cs' w', Hp w0 M (.row e sz (.slice A (xs ++ (ys.take hi).drop lo).length cap) (xs ++ (ys.take hi).drop lo).length cs' :: H) w' → RepSeq M ((xs ++ (ys.take hi).drop lo).map f) cs' → ∀ a', Frm n ((d, .slice A (xs ++ (ys.take hi).drop lo).length cap) :: L) a' dd → wpList P ops Q rest a' w') : wpList P ops Q (o :: rest) a w := by
  have hk : ∀ v' cs' w', Hp w0 M (.row e sz v' (xs ++ (ys.take hi).drop lo).length cs' :: H) w' → RepSeq M ((xs ++ (ys.take hi).drop lo).map f) cs' → ∀ a', Frm n ((d, v') :: L) a' dd → wpList P ops Q rest a' w' := fun v' cs' w' hp' hr' a' ha => by
    obtain ⟨A, cap, rfl, _⟩ := hp'.rowShape 0 rfl
    exact hk' A cap cs' w' hp' hr' a' ha
  have hseg : RepSeq M (((ys.take hi).drop lo).map f) ((cs2.take (hi * sz)).drop (lo * sz)) := by
    rw [List.map_drop, List.map_take]
    exact RepSeq.dropD lo (fun d hd => szd_all hs d (List.mem_of_mem_take hd)) (RepSeq.takeD hi (szd_all hs) hys)
  have hlen : ((ys.take hi).drop lo).length = hi - lo := by rw [List.length_drop, List.length_take, Nat.min_eq_left h2]
  rcases hp.rowPart i he hv2 h1 h2 with ⟨e1, e2, e3⟩ | ⟨ad, e1, e2⟩
  · rw [e1, e2, e3] at hy
    have hy0 : (ys.take hi).drop lo = [] := List.eq_nil_of_length_eq_zero (by omega)
    refine W_append_nil hf hp hw hr hd hdn ho hx hy ht hi' fun a' ha => hk v cs w ?_ ?_ a' ha
    · rw [hy0, List.append_nil]; exact hp
    · rw [hy0, List.append_nil]; exact hcs
  · rw [e1] at hy
    have hl : ((cs2.take (hi * sz)).drop (lo * sz)).length = (hi - lo) * sz := by
      have := RepSeq.len (szd_all hs) hseg
      rw [this, List.length_map, hlen]
    refine W_append (z := z) hf hp hw hr hd hdn ho hx hy ht hi' hl e2 (RepSeq.oneC _ _ hseg) hb h63 fun v' w' hp' a' ha => hk v' _ w' ?_ (hcs.more hseg) a' ha
    rw [List.length_append, hlen]; exact hp'
/-- append(row[:k], row[k+1:]...): one element taken out of an owned row. -/
theorem W_rowRemove {o : Oper} {rest : List Oper} {d : Nat} {t e : TypeId} {x y : Operand} {z v : Value} {bytes k : Nat} {A : Option Addr} {cap : Nat} {xs : List α} {cs : List Value} (hf : Frm n L a dd) (hp : Hp w0 M (.row e sz v xs.length cs :: H) w) (hs : ∀ x, Szd sz (f x))
    (hcs : RepSeq M (xs.map f) cs) (hv : v = .slice A xs.length cap) (hk : k < xs.length)
    (hw : wantedL ops L o = some true) (hr : readyL L o = true) (hd : o.dst = some d) (hdn : Nat.blt d n = true) (ho : o.op = .call { callee := .builtin .append, args := #[x, y], argTypes := #[t, t] })
    (hx : ev L x = .slice (cutA A sz 0 cap) k cap) (hy : ev L y = .slice (cutA A sz (k + 1) cap) (xs.length - (k + 1)) (cap - (k + 1))) (ht : P.underlying t = some (.slice e)) (hi : infoIs P e z sz bytes = true)
    (hq' : ∀ A cap cs' w', Hp w0 M (.row e sz (.slice A (xs.take k ++ xs.drop (k + 1)).length cap) (xs.take k ++ xs.drop (k + 1)).length cs' :: H) w' → RepSeq M ((xs.take k ++ xs.drop (k + 1)).map f) cs' → ∀ a', Frm n ((d, .slice A (xs.take k ++ xs.drop (k + 1)).length cap) :: L) a' dd → wpList P ops Q rest a' w') : wpList P ops Q (o :: rest) a w := by
  have hq : ∀ v' cs' w', Hp w0 M (.row e sz v' (xs.take k ++ xs.drop (k + 1)).length cs' :: H) w' → RepSeq M ((xs.take k ++ xs.drop (k + 1)).map f) cs' → ∀ a', Frm n ((d, v') :: L) a' dd → wpList P ops Q rest a' w' := fun v' cs' w' hp' hr' a' ha => by
    obtain ⟨A, cap, rfl, _⟩ := hp'.rowShape 0 rfl
    exact hq' A cap cs' w' hp' hr' a' ha
  obtain ⟨i, u, hi1, hi2, hi3, hi4, hi5, hi6⟩ := info_of hi
  rcases hp.rowObj with ⟨h1, h2, _⟩ | ⟨g, capX, cur, h1, h2, h3, h4, h5, h6, h7⟩
  · omega
  · rw [h1] at hv; cases hv
    have hseg : RepSeq M ((xs.drop (k + 1)).map f) (cs.drop ((k + 1) * sz)) := by rw [List.map_drop]; exact RepSeq.dropD _ (szd_all hs) hcs
    have hl : (cs.drop ((k + 1) * sz)).length = (xs.length - (k + 1)) * sz := by
      have := RepSeq.len (szd_all hs) hseg
      rw [this]; simp
    have hA : cutA (some ⟨g, 0, none⟩) sz 0 cap = some ⟨g, 0, none⟩ := by
      unfold cutA; split
      · rfl
      · simp [Addr.add]
    rw [hA] at hx
    have hmul : k * sz + (cs.drop ((k + 1) * sz)).length ≤ xs.length * sz := by
      rw [hl, ← Nat.add_mul]; exact Nat.mul_le_mul_right _ (by omega)
    have hcur : xs.length * sz ≤ cur.size := Nat.le_trans (Nat.mul_le_mul_right _ h2) h4.1
    -- the source's address and cells
    obtain ⟨ad, ead, hcells⟩ : ∃ ad, cutA (some ⟨g, 0, none⟩) sz (k + 1) cap = some ad ∧ ∀ j u, (cs.drop ((k + 1) * sz))[j]? = some u → w.cell? (ad.add j) = some u := by
      rcases hp.rowPart 0 rfl h1 (show k + 1 ≤ xs.length by omega) (Nat.le_refl _) with ⟨e1, _⟩ | ⟨ad, e1, e2⟩
      · unfold cutA at e1; split at e1 <;> simp at e1
      · refine ⟨ad, e1, fun j u hu => e2 j u ?_⟩
        rw [List.take_of_length_le (by rw [h6]; exact Nat.le_refl _)]; exact hu
    rw [ead] at hy
    have hrun := run_append_room_cells (P := P) (w := w) t o.type e i ht hi1 g 0 k cap ad (xs.length - (k + 1)) (cap - (k + 1)) (cs.drop ((k + 1) * sz)) (by rw [hi3]; exact hl) hcells (RepSeq.oneC _ _ hseg) (by omega)
      (fun j hj => by
        rw [hi3, Nat.zero_add, h7.ownCell 0 rfl]
        have : k * sz + j < cur.size := by omega
        simp [this])
      (fun j hj => by rw [hi3, Nat.zero_add]; exact h7.ownFrozen 0 rfl _ (by omega))
    rw [hi3, Nat.zero_add] at hrun
    have h8 := h7.setCells (cs.drop ((k + 1) * sz)) (k * sz)
    have hlen : (xs.take k ++ xs.drop (k + 1)).length = k + (xs.length - (k + 1)) := by simp; omega
    refine W_eq hf hw hr hd hdn (X_append ho hx hy hrun) (hq _ (cs.take (k * sz) ++ cs.drop ((k + 1) * sz)) _ ?_ ?_)
    · rw [hlen]
      refine h8.objRow (by omega) h3 (by rw [setM_size]; exact h4) ?_ ?_
      · rw [setM_list _ _ _ (by omega), ← h5, List.append_assoc, List.take_append, List.length_take]
        have hk1 : k * sz ≤ (k + (xs.length - (k + 1))) * sz := Nat.mul_le_mul_right _ (by omega)
        have hk2 : k * sz ≤ xs.length * sz := Nat.mul_le_mul_right _ (by omega)
        rw [List.take_take, Nat.min_eq_right hk1, List.take_take, Nat.min_eq_left hk2, Array.length_toList (xs := cur), Nat.min_eq_left (by omega : k * sz ≤ cur.size)]
        congr 1
        rw [List.take_append_of_le_length (by rw [← h5] at hl; rw [hl, Nat.add_mul]; omega), List.take_of_length_le (by rw [← h5] at hl; rw [hl, Nat.add_mul]; omega)]
      · rw [List.length_append, hl, List.length_take, h6, Nat.min_eq_left (Nat.mul_le_mul_right _ (by omega)), Nat.add_mul]
    · rw [List.map_append, List.map_take]
      exact (RepSeq.takeD k (szd_all hs) hcs).append hseg
end
end Go.Vc
namespace Go.Vc
open Go Go.RowKit
variable {dd : List Deferred}
/-! ### Regions that draw their order, whose last operations wait for one another -/
section
variable {P : Program} {ops : Array Oper} {n : Nat} {K : Act → Prop} {L : Fr} {a : Act} {w0 w : World} {M : Mem} {H : List Ent}
theorem ST_eq {o : Oper} {rest : List Oper} {v : Value} {d : Nat} (hf : Frm n L a dd) (hw : wantedL ops L o = some true) (hr : readyL L o = true) (hd : o.dst = some d) (hdn : Nat.blt d n = true)
    (hx : (execOp (ev L) o).run P w = .ok (.value v) w) (hk : ∀ a', Frm n ((d, v) :: L) a' dd → wpStill P ops w K rest a') : wpStill P ops w K (o :: rest) a := by
  simp only [wpStill]
  rw [hf.wanted hw, if_pos rfl]
  unfold Oper.still
  rw [hf.exec hr, hx]
  refine ⟨rfl, ?_⟩
  rw [hd]; exact hk _ (hf.put (by simpa [Nat.blt_eq] using hdn) v)
theorem ST_not {o : Oper} {rest : List Oper} {d : Nat} (hf : Frm n L a dd) (hw : wantedL ops L o = some false) (hd : o.dst = some d) (hdn : Nat.blt d n = true)
    (hk : ∀ a', Frm n ((d, undef) :: L) a' dd → wpStill P ops w K rest a') : wpStill P ops w K (o :: rest) a := by
  simp only [wpStill]
  rw [hf.wanted hw, if_neg (by simp)]
  rw [hd]; exact hk _ (hf.put (by simpa [Nat.blt_eq] using hdn) undef)
theorem ST_end {l : List Oper} (hl : l = []) (h : K a) : wpStill P ops w K l a := by subst hl; exact h
theorem R_drawT {id : Nat} {Q : Exit → Act → World → Prop} {l : List Oper} (m : Nat) (hp : Hp w0 M H w) (hm : P.follows .mixedOrders = true) (hB : Region.lexTailB .any l.toArray m = true)
    (h : ∀ w', Hp w0 M H w' → wpStill P l.toArray w' (fun a' => wpList P l.toArray Q (l.drop m) a' w') (l.take m) a) : (Code.region id l.toArray true).wp P Q a w :=
  wp_region_still_tail m hm hB (h _ hp.drew)
end
end Go.Vc

