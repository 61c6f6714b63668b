/-
  VC, part 1: a frame as a short list of known slots; runs of operations that the kernel reckons; the rules of control flow.
  Own work. Nothing here knows a program: P is a variable.
-/
import Derived.WalkKit
import Derived.Deep.Quiet
namespace Go.Vc
open Go

abbrev Fr := List (Nat × Value)

def look : Fr → Nat → Option Value
  | [], _ => none
  | (s, v) :: r, t => bif Nat.beq s t then some v else look r t

def ev (L : Fr) : Operand → Value
  | .tmp t => (look L t).getD undef
  | .const v => v
  | .global g => .pointer (some ⟨g, 0, none⟩)
  | .func f => .func (.func f) #[] #[]

def has (L : Fr) : Operand → Bool
  | .tmp t => (look L t).isSome
  | _ => true

def wantedL (ops : Array Oper) (L : Fr) (o : Oper) : Option Bool :=
  match o.guard with
  | none => some true
  | some (j, want) => match ((ops[j]?).bind (·.dst)).bind (look L) with
    | some (.bool b) => some (b == want)
    | some _ => some false
    | none => none

def putL (n : Nat) (L : Fr) (d : Option Nat) (v : Value) : Option Fr :=
  match d with
  | none => some L
  | some d => bif Nat.blt d n then some ((d, v) :: L) else none

def noSelect (o : Oper) : Bool := match o.op with | .select .. => false | _ => true

def readyL (L : Fr) (o : Oper) : Bool := o.op.operands.toList.all (has L) && noSelect o

def runL (P : Program) (ops : Array Oper) (n : Nat) : List Oper → Fr → World → Option (Fr × World)
  | [], L, w => some (L, w)
  | o :: os, L, w => match wantedL ops L o with
    | none => none
    | some false => (putL n L o.dst undef).bind fun L' => runL P ops n os L' w
    | some true => bif readyL L o then
        match (execOp (ev L) o).run P w with
        | .ok (.value v) w' => (putL n L o.dst v).bind fun L' => runL P ops n os L' w'
        | .ok .skip w' => (putL n L o.dst undef).bind fun L' => runL P ops n os L' w'
        | _ => none
      else none

/-- Of the slots ks alone. -/
def keep : List Nat → Fr → Option Fr
  | [], _ => some []
  | k :: ks, L => match look L k, keep ks L with
    | some v, some r => some ((k, v) :: r)
    | _, _ => none

def runK (P : Program) (ops : Array Oper) (n : Nat) (l : List Oper) (ks : List Nat) (L : Fr) (w : World) : Option (Fr × World) :=
  (runL P ops n l L w).bind fun r => (keep ks r.1).map fun K => (K, r.2)

structure Frm (n : Nat) (L : Fr) (a : Act) : Prop where
  size : a.tmps.size = n
  defers : a.defers = []
  at_ : ∀ t v, look L t = some v → a.tmps[t]? = some v

section
variable {n : Nat} {L L' : Fr} {a : Act}

theorem beq_ne {a b : Nat} (h : ¬ a = b) : Nat.beq a b = false := by
  cases h' : Nat.beq a b with
  | false => rfl
  | true => exact absurd (Nat.eq_of_beq_eq_true h') h

theorem Frm.ev (h : Frm n L a) {x : Operand} (hx : has L x = true) : a.eval x = ev L x := by
  cases x with
  | tmp t =>
    simp only [has] at hx
    obtain ⟨v, hv⟩ := Option.isSome_iff_exists.1 hx
    have := h.at_ t v hv
    simp [Act.eval, Vc.ev, hv, this]
  | const v => rfl
  | global g => rfl
  | func f => rfl

theorem Frm.exec (h : Frm n L a) {o : Oper} (hr : readyL L o = true) : execOp a.eval o = execOp (Vc.ev L) o := by
  simp only [readyL, Bool.and_eq_true, List.all_eq_true] at hr
  refine execOp_congr o (fun cs b e => ?_) (fun x hx => h.ev (hr.1 x (by simpa using hx)))
  have := hr.2
  simp [noSelect, e] at this

theorem Frm.wanted (h : Frm n L a) {ops : Array Oper} {o : Oper} {b : Bool} (hw : wantedL ops L o = some b) : Region.wanted o (yielded ops a.tmps) = b := by
  unfold wantedL at hw
  unfold Region.wanted
  cases hg : o.guard with
  | none => simp only [hg] at hw ⊢; exact (Option.some.inj hw)
  | some jw =>
    obtain ⟨j, want⟩ := jw
    simp only [hg] at hw ⊢
    unfold yielded
    cases ht : (ops[j]?).bind (·.dst) with
    | none => simp [ht] at hw
    | some t =>
      simp only [ht, Option.bind_some] at hw ⊢
      cases hv : look L t with
      | none => simp [hv] at hw
      | some v =>
        rw [h.at_ t v hv]
        simp only [hv] at hw
        cases v <;> simp_all

theorem Frm.put (h : Frm n L a) {d : Nat} (hd : d < n) (v : Value) : Frm n ((d, v) :: L) (a.put (some d) v) := by
  refine ⟨by simp [Act.put, h.size], by simp [Act.put, h.defers], fun t u hu => ?_⟩
  simp only [look] at hu
  by_cases e : d = t
  · subst e
    simp only [Nat.beq_refl, cond_true, Option.some.injEq] at hu
    subst hu
    simp [Act.put, h.size, hd]
  · have : Nat.beq d t = false := beq_ne e
    simp only [this, cond_false] at hu
    simp [Act.put, e, h.at_ t u hu]

theorem Frm.putL (h : Frm n L a) {d : Option Nat} {v : Value} (hp : putL n L d v = some L') : Frm n L' (a.put d v) := by
  cases d with
  | none => simp only [Vc.putL, Option.some.injEq] at hp; subst hp; exact h
  | some d =>
    simp only [Vc.putL] at hp
    cases hb : Nat.blt d n with
    | false => simp [hb] at hp
    | true =>
      simp only [hb, cond_true, Option.some.injEq] at hp
      subst hp
      exact h.put (by simpa [Nat.blt_eq] using hb) v

theorem keep_look : ∀ {ks : List Nat} {K : Fr}, keep ks L = some K → ∀ t v, look K t = some v → look L t = some v
  | [], K, h, t, v, hv => by simp only [keep, Option.some.injEq] at h; subst h; simp [look] at hv
  | k :: ks, K, h, t, v, hv => by
    simp only [keep] at h
    split at h
    · rename_i u r hu hr
      simp only [Option.some.injEq] at h
      subst h
      simp only [look] at hv
      by_cases e : k = t
      · subst e
        simp only [Nat.beq_refl, cond_true, Option.some.injEq] at hv
        subst hv
        exact hu
      · have : Nat.beq k t = false := beq_ne e
        simp only [this, cond_false] at hv
        exact keep_look hr t v hv
    · cases h

theorem Frm.keep (h : Frm n L a) {ks : List Nat} {K : Fr} (hk : keep ks L = some K) : Frm n K a :=
  ⟨h.size, h.defers, fun t v hv => h.at_ t v (keep_look hk t v hv)⟩

/-- A frame whose slots hold the same under another spelling. -/
theorem Frm.of_eq (h : Frm n L a) (e : L = L') : Frm n L' a := e ▸ h

theorem look_cons_ne {L : Fr} {s t : Nat} {v : Value} (h : Nat.beq s t = false) : look ((s, v) :: L) t = look L t := by simp [look, h]

/-- One slot's value under another spelling: laid ahead of the others. -/
theorem Frm.set (h : Frm n L a) (k : Nat) {v v' : Value} (hl : look L k = some v) (e : v = v') : Frm n ((k, v') :: L) a := by
  subst e
  refine ⟨h.size, h.defers, fun t u hu => ?_⟩
  simp only [look] at hu
  by_cases e : k = t
  · subst e
    simp only [Nat.beq_refl, cond_true, Option.some.injEq] at hu
    subst hu
    exact h.at_ _ _ hl
  · have : Nat.beq k t = false := beq_ne e
    simp only [this, cond_false] at hu
    exact h.at_ t u hu
end

/-! ### Runs -/
section
variable {P : Program} {ops : Array Oper} {n : Nat} {Q : Exit → Act → World → Prop}

theorem wp_value {o : Oper} {a : Act} {w w' : World} {K : Act → World → Prop} {v : Value} (h : (execOp a.eval o).run P w = .ok (.value v) w') (hk : K (a.put o.dst v) w') : o.wp P a w K Q := by
  unfold Oper.wp; rw [h]; exact hk
theorem wp_skip' {o : Oper} {a : Act} {w w' : World} {K : Act → World → Prop} (h : (execOp a.eval o).run P w = .ok .skip w') (hk : K (a.put o.dst undef) w') : o.wp P a w K Q := by
  unfold Oper.wp; rw [h]; exact hk

theorem run_sound (rest : List Oper) : ∀ (pre : List Oper) (L : Fr) (w : World) (a : Act), Frm n L a → ∀ L' w', runL P ops n pre L w = some (L', w') →
    (∀ a', Frm n L' a' → wpList P ops Q rest a' w') → wpList P ops Q (pre ++ rest) a w
  | [], L, w, a, hf, L', w', hr, hk => by
    simp only [runL, Option.some.injEq, Prod.mk.injEq] at hr
    obtain ⟨rfl, rfl⟩ := hr
    exact hk a hf
  | o :: os, L, w, a, hf, L', w', hr, hk => by
    simp only [runL] at hr
    simp only [List.cons_append, wpList]
    cases hw : wantedL ops L o with
    | none => simp [hw] at hr
    | some b =>
      rw [hf.wanted hw]
      cases b with
      | false =>
        simp only [hw] at hr
        obtain ⟨L1, h1, h2⟩ := Option.bind_eq_some_iff.1 hr
        exact run_sound rest os L1 w _ (hf.putL h1) L' w' h2 hk
      | true =>
        simp only [hw] at hr
        cases hrd : readyL L o with
        | false => simp [hrd] at hr
        | true =>
          simp only [hrd, cond_true] at hr
          have he := hf.exec hrd
          cases hx : (execOp (ev L) o).run P w with
          | halt x w1 => simp [hx] at hr
          | ok nx w1 =>
            cases nx with
            | value v =>
              simp only [hx] at hr
              obtain ⟨L1, h1, h2⟩ := Option.bind_eq_some_iff.1 hr
              exact .inl (wp_value (he ▸ hx) (run_sound rest os L1 w1 _ (hf.putL h1) L' w' h2 hk))
            | skip =>
              simp only [hx] at hr
              obtain ⟨L1, h1, h2⟩ := Option.bind_eq_some_iff.1 hr
              exact .inl (wp_skip' (he ▸ hx) (run_sound rest os L1 w1 _ (hf.putL h1) L' w' h2 hk))
            | _ => simp [hx] at hr

/-- THE RUN of the next m operations; of what is known behind them the slots ks are kept. -/
theorem W_run {L : Fr} {a : Act} {w : World} {l : List Oper} {L' : Fr} {w' : World} (hf : Frm n L a) (m : Nat) (ks : List Nat)
    (h : runK P ops n (l.take m) ks L w = some (L', w')) (hk : ∀ a', Frm n L' a' → wpList P ops Q (l.drop m) a' w') : wpList P ops Q l a w := by
  obtain ⟨r, h1, h2⟩ := Option.bind_eq_some_iff.1 h
  obtain ⟨K, h3, h4⟩ := Option.map_eq_some_iff.1 h2
  simp only [Prod.mk.injEq] at h4
  obtain ⟨rfl, rfl⟩ := h4
  have := run_sound (Q := Q) (l.drop m) (l.take m) L w a hf r.1 r.2 (by rw [h1]) (fun a' ha' => hk a' (ha'.keep h3))
  rwa [List.take_append_drop] at this

/-- ONE operation, by an equation on its run. -/
theorem W_eq {L : Fr} {a : Act} {w w' : World} {o : Oper} {rest : List Oper} {v : Value} {d : Nat} (hf : Frm n L a) (hw : wantedL ops L o = some true) (hr : readyL L o = true)
    (hd : o.dst = some d) (hdn : Nat.blt d n = true) (hx : (execOp (ev L) o).run P w = .ok (.value v) w') (hk : ∀ a', Frm n ((d, v) :: L) a' → wpList P ops Q rest a' w') : wpList P ops Q (o :: rest) a w := by
  simp only [wpList]
  rw [hf.wanted hw]
  refine .inl (wp_value ((hf.exec hr) ▸ hx) (hk _ ?_))
  rw [hd]
  exact hf.put (by simpa [Nat.blt_eq] using hdn) v

/-- ONE operation that yields nothing (a store). -/
theorem W_skip {L : Fr} {a : Act} {w w' : World} {o : Oper} {rest : List Oper} (hf : Frm n L a) (hw : wantedL ops L o = some true) (hr : readyL L o = true)
    (hd : o.dst = none) (hx : (execOp (ev L) o).run P w = .ok .skip w') (hk : ∀ a', Frm n L a' → wpList P ops Q rest a' w') : wpList P ops Q (o :: rest) a w := by
  simp only [wpList]
  rw [hf.wanted hw]
  refine .inl (wp_skip' ((hf.exec hr) ▸ hx) (hk _ ?_))
  rw [hd]
  exact hf

/-- A call of a Go function, by its contract. -/
theorem W_call {L : Fr} {a : Act} {w : World} {o : Oper} {rest : List Oper} {d : Nat} {f : FuncId} {args : Array Value} {R : Value → World → Prop} (hf : Frm n L a) (hw : wantedL ops L o = some true) (hr : readyL L o = true)
    (hd : o.dst = some d) (hdn : Nat.blt d n = true) (hx : (execOp (ev L) o).run P w = .ok (.enter f args) w) (hc : Calls P f args w fun e w' => ∃ v, e = .returned v ∧ R v w')
    (hk : ∀ v w', R v w' → ∀ a', Frm n ((d, v) :: L) a' → wpList P ops Q rest a' w') : wpList P ops Q (o :: rest) a w := by
  simp only [wpList]
  rw [hf.wanted hw]
  refine .inl ?_
  unfold Oper.wp
  rw [hf.exec hr, hx]
  refine hc.mono fun e w' he => ?_
  obtain ⟨v, rfl, hR⟩ := he
  refine hk v w' hR _ ?_
  rw [hd]
  exact hf.put (by simpa [Nat.blt_eq] using hdn) v

theorem W_end {a : Act} {w : World} {l : List Oper} (hl : l = []) (h : Q .normal a w) : wpList P ops Q l a w := by subst hl; exact h

/-! ### Control flow -/
theorem R_reg {id : Nat} {a : Act} {w : World} (h : wpList P ops Q ops.toList a w) : (Code.region id ops false).wp P Q a w := wp_region_list h

theorem R_seq {x y : Code} {a : Act} {w : World} (h : x.wp P (Exit.then (y.wp P Q) Q) a w) : (Code.seq x y).wp P Q a w := wp_seq h

theorem R_cond {L : Fr} {a : Act} {w : World} {c : Operand} {x y : Code} {b : Bool} (hf : Frm n L a) (hc : ev L c = .bool b) (hh : has L c = true)
    (ht : b = true → x.wp P Q a w) (hF : b = false → y.wp P Q a w) : (Code.cond c x y).wp P Q a w :=
  wp_cond_split ((hf.ev hh).trans hc) ht hF
theorem R_cond_t {L : Fr} {a : Act} {w : World} {c : Operand} {x y : Code} (hf : Frm n L a) (hc : ev L c = .bool true) (hh : has L c = true)
    (ht : x.wp P Q a w) : (Code.cond c x y).wp P Q a w := wp_cond ((hf.ev hh).trans hc) ht
theorem R_cond_f {L : Fr} {a : Act} {w : World} {c : Operand} {x y : Code} (hf : Frm n L a) (hc : ev L c = .bool false) (hh : has L c = true)
    (ht : y.wp P Q a w) : (Code.cond c x y).wp P Q a w := wp_cond ((hf.ev hh).trans hc) ht

theorem T_n {K : Act → World → Prop} {a : Act} {w : World} (h : K a w) : Exit.then K Q .normal a w := h
theorem T_x {K : Act → World → Prop} {a : Act} {w : World} {i : Nat} (h : Q (.exit i) a w) : Exit.then K Q (.exit i) a w := h
theorem T_r {K : Act → World → Prop} {a : Act} {w : World} (h : Q .ret a w) : Exit.then K Q .ret a w := h
theorem B_n {i : Nat} {a : Act} {w : World} (h : Q .normal a w) : Exit.inBlock i Q .normal a w := h
theorem B_r {i : Nat} {a : Act} {w : World} (h : Q .ret a w) : Exit.inBlock i Q .ret a w := h
theorem B_x {i : Nat} {a : Act} {w : World} (h : Q .normal a w) : Exit.inBlock i Q (.exit i) a w := by
  show (if i = i then Q .normal a w else Q (.exit i) a w)
  rw [if_pos rfl]; exact h
theorem B_o {i j : Nat} {a : Act} {w : World} (hij : Nat.beq j i = false) (h : Q (.exit j) a w) : Exit.inBlock i Q (.exit j) a w := by
  show (if j = i then Q .normal a w else Q (.exit j) a w)
  rw [if_neg (Nat.ne_of_beq_eq_false hij)]; exact h
end

/-! ### A call's beginning and end -/
def frame0 (args : List Value) (i : Nat) : Fr := match args with
  | [] => []
  | v :: r => (i, v) :: frame0 r (i + 1)

theorem look_frame0 : ∀ (args : List Value) (i t : Nat) (v : Value), look (frame0 args i) t = some v → i ≤ t ∧ args[t - i]? = some v
  | [], i, t, v, h => by simp [frame0, look] at h
  | u :: r, i, t, v, h => by
    simp only [frame0, look] at h
    by_cases e : i = t
    · subst e
      simp only [Nat.beq_refl, cond_true, Option.some.injEq] at h
      subst h
      simp
    · have : Nat.beq i t = false := beq_ne e
      simp only [this, cond_false] at h
      obtain ⟨h1, h2⟩ := look_frame0 r (i + 1) t v h
      refine ⟨by omega, ?_⟩
      rw [show t - i = (t - (i + 1)) + 1 by omega]
      simpa using h2

theorem R_enter {P : Program} {f : FuncId} {fn : Func} {c : Code} {args : List Value} {w : World} {R : Ending → World → Prop} (n : Nat)
    (hf : P.funcs[f]? = some fn) (hb : fn.body = some c) (hn : fn.ntmps = n) (hle : args.length ≤ n)
    (h : ∀ a, Frm n (frame0 args 0) a → c.wp P (bodyPost P fn R) a w) : Calls P f args.toArray w R := by
  refine calls_of_wp hf hb (h _ ⟨by simp [hn]; omega, rfl, fun t v hv => ?_⟩)
  obtain ⟨_, h2⟩ := look_frame0 args 0 t v hv
  simp only [Nat.sub_zero] at h2
  have hlt : t < args.length := (List.getElem?_eq_some_iff.1 h2).1
  rw [List.getElem?_eq_getElem hlt] at h2
  simp only [Option.some.injEq] at h2
  simp [Array.getElem?_append, hlt, h2]

/-! The end: the results stand in slots. -/
section
variable {P : Program} {fn : Func} {n : Nat} {L : Fr} {a : Act} {w : World} {R : Ending → World → Prop}
theorem slot_of (hf : Frm n L a) {t : Nat} {v : Value} (h : look L t = some v) : a.tmps.getD t undef = v := by simp [hf.at_ t v h]

theorem E_ret0 (hf : Frm n L a) (hr : fn.results = #[]) (h : R (.returned (.tuple #[])) w) : bodyPost P fn R .ret a w :=
  ⟨hf.defers, _, results_none hr _ P w, h⟩
theorem E_end0 (hf : Frm n L a) (hr : fn.results = #[]) (h : R (.returned (.tuple #[])) w) : bodyPost P fn R .normal a w :=
  ⟨hf.defers, _, results_none hr _ P w, h⟩
theorem E_ret1 {t : Nat} {v : Value} (hf : Frm n L a) (hr : fn.results = #[.tmp t]) (hv : look L t = some v) (h : R (.returned v) w) : bodyPost P fn R .ret a w :=
  ⟨hf.defers, _, by rw [results_tmp hr, slot_of hf hv], h⟩
theorem E_ret2 {t u : Nat} {v x : Value} (hf : Frm n L a) (hr : fn.results = #[.tmp t, .tmp u]) (hv : look L t = some v) (hx : look L u = some x) (h : R (.returned (.tuple #[v, x])) w) : bodyPost P fn R .ret a w :=
  ⟨hf.defers, _, by rw [results_tmp2 hr, slot_of hf hv, slot_of hf hx], h⟩
theorem E_ret3 {t u s : Nat} {v x y : Value} (hf : Frm n L a) (hr : fn.results = #[.tmp t, .tmp u, .tmp s]) (hv : look L t = some v) (hx : look L u = some x) (hy : look L s = some y)
    (h : R (.returned (.tuple #[v, x, y])) w) : bodyPost P fn R .ret a w :=
  ⟨hf.defers, _, by
    have h1 := slot_of hf hv; have h2 := slot_of hf hx; have h3 := slot_of hf hy
    simp only [Array.getD_eq_getD_getElem?] at h1 h2 h3
    simp [results, hr, h1, h2, h3], h⟩
end
end Go.Vc
