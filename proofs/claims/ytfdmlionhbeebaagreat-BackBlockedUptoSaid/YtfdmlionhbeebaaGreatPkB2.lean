/-
  Texts of this claim, packed (what nothing names is left out): VkL, VkM, Ty, Shelf, HdB, BackIt, Q2a, Vp, WalkIt, TreeP1, Q2b, Q2c, Vo2, BkP1, B1. Own work, partly printed by own programs. No condition.
-/
import Derived.Test.YtfdmlionhbeebaaGreatPkB1
import Derived.WideKeyRuns
import Derived.Shelf.Small.Bits
import Derived.Shelf.Small.Wraps
import Derived.Shelf.Strconv.Itoa0
import Derived.Shelf.Sort.Plain
import Derived.Shelf.Slices.Turned
import Derived.Ground.Names2Prog
import Derived.Shelf.Slices.Clone
import Derived.Shelf.Slices.CompactI
import Derived.Shelf.Slices.CompactS
import Derived.Shelf.Slices.SearchI
import Derived.Shelf.Slices.Cells
import Derived.Shelf.Slices.In.SortNone
import Derived.Test.YtfdmlionhbeebaaGreatProg
import Derived.Test.YtfdmlionhbeebaaGreatRows
set_option linter.unusedVariables false
set_option linter.unusedSimpArgs false
set_option maxHeartbeats 2000000
section
namespace Go.Vc
open Go Go.RowKit
variable {dd : List Deferred}
section
variable {σ α β : Type} {P : Program} {l : Nat} {vals : Mem → α → List Value → Prop} {Y : σ → α → Option (Lp σ β)}
theorem Frm.zip2 {n : Nat} {L : Fr} {a : Act} (h : Frm n L a) {p q : Nat} (hp : Nat.blt p n = true) (hq : Nat.blt q n = true) (v u : Value) : Frm n ((q, u) :: (p, v) :: L) { tmps := ((#[p, q] : Array Tmp).zip #[v, u]).foldl (fun t (p, v) => t.setIfInBounds p v) a.tmps, defers := [] } := by
 have := (h.put (d := p) (by simpa [Nat.blt_eq] using hp) v).put (d := q) (by simpa [Nat.blt_eq] using hq) u
 have e : ((#[p, q] : Array Tmp).zip #[v, u]).foldl (fun t (p, v) => t.setIfInBounds p v) a.tmps = ((a.put (some p) v).put (some q) u).tmps := by
  simp [Act.put]
 exact ⟨by rw [e]; exact this.size, rfl, by rw [e]; exact this.at_⟩
theorem R_range2 {n : Nat} {Lf : Fr} {g : Operand} {p q : Nat} {assign body : Code} {Q : Exit → Act → World → Prop} {a : Act} {w w0 : World} {M : Mem} {H E0 : List Ent} {f : FuncId} {caps : List Value}
  (hf : Frm n Lf a) (hp : Hp w0 M (E0 ++ H) w) (hg : has Lf g = true) (hgv : ev Lf g = .func (.func f) #[] caps.toArray) (hpn : Nat.blt p n = true) (hqn : Nat.blt q n = true) (eg : ∀ args w, (callFunc f args).run P w = .ok (.enter f args) w)
  (Ju : σ → Mem → List Ent → Prop) (Jxu : β → Mem → List Ent → Prop) (jm : β → Jmp) (s0 : σ) (r : Lp σ β) (hJ : Ju s0 M E0) (hgr : Grows Ju) (hgx : Grows Jxu)
  (hv1 : ∀ M x vs, vals M x vs → ∃ v u, vs = [v, u])
  (hit : ∀ l J Jx, Grows J → Grows Jx → Yld P l vals J Jx Y → IterTo P f (.func (.yield l) #[] #[] :: caps) J Jx r s0 M)
  (round : ∀ s x r', Y s x = some r' → ∀ l w0' M' E1 Hr w1 a1 v u, M.le M' → Ju s M' E1 → vals M' x [v, u] → Hp w0' M' (E1 ++ Hr) w1 → Frm n ((q, u) :: (p, v) :: Lf) a1 →
   assign.wr (some l) P (Exit.then (fun a2 w2 => ∃ M2 E2, M'.le M2 ∧ Hp w0' M2 (E2 ++ Hr) w2 ∧ ∀ Hr' w3, Hp w0' M2 (E2 ++ Hr') w3 → body.wr (some l) P (RB Ju Jxu jm r' w0' M2 Hr') a2 w3) (fun _ _ _ => False)) a1 w1)
  (hdone : ∀ s', r = .nx s' → ∀ l D rr M' E1 w4 a', M.le M' → Ju s' M' E1 → Hp w0 M' (.obj l (.loop rr) :: .obj D (.deferred (some [])) :: (E1 ++ H)) w4 → Frm n Lf a' (mark D) → Q .normal a' w4)
  (hjump : ∀ b, r = .br b → ∀ l D rr M' E1 w4 a', M.le M' → Jxu b M' E1 → Hp w0 M' (.obj l (.loop rr) :: .obj D (.deferred (some [])) :: (E1 ++ H)) w4 → Frm n Lf a' (mark D) → Q (jm b).way a' w4) :
  (Code.rangeFunc g #[p, q] assign body).wp P Q a w := by
 refine (wpIn_wide (n := 0)).1 (wpIn_rangeFunc (F := Fence.wide) fun fn _ => ?_)
 obtain ⟨rec, hrec⟩ : ∃ rec : LoopState → Option Code → Loop, rec = fun st pe => { state := st, pending := pe, fn, tmps := a.tmps, params := #[p, q], assign, body, defers := w.heap.size } := ⟨_, rfl⟩
 obtain ⟨D, hD⟩ : ∃ D, D = w.heap.size := ⟨_, rfl⟩
 obtain ⟨l, hl⟩ : ∃ l, l = w.heap.size + 1 := ⟨_, rfl⟩
 have hg' : a.eval g = .func (.func f) #[] caps.toArray := (hf.ev hg).trans hgv
 obtain ⟨W1, hW1⟩ : ∃ W1, W1 = (w.alloc (.deferred (some []))).alloc (.loop (rec .ready none)) := ⟨_, rfl⟩
 refine ⟨l, mark D, W1, { target := .fn (.func f) caps.toArray, args := #[.func (.yield l) #[] #[]] }, W1, f,
  (.func (.yield l) #[] #[] :: caps).toArray, W1, ?_, ?_, ?_, ?_, (fun h => absurd h (by decide)), ?_⟩
 ·rw [hW1, hl, hD, hrec]; exact run_enterLoop_outer _ _ _ _ _
 ·simp only [resolve, hg']
  simp [go_sem]
 ·intro f' _; trivial
 ·simp [invoke, go_sem, eg]
 have hp1 : Hp w0 M (.obj l (.loop (rec .ready none)) :: .obj D (.deferred (some [])) :: (E0 ++ H)) W1 := by
  rw [hW1]
  have h1 := (hp.alloc (.deferred (some []))).alloc (.loop (rec .ready none))
  rw [World.size_alloc, ← hD] at h1
  rw [hl, ← hD]
  exact h1
 let J : σ → Mem → List Ent → Prop := fun s M' E => M.le M' ∧ ∃ E1, E = .obj l (.loop (rec .ready none)) :: .obj D (.deferred (some [])) :: E1 ∧ Ju s M' E1
 let Jx : β → Mem → List Ent → Prop := fun b M' E => M.le M' ∧ ∃ E1, E = .obj l (.loop (rec .done (some (jm b).code))) :: .obj D (.deferred (some [])) :: E1 ∧ Jxu b M' E1
 have hgJ : Grows J := fun s M1 M2 E h12 ⟨h1, E1, h2, h3⟩ => ⟨h1.trans h12, E1, h2, hgr _ _ _ _ h12 h3⟩
 have hgJx : Grows Jx := fun s M1 M2 E h12 ⟨h1, E1, h2, h3⟩ => ⟨h1.trans h12, E1, h2, hgx _ _ _ _ h12 h3⟩
 have hY : Yld P l vals J Jx Y := by
  intro s x r' hr' w0' M1 E Hr w1 vs ⟨hM1, E1, hE, hu⟩ hvs hp2
  subst hE
  obtain ⟨v, u, rfl⟩ := hv1 _ _ _ hvs
  have hlr : w1.heap[l]? = some (.loop (rec .ready none)) := (hp2.own _ (List.mem_cons_self)).2
  have hy := run_yield (P := P) (args := #[v, u]) hlr (by rw [hrec]; rfl)
  refine ⟨fn, _, assign, body, by rw [hrec] at hy; exact hy, roundIn_of_wpIn trivial ?_⟩
  have hp3 : Hp w0' M1 (E1 ++ (.obj l (.loop (rec .ready none)) :: .obj D (.deferred (some [])) :: Hr)) w1 := by
   refine hp2.perm ?_
   exact (List.perm_append_comm (l₁ := [_, _]) (l₂ := E1)).append_right Hr |>.trans (by simp)
  have h1 := round s x r' hr' l w0' M1 E1 _ w1 _ v u hM1 hu hvs hp3 (hf.zip2 hpn hqn v u)
  refine RI_mono h1 fun e a2 w2 hq => ?_
  cases e with
  | normal =>
   obtain ⟨M2, E2, hM2, hp4, hb⟩ := hq
   have hp5 : Hp w0' M2 (.obj l (.loop (rec .ready none)) :: (.obj D (.deferred (some [])) :: (E2 ++ Hr))) w2 := hp4.perm (by
    have := (List.perm_append_comm (l₁ := E2) (l₂ := [Ent.obj l (.loop (rec .ready none)), Ent.obj D (.deferred (some []))])).append_right Hr
    simpa using this)
   have hlr2 : w2.heap[l]? = some (.loop (rec .ready none)) := (hp5.own _ (List.mem_cons_self)).2
   have hbr := run_beginRound (P := P) hlr2 (by rw [hrec])
   have hp6 : Hp w0' M2 (.obj l (.loop (rec .busy none)) :: (.obj D (.deferred (some [])) :: (E2 ++ Hr))) (w2.putObj l (.loop { rec .ready none with state := .busy })) := by
    have := hp5.put (y := .loop { rec .ready none with state := .busy })
    rw [hrec] at this ⊢
    exact this
   have hp7 : Hp w0' M2 (E2 ++ (.obj l (.loop (rec .busy none)) :: .obj D (.deferred (some [])) :: Hr)) (w2.putObj l (.loop { rec .ready none with state := .busy })) := hp6.perm (by
    have := (List.perm_append_comm (l₁ := [Ent.obj l (.loop (rec .busy none)), Ent.obj D (.deferred (some []))]) (l₂ := E2)).append_right Hr
    simpa using this)
   refine ⟨_, hbr, RI_mono (hb _ _ hp7) fun e3 a3 w3 hq3 => ?_⟩
   have fin : ∀ (jump : Option Code) (M3 : Mem) (E3 : List Ent), Hp w0' M3 (E3 ++ (.obj l (.loop (rec .busy none)) :: .obj D (.deferred (some [])) :: Hr)) w3 →
     ∃ w4, (Instr.endRound l jump).run P w3 = .ok (.bool jump.isNone) w4 ∧ Hp w0' M3 ((.obj l (.loop (rec (if jump.isNone then .ready else .done) jump)) :: .obj D (.deferred (some [])) :: E3) ++ Hr) w4 := fun jump M3 E3 hq => by
    have hq1 : Hp w0' M3 (.obj l (.loop (rec .busy none)) :: (.obj D (.deferred (some [])) :: (E3 ++ Hr))) w3 := hq.perm (by
     have := (List.perm_append_comm (l₁ := E3) (l₂ := [Ent.obj l (.loop (rec .busy none)), Ent.obj D (.deferred (some []))])).append_right Hr
     simpa using this)
    have hlr3 : w3.heap[l]? = some (.loop (rec .busy none)) := (hq1.own _ (List.mem_cons_self)).2
    refine ⟨_, run_endRound jump hlr3, ?_⟩
    have := hq1.put (y := .loop { rec .busy none with state := if jump.isNone then .ready else .done, pending := jump })
    rw [hrec] at this ⊢
    exact this
   unfold RB at hq3
   cases r' with
   | nx s' =>
    obtain ⟨rfl, M3, E3, hM3, hp8, hu3⟩ := hq3
    obtain ⟨w4, he, hp9⟩ := fin none M3 E3 hp8
    exact ⟨_, w4, he, M3, _, hM2.trans hM3, hp9, rfl, hM1.trans (hM2.trans hM3), E3, rfl, hu3⟩
   | br b =>
    obtain ⟨he3, M3, E3, hM3, hp8, hu3⟩ := hq3
    obtain ⟨w4, he, hp9⟩ := fin (some (jm b).code) M3 E3 hp8
    cases hj : jm b with
    | ret =>
     rw [hj] at he3
     cases he3
     rw [hj] at he hp9
     exact ⟨_, w4, he, M3, _, hM2.trans hM3, hp9, rfl, hM1.trans (hM2.trans hM3), E3, by rw [hj]; rfl, hu3⟩
    | exit id =>
     rw [hj] at he3
     cases he3
     rw [hj] at he hp9
     exact ⟨_, w4, he, M3, _, hM2.trans hM3, hp9, rfl, hM1.trans (hM2.trans hM3), E3, by rw [hj]; rfl, hu3⟩
  | _ => exact hq.elim
 have hcall := hit l J Jx hgJ hgJx hY w0 M (.obj l (.loop (rec .ready none)) :: .obj D (.deferred (some [])) :: E0) H _ (Mem.le_refl M) ⟨Mem.le_refl M, E0, rfl, hJ⟩ hp1
 refine CallsIn.mono (callsIn_wide.2 hcall) ?_
 rintro e w3 ⟨v, rfl, M', E', hM', hp4, hr⟩
 have hfm := hf.marked D
 cases hrr : r with
 | nx s' =>
  rw [hrr] at hr
  obtain ⟨_, E1, rfl, hu⟩ := hr
  have hlr : w3.heap[l]? = some (.loop (rec .ready none)) := (hp4.own _ (List.mem_cons_self)).2
  have he := run_endLoop (P := P) hlr (by rw [hrec]; simp)
  have hpe : (rec .ready none).pending = none := by rw [hrec]
  rw [hpe] at he
  refine ⟨none, _, he, ?_⟩
  exact hdone s' hrr l D _ M' E1 _ _ hM' hu hp4.put hfm
 | br b =>
  rw [hrr] at hr
  obtain ⟨_, E1, rfl, hu⟩ := hr
  have hlr : w3.heap[l]? = some (.loop (rec .done (some (jm b).code))) := (hp4.own _ (List.mem_cons_self)).2
  have he := run_endLoop (P := P) hlr (by rw [hrec]; simp)
  have hpe : (rec .done (some (jm b).code)).pending = some (jm b).code := by rw [hrec]
  refine ⟨some (jm b).code, _, he.trans (congrArg (fun z => Result.ok z _) hpe), ?_⟩
  have hp5 := hp4.put (y := .loop { rec .done (some (jm b).code) with state := .exhausted })
  have h5 := hjump b hrr l D _ M' E1 _ _ hM' hu hp5 hfm
  cases hj : jm b with
  | ret => rw [hj] at h5; exact wpIn_ret h5
  | exit id => rw [hj] at h5; exact wpIn_exit h5
end
section
variable {P : Program} {ops : Array Oper} {Q Q' : Exit → Act → World → Prop} {ro : Option Nat} {a : Act} {w : World}
theorem op_in' {o : Oper} {K K' : Act → World → Prop} (hd : ∀ c, o.op ≠ .defer c) (hQ : ∀ e a w, Q' e a w → e = .normal) (hK : ∀ a w, K a w → K' a w) (h : o.wp P a w K Q') : o.wpIn (fen ro) 0 P a w K' Q := by
 refine ⟨fun f _ => fen_fn f, ?_⟩
 rw [fen_round, Oper.semAt_eq ro _ _ hd]
 unfold Oper.wp at h
 generalize (execOp a.eval o).run P w = r at h ⊢
 cases r with
 | ok x w' =>
  cases x with
  | value v => exact hK _ _ h
  | skip => exact hK _ _ h
  | defer d => exact hK _ _ h
  | enter f args =>
   refine ⟨fen_depth, calls_in (Calls.mono h fun e w'' he => ?_)⟩
   cases e with
   | returned v => exact hK _ _ he
   | panicked c => cases hQ _ _ _ he
   | outgrown =>
    obtain ⟨a', w', h2⟩ := he
    cases hQ _ _ _ h2
  | row row args => exact ⟨fen_depth, rows_in (_root_.Go.Rows.mono h fun v w'' he => hK _ _ he)⟩
  | _ => exact h.elim
 | halt x w' =>
  cases x with
  | panic v => cases hQ _ _ _ h
  | _ => exact h.elim
theorem list_in_then (rest : List Oper) : ∀ (l : List Oper), noDefer l = true → ∀ (a : Act) (w : World), wpList P ops (fun e a w => e = .normal ∧ wpListIn (fen ro) 0 P ops Q rest a w) l a w → wpListIn (fen ro) 0 P ops Q (l ++ rest) a w
 | [], _, a, w, h => h.2
 | o :: l, hd, a, w, h => by
  have hd' : noDefer l = true := by
   unfold noDefer at hd ⊢
   rw [List.all_cons, Bool.and_eq_true] at hd
   exact hd.2
  simp only [wpList] at h
  simp only [List.cons_append, wpListIn]
  split
  ·rename_i hw
   rw [if_pos hw] at h
   rcases h with h | h
   ·exact op_in' (noDefer_at hd (by simp)) (fun _ _ _ h => h.1) (list_in_then rest l hd') h
   ·obtain ⟨a', w', h2, _⟩ := h.2
    cases h2
  ·rename_i hw
   rw [if_neg hw] at h
   exact ⟨fun f _ => fen_fn f, list_in_then rest l hd' _ _ h⟩
theorem WI_pre {l : List Oper} (m : Nat) (hd : noDefer (l.take m) = true) (h : wpList P ops (fun e a w => e = .normal ∧ wpListIn (fen ro) 0 P ops Q (l.drop m) a w) (l.take m) a w) : wpListIn (fen ro) 0 P ops Q l a w := by
 have := list_in_then (l.drop m) (l.take m) hd a w h
 rwa [List.take_append_drop] at this
theorem WI_reg {id : Nat} (h : wpListIn (fen none) 0 P ops Q ops.toList a w) : (Code.region id ops false).wp P Q a w := RI_out (wpIn_region_list h)
end
def vals2 {α : Type} (f : Mem → α → Value → Prop) (M : Mem) (x : Int × α) (vs : List Value) : Prop := ∃ u, vs = [.int .i64 x.1, u] ∧ f M x.2 u
def vstr {α : Type} (emb : α → Dat) (M : Mem) (x : α) (u : Value) : Prop := ∃ cs, u = .agg cs.toArray ∧ Rep M (emb x) cs
def enumF {α : Type} : Int → List α → List (Int × α)
  | _, [] => []
  | i, x :: r => (i, x) :: enumF (i + 1) r
def backI {α : Type} (l : List α) : List (Int × α) := (enumF 0 l).reverse
theorem enumF_app {α : Type} : ∀ (l m : List α) (i : Int), enumF i (l ++ m) = enumF i l ++ enumF (i + l.length) m
 | [], m, i => by simp [enumF]
 | x :: l, m, i => by
  simp only [List.cons_append, enumF, enumF_app l m, List.length_cons]
  rw [show i + 1 + (l.length : Int) = i + ((l.length + 1 : Nat) : Int) by omega]
theorem back_take {α : Type} {l : List α} {k : Nat} (h : k < l.length) : backI (l.take (k + 1)) = ((k : Int), l[k]) :: backI (l.take k) := by
 unfold backI
 rw [List.take_succ_eq_append_getElem h, enumF_app, List.reverse_append]
 simp [enumF, Nat.min_eq_left (Nat.le_of_lt h)]
end Go.Vc
end

section
namespace Go.Vc
open Go Go.RowKit Go.WideShapes
variable {dd : List Deferred}
structure KeyRun (P : Program) (t : TypeId) {κ : Type} [DecidableEq κ] (enc : κ → Value) : Prop where
  ch : ∀ w e k, (Instr.checkKey e 10000 t (enc k)).run P w = .ok () w
  wide : (match P.underlying t with | some (.array _ _) | some (.struct _) => true | _ => false) = true
  eq : ∀ w a b, (Op.equal t (enc a) (enc b)).run P w = .ok (decide (a = b)) w
  same : ∀ a, Instr.sameBits 10000 (enc a) (enc a) = true
section
variable {P : Program} {κ : Type} [DecidableEq κ] {enc : κ → Value} {kt : TypeId}
theorem KeyRun.ask (K : KeyRun P kt enc) (w : World) (k : κ) : ∀ (m : List (κ × Value)) (n j : Nat), (Instr.findAsking kt (enc k) ((m.zipIdx n).map (mEnt enc)) j).run P w = .ok (lkAt k m j) w
 | [], n, j => by simp [Instr.findAsking, lkAt]
 | p :: r, n, j => by
  simp only [List.zipIdx_cons, List.map_cons, Instr.findAsking, Sem.run_bind]
  have he : (Op.equal kt (enc k) (mEnt enc (p, n)).key).run P w = .ok (decide (k = p.1)) w := K.eq w k p.1
  rw [he]
  by_cases e : p.1 = k
  ·have e' : k = p.1 := e.symm
   simp [e', lkAt, mEnt]
  ·have e' : ¬ k = p.1 := fun x => e x.symm
   simp only [e', decide_false, Result.andThen_ok, Bool.false_eq_true, if_false, lkAt, e]
   exact K.ask w k r (n + 1) (j + 1)
theorem KeyRun.find (K : KeyRun P kt enc) (w : World) (k : κ) (m : List (κ × Value)) : (Instr.findKey kt (enc k) (m.zipIdx.map (mEnt enc))).run P w = .ok (lkAt k m 0) w := by
 exact (run_findKey_eq w K.wide _ _).trans (K.ask w k m 0 0)
variable {w : World} {ρ : Operand → Value} {o : Oper}
theorem X_lookupS {t et : TypeId} {x ix : Operand} {ok : Bool} {b : Nat} {m : List (κ × Value)} {k : κ} {z : Value} (ho : o.op = .lookup t x ix ok) (hx : ρ x = .map (some b)) (hk : ρ ix = enc k) (ht : P.underlying t = some (.map kt et)) (K : KeyRun P kt enc)
  (hz : (P.info? et).bind (·.zero) = some z) (hb : w.heap[b]? = some (mObj enc m)) :
  (execOp ρ o).run P w = .ok (.value (if ok then .tuple #[((lkAt k m 0).map (·.2)).getD z, .bool (lkAt k m 0).isSome] else ((lkAt k m 0).map (·.2)).getD z)) w := by
 have hzero : (zeroValue et).run P w = .ok z w := by
  cases hi : P.info? et with
  | none => simp [hi] at hz
  | some i => simp only [hi, Option.bind_some] at hz; simp [zeroValue, typeInfo, hi, hz]
 have hg : (getObj b).run P w = .ok (mObj enc m) w := run_getObj hb (mObj_ne m)
 unfold execOp
 simp only [ho, hx, hk, Instr.lookup, Sem.run_bind, run_underlying ht, Result.andThen_ok, hg]
 simp only [mObj, Sem.run_bind, Sem.run_pure, Result.andThen_ok, K.ch, K.find]
 cases lkAt k m 0 with
 | none => simp [hzero]
 | some p => simp
theorem X_mapUpdateS {t et : TypeId} {x ix y : Operand} {b : Nat} {m : List (κ × Value)} {k : κ} {v : Value} (ho : o.op = .mapUpdate t x ix y ∨ o.op = .insert t x ix y) (hx : ρ x = .map (some b)) (hk : ρ ix = enc k) (hv : ρ y = v) (ht : P.underlying t = some (.map kt et)) (K : KeyRun P kt enc)
  (hb : w.heap[b]? = some (mObj enc m)) : (execOp ρ o).run P w = .ok .skip { w with heap := w.heap.setIfInBounds b (mObj enc (updM m k v)) } := by
 have hg : (getObj b).run P w = .ok (mObj enc m) w := run_getObj hb (mObj_ne m)
 have hs : ∀ y : Obj, (setObj b y).run P w = .ok () { w with heap := w.heap.setIfInBounds b y } := fun y => setObj_run hb (mObj_ne m)
 have main : (Instr.mapUpdate t (.map (some b)) (enc k) v).run P w = .ok () { w with heap := w.heap.setIfInBounds b (mObj enc (updM m k v)) } := by
  simp only [Instr.mapUpdate, Sem.run_bind, run_underlying ht, Result.andThen_ok, hg]
  simp only [mObj, Sem.run_bind, Result.andThen_ok, K.ch, K.find]
  cases hl : lkAt k m 0 with
  | none =>
   simp only [hs, updM, hl]
   congr 4
   ·apply Array.ext'; simp [List.zipIdx_append, mEnt]
   ·simp
  | some p =>
   obtain ⟨i, u⟩ := p
   have hm := (lkAt_some hl).2
   simp only [Nat.sub_zero] at hm
   have hkey : ((m.zipIdx.map (mEnt enc)).toArray[i]?.map (·.key)).getD (enc k) = enc k := by
    simp [List.getElem?_zipIdx, hm, mEnt]
   simp only [hkey, Instr.keyThatStays, K.same, if_true, Sem.run_bind, Sem.run_pure, Result.andThen_ok, hs, updM, hl]
   rw [set_ent m i k v u hm]
   simp
 unfold execOp
 rcases ho with ho | ho <;> simp only [ho, hx, hk, hv, Sem.run_bind, main] <;> rfl
variable {V : Type} {ev : V → Value}
theorem X_lookup1S {t et : TypeId} {x ix : Operand} {b : Nat} {m : List (κ × V)} {k : κ} {z : V} (ho : o.op = .lookup t x ix false) (hx : ρ x = .map (some b)) (hk : ρ ix = enc k) (ht : P.underlying t = some (.map kt et)) (K : KeyRun P kt enc)
  (hz : (P.info? et).bind (·.zero) = some (ev z)) (hb : w.heap[b]? = some (mapO enc ev m)) : (execOp ρ o).run P w = .ok (.value (ev ((mget m k).getD z))) w := by
 have := X_lookupS (ok := false) ho hx hk ht K hz hb
 rw [this, lkAt_map]
 cases mget m k <;> rfl
variable {ops : Array Oper} {n : Nat} {Q : Exit → Act → World → Prop} {L : Fr} {a : Act} {w0 : World} {M : Mem} {H : List Ent}
theorem W_mapputS {o : Oper} {rest : List Oper} {t et : TypeId} {x ix y : Operand} {b : Nat} {m : List (κ × V)} {k : κ} {v : V} (hf : Frm n L a dd) (hp : Hp w0 M (.obj b (mapO enc ev m) :: H) w) (hw : wantedL ops L o = some true) (hr : readyL L o = true) (hd : o.dst = none)
  (ho : o.op = .mapUpdate t x ix y ∨ o.op = .insert t x ix y) (hx : Vc.ev L x = .map (some b)) (hk : Vc.ev L ix = enc k) (hv : Vc.ev L y = ev v) (ht : P.underlying t = some (.map kt et)) (K : KeyRun P kt enc)
  (hq : ∀ w', Hp w0 M (.obj b (mapO enc ev (mput m k v)) :: H) w' → ∀ a', Frm n L a' dd → wpList P ops Q rest a' w') : wpList P ops Q (o :: rest) a w := by
 refine W_skip hf hw hr hd (X_mapUpdateS ho hx hk hv ht K (hp.ownObj 0 rfl)) (hq _ ?_)
 have := hp.put (y := mObj enc (updM (m.map fun p => (p.1, ev p.2)) k (ev v)))
 show Hp w0 M (.obj b (mObj enc ((mput m k v).map fun p => (p.1, ev p.2))) :: H) _
 rw [← updM_map]; exact this
theorem sli_some {α : Type} {sz : Nat} {f : α → Dat} {A : Option Addr} {cap : Nat} {xs : List α} (h : Sli M sz f A cap xs) (h0 : 0 < xs.length) : A.isNone = false := by
 obtain ⟨_, _, h3⟩ := h
 rcases h3 with h3 | ⟨ad, h4, _⟩
 ·subst h3; exact absurd h0 (Nat.lt_irrefl _)
 ·rw [h4]; rfl
def FChk (P : Program) (e : Bool) (xs : Array Value) (w : World) : List (TypeId × Nat) → Prop
  | [] => True
  | (t, o) :: s => (∃ a, (part t xs o).run P w = .ok a w ∧ (Instr.checkKey e 9999 t a).run P w = .ok () w) ∧ FChk P e xs w s
theorem FChk.run {e : Bool} {xs : Array Value} : ∀ {fs : List Field} {s : List (TypeId × Nat)}, fieldsAre fs s = true → FChk P e xs w s →
  (forIn (m := Sem) fs PUnit.unit fun f _ => (do
   if f.name ≠ "_" then Instr.checkKey e 9999 f.type (← part f.type xs f.offset)
   pure (ForInStep.yield PUnit.unit) : Sem (ForInStep PUnit))).run P w = .ok PUnit.unit w
 | [], [], _, _ => by simp
 | f :: fs, (t, o) :: s, h, ⟨⟨a, ha, hc⟩, h2⟩ => by
  simp only [fieldsAre, Bool.and_eq_true, bne_iff_ne] at h
  obtain ⟨h1, h3, h4, h5⟩ := h
  have e1 := Nat.eq_of_beq_eq_true h3
  have e2 := Nat.eq_of_beq_eq_true h4
  subst e1; subst e2
  have ih := FChk.run h5 h2
  simp only [List.forIn_cons, Sem.run_bind, h1, ne_eq, not_false_eq_true, if_true, Result.andThen_ok, ha, hc, Sem.run_pure]
  exact ih
 | [], _ :: _, h, _ => by simp [fieldsAre] at h
 | _ :: _, [], h, _ => by simp [fieldsAre] at h
theorem structKey {xs : κ → Array Value} {s : List (TypeId × Nat)} (ht : P.underlying kt = some (.struct (P.fieldsOf kt))) (hp : P.stoodInHeld kt = false) (hf : fieldsAre (P.fieldsOf kt).toList s = true)
  (hc : ∀ w e k, FChk P e (xs k) w s) (he : ∀ w a b, ∃ rs, FEq P 9999 (xs a) (xs b) w s rs ∧ andL rs = decide (a = b)) (hs : ∀ k, Instr.sameBits 10000 (.agg (xs k)) (.agg (xs k)) = true) : KeyRun P kt (fun k => .agg (xs k)) where
 ch := fun w e k => by
  rw [show (10000 : Nat) = 9999 + 1 from rfl, Instr.checkKey]
  simp only [Sem.run_bind, run_underlying ht, Result.andThen_ok]
  rw [← Array.forIn_toList]
  have := FChk.run hf (hc w e k)
  simp at this ⊢
  rw [this]
  simp
 wide := by rw [ht]
 eq := fun w a b => by
  obtain ⟨rs, h1, h2⟩ := he w a b
  rw [← h2]
  have := run_equalIn_struct w 9999 kt (xs a) (xs b) ht hp
  rw [FEq.run hf h1] at this
  exact this
 same := hs
theorem X_indexAddrP {t e sz len : Nat} {x ix : Operand} {ad : Addr} {k : IntKind} {i : Int} (ho : o.op = .indexAddr t x ix) (hx : ρ x = .pointer (some ad)) (hi : ρ ix = .int k i) (ht : P.underlying t = some (.array len e))
  (hs : szIs P e sz = true) (h0 : 0 ≤ i) (h1 : i < len) : (execOp ρ o).run P w = .ok (.value (.pointer (some (ad.add (i.toNat * sz))))) w := by
 unfold execOp
 simp only [ho, hx, hi, Instr.indexAt, Instr.sureAddr, asIntOf, Sem.run_bind, Sem.run_pure, Result.andThen_ok, run_underlying ht]
 simp [h0, h1, run_sizeOf hs]
theorem chInt {t : TypeId} {k : IntKind} (h : P.underlying t = some (.int k)) (w : World) (n : Nat) (e : Bool) (x : Int) : (Instr.checkKey e (n + 1) t (.int k x)).run P w = .ok () w := by
 unfold Instr.checkKey
 rw [Sem.run_bind, run_underlying h]
 rfl
theorem key2 {κ : Type} [DecidableEq κ] {f g : κ → Int} {k1 k2 : IntKind} {t1 t2 : TypeId} (ht : P.underlying kt = some (.struct (P.fieldsOf kt))) (hp : P.stoodInHeld kt = false) (hf : fieldsAre (P.fieldsOf kt).toList [(t1, 0), (t2, 1)] = true)
  (h1 : P.underlying t1 = some (.int k1)) (h2 : P.underlying t2 = some (.int k2)) (hi : ∀ a b : κ, (a = b) ↔ (f a = f b ∧ g a = g b)) : KeyRun P kt (fun k : κ => .agg #[.int k1 (f k), .int k2 (g k)]) := by
 have p1 : ∀ (w : World) (k : κ), (part t1 #[Value.int k1 (f k), .int k2 (g k)] 0).run P w = .ok (.int k1 (f k)) w := fun w k => by simp [part, isAgg, run_underlying h1]
 have p2 : ∀ (w : World) (k : κ), (part t2 #[Value.int k1 (f k), .int k2 (g k)] 1).run P w = .ok (.int k2 (g k)) w := fun w k => by simp [part, isAgg, run_underlying h2]
 refine structKey (xs := fun k : κ => #[Value.int k1 (f k), .int k2 (g k)]) ht hp hf (fun w e k => ⟨⟨_, p1 w k, chInt h1 w 9998 e _⟩, ⟨_, p2 w k, chInt h2 w 9998 e _⟩, trivial⟩) (fun w a b => ⟨[decide (f a = f b), decide (g a = g b)], ⟨⟨_, _, p1 w a, p1 w b, EqI h1⟩, ⟨_, _, p2 w a, p2 w b, EqI h2⟩, trivial⟩, ?_⟩) (fun k => by simp [Instr.sameBits])
 simp only [andL, hi a b]
 rw [Bool.eq_iff_iff]; simp
end
end Go.Vc
end

section
namespace Go.Proofs.YtfdmlionhbeebaaGreat
open Go Go.Vc Go.RowKit
structure TJ0 where
  fKind : Int
  fBool : Bool
  fNum : Int
  fText : List UInt8
  fList : List TJ0
  fKeys : List (List UInt8)
mutual
def emb_TJ0 : TJ0 → Dat
  | ⟨x0, x1, x2, x3, x4, x5⟩ => .struct [(Dat.int .i8) x0, Dat.bool x1, (Dat.int .i64) x2, Dat.str x3, .list 6 (embs_TJ0 x4), (eL 1 Dat.str) x5]
def embs_TJ0 : List TJ0 → List Dat
  | [] => []
  | x :: r => emb_TJ0 x :: embs_TJ0 r
end
theorem embs_TJ0_eq : ∀ l : List TJ0, embs_TJ0 l = l.map emb_TJ0
 | [] => by simp [embs_TJ0]
 | x :: r => by simp [embs_TJ0, embs_TJ0_eq r]
theorem emb_TJ0_eq (x : TJ0) : emb_TJ0 x = .struct [(Dat.int .i8) x.fKind, Dat.bool x.fBool, (Dat.int .i64) x.fNum, Dat.str x.fText, (eL 6 emb_TJ0) x.fList, (eL 1 Dat.str) x.fKeys] := by
 cases x
 simp [emb_TJ0, eL, embs_TJ0_eq]
theorem TJ0.opn {M : Mem} {x : TJ0} {cs : List Value} (h : Rep M (emb_TJ0 x) cs) : ∃ (A4 : Option Addr) (c4 : Nat) (A5 : Option Addr) (c5 : Nat), cs = [.int .i8 x.fKind, .bool x.fBool, .int .i64 x.fNum, S x.fText, .slice A4 x.fList.length c4, .slice A5 x.fKeys.length c5] ∧ Sli M 6 emb_TJ0 A4 c4 x.fList ∧ Sli M 1 Dat.str A5 c5 x.fKeys := by
 rw [emb_TJ0_eq] at h
 obtain ⟨cq_0, dq_0, eq_0, hq_0, gq_0⟩ := h
 have yq_0 : cq_0 = _ := hq_0
 obtain ⟨cq_1, dq_1, eq_1, hq_1, gq_1⟩ := gq_0
 have yq_1 : cq_1 = _ := hq_1
 obtain ⟨cq_2, dq_2, eq_2, hq_2, gq_2⟩ := gq_1
 have yq_2 : cq_2 = _ := hq_2
 obtain ⟨cq_3, dq_3, eq_3, hq_3, gq_3⟩ := gq_2
 have yq_3 : cq_3 = _ := hq_3
 obtain ⟨cq_4, dq_4, eq_4, hq_4, gq_4⟩ := gq_3
 obtain ⟨Aq_4, kq_4, yq_4, zq_4⟩ := Rep.sli hq_4
 obtain ⟨cq_5, dq_5, eq_5, hq_5, gq_5⟩ := gq_4
 obtain ⟨Aq_5, kq_5, yq_5, zq_5⟩ := Rep.sli hq_5
 have lq : dq_5 = [] := gq_5
 exact ⟨Aq_4, kq_4, Aq_5, kq_5, by simp [eq_0, yq_0, eq_1, yq_1, eq_2, yq_2, eq_3, yq_3, eq_4, yq_4, eq_5, yq_5, lq], zq_4, zq_5⟩
theorem TJ0.shut {M : Mem} {a0 : Int} {a1 : Bool} {a2 : Int} {a3 : List UInt8} {a4 : List TJ0} {a5 : List (List UInt8)} {A4 : Option Addr} {c4 : Nat} {A5 : Option Addr} {c5 : Nat} (h4 : Sli M 6 emb_TJ0 A4 c4 a4) (h5 : Sli M 1 Dat.str A5 c5 a5) : Rep M (emb_TJ0 ⟨a0, a1, a2, a3, a4, a5⟩) [.int .i8 a0, .bool a1, .int .i64 a2, S a3, .slice A4 a4.length c4, .slice A5 a5.length c5] := by
 rw [emb_TJ0_eq]; exact ⟨_, _, rfl, rfl, ⟨_, _, rfl, rfl, ⟨_, _, rfl, rfl, ⟨_, _, rfl, rfl, ⟨_, _, rfl, (Sli.rep h4), ⟨_, _, rfl, (Sli.rep h5), rfl⟩⟩⟩⟩⟩⟩
theorem TJ0.shutx {M : Mem} {x : TJ0} {A4 : Option Addr} {c4 : Nat} {A5 : Option Addr} {c5 : Nat} (h4 : Sli M 6 emb_TJ0 A4 c4 x.fList) (h5 : Sli M 1 Dat.str A5 c5 x.fKeys) : Rep M (emb_TJ0 x) [.int .i8 x.fKind, .bool x.fBool, .int .i64 x.fNum, S x.fText, .slice A4 x.fList.length c4, .slice A5 x.fKeys.length c5] := by
 have h := TJ0.shut (M := M) (a0 := x.fKind) (a1 := x.fBool) (a2 := x.fNum) (a3 := x.fText) (a4 := x.fList) (a5 := x.fKeys) h4 h5
 rw [emb_TJ0_eq] at h ⊢
 exact h
structure TE0 where
  fName : List UInt8
  fUnknown : Bool
  fV : TJ0
def emb_TE0 : TE0 → Dat
  | ⟨x0, x1, x2⟩ => .struct [Dat.str x0, Dat.bool x1, emb_TJ0 x2]
theorem emb_TE0_eq (x : TE0) : emb_TE0 x = .struct [Dat.str x.fName, Dat.bool x.fUnknown, emb_TJ0 x.fV] := by
 cases x
 simp [emb_TE0, eL]
theorem TE0.opn {M : Mem} {x : TE0} {cs : List Value} (h : Rep M (emb_TE0 x) cs) : ∃ (A6 : Option Addr) (c6 : Nat) (A7 : Option Addr) (c7 : Nat), cs = [S x.fName, .bool x.fUnknown, .int .i8 x.fV.fKind, .bool x.fV.fBool, .int .i64 x.fV.fNum, S x.fV.fText, .slice A6 x.fV.fList.length c6, .slice A7 x.fV.fKeys.length c7] ∧ Sli M 6 emb_TJ0 A6 c6 x.fV.fList ∧ Sli M 1 Dat.str A7 c7 x.fV.fKeys := by
 rw [emb_TE0_eq] at h
 obtain ⟨cq_0, dq_0, eq_0, hq_0, gq_0⟩ := h
 have yq_0 : cq_0 = _ := hq_0
 obtain ⟨cq_1, dq_1, eq_1, hq_1, gq_1⟩ := gq_0
 have yq_1 : cq_1 = _ := hq_1
 obtain ⟨cq_2, dq_2, eq_2, hq_2, gq_2⟩ := gq_1
 rw [emb_TJ0_eq] at hq_2
 obtain ⟨cq_2_0, dq_2_0, eq_2_0, hq_2_0, gq_2_0⟩ := hq_2
 have yq_2_0 : cq_2_0 = _ := hq_2_0
 obtain ⟨cq_2_1, dq_2_1, eq_2_1, hq_2_1, gq_2_1⟩ := gq_2_0
 have yq_2_1 : cq_2_1 = _ := hq_2_1
 obtain ⟨cq_2_2, dq_2_2, eq_2_2, hq_2_2, gq_2_2⟩ := gq_2_1
 have yq_2_2 : cq_2_2 = _ := hq_2_2
 obtain ⟨cq_2_3, dq_2_3, eq_2_3, hq_2_3, gq_2_3⟩ := gq_2_2
 have yq_2_3 : cq_2_3 = _ := hq_2_3
 obtain ⟨cq_2_4, dq_2_4, eq_2_4, hq_2_4, gq_2_4⟩ := gq_2_3
 obtain ⟨Aq_2_4, kq_2_4, yq_2_4, zq_2_4⟩ := Rep.sli hq_2_4
 obtain ⟨cq_2_5, dq_2_5, eq_2_5, hq_2_5, gq_2_5⟩ := gq_2_4
 obtain ⟨Aq_2_5, kq_2_5, yq_2_5, zq_2_5⟩ := Rep.sli hq_2_5
 have lq_2 : dq_2_5 = [] := gq_2_5
 have lq : dq_2 = [] := gq_2
 exact ⟨Aq_2_4, kq_2_4, Aq_2_5, kq_2_5, by simp [eq_0, yq_0, eq_1, yq_1, eq_2, eq_2_0, yq_2_0, eq_2_1, yq_2_1, eq_2_2, yq_2_2, eq_2_3, yq_2_3, eq_2_4, yq_2_4, eq_2_5, yq_2_5, lq_2, lq], zq_2_4, zq_2_5⟩
structure TS0 where
  fId : List UInt8
  fType : List UInt8
  fPhys : List UInt8
  fProps : List TE0
  fRetain : Bool
  fLeans : List (List UInt8)
def emb_TS0 : TS0 → Dat
  | ⟨x0, x1, x2, x3, x4, x5⟩ => .struct [Dat.str x0, Dat.str x1, Dat.str x2, (eL 8 emb_TE0) x3, Dat.bool x4, (eL 1 Dat.str) x5]
theorem emb_TS0_eq (x : TS0) : emb_TS0 x = .struct [Dat.str x.fId, Dat.str x.fType, Dat.str x.fPhys, (eL 8 emb_TE0) x.fProps, Dat.bool x.fRetain, (eL 1 Dat.str) x.fLeans] := by
 cases x
 simp [emb_TS0, eL]
theorem TS0.opn {M : Mem} {x : TS0} {cs : List Value} (h : Rep M (emb_TS0 x) cs) : ∃ (A3 : Option Addr) (c3 : Nat) (A5 : Option Addr) (c5 : Nat), cs = [S x.fId, S x.fType, S x.fPhys, .slice A3 x.fProps.length c3, .bool x.fRetain, .slice A5 x.fLeans.length c5] ∧ Sli M 8 emb_TE0 A3 c3 x.fProps ∧ Sli M 1 Dat.str A5 c5 x.fLeans := by
 rw [emb_TS0_eq] at h
 obtain ⟨cq_0, dq_0, eq_0, hq_0, gq_0⟩ := h
 have yq_0 : cq_0 = _ := hq_0
 obtain ⟨cq_1, dq_1, eq_1, hq_1, gq_1⟩ := gq_0
 have yq_1 : cq_1 = _ := hq_1
 obtain ⟨cq_2, dq_2, eq_2, hq_2, gq_2⟩ := gq_1
 have yq_2 : cq_2 = _ := hq_2
 obtain ⟨cq_3, dq_3, eq_3, hq_3, gq_3⟩ := gq_2
 obtain ⟨Aq_3, kq_3, yq_3, zq_3⟩ := Rep.sli hq_3
 obtain ⟨cq_4, dq_4, eq_4, hq_4, gq_4⟩ := gq_3
 have yq_4 : cq_4 = _ := hq_4
 obtain ⟨cq_5, dq_5, eq_5, hq_5, gq_5⟩ := gq_4
 obtain ⟨Aq_5, kq_5, yq_5, zq_5⟩ := Rep.sli hq_5
 have lq : dq_5 = [] := gq_5
 exact ⟨Aq_3, kq_3, Aq_5, kq_5, by simp [eq_0, yq_0, eq_1, yq_1, eq_2, yq_2, eq_3, yq_3, eq_4, yq_4, eq_5, yq_5, lq], zq_3, zq_5⟩
theorem TS0.shut {M : Mem} {a0 : List UInt8} {a1 : List UInt8} {a2 : List UInt8} {a3 : List TE0} {a4 : Bool} {a5 : List (List UInt8)} {A3 : Option Addr} {c3 : Nat} {A5 : Option Addr} {c5 : Nat} (h3 : Sli M 8 emb_TE0 A3 c3 a3) (h5 : Sli M 1 Dat.str A5 c5 a5) : Rep M (emb_TS0 ⟨a0, a1, a2, a3, a4, a5⟩) [S a0, S a1, S a2, .slice A3 a3.length c3, .bool a4, .slice A5 a5.length c5] := by
 rw [emb_TS0_eq]; exact ⟨_, _, rfl, rfl, ⟨_, _, rfl, rfl, ⟨_, _, rfl, rfl, ⟨_, _, rfl, (Sli.rep h3), ⟨_, _, rfl, rfl, ⟨_, _, rfl, (Sli.rep h5), rfl⟩⟩⟩⟩⟩⟩
theorem TS0.shutx {M : Mem} {x : TS0} {A3 : Option Addr} {c3 : Nat} {A5 : Option Addr} {c5 : Nat} (h3 : Sli M 8 emb_TE0 A3 c3 x.fProps) (h5 : Sli M 1 Dat.str A5 c5 x.fLeans) : Rep M (emb_TS0 x) [S x.fId, S x.fType, S x.fPhys, .slice A3 x.fProps.length c3, .bool x.fRetain, .slice A5 x.fLeans.length c5] := by
 have h := TS0.shut (M := M) (a0 := x.fId) (a1 := x.fType) (a2 := x.fPhys) (a3 := x.fProps) (a4 := x.fRetain) (a5 := x.fLeans) h3 h5
 rw [emb_TS0_eq] at h ⊢
 exact h
structure TF0 where
  fOwned : List TS0
  fPending : List TS0
  fRetained : List TS0
  fOuts : List TE0
  fText : List UInt8
  fArgs : List TE0
  fCalls : Int
  fStatus : Int
def emb_TF0 : TF0 → Dat
  | ⟨x0, x1, x2, x3, x4, x5, x6, x7⟩ => .struct [(eL 6 emb_TS0) x0, (eL 6 emb_TS0) x1, (eL 6 emb_TS0) x2, (eL 8 emb_TE0) x3, Dat.str x4, (eL 8 emb_TE0) x5, (Dat.int .i64) x6, (Dat.int .i8) x7]
theorem emb_TF0_eq (x : TF0) : emb_TF0 x = .struct [(eL 6 emb_TS0) x.fOwned, (eL 6 emb_TS0) x.fPending, (eL 6 emb_TS0) x.fRetained, (eL 8 emb_TE0) x.fOuts, Dat.str x.fText, (eL 8 emb_TE0) x.fArgs, (Dat.int .i64) x.fCalls, (Dat.int .i8) x.fStatus] := by
 cases x
 simp [emb_TF0, eL]
theorem TF0.opn {M : Mem} {x : TF0} {cs : List Value} (h : Rep M (emb_TF0 x) cs) : ∃ (A0 : Option Addr) (c0 : Nat) (A1 : Option Addr) (c1 : Nat) (A2 : Option Addr) (c2 : Nat) (A3 : Option Addr) (c3 : Nat) (A5 : Option Addr) (c5 : Nat), cs = [.slice A0 x.fOwned.length c0, .slice A1 x.fPending.length c1, .slice A2 x.fRetained.length c2, .slice A3 x.fOuts.length c3, S x.fText, .slice A5 x.fArgs.length c5, .int .i64 x.fCalls, .int .i8 x.fStatus] ∧ Sli M 6 emb_TS0 A0 c0 x.fOwned ∧ Sli M 6 emb_TS0 A1 c1 x.fPending ∧ Sli M 6 emb_TS0 A2 c2 x.fRetained ∧ Sli M 8 emb_TE0 A3 c3 x.fOuts ∧ Sli M 8 emb_TE0 A5 c5 x.fArgs := by
 rw [emb_TF0_eq] at h
 obtain ⟨cq_0, dq_0, eq_0, hq_0, gq_0⟩ := h
 obtain ⟨Aq_0, kq_0, yq_0, zq_0⟩ := Rep.sli hq_0
 obtain ⟨cq_1, dq_1, eq_1, hq_1, gq_1⟩ := gq_0
 obtain ⟨Aq_1, kq_1, yq_1, zq_1⟩ := Rep.sli hq_1
 obtain ⟨cq_2, dq_2, eq_2, hq_2, gq_2⟩ := gq_1
 obtain ⟨Aq_2, kq_2, yq_2, zq_2⟩ := Rep.sli hq_2
 obtain ⟨cq_3, dq_3, eq_3, hq_3, gq_3⟩ := gq_2
 obtain ⟨Aq_3, kq_3, yq_3, zq_3⟩ := Rep.sli hq_3
 obtain ⟨cq_4, dq_4, eq_4, hq_4, gq_4⟩ := gq_3
 have yq_4 : cq_4 = _ := hq_4
 obtain ⟨cq_5, dq_5, eq_5, hq_5, gq_5⟩ := gq_4
 obtain ⟨Aq_5, kq_5, yq_5, zq_5⟩ := Rep.sli hq_5
 obtain ⟨cq_6, dq_6, eq_6, hq_6, gq_6⟩ := gq_5
 have yq_6 : cq_6 = _ := hq_6
 obtain ⟨cq_7, dq_7, eq_7, hq_7, gq_7⟩ := gq_6
 have yq_7 : cq_7 = _ := hq_7
 have lq : dq_7 = [] := gq_7
 exact ⟨Aq_0, kq_0, Aq_1, kq_1, Aq_2, kq_2, Aq_3, kq_3, Aq_5, kq_5, by simp [eq_0, yq_0, eq_1, yq_1, eq_2, yq_2, eq_3, yq_3, eq_4, yq_4, eq_5, yq_5, eq_6, yq_6, eq_7, yq_7, lq], zq_0, zq_1, zq_2, zq_3, zq_5⟩
theorem TF0.shut {M : Mem} {a0 : List TS0} {a1 : List TS0} {a2 : List TS0} {a3 : List TE0} {a4 : List UInt8} {a5 : List TE0} {a6 : Int} {a7 : Int} {A0 : Option Addr} {c0 : Nat} {A1 : Option Addr} {c1 : Nat} {A2 : Option Addr} {c2 : Nat} {A3 : Option Addr} {c3 : Nat} {A5 : Option Addr} {c5 : Nat} (h0 : Sli M 6 emb_TS0 A0 c0 a0) (h1 : Sli M 6 emb_TS0 A1 c1 a1) (h2 : Sli M 6 emb_TS0 A2 c2 a2) (h3 : Sli M 8 emb_TE0 A3 c3 a3) (h5 : Sli M 8 emb_TE0 A5 c5 a5) : Rep M (emb_TF0 ⟨a0, a1, a2, a3, a4, a5, a6, a7⟩) [.slice A0 a0.length c0, .slice A1 a1.length c1, .slice A2 a2.length c2, .slice A3 a3.length c3, S a4, .slice A5 a5.length c5, .int .i64 a6, .int .i8 a7] := by
 rw [emb_TF0_eq]; exact ⟨_, _, rfl, (Sli.rep h0), ⟨_, _, rfl, (Sli.rep h1), ⟨_, _, rfl, (Sli.rep h2), ⟨_, _, rfl, (Sli.rep h3), ⟨_, _, rfl, rfl, ⟨_, _, rfl, (Sli.rep h5), ⟨_, _, rfl, rfl, ⟨_, _, rfl, rfl, rfl⟩⟩⟩⟩⟩⟩⟩⟩
theorem TF0.shutx {M : Mem} {x : TF0} {A0 : Option Addr} {c0 : Nat} {A1 : Option Addr} {c1 : Nat} {A2 : Option Addr} {c2 : Nat} {A3 : Option Addr} {c3 : Nat} {A5 : Option Addr} {c5 : Nat} (h0 : Sli M 6 emb_TS0 A0 c0 x.fOwned) (h1 : Sli M 6 emb_TS0 A1 c1 x.fPending) (h2 : Sli M 6 emb_TS0 A2 c2 x.fRetained) (h3 : Sli M 8 emb_TE0 A3 c3 x.fOuts) (h5 : Sli M 8 emb_TE0 A5 c5 x.fArgs) : Rep M (emb_TF0 x) [.slice A0 x.fOwned.length c0, .slice A1 x.fPending.length c1, .slice A2 x.fRetained.length c2, .slice A3 x.fOuts.length c3, S x.fText, .slice A5 x.fArgs.length c5, .int .i64 x.fCalls, .int .i8 x.fStatus] := by
 have h := TF0.shut (M := M) (a0 := x.fOwned) (a1 := x.fPending) (a2 := x.fRetained) (a3 := x.fOuts) (a4 := x.fText) (a5 := x.fArgs) (a6 := x.fCalls) (a7 := x.fStatus) h0 h1 h2 h3 h5
 rw [emb_TF0_eq] at h ⊢
 exact h
structure TI0 where
  fName : List UInt8
  fNumber : Bool
  fHas : Bool
  fDefault : TJ0
  fAllowed : List TJ0
def emb_TI0 : TI0 → Dat
  | ⟨x0, x1, x2, x3, x4⟩ => .struct [Dat.str x0, Dat.bool x1, Dat.bool x2, emb_TJ0 x3, (eL 6 emb_TJ0) x4]
theorem emb_TI0_eq (x : TI0) : emb_TI0 x = .struct [Dat.str x.fName, Dat.bool x.fNumber, Dat.bool x.fHas, emb_TJ0 x.fDefault, (eL 6 emb_TJ0) x.fAllowed] := by
 cases x
 simp [emb_TI0, eL]
structure TP0 where
  fKind : Int
  fText : List UInt8
  fNum : Int
  fName : List UInt8
  fAttr : List UInt8
  fL : List TP0
mutual
def emb_TP0 : TP0 → Dat
  | ⟨x0, x1, x2, x3, x4, x5⟩ => .struct [(Dat.int .i8) x0, Dat.str x1, (Dat.int .i64) x2, Dat.str x3, Dat.str x4, .list 6 (embs_TP0 x5)]
def embs_TP0 : List TP0 → List Dat
  | [] => []
  | x :: r => emb_TP0 x :: embs_TP0 r
end
theorem embs_TP0_eq : ∀ l : List TP0, embs_TP0 l = l.map emb_TP0
 | [] => by simp [embs_TP0]
 | x :: r => by simp [embs_TP0, embs_TP0_eq r]
theorem emb_TP0_eq (x : TP0) : emb_TP0 x = .struct [(Dat.int .i8) x.fKind, Dat.str x.fText, (Dat.int .i64) x.fNum, Dat.str x.fName, Dat.str x.fAttr, (eL 6 emb_TP0) x.fL] := by
 cases x
 simp [emb_TP0, eL, embs_TP0_eq]
structure TO0 where
  fName : List UInt8
  fKind : Int
  fA : TP0
  fB : TP0
  fL : List TO0
mutual
def emb_TO0 : TO0 → Dat
  | ⟨x0, x1, x2, x3, x4⟩ => .struct [Dat.str x0, (Dat.int .i8) x1, emb_TP0 x2, emb_TP0 x3, .list 15 (embs_TO0 x4)]
def embs_TO0 : List TO0 → List Dat
  | [] => []
  | x :: r => emb_TO0 x :: embs_TO0 r
end
theorem embs_TO0_eq : ∀ l : List TO0, embs_TO0 l = l.map emb_TO0
 | [] => by simp [embs_TO0]
 | x :: r => by simp [embs_TO0, embs_TO0_eq r]
theorem emb_TO0_eq (x : TO0) : emb_TO0 x = .struct [Dat.str x.fName, (Dat.int .i8) x.fKind, emb_TP0 x.fA, emb_TP0 x.fB, (eL 15 emb_TO0) x.fL] := by
 cases x
 simp [emb_TO0, eL, embs_TO0_eq]
structure TM0 where
  fName : List UInt8
  fE : TP0
def emb_TM0 : TM0 → Dat
  | ⟨x0, x1⟩ => .struct [Dat.str x0, emb_TP0 x1]
theorem emb_TM0_eq (x : TM0) : emb_TM0 x = .struct [Dat.str x.fName, emb_TP0 x.fE] := by
 cases x
 simp [emb_TM0, eL]
structure TD0 where
  fName : List UInt8
  fCond : List UInt8
  fE : TP0
def emb_TD0 : TD0 → Dat
  | ⟨x0, x1, x2⟩ => .struct [Dat.str x0, Dat.str x1, emb_TP0 x2]
theorem emb_TD0_eq (x : TD0) : emb_TD0 x = .struct [Dat.str x.fName, Dat.str x.fCond, emb_TP0 x.fE] := by
 cases x
 simp [emb_TD0, eL]
mutual
structure TA0 where
  fId : List UInt8
  fType : List UInt8
  fCond : List UInt8
  fProps : List TM0
  fDepends : List (List UInt8)
  fRetain : Bool
  fInner : List TB0
structure TB0 where
  fParams : List TI0
  fConds : List TO0
  fRes : List TA0
  fOuts : List TD0
end
mutual
def emb_TA0 : TA0 → Dat
  | ⟨x0, x1, x2, x3, x4, x5, x6⟩ => .struct [Dat.str x0, Dat.str x1, Dat.str x2, (eL 7 emb_TM0) x3, (eL 1 Dat.str) x4, Dat.bool x5, .list 4 (embs_TB0 x6)]
def embs_TA0 : List TA0 → List Dat
  | [] => []
  | x :: r => emb_TA0 x :: embs_TA0 r
def emb_TB0 : TB0 → Dat
  | ⟨x0, x1, x2, x3⟩ => .struct [(eL 10 emb_TI0) x0, (eL 15 emb_TO0) x1, .list 7 (embs_TA0 x2), (eL 8 emb_TD0) x3]
def embs_TB0 : List TB0 → List Dat
  | [] => []
  | x :: r => emb_TB0 x :: embs_TB0 r
end
theorem embs_TA0_eq : ∀ l : List TA0, embs_TA0 l = l.map emb_TA0
 | [] => by simp [embs_TA0]
 | x :: r => by simp [embs_TA0, embs_TA0_eq r]
theorem embs_TB0_eq : ∀ l : List TB0, embs_TB0 l = l.map emb_TB0
 | [] => by simp [embs_TB0]
 | x :: r => by simp [embs_TB0, embs_TB0_eq r]
theorem emb_TA0_eq (x : TA0) : emb_TA0 x = .struct [Dat.str x.fId, Dat.str x.fType, Dat.str x.fCond, (eL 7 emb_TM0) x.fProps, (eL 1 Dat.str) x.fDepends, Dat.bool x.fRetain, (eL 4 emb_TB0) x.fInner] := by
 cases x
 simp [emb_TA0, eL, embs_TA0_eq, embs_TB0_eq]
theorem emb_TB0_eq (x : TB0) : emb_TB0 x = .struct [(eL 10 emb_TI0) x.fParams, (eL 15 emb_TO0) x.fConds, (eL 7 emb_TA0) x.fRes, (eL 8 emb_TD0) x.fOuts] := by
 cases x
 simp [emb_TB0, eL, embs_TA0_eq, embs_TB0_eq]
structure TG0 where
  fParent : Int
  fPrefix : List UInt8
  fT : TB0
  fArgs : List TM0
def emb_TG0 : TG0 → Dat
  | ⟨x0, x1, x2, x3⟩ => .struct [(Dat.int .i64) x0, Dat.str x1, emb_TB0 x2, (eL 7 emb_TM0) x3]
theorem emb_TG0_eq (x : TG0) : emb_TG0 x = .struct [(Dat.int .i64) x.fParent, Dat.str x.fPrefix, emb_TB0 x.fT, (eL 7 emb_TM0) x.fArgs] := by
 cases x
 simp [emb_TG0, eL]
structure TH0 where
  fScope : Int
  fName : List UInt8
  deriving DecidableEq, Inhabited
def emb_TH0 : TH0 → Dat
  | ⟨x0, x1⟩ => .struct [(Dat.int .i64) x0, Dat.str x1]
theorem emb_TH0_eq (x : TH0) : emb_TH0 x = .struct [(Dat.int .i64) x.fScope, Dat.str x.fName] := by
 cases x
 simp [emb_TH0, eL]
structure TN0 where
  fId : List UInt8
  fScope : Int
  fR : TA0
  fGuards : List TH0
  fAfter : List (List UInt8)
def emb_TN0 : TN0 → Dat
  | ⟨x0, x1, x2, x3, x4⟩ => .struct [Dat.str x0, (Dat.int .i64) x1, emb_TA0 x2, (eL 2 emb_TH0) x3, (eL 1 Dat.str) x4]
theorem emb_TN0_eq (x : TN0) : emb_TN0 x = .struct [Dat.str x.fId, (Dat.int .i64) x.fScope, emb_TA0 x.fR, (eL 2 emb_TH0) x.fGuards, (eL 1 Dat.str) x.fAfter] := by
 cases x
 simp [emb_TN0, eL]
structure TL0 where
  fScopes : List TG0
  fNodes : List TN0
def emb_TL0 : TL0 → Dat
  | ⟨x0, x1⟩ => .struct [(eL 7 emb_TG0) x0, (eL 11 emb_TN0) x1]
theorem emb_TL0_eq (x : TL0) : emb_TL0 x = .struct [(eL 7 emb_TG0) x.fScopes, (eL 11 emb_TN0) x.fNodes] := by
 cases x
 simp [emb_TL0, eL]
structure TC0 where
  fId : List UInt8
  fKind : Int
  fType : List UInt8
  fProps : List TE0
  fRetain : Bool
  fNode : Int
  fOld : Bool
  fLeans : List (List UInt8)
def emb_TC0 : TC0 → Dat
  | ⟨x0, x1, x2, x3, x4, x5, x6, x7⟩ => .struct [Dat.str x0, (Dat.int .i8) x1, Dat.str x2, (eL 8 emb_TE0) x3, Dat.bool x4, (Dat.int .i64) x5, Dat.bool x6, (eL 1 Dat.str) x7]
theorem emb_TC0_eq (x : TC0) : emb_TC0 x = .struct [Dat.str x.fId, (Dat.int .i8) x.fKind, Dat.str x.fType, (eL 8 emb_TE0) x.fProps, Dat.bool x.fRetain, (Dat.int .i64) x.fNode, Dat.bool x.fOld, (eL 1 Dat.str) x.fLeans] := by
 cases x
 simp [emb_TC0, eL]
theorem szd_TC0 (x : TC0) : Szd 8 (emb_TC0 x) := by rw [emb_TC0_eq]; exact (szd_cons (szd_str _) (szd_cons ((szd_int .i8) _) (szd_cons (szd_str _) (szd_cons ((fun _ => szd_list _ _) _) (szd_cons (szd_bool _) (szd_cons ((szd_int .i64) _) (szd_cons (szd_bool _) (szd_cons ((fun _ => szd_list _ _) _) szd_nil))))))))
theorem TC0.opn {M : Mem} {x : TC0} {cs : List Value} (h : Rep M (emb_TC0 x) cs) : ∃ (A3 : Option Addr) (c3 : Nat) (A7 : Option Addr) (c7 : Nat), cs = [S x.fId, .int .i8 x.fKind, S x.fType, .slice A3 x.fProps.length c3, .bool x.fRetain, .int .i64 x.fNode, .bool x.fOld, .slice A7 x.fLeans.length c7] ∧ Sli M 8 emb_TE0 A3 c3 x.fProps ∧ Sli M 1 Dat.str A7 c7 x.fLeans := by
 rw [emb_TC0_eq] at h
 obtain ⟨cq_0, dq_0, eq_0, hq_0, gq_0⟩ := h
 have yq_0 : cq_0 = _ := hq_0
 obtain ⟨cq_1, dq_1, eq_1, hq_1, gq_1⟩ := gq_0
 have yq_1 : cq_1 = _ := hq_1
 obtain ⟨cq_2, dq_2, eq_2, hq_2, gq_2⟩ := gq_1
 have yq_2 : cq_2 = _ := hq_2
 obtain ⟨cq_3, dq_3, eq_3, hq_3, gq_3⟩ := gq_2
 obtain ⟨Aq_3, kq_3, yq_3, zq_3⟩ := Rep.sli hq_3
 obtain ⟨cq_4, dq_4, eq_4, hq_4, gq_4⟩ := gq_3
 have yq_4 : cq_4 = _ := hq_4
 obtain ⟨cq_5, dq_5, eq_5, hq_5, gq_5⟩ := gq_4
 have yq_5 : cq_5 = _ := hq_5
 obtain ⟨cq_6, dq_6, eq_6, hq_6, gq_6⟩ := gq_5
 have yq_6 : cq_6 = _ := hq_6
 obtain ⟨cq_7, dq_7, eq_7, hq_7, gq_7⟩ := gq_6
 obtain ⟨Aq_7, kq_7, yq_7, zq_7⟩ := Rep.sli hq_7
 have lq : dq_7 = [] := gq_7
 exact ⟨Aq_3, kq_3, Aq_7, kq_7, by simp [eq_0, yq_0, eq_1, yq_1, eq_2, yq_2, eq_3, yq_3, eq_4, yq_4, eq_5, yq_5, eq_6, yq_6, eq_7, yq_7, lq], zq_3, zq_7⟩
theorem TC0.shut {M : Mem} {a0 : List UInt8} {a1 : Int} {a2 : List UInt8} {a3 : List TE0} {a4 : Bool} {a5 : Int} {a6 : Bool} {a7 : List (List UInt8)} {A3 : Option Addr} {c3 : Nat} {A7 : Option Addr} {c7 : Nat} (h3 : Sli M 8 emb_TE0 A3 c3 a3) (h7 : Sli M 1 Dat.str A7 c7 a7) : Rep M (emb_TC0 ⟨a0, a1, a2, a3, a4, a5, a6, a7⟩) [S a0, .int .i8 a1, S a2, .slice A3 a3.length c3, .bool a4, .int .i64 a5, .bool a6, .slice A7 a7.length c7] := by
 rw [emb_TC0_eq]; exact ⟨_, _, rfl, rfl, ⟨_, _, rfl, rfl, ⟨_, _, rfl, rfl, ⟨_, _, rfl, (Sli.rep h3), ⟨_, _, rfl, rfl, ⟨_, _, rfl, rfl, ⟨_, _, rfl, rfl, ⟨_, _, rfl, (Sli.rep h7), rfl⟩⟩⟩⟩⟩⟩⟩⟩
structure TQ0 where
  fToken : Int
  fKind : Int
  fPhys : List UInt8
  fType : List UInt8
  fProps : List TE0
def emb_TQ0 : TQ0 → Dat
  | ⟨x0, x1, x2, x3, x4⟩ => .struct [(Dat.int .i64) x0, (Dat.int .i8) x1, Dat.str x2, Dat.str x3, (eL 8 emb_TE0) x4]
theorem emb_TQ0_eq (x : TQ0) : emb_TQ0 x = .struct [(Dat.int .i64) x.fToken, (Dat.int .i8) x.fKind, Dat.str x.fPhys, Dat.str x.fType, (eL 8 emb_TE0) x.fProps] := by
 cases x
 simp [emb_TQ0, eL]
theorem szd_TQ0 (x : TQ0) : Szd 5 (emb_TQ0 x) := by rw [emb_TQ0_eq]; exact (szd_cons ((szd_int .i64) _) (szd_cons ((szd_int .i8) _) (szd_cons (szd_str _) (szd_cons (szd_str _) (szd_cons ((fun _ => szd_list _ _) _) szd_nil)))))
theorem TQ0.opn {M : Mem} {x : TQ0} {cs : List Value} (h : Rep M (emb_TQ0 x) cs) : ∃ (A4 : Option Addr) (c4 : Nat), cs = [.int .i64 x.fToken, .int .i8 x.fKind, S x.fPhys, S x.fType, .slice A4 x.fProps.length c4] ∧ Sli M 8 emb_TE0 A4 c4 x.fProps := by
 rw [emb_TQ0_eq] at h
 obtain ⟨cq_0, dq_0, eq_0, hq_0, gq_0⟩ := h
 have yq_0 : cq_0 = _ := hq_0
 obtain ⟨cq_1, dq_1, eq_1, hq_1, gq_1⟩ := gq_0
 have yq_1 : cq_1 = _ := hq_1
 obtain ⟨cq_2, dq_2, eq_2, hq_2, gq_2⟩ := gq_1
 have yq_2 : cq_2 = _ := hq_2
 obtain ⟨cq_3, dq_3, eq_3, hq_3, gq_3⟩ := gq_2
 have yq_3 : cq_3 = _ := hq_3
 obtain ⟨cq_4, dq_4, eq_4, hq_4, gq_4⟩ := gq_3
 obtain ⟨Aq_4, kq_4, yq_4, zq_4⟩ := Rep.sli hq_4
 have lq : dq_4 = [] := gq_4
 exact ⟨Aq_4, kq_4, by simp [eq_0, yq_0, eq_1, yq_1, eq_2, yq_2, eq_3, yq_3, eq_4, yq_4, lq], zq_4⟩
theorem TQ0.shut {M : Mem} {a0 : Int} {a1 : Int} {a2 : List UInt8} {a3 : List UInt8} {a4 : List TE0} {A4 : Option Addr} {c4 : Nat} (h4 : Sli M 8 emb_TE0 A4 c4 a4) : Rep M (emb_TQ0 ⟨a0, a1, a2, a3, a4⟩) [.int .i64 a0, .int .i8 a1, S a2, S a3, .slice A4 a4.length c4] := by
 rw [emb_TQ0_eq]; exact ⟨_, _, rfl, rfl, ⟨_, _, rfl, rfl, ⟨_, _, rfl, rfl, ⟨_, _, rfl, rfl, ⟨_, _, rfl, (Sli.rep h4), rfl⟩⟩⟩⟩⟩
structure TR0 where
  fChange : Int
  fPhase : Int
  fCall : TQ0
  fState : Int
  fPhys : List UInt8
def emb_TR0 : TR0 → Dat
  | ⟨x0, x1, x2, x3, x4⟩ => .struct [(Dat.int .i64) x0, (Dat.int .i8) x1, emb_TQ0 x2, (Dat.int .i8) x3, Dat.str x4]
theorem emb_TR0_eq (x : TR0) : emb_TR0 x = .struct [(Dat.int .i64) x.fChange, (Dat.int .i8) x.fPhase, emb_TQ0 x.fCall, (Dat.int .i8) x.fState, Dat.str x.fPhys] := by
 cases x
 simp [emb_TR0, eL]
theorem szd_TR0 (x : TR0) : Szd 9 (emb_TR0 x) := by rw [emb_TR0_eq]; exact (szd_cons ((szd_int .i64) _) (szd_cons ((szd_int .i8) _) (szd_cons (szd_TQ0 _) (szd_cons ((szd_int .i8) _) (szd_cons (szd_str _) szd_nil)))))
theorem TR0.opn {M : Mem} {x : TR0} {cs : List Value} (h : Rep M (emb_TR0 x) cs) : ∃ (A6 : Option Addr) (c6 : Nat), cs = [.int .i64 x.fChange, .int .i8 x.fPhase, .int .i64 x.fCall.fToken, .int .i8 x.fCall.fKind, S x.fCall.fPhys, S x.fCall.fType, .slice A6 x.fCall.fProps.length c6, .int .i8 x.fState, S x.fPhys] ∧ Sli M 8 emb_TE0 A6 c6 x.fCall.fProps := by
 rw [emb_TR0_eq] at h
 obtain ⟨cq_0, dq_0, eq_0, hq_0, gq_0⟩ := h
 have yq_0 : cq_0 = _ := hq_0
 obtain ⟨cq_1, dq_1, eq_1, hq_1, gq_1⟩ := gq_0
 have yq_1 : cq_1 = _ := hq_1
 obtain ⟨cq_2, dq_2, eq_2, hq_2, gq_2⟩ := gq_1
 rw [emb_TQ0_eq] at hq_2
 obtain ⟨cq_2_0, dq_2_0, eq_2_0, hq_2_0, gq_2_0⟩ := hq_2
 have yq_2_0 : cq_2_0 = _ := hq_2_0
 obtain ⟨cq_2_1, dq_2_1, eq_2_1, hq_2_1, gq_2_1⟩ := gq_2_0
 have yq_2_1 : cq_2_1 = _ := hq_2_1
 obtain ⟨cq_2_2, dq_2_2, eq_2_2, hq_2_2, gq_2_2⟩ := gq_2_1
 have yq_2_2 : cq_2_2 = _ := hq_2_2
 obtain ⟨cq_2_3, dq_2_3, eq_2_3, hq_2_3, gq_2_3⟩ := gq_2_2
 have yq_2_3 : cq_2_3 = _ := hq_2_3
 obtain ⟨cq_2_4, dq_2_4, eq_2_4, hq_2_4, gq_2_4⟩ := gq_2_3
 obtain ⟨Aq_2_4, kq_2_4, yq_2_4, zq_2_4⟩ := Rep.sli hq_2_4
 have lq_2 : dq_2_4 = [] := gq_2_4
 obtain ⟨cq_3, dq_3, eq_3, hq_3, gq_3⟩ := gq_2
 have yq_3 : cq_3 = _ := hq_3
 obtain ⟨cq_4, dq_4, eq_4, hq_4, gq_4⟩ := gq_3
 have yq_4 : cq_4 = _ := hq_4
 have lq : dq_4 = [] := gq_4
 exact ⟨Aq_2_4, kq_2_4, by simp [eq_0, yq_0, eq_1, yq_1, eq_2, eq_2_0, yq_2_0, eq_2_1, yq_2_1, eq_2_2, yq_2_2, eq_2_3, yq_2_3, eq_2_4, yq_2_4, lq_2, eq_3, yq_3, eq_4, yq_4, lq], zq_2_4⟩
theorem TR0.shut {M : Mem} {a0 : Int} {a1 : Int} {a2 : Int} {a3 : Int} {a4 : List UInt8} {a5 : List UInt8} {a6 : List TE0} {a7 : Int} {a8 : List UInt8} {A6 : Option Addr} {c6 : Nat} (h6 : Sli M 8 emb_TE0 A6 c6 a6) : Rep M (emb_TR0 ⟨a0, a1, ⟨a2, a3, a4, a5, a6⟩, a7, a8⟩) [.int .i64 a0, .int .i8 a1, .int .i64 a2, .int .i8 a3, S a4, S a5, .slice A6 a6.length c6, .int .i8 a7, S a8] := by
 rw [emb_TR0_eq]; exact ⟨_, _, rfl, rfl, ⟨_, _, rfl, rfl, ⟨_, _, rfl, (by rw [emb_TQ0_eq]; exact ⟨_, _, rfl, rfl, ⟨_, _, rfl, rfl, ⟨_, _, rfl, rfl, ⟨_, _, rfl, rfl, ⟨_, _, rfl, (Sli.rep h6), rfl⟩⟩⟩⟩⟩), ⟨_, _, rfl, rfl, ⟨_, _, rfl, rfl, rfl⟩⟩⟩⟩⟩
theorem TR0.shutx {M : Mem} {x : TR0} {A6 : Option Addr} {c6 : Nat} (h6 : Sli M 8 emb_TE0 A6 c6 x.fCall.fProps) : Rep M (emb_TR0 x) [.int .i64 x.fChange, .int .i8 x.fPhase, .int .i64 x.fCall.fToken, .int .i8 x.fCall.fKind, S x.fCall.fPhys, S x.fCall.fType, .slice A6 x.fCall.fProps.length c6, .int .i8 x.fState, S x.fPhys] := by
 obtain ⟨u0, u1, ⟨u2, u3, u4, u5, u6⟩, u7, u8⟩ := x
 exact TR0.shut h6
structure TK0 where
  fKind : Int
  fWidth : Int
  fOld : TF0
  fNew : TL0
  fText : List UInt8
  fArgs : List TE0
  fChanges : List TC0
  fTasks : List TR0
  fPhase : Int
  fStatus : Int
def emb_TK0 : TK0 → Dat
  | ⟨x0, x1, x2, x3, x4, x5, x6, x7, x8, x9⟩ => .struct [(Dat.int .i8) x0, (Dat.int .i64) x1, emb_TF0 x2, emb_TL0 x3, Dat.str x4, (eL 8 emb_TE0) x5, (eL 8 emb_TC0) x6, (eL 9 emb_TR0) x7, (Dat.int .i8) x8, (Dat.int .i8) x9]
theorem emb_TK0_eq (x : TK0) : emb_TK0 x = .struct [(Dat.int .i8) x.fKind, (Dat.int .i64) x.fWidth, emb_TF0 x.fOld, emb_TL0 x.fNew, Dat.str x.fText, (eL 8 emb_TE0) x.fArgs, (eL 8 emb_TC0) x.fChanges, (eL 9 emb_TR0) x.fTasks, (Dat.int .i8) x.fPhase, (Dat.int .i8) x.fStatus] := by
 cases x
 simp [emb_TK0, eL]
theorem TK0.opn {M : Mem} {x : TK0} {cs : List Value} (h : Rep M (emb_TK0 x) cs) : ∃ (A2 : Option Addr) (c2 : Nat) (A3 : Option Addr) (c3 : Nat) (A4 : Option Addr) (c4 : Nat) (A5 : Option Addr) (c5 : Nat) (A7 : Option Addr) (c7 : Nat) (A10 : Option Addr) (c10 : Nat) (A11 : Option Addr) (c11 : Nat) (A13 : Option Addr) (c13 : Nat) (A14 : Option Addr) (c14 : Nat) (A15 : Option Addr) (c15 : Nat), cs = [.int .i8 x.fKind, .int .i64 x.fWidth, .slice A2 x.fOld.fOwned.length c2, .slice A3 x.fOld.fPending.length c3, .slice A4 x.fOld.fRetained.length c4, .slice A5 x.fOld.fOuts.length c5, S x.fOld.fText, .slice A7 x.fOld.fArgs.length c7, .int .i64 x.fOld.fCalls, .int .i8 x.fOld.fStatus, .slice A10 x.fNew.fScopes.length c10, .slice A11 x.fNew.fNodes.length c11, S x.fText, .slice A13 x.fArgs.length c13, .slice A14 x.fChanges.length c14, .slice A15 x.fTasks.length c15, .int .i8 x.fPhase, .int .i8 x.fStatus] ∧ Sli M 6 emb_TS0 A2 c2 x.fOld.fOwned ∧ Sli M 6 emb_TS0 A3 c3 x.fOld.fPending ∧ Sli M 6 emb_TS0 A4 c4 x.fOld.fRetained ∧ Sli M 8 emb_TE0 A5 c5 x.fOld.fOuts ∧ Sli M 8 emb_TE0 A7 c7 x.fOld.fArgs ∧ Sli M 7 emb_TG0 A10 c10 x.fNew.fScopes ∧ Sli M 11 emb_TN0 A11 c11 x.fNew.fNodes ∧ Sli M 8 emb_TE0 A13 c13 x.fArgs ∧ Sli M 8 emb_TC0 A14 c14 x.fChanges ∧ Sli M 9 emb_TR0 A15 c15 x.fTasks := by
 rw [emb_TK0_eq] at h
 obtain ⟨cq_0, dq_0, eq_0, hq_0, gq_0⟩ := h
 have yq_0 : cq_0 = _ := hq_0
 obtain ⟨cq_1, dq_1, eq_1, hq_1, gq_1⟩ := gq_0
 have yq_1 : cq_1 = _ := hq_1
 obtain ⟨cq_2, dq_2, eq_2, hq_2, gq_2⟩ := gq_1
 rw [emb_TF0_eq] at hq_2
 obtain ⟨cq_2_0, dq_2_0, eq_2_0, hq_2_0, gq_2_0⟩ := hq_2
 obtain ⟨Aq_2_0, kq_2_0, yq_2_0, zq_2_0⟩ := Rep.sli hq_2_0
 obtain ⟨cq_2_1, dq_2_1, eq_2_1, hq_2_1, gq_2_1⟩ := gq_2_0
 obtain ⟨Aq_2_1, kq_2_1, yq_2_1, zq_2_1⟩ := Rep.sli hq_2_1
 obtain ⟨cq_2_2, dq_2_2, eq_2_2, hq_2_2, gq_2_2⟩ := gq_2_1
 obtain ⟨Aq_2_2, kq_2_2, yq_2_2, zq_2_2⟩ := Rep.sli hq_2_2
 obtain ⟨cq_2_3, dq_2_3, eq_2_3, hq_2_3, gq_2_3⟩ := gq_2_2
 obtain ⟨Aq_2_3, kq_2_3, yq_2_3, zq_2_3⟩ := Rep.sli hq_2_3
 obtain ⟨cq_2_4, dq_2_4, eq_2_4, hq_2_4, gq_2_4⟩ := gq_2_3
 have yq_2_4 : cq_2_4 = _ := hq_2_4
 obtain ⟨cq_2_5, dq_2_5, eq_2_5, hq_2_5, gq_2_5⟩ := gq_2_4
 obtain ⟨Aq_2_5, kq_2_5, yq_2_5, zq_2_5⟩ := Rep.sli hq_2_5
 obtain ⟨cq_2_6, dq_2_6, eq_2_6, hq_2_6, gq_2_6⟩ := gq_2_5
 have yq_2_6 : cq_2_6 = _ := hq_2_6
 obtain ⟨cq_2_7, dq_2_7, eq_2_7, hq_2_7, gq_2_7⟩ := gq_2_6
 have yq_2_7 : cq_2_7 = _ := hq_2_7
 have lq_2 : dq_2_7 = [] := gq_2_7
 obtain ⟨cq_3, dq_3, eq_3, hq_3, gq_3⟩ := gq_2
 rw [emb_TL0_eq] at hq_3
 obtain ⟨cq_3_0, dq_3_0, eq_3_0, hq_3_0, gq_3_0⟩ := hq_3
 obtain ⟨Aq_3_0, kq_3_0, yq_3_0, zq_3_0⟩ := Rep.sli hq_3_0
 obtain ⟨cq_3_1, dq_3_1, eq_3_1, hq_3_1, gq_3_1⟩ := gq_3_0
 obtain ⟨Aq_3_1, kq_3_1, yq_3_1, zq_3_1⟩ := Rep.sli hq_3_1
 have lq_3 : dq_3_1 = [] := gq_3_1
 obtain ⟨cq_4, dq_4, eq_4, hq_4, gq_4⟩ := gq_3
 have yq_4 : cq_4 = _ := hq_4
 obtain ⟨cq_5, dq_5, eq_5, hq_5, gq_5⟩ := gq_4
 obtain ⟨Aq_5, kq_5, yq_5, zq_5⟩ := Rep.sli hq_5
 obtain ⟨cq_6, dq_6, eq_6, hq_6, gq_6⟩ := gq_5
 obtain ⟨Aq_6, kq_6, yq_6, zq_6⟩ := Rep.sli hq_6
 obtain ⟨cq_7, dq_7, eq_7, hq_7, gq_7⟩ := gq_6
 obtain ⟨Aq_7, kq_7, yq_7, zq_7⟩ := Rep.sli hq_7
 obtain ⟨cq_8, dq_8, eq_8, hq_8, gq_8⟩ := gq_7
 have yq_8 : cq_8 = _ := hq_8
 obtain ⟨cq_9, dq_9, eq_9, hq_9, gq_9⟩ := gq_8
 have yq_9 : cq_9 = _ := hq_9
 have lq : dq_9 = [] := gq_9
 exact ⟨Aq_2_0, kq_2_0, Aq_2_1, kq_2_1, Aq_2_2, kq_2_2, Aq_2_3, kq_2_3, Aq_2_5, kq_2_5, Aq_3_0, kq_3_0, Aq_3_1, kq_3_1, Aq_5, kq_5, Aq_6, kq_6, Aq_7, kq_7, by simp [eq_0, yq_0, eq_1, yq_1, eq_2, eq_2_0, yq_2_0, eq_2_1, yq_2_1, eq_2_2, yq_2_2, eq_2_3, yq_2_3, eq_2_4, yq_2_4, eq_2_5, yq_2_5, eq_2_6, yq_2_6, eq_2_7, yq_2_7, lq_2, eq_3, eq_3_0, yq_3_0, eq_3_1, yq_3_1, lq_3, eq_4, yq_4, eq_5, yq_5, eq_6, yq_6, eq_7, yq_7, eq_8, yq_8, eq_9, yq_9, lq], zq_2_0, zq_2_1, zq_2_2, zq_2_3, zq_2_5, zq_3_0, zq_3_1, zq_5, zq_6, zq_7⟩
theorem TK0.shut {M : Mem} {a0 : Int} {a1 : Int} {a2 : List TS0} {a3 : List TS0} {a4 : List TS0} {a5 : List TE0} {a6 : List UInt8} {a7 : List TE0} {a8 : Int} {a9 : Int} {a10 : List TG0} {a11 : List TN0} {a12 : List UInt8} {a13 : List TE0} {a14 : List TC0} {a15 : List TR0} {a16 : Int} {a17 : Int} {A2 : Option Addr} {c2 : Nat} {A3 : Option Addr} {c3 : Nat} {A4 : Option Addr} {c4 : Nat} {A5 : Option Addr} {c5 : Nat} {A7 : Option Addr} {c7 : Nat} {A10 : Option Addr} {c10 : Nat} {A11 : Option Addr} {c11 : Nat} {A13 : Option Addr} {c13 : Nat} {A14 : Option Addr} {c14 : Nat} {A15 : Option Addr} {c15 : Nat} (h2 : Sli M 6 emb_TS0 A2 c2 a2) (h3 : Sli M 6 emb_TS0 A3 c3 a3) (h4 : Sli M 6 emb_TS0 A4 c4 a4) (h5 : Sli M 8 emb_TE0 A5 c5 a5) (h7 : Sli M 8 emb_TE0 A7 c7 a7) (h10 : Sli M 7 emb_TG0 A10 c10 a10) (h11 : Sli M 11 emb_TN0 A11 c11 a11) (h13 : Sli M 8 emb_TE0 A13 c13 a13) (h14 : Sli M 8 emb_TC0 A14 c14 a14) (h15 : Sli M 9 emb_TR0 A15 c15 a15) : Rep M (emb_TK0 ⟨a0, a1, ⟨a2, a3, a4, a5, a6, a7, a8, a9⟩, ⟨a10, a11⟩, a12, a13, a14, a15, a16, a17⟩) [.int .i8 a0, .int .i64 a1, .slice A2 a2.length c2, .slice A3 a3.length c3, .slice A4 a4.length c4, .slice A5 a5.length c5, S a6, .slice A7 a7.length c7, .int .i64 a8, .int .i8 a9, .slice A10 a10.length c10, .slice A11 a11.length c11, S a12, .slice A13 a13.length c13, .slice A14 a14.length c14, .slice A15 a15.length c15, .int .i8 a16, .int .i8 a17] := by
 rw [emb_TK0_eq]; exact ⟨_, _, rfl, rfl, ⟨_, _, rfl, rfl, ⟨_, _, rfl, (by rw [emb_TF0_eq]; exact ⟨_, _, rfl, (Sli.rep h2), ⟨_, _, rfl, (Sli.rep h3), ⟨_, _, rfl, (Sli.rep h4), ⟨_, _, rfl, (Sli.rep h5), ⟨_, _, rfl, rfl, ⟨_, _, rfl, (Sli.rep h7), ⟨_, _, rfl, rfl, ⟨_, _, rfl, rfl, rfl⟩⟩⟩⟩⟩⟩⟩⟩), ⟨_, _, rfl, (by rw [emb_TL0_eq]; exact ⟨_, _, rfl, (Sli.rep h10), ⟨_, _, rfl, (Sli.rep h11), rfl⟩⟩), ⟨_, _, rfl, rfl, ⟨_, _, rfl, (Sli.rep h13), ⟨_, _, rfl, (Sli.rep h14), ⟨_, _, rfl, (Sli.rep h15), ⟨_, _, rfl, rfl, ⟨_, _, rfl, rfl, rfl⟩⟩⟩⟩⟩⟩⟩⟩⟩⟩
theorem TK0.shutx {M : Mem} {x : TK0} {A2 : Option Addr} {c2 : Nat} {A3 : Option Addr} {c3 : Nat} {A4 : Option Addr} {c4 : Nat} {A5 : Option Addr} {c5 : Nat} {A7 : Option Addr} {c7 : Nat} {A10 : Option Addr} {c10 : Nat} {A11 : Option Addr} {c11 : Nat} {A13 : Option Addr} {c13 : Nat} {A14 : Option Addr} {c14 : Nat} {A15 : Option Addr} {c15 : Nat} (h2 : Sli M 6 emb_TS0 A2 c2 x.fOld.fOwned) (h3 : Sli M 6 emb_TS0 A3 c3 x.fOld.fPending) (h4 : Sli M 6 emb_TS0 A4 c4 x.fOld.fRetained) (h5 : Sli M 8 emb_TE0 A5 c5 x.fOld.fOuts) (h7 : Sli M 8 emb_TE0 A7 c7 x.fOld.fArgs) (h10 : Sli M 7 emb_TG0 A10 c10 x.fNew.fScopes) (h11 : Sli M 11 emb_TN0 A11 c11 x.fNew.fNodes) (h13 : Sli M 8 emb_TE0 A13 c13 x.fArgs) (h14 : Sli M 8 emb_TC0 A14 c14 x.fChanges) (h15 : Sli M 9 emb_TR0 A15 c15 x.fTasks) : Rep M (emb_TK0 x) [.int .i8 x.fKind, .int .i64 x.fWidth, .slice A2 x.fOld.fOwned.length c2, .slice A3 x.fOld.fPending.length c3, .slice A4 x.fOld.fRetained.length c4, .slice A5 x.fOld.fOuts.length c5, S x.fOld.fText, .slice A7 x.fOld.fArgs.length c7, .int .i64 x.fOld.fCalls, .int .i8 x.fOld.fStatus, .slice A10 x.fNew.fScopes.length c10, .slice A11 x.fNew.fNodes.length c11, S x.fText, .slice A13 x.fArgs.length c13, .slice A14 x.fChanges.length c14, .slice A15 x.fTasks.length c15, .int .i8 x.fPhase, .int .i8 x.fStatus] := by
 obtain ⟨u0, u1, ⟨u2, u3, u4, u5, u6, u7, u8, u9⟩, ⟨u10, u11⟩, u12, u13, u14, u15, u16, u17⟩ := x
 exact TK0.shut h2 h3 h4 h5 h7 h10 h11 h13 h14 h15
structure T_forward_key where
  change : Int
  phase : Int
  deriving DecidableEq, Inhabited
structure T_back_maker where
  w : TK0
  n : Int
def emb_T_back_maker : T_back_maker → Dat
  | ⟨x0, x1⟩ => .struct [emb_TK0 x0, (Dat.int .i64) x1]
theorem emb_T_back_maker_eq (x : T_back_maker) : emb_T_back_maker x = .struct [emb_TK0 x.w, (Dat.int .i64) x.n] := by
 cases x
 simp [emb_T_back_maker, eL]
theorem T_back_maker.opn {M : Mem} {x : T_back_maker} {cs : List Value} (h : Rep M (emb_T_back_maker x) cs) : ∃ (A2 : Option Addr) (c2 : Nat) (A3 : Option Addr) (c3 : Nat) (A4 : Option Addr) (c4 : Nat) (A5 : Option Addr) (c5 : Nat) (A7 : Option Addr) (c7 : Nat) (A10 : Option Addr) (c10 : Nat) (A11 : Option Addr) (c11 : Nat) (A13 : Option Addr) (c13 : Nat) (A14 : Option Addr) (c14 : Nat) (A15 : Option Addr) (c15 : Nat), cs = [.int .i8 x.w.fKind, .int .i64 x.w.fWidth, .slice A2 x.w.fOld.fOwned.length c2, .slice A3 x.w.fOld.fPending.length c3, .slice A4 x.w.fOld.fRetained.length c4, .slice A5 x.w.fOld.fOuts.length c5, S x.w.fOld.fText, .slice A7 x.w.fOld.fArgs.length c7, .int .i64 x.w.fOld.fCalls, .int .i8 x.w.fOld.fStatus, .slice A10 x.w.fNew.fScopes.length c10, .slice A11 x.w.fNew.fNodes.length c11, S x.w.fText, .slice A13 x.w.fArgs.length c13, .slice A14 x.w.fChanges.length c14, .slice A15 x.w.fTasks.length c15, .int .i8 x.w.fPhase, .int .i8 x.w.fStatus, .int .i64 x.n] ∧ Sli M 6 emb_TS0 A2 c2 x.w.fOld.fOwned ∧ Sli M 6 emb_TS0 A3 c3 x.w.fOld.fPending ∧ Sli M 6 emb_TS0 A4 c4 x.w.fOld.fRetained ∧ Sli M 8 emb_TE0 A5 c5 x.w.fOld.fOuts ∧ Sli M 8 emb_TE0 A7 c7 x.w.fOld.fArgs ∧ Sli M 7 emb_TG0 A10 c10 x.w.fNew.fScopes ∧ Sli M 11 emb_TN0 A11 c11 x.w.fNew.fNodes ∧ Sli M 8 emb_TE0 A13 c13 x.w.fArgs ∧ Sli M 8 emb_TC0 A14 c14 x.w.fChanges ∧ Sli M 9 emb_TR0 A15 c15 x.w.fTasks := by
 rw [emb_T_back_maker_eq] at h
 obtain ⟨cq_0, dq_0, eq_0, hq_0, gq_0⟩ := h
 rw [emb_TK0_eq] at hq_0
 obtain ⟨cq_0_0, dq_0_0, eq_0_0, hq_0_0, gq_0_0⟩ := hq_0
 have yq_0_0 : cq_0_0 = _ := hq_0_0
 obtain ⟨cq_0_1, dq_0_1, eq_0_1, hq_0_1, gq_0_1⟩ := gq_0_0
 have yq_0_1 : cq_0_1 = _ := hq_0_1
 obtain ⟨cq_0_2, dq_0_2, eq_0_2, hq_0_2, gq_0_2⟩ := gq_0_1
 rw [emb_TF0_eq] at hq_0_2
 obtain ⟨cq_0_2_0, dq_0_2_0, eq_0_2_0, hq_0_2_0, gq_0_2_0⟩ := hq_0_2
 obtain ⟨Aq_0_2_0, kq_0_2_0, yq_0_2_0, zq_0_2_0⟩ := Rep.sli hq_0_2_0
 obtain ⟨cq_0_2_1, dq_0_2_1, eq_0_2_1, hq_0_2_1, gq_0_2_1⟩ := gq_0_2_0
 obtain ⟨Aq_0_2_1, kq_0_2_1, yq_0_2_1, zq_0_2_1⟩ := Rep.sli hq_0_2_1
 obtain ⟨cq_0_2_2, dq_0_2_2, eq_0_2_2, hq_0_2_2, gq_0_2_2⟩ := gq_0_2_1
 obtain ⟨Aq_0_2_2, kq_0_2_2, yq_0_2_2, zq_0_2_2⟩ := Rep.sli hq_0_2_2
 obtain ⟨cq_0_2_3, dq_0_2_3, eq_0_2_3, hq_0_2_3, gq_0_2_3⟩ := gq_0_2_2
 obtain ⟨Aq_0_2_3, kq_0_2_3, yq_0_2_3, zq_0_2_3⟩ := Rep.sli hq_0_2_3
 obtain ⟨cq_0_2_4, dq_0_2_4, eq_0_2_4, hq_0_2_4, gq_0_2_4⟩ := gq_0_2_3
 have yq_0_2_4 : cq_0_2_4 = _ := hq_0_2_4
 obtain ⟨cq_0_2_5, dq_0_2_5, eq_0_2_5, hq_0_2_5, gq_0_2_5⟩ := gq_0_2_4
 obtain ⟨Aq_0_2_5, kq_0_2_5, yq_0_2_5, zq_0_2_5⟩ := Rep.sli hq_0_2_5
 obtain ⟨cq_0_2_6, dq_0_2_6, eq_0_2_6, hq_0_2_6, gq_0_2_6⟩ := gq_0_2_5
 have yq_0_2_6 : cq_0_2_6 = _ := hq_0_2_6
 obtain ⟨cq_0_2_7, dq_0_2_7, eq_0_2_7, hq_0_2_7, gq_0_2_7⟩ := gq_0_2_6
 have yq_0_2_7 : cq_0_2_7 = _ := hq_0_2_7
 have lq_0_2 : dq_0_2_7 = [] := gq_0_2_7
 obtain ⟨cq_0_3, dq_0_3, eq_0_3, hq_0_3, gq_0_3⟩ := gq_0_2
 rw [emb_TL0_eq] at hq_0_3
 obtain ⟨cq_0_3_0, dq_0_3_0, eq_0_3_0, hq_0_3_0, gq_0_3_0⟩ := hq_0_3
 obtain ⟨Aq_0_3_0, kq_0_3_0, yq_0_3_0, zq_0_3_0⟩ := Rep.sli hq_0_3_0
 obtain ⟨cq_0_3_1, dq_0_3_1, eq_0_3_1, hq_0_3_1, gq_0_3_1⟩ := gq_0_3_0
 obtain ⟨Aq_0_3_1, kq_0_3_1, yq_0_3_1, zq_0_3_1⟩ := Rep.sli hq_0_3_1
 have lq_0_3 : dq_0_3_1 = [] := gq_0_3_1
 obtain ⟨cq_0_4, dq_0_4, eq_0_4, hq_0_4, gq_0_4⟩ := gq_0_3
 have yq_0_4 : cq_0_4 = _ := hq_0_4
 obtain ⟨cq_0_5, dq_0_5, eq_0_5, hq_0_5, gq_0_5⟩ := gq_0_4
 obtain ⟨Aq_0_5, kq_0_5, yq_0_5, zq_0_5⟩ := Rep.sli hq_0_5
 obtain ⟨cq_0_6, dq_0_6, eq_0_6, hq_0_6, gq_0_6⟩ := gq_0_5
 obtain ⟨Aq_0_6, kq_0_6, yq_0_6, zq_0_6⟩ := Rep.sli hq_0_6
 obtain ⟨cq_0_7, dq_0_7, eq_0_7, hq_0_7, gq_0_7⟩ := gq_0_6
 obtain ⟨Aq_0_7, kq_0_7, yq_0_7, zq_0_7⟩ := Rep.sli hq_0_7
 obtain ⟨cq_0_8, dq_0_8, eq_0_8, hq_0_8, gq_0_8⟩ := gq_0_7
 have yq_0_8 : cq_0_8 = _ := hq_0_8
 obtain ⟨cq_0_9, dq_0_9, eq_0_9, hq_0_9, gq_0_9⟩ := gq_0_8
 have yq_0_9 : cq_0_9 = _ := hq_0_9
 have lq_0 : dq_0_9 = [] := gq_0_9
 obtain ⟨cq_1, dq_1, eq_1, hq_1, gq_1⟩ := gq_0
 have yq_1 : cq_1 = _ := hq_1
 have lq : dq_1 = [] := gq_1
 exact ⟨Aq_0_2_0, kq_0_2_0, Aq_0_2_1, kq_0_2_1, Aq_0_2_2, kq_0_2_2, Aq_0_2_3, kq_0_2_3, Aq_0_2_5, kq_0_2_5, Aq_0_3_0, kq_0_3_0, Aq_0_3_1, kq_0_3_1, Aq_0_5, kq_0_5, Aq_0_6, kq_0_6, Aq_0_7, kq_0_7, by simp [eq_0, eq_0_0, yq_0_0, eq_0_1, yq_0_1, eq_0_2, eq_0_2_0, yq_0_2_0, eq_0_2_1, yq_0_2_1, eq_0_2_2, yq_0_2_2, eq_0_2_3, yq_0_2_3, eq_0_2_4, yq_0_2_4, eq_0_2_5, yq_0_2_5, eq_0_2_6, yq_0_2_6, eq_0_2_7, yq_0_2_7, lq_0_2, eq_0_3, eq_0_3_0, yq_0_3_0, eq_0_3_1, yq_0_3_1, lq_0_3, eq_0_4, yq_0_4, eq_0_5, yq_0_5, eq_0_6, yq_0_6, eq_0_7, yq_0_7, eq_0_8, yq_0_8, eq_0_9, yq_0_9, lq_0, eq_1, yq_1, lq], zq_0_2_0, zq_0_2_1, zq_0_2_2, zq_0_2_3, zq_0_2_5, zq_0_3_0, zq_0_3_1, zq_0_5, zq_0_6, zq_0_7⟩
theorem T_back_maker.shut {M : Mem} {a0 : Int} {a1 : Int} {a2 : List TS0} {a3 : List TS0} {a4 : List TS0} {a5 : List TE0} {a6 : List UInt8} {a7 : List TE0} {a8 : Int} {a9 : Int} {a10 : List TG0} {a11 : List TN0} {a12 : List UInt8} {a13 : List TE0} {a14 : List TC0} {a15 : List TR0} {a16 : Int} {a17 : Int} {a18 : Int} {A2 : Option Addr} {c2 : Nat} {A3 : Option Addr} {c3 : Nat} {A4 : Option Addr} {c4 : Nat} {A5 : Option Addr} {c5 : Nat} {A7 : Option Addr} {c7 : Nat} {A10 : Option Addr} {c10 : Nat} {A11 : Option Addr} {c11 : Nat} {A13 : Option Addr} {c13 : Nat} {A14 : Option Addr} {c14 : Nat} {A15 : Option Addr} {c15 : Nat} (h2 : Sli M 6 emb_TS0 A2 c2 a2) (h3 : Sli M 6 emb_TS0 A3 c3 a3) (h4 : Sli M 6 emb_TS0 A4 c4 a4) (h5 : Sli M 8 emb_TE0 A5 c5 a5) (h7 : Sli M 8 emb_TE0 A7 c7 a7) (h10 : Sli M 7 emb_TG0 A10 c10 a10) (h11 : Sli M 11 emb_TN0 A11 c11 a11) (h13 : Sli M 8 emb_TE0 A13 c13 a13) (h14 : Sli M 8 emb_TC0 A14 c14 a14) (h15 : Sli M 9 emb_TR0 A15 c15 a15) : Rep M (emb_T_back_maker ⟨⟨a0, a1, ⟨a2, a3, a4, a5, a6, a7, a8, a9⟩, ⟨a10, a11⟩, a12, a13, a14, a15, a16, a17⟩, a18⟩) [.int .i8 a0, .int .i64 a1, .slice A2 a2.length c2, .slice A3 a3.length c3, .slice A4 a4.length c4, .slice A5 a5.length c5, S a6, .slice A7 a7.length c7, .int .i64 a8, .int .i8 a9, .slice A10 a10.length c10, .slice A11 a11.length c11, S a12, .slice A13 a13.length c13, .slice A14 a14.length c14, .slice A15 a15.length c15, .int .i8 a16, .int .i8 a17, .int .i64 a18] := by
 rw [emb_T_back_maker_eq]; exact ⟨_, _, rfl, (by rw [emb_TK0_eq]; exact ⟨_, _, rfl, rfl, ⟨_, _, rfl, rfl, ⟨_, _, rfl, (by rw [emb_TF0_eq]; exact ⟨_, _, rfl, (Sli.rep h2), ⟨_, _, rfl, (Sli.rep h3), ⟨_, _, rfl, (Sli.rep h4), ⟨_, _, rfl, (Sli.rep h5), ⟨_, _, rfl, rfl, ⟨_, _, rfl, (Sli.rep h7), ⟨_, _, rfl, rfl, ⟨_, _, rfl, rfl, rfl⟩⟩⟩⟩⟩⟩⟩⟩), ⟨_, _, rfl, (by rw [emb_TL0_eq]; exact ⟨_, _, rfl, (Sli.rep h10), ⟨_, _, rfl, (Sli.rep h11), rfl⟩⟩), ⟨_, _, rfl, rfl, ⟨_, _, rfl, (Sli.rep h13), ⟨_, _, rfl, (Sli.rep h14), ⟨_, _, rfl, (Sli.rep h15), ⟨_, _, rfl, rfl, ⟨_, _, rfl, rfl, rfl⟩⟩⟩⟩⟩⟩⟩⟩⟩⟩), ⟨_, _, rfl, rfl, rfl⟩⟩
abbrev z_TS0 : TS0 := (⟨([] : List UInt8), ([] : List UInt8), ([] : List UInt8), ([] : List TE0), (false), ([] : List (List UInt8))⟩ : TS0)
abbrev z_TF0 : TF0 := (⟨([] : List TS0), ([] : List TS0), ([] : List TS0), ([] : List TE0), ([] : List UInt8), ([] : List TE0), (0 : Int), (0 : Int)⟩ : TF0)
abbrev z_TL0 : TL0 := (⟨([] : List TG0), ([] : List TN0)⟩ : TL0)
abbrev z_TQ0 : TQ0 := (⟨(0 : Int), (0 : Int), ([] : List UInt8), ([] : List UInt8), ([] : List TE0)⟩ : TQ0)
end Go.Proofs.YtfdmlionhbeebaaGreat
end

section
namespace Go.Proofs
open Go.Shelf
def Tryz.lays125_ren : Go.Shelf.Ren := ⟨fun | 125 => 165 | 128 => 216 | 129 => 217 | n => n, fun | 46 => 270 | 3 => 3 | 51 => 316 | 53 => 318 | 4 => 4 | 5 => 5 | 9 => 9 | n => n, fun | n => n⟩
theorem Tryz.lays125 : Go.Proofs.Lays.n125 Tryz.prog Tryz.lays125_ren := {
 mixed := by kernel_rfl
 f125 := Tryz.func165.trans (congrArg some (by kernel_rfl))
 f128 := Tryz.func216.trans (congrArg some (by kernel_rfl))
 f129 := Tryz.func217.trans (congrArg some (by kernel_rfl))
 t3 := Tryz.underlying3
 a3 := Tryz.isAgg3
 z3 := Tryz.sizeOf3
 v3 := Tryz.zeroValue3
 t4 := Tryz.underlying4
 a4 := Tryz.isAgg4
 z4 := Tryz.sizeOf4
 v4 := Tryz.zeroValue4
 t5 := Tryz.underlying5
 a5 := Tryz.isAgg5
 z5 := Tryz.sizeOf5
 v5 := Tryz.zeroValue5
 t9 := Tryz.underlying9
 a9 := Tryz.isAgg9
 z9 := Tryz.sizeOf9
 v9 := Tryz.zeroValue9
 t46 := Tryz.underlying270
 a46 := Tryz.isAgg270
 z46 := Tryz.sizeOf270
 v46 := Tryz.zeroValue270
 t51 := Tryz.underlying316
 a51 := Tryz.isAgg316
 z51 := Tryz.sizeOf316
 v51 := Tryz.zeroValue316
 t53 := Tryz.underlying318
 a53 := Tryz.isAgg318
 z53 := Tryz.sizeOf318
 v53 := Tryz.zeroValue318 }
theorem Tryz.bits_Len (x : Int) (w : World) (h0 : 0 ≤ x) (h1 : x ≤ 18446744073709551615) :
  Calls Tryz.prog 165 #[.int .u64 x] w fun e w' => e = .returned (.int .i64 (Lib.bitLen x.toNat)) ∧ w' = w := Any.bits_Len Tryz.lays125 x w h0 h1
def Tryz.lays189_ren : Go.Shelf.Ren := ⟨fun | 189 => 105 | 125 => 165 | 257 => 164 | 128 => 216 | 129 => 217 | 294 => 207 | 295 => 208 | 296 => 209 | 297 => 210 | 298 => 211 | 299 => 212 | 216 => 213 | 300 => 214 | 301 => 215 | 328 => 252 | 329 => 253 | 330 => 254 | 331 => 255 | 332 => 256 | 215 => 257 | 343 => 286 | n => n, fun | 28 => 47 | 3 => 3 | 46 => 270 | 0 => 0 | 51 => 316 | 53 => 318 | 4 => 4 | 183 => 309 | 182 => 308 | 131 => 97 | 5 => 5 | 9 => 9 | 218 => 349 | 222 => 353 | 228 => 374 | 229 => 214 | n => n, fun | n => n⟩
theorem Tryz.lays189 : Go.Proofs.Lays.n189 Tryz.prog Tryz.lays189_ren := {
 mixed := by kernel_rfl
 f125 := Tryz.func165.trans (congrArg some (by kernel_rfl))
 f128 := Tryz.func216.trans (congrArg some (by kernel_rfl))
 f129 := Tryz.func217.trans (congrArg some (by kernel_rfl))
 f189 := Tryz.func105.trans (congrArg some (by kernel_rfl))
 f215 := Tryz.func257.trans (congrArg some (by kernel_rfl))
 f216 := Tryz.func213.trans (congrArg some (by kernel_rfl))
 f257 := Tryz.func164.trans (congrArg some (by kernel_rfl))
 f294 := Tryz.func207.trans (congrArg some (by kernel_rfl))
 f295 := Tryz.func208.trans (congrArg some (by kernel_rfl))
 f296 := Tryz.func209.trans (congrArg some (by kernel_rfl))
 f297 := Tryz.func210.trans (congrArg some (by kernel_rfl))
 f298 := Tryz.func211.trans (congrArg some (by kernel_rfl))
 f299 := Tryz.func212.trans (congrArg some (by kernel_rfl))
 f300 := Tryz.func214.trans (congrArg some (by kernel_rfl))
 f301 := Tryz.func215.trans (congrArg some (by kernel_rfl))
 f328 := Tryz.func252.trans (congrArg some (by kernel_rfl))
 f329 := Tryz.func253.trans (congrArg some (by kernel_rfl))
 f330 := Tryz.func254.trans (congrArg some (by kernel_rfl))
 f331 := Tryz.func255.trans (congrArg some (by kernel_rfl))
 f332 := Tryz.func256.trans (congrArg some (by kernel_rfl))
 f343 := Tryz.func286.trans (congrArg some (by kernel_rfl))
 t0 := Tryz.underlying0
 a0 := Tryz.isAgg0
 z0 := Tryz.sizeOf0
 v0 := Tryz.zeroValue0
 t3 := Tryz.underlying3
 a3 := Tryz.isAgg3
 z3 := Tryz.sizeOf3
 v3 := Tryz.zeroValue3
 t4 := Tryz.underlying4
 a4 := Tryz.isAgg4
 z4 := Tryz.sizeOf4
 v4 := Tryz.zeroValue4
 t5 := Tryz.underlying5
 a5 := Tryz.isAgg5
 z5 := Tryz.sizeOf5
 v5 := Tryz.zeroValue5
 t9 := Tryz.underlying9
 a9 := Tryz.isAgg9
 z9 := Tryz.sizeOf9
 v9 := Tryz.zeroValue9
 t28 := Tryz.underlying47
 a28 := Tryz.isAgg47
 z28 := Tryz.sizeOf47
 v28 := Tryz.zeroValue47
 t46 := Tryz.underlying270
 a46 := Tryz.isAgg270
 z46 := Tryz.sizeOf270
 v46 := Tryz.zeroValue270
 t51 := Tryz.underlying316
 a51 := Tryz.isAgg316
 z51 := Tryz.sizeOf316
 v51 := Tryz.zeroValue316
 t53 := Tryz.underlying318
 a53 := Tryz.isAgg318
 z53 := Tryz.sizeOf318
 v53 := Tryz.zeroValue318
 t131 := Tryz.underlying97
 a131 := Tryz.isAgg97
 z131 := Tryz.sizeOf97
 v131 := Tryz.zeroValue97
 t182 := Tryz.underlying308
 a182 := Tryz.isAgg308
 z182 := Tryz.sizeOf308
 v182 := Tryz.zeroValue308
 t183 := Tryz.underlying309
 a183 := Tryz.isAgg309
 z183 := Tryz.sizeOf309
 v183 := Tryz.zeroValue309
 t218 := Tryz.underlying349
 a218 := Tryz.isAgg349
 z218 := Tryz.sizeOf349
 v218 := Tryz.zeroValue349
 t222 := Tryz.underlying353
 a222 := Tryz.isAgg353
 z222 := Tryz.sizeOf353
 v222 := Tryz.zeroValue353
 t228 := Tryz.underlying374
 a228 := Tryz.isAgg374
 z228 := Tryz.sizeOf374
 v228 := Tryz.zeroValue374
 t229 := Tryz.underlying214
 a229 := Tryz.isAgg214
 z229 := Tryz.sizeOf214
 v229 := Tryz.zeroValue214 }
open Go.Sort Go.RowKit in
theorem Tryz.slices_Sort_int (blk off cap : Nat) (zs : List Int) (w : World) (hH : Holds (Value.int .i64) w blk off zs.toArray) (hblk : blk < w.heap.size) (hsz : zs.length < 4611686018427387904) :
  Calls Tryz.prog 105 #[.slice (some ⟨blk, off, none⟩) zs.length cap] w fun e w' =>
   e = .returned (.tuple #[]) ∧ ∃ n os, w' = grow (putRow (Value.int .i64) (Sort.ahead w n) blk off (zs.mergeSort fun x y => decide (x ≤ y)).toArray) os := Any.slices_Sort_int Tryz.lays189 blk off cap zs w hH hblk hsz
def Tryz.lays190_ren : Go.Shelf.Ren := ⟨fun | 190 => 114 | 125 => 165 | 258 => 166 | 128 => 216 | 129 => 217 | 302 => 218 | 303 => 219 | 304 => 220 | 305 => 221 | 306 => 222 | 307 => 223 | 308 => 224 | 309 => 225 | 310 => 226 | 333 => 258 | 329 => 253 | 330 => 254 | 334 => 259 | 335 => 260 | 336 => 261 | 344 => 287 | n => n, fun | 31 => 66 | 9 => 9 | 3 => 3 | 46 => 270 | 0 => 0 | 51 => 316 | 53 => 318 | 4 => 4 | 183 => 309 | 182 => 308 | 131 => 97 | 5 => 5 | 218 => 349 | 222 => 353 | 228 => 374 | 229 => 214 | n => n, fun | n => n⟩
theorem Tryz.lays190 : Go.Proofs.Lays.n190 Tryz.prog Tryz.lays190_ren := {
 mixed := by kernel_rfl
 f125 := Tryz.func165.trans (congrArg some (by kernel_rfl))
 f128 := Tryz.func216.trans (congrArg some (by kernel_rfl))
 f129 := Tryz.func217.trans (congrArg some (by kernel_rfl))
 f190 := Tryz.func114.trans (congrArg some (by kernel_rfl))
 f258 := Tryz.func166.trans (congrArg some (by kernel_rfl))
 f302 := Tryz.func218.trans (congrArg some (by kernel_rfl))
 f303 := Tryz.func219.trans (congrArg some (by kernel_rfl))
 f304 := Tryz.func220.trans (congrArg some (by kernel_rfl))
 f305 := Tryz.func221.trans (congrArg some (by kernel_rfl))
 f306 := Tryz.func222.trans (congrArg some (by kernel_rfl))
 f307 := Tryz.func223.trans (congrArg some (by kernel_rfl))
 f308 := Tryz.func224.trans (congrArg some (by kernel_rfl))
 f309 := Tryz.func225.trans (congrArg some (by kernel_rfl))
 f310 := Tryz.func226.trans (congrArg some (by kernel_rfl))
 f329 := Tryz.func253.trans (congrArg some (by kernel_rfl))
 f330 := Tryz.func254.trans (congrArg some (by kernel_rfl))
 f333 := Tryz.func258.trans (congrArg some (by kernel_rfl))
 f334 := Tryz.func259.trans (congrArg some (by kernel_rfl))
 f335 := Tryz.func260.trans (congrArg some (by kernel_rfl))
 f336 := Tryz.func261.trans (congrArg some (by kernel_rfl))
 f344 := Tryz.func287.trans (congrArg some (by kernel_rfl))
 t0 := Tryz.underlying0
 a0 := Tryz.isAgg0
 z0 := Tryz.sizeOf0
 v0 := Tryz.zeroValue0
 t3 := Tryz.underlying3
 a3 := Tryz.isAgg3
 z3 := Tryz.sizeOf3
 v3 := Tryz.zeroValue3
 t4 := Tryz.underlying4
 a4 := Tryz.isAgg4
 z4 := Tryz.sizeOf4
 v4 := Tryz.zeroValue4
 t5 := Tryz.underlying5
 a5 := Tryz.isAgg5
 z5 := Tryz.sizeOf5
 v5 := Tryz.zeroValue5
 t9 := Tryz.underlying9
 a9 := Tryz.isAgg9
 z9 := Tryz.sizeOf9
 v9 := Tryz.zeroValue9
 t31 := Tryz.underlying66
 a31 := Tryz.isAgg66
 z31 := Tryz.sizeOf66
 v31 := Tryz.zeroValue66
 t46 := Tryz.underlying270
 a46 := Tryz.isAgg270
 z46 := Tryz.sizeOf270
 v46 := Tryz.zeroValue270
 t51 := Tryz.underlying316
 a51 := Tryz.isAgg316
 z51 := Tryz.sizeOf316
 v51 := Tryz.zeroValue316
 t53 := Tryz.underlying318
 a53 := Tryz.isAgg318
 z53 := Tryz.sizeOf318
 v53 := Tryz.zeroValue318
 t131 := Tryz.underlying97
 a131 := Tryz.isAgg97
 z131 := Tryz.sizeOf97
 v131 := Tryz.zeroValue97
 t182 := Tryz.underlying308
 a182 := Tryz.isAgg308
 z182 := Tryz.sizeOf308
 v182 := Tryz.zeroValue308
 t183 := Tryz.underlying309
 a183 := Tryz.isAgg309
 z183 := Tryz.sizeOf309
 v183 := Tryz.zeroValue309
 t218 := Tryz.underlying349
 a218 := Tryz.isAgg349
 z218 := Tryz.sizeOf349
 v218 := Tryz.zeroValue349
 t222 := Tryz.underlying353
 a222 := Tryz.isAgg353
 z222 := Tryz.sizeOf353
 v222 := Tryz.zeroValue353
 t228 := Tryz.underlying374
 a228 := Tryz.isAgg374
 z228 := Tryz.sizeOf374
 v228 := Tryz.zeroValue374
 t229 := Tryz.underlying214
 a229 := Tryz.isAgg214
 z229 := Tryz.sizeOf214
 v229 := Tryz.zeroValue214 }
open Go.Sort Go.RowKit in
theorem Tryz.slices_Sort_string (blk off cap : Nat) (ss : List (List UInt8)) (w : World) (hH : Holds encStr w blk off ss.toArray) (hblk : blk < w.heap.size) (hsz : ss.length < 4611686018427387904) :
  Calls Tryz.prog 114 #[.slice (some ⟨blk, off, none⟩) ss.length cap] w fun e w' =>
   e = .returned (.tuple #[]) ∧ ∃ n os, w' = grow (putRow encStr (Sort.ahead w n) blk off (ss.mergeSort fun x y => decide (x ≤ y)).toArray) os := Any.slices_Sort_string Tryz.lays190 blk off cap ss w hH hblk hsz
def Tryz.laysNm220_ren : Go.Shelf.Ren := ⟨fun | 20 => 106 | n => n, fun | 22 => 47 | 3 => 3 | 4 => 4 | 0 => 0 | n => n, fun | n => n⟩
theorem Tryz.laysNm220 : Go.Proofs.Lays2.n20 Tryz.prog Tryz.laysNm220_ren := {
 mixed := by kernel_rfl
 f20 := Tryz.func106.trans (congrArg some (by kernel_rfl))
 t0 := Tryz.underlying0
 a0 := Tryz.isAgg0
 z0 := Tryz.sizeOf0
 v0 := Tryz.zeroValue0
 t3 := Tryz.underlying3
 a3 := Tryz.isAgg3
 z3 := Tryz.sizeOf3
 v3 := Tryz.zeroValue3
 t4 := Tryz.underlying4
 a4 := Tryz.isAgg4
 z4 := Tryz.sizeOf4
 v4 := Tryz.zeroValue4
 t22 := Tryz.underlying47
 a22 := Tryz.isAgg47
 z22 := Tryz.sizeOf47
 v22 := Tryz.zeroValue47
 i3 := by kernel_rfl }
open Go.RowKit Go.Lib Go.Sort in
theorem Tryz.slices_Compact_int (blk off cap : Nat) (zs : List Int) (w : World) (hH : Holds (Value.int .i64) w blk off zs.toArray) (hsz : zs.length ≤ 9223372036854775807) (hcap : zs.length ≤ cap) :
  Calls Tryz.prog 106 #[.slice (some ⟨blk, off, none⟩) zs.length cap] w fun e w' => e = .returned (.slice (some ⟨blk, off, none⟩) (Lib.compact zs).length cap) ∧ ∃ q, w' = putRow (Value.int .i64) (Sort.ahead w q) blk off (Lib.compact zs ++ List.replicate (zs.length - (Lib.compact zs).length) 0).toArray := Any.slices_Compact_int Tryz.laysNm220 blk off cap zs w hH hsz hcap
open Go.RowKit Go.Lib Go.Sort in
theorem Tryz.slices_Compact_int_empty (a : Option Addr) (cap : Nat) (w : World) :
  Calls Tryz.prog 106 #[.slice a 0 cap] w fun e w' => e = .returned (.slice a 0 cap) ∧ w' = w := Any.slices_Compact_int_empty Tryz.laysNm220 a cap w
def Tryz.lays194_ren : Go.Shelf.Ren := ⟨fun | 194 => 116 | n => n, fun | 31 => 66 | 9 => 9 | 3 => 3 | 4 => 4 | 0 => 0 | n => n, fun | n => n⟩
theorem Tryz.lays194 : Go.Proofs.Lays.n194 Tryz.prog Tryz.lays194_ren := {
 mixed := by kernel_rfl
 f194 := Tryz.func116.trans (congrArg some (by kernel_rfl))
 t0 := Tryz.underlying0
 a0 := Tryz.isAgg0
 z0 := Tryz.sizeOf0
 v0 := Tryz.zeroValue0
 t3 := Tryz.underlying3
 a3 := Tryz.isAgg3
 z3 := Tryz.sizeOf3
 v3 := Tryz.zeroValue3
 t4 := Tryz.underlying4
 a4 := Tryz.isAgg4
 z4 := Tryz.sizeOf4
 v4 := Tryz.zeroValue4
 t9 := Tryz.underlying9
 a9 := Tryz.isAgg9
 z9 := Tryz.sizeOf9
 v9 := Tryz.zeroValue9
 t31 := Tryz.underlying66
 a31 := Tryz.isAgg66
 z31 := Tryz.sizeOf66
 v31 := Tryz.zeroValue66 }
open Go.RowKit Go.Lib Go.Sort in
theorem Tryz.slices_Compact_string (blk off cap : Nat) (zs : List (List UInt8)) (w : World) (hH : Holds encStr w blk off zs.toArray) (hsz : zs.length ≤ 9223372036854775807) (hcap : zs.length ≤ cap) :
  Calls Tryz.prog 116 #[.slice (some ⟨blk, off, none⟩) zs.length cap] w fun e w' => e = .returned (.slice (some ⟨blk, off, none⟩) (Lib.compact zs).length cap) ∧ ∃ q, w' = putRow encStr (Sort.ahead w q) blk off (Lib.compact zs ++ List.replicate (zs.length - (Lib.compact zs).length) []).toArray := Any.slices_Compact_string Tryz.lays194 blk off cap zs w hH hsz hcap
open Go.RowKit Go.Lib Go.Sort in
theorem Tryz.slices_Compact_string_empty (a : Option Addr) (cap : Nat) (w : World) :
  Calls Tryz.prog 116 #[.slice a 0 cap] w fun e w' => e = .returned (.slice a 0 cap) ∧ w' = w := Any.slices_Compact_string_empty Tryz.lays194 a cap w
open Go.RowKit Go.Sort in
theorem Tryz.slices_Sort_string_none (p : Option Addr) (cap : Nat) (w : World) :
  Calls Tryz.prog 114 #[.slice p 0 cap] w fun e w' => e = .returned (.tuple #[]) ∧ w' = w := Any.slices_Sort_string_none Tryz.lays190 p cap w
open Go.RowKit Go.Sort in
theorem Tryz.slices_Sort_int_none (p : Option Addr) (cap : Nat) (w : World) :
  Calls Tryz.prog 105 #[.slice p 0 cap] w fun e w' => e = .returned (.tuple #[]) ∧ w' = w := Any.slices_Sort_int_none Tryz.lays189 p cap w
end Go.Proofs
end

section
namespace Go.Proofs.YtfdmlionhbeebaaGreat
open Go Go.Vc Go.RowKit Go.Sort
instance : DecidableEq T_forward_key := fun x y => decidable_of_iff (x.change = y.change ∧ x.phase = y.phase) (by cases x; cases y; simp)
def insG {α : Type} (le : α → α → Bool) (x : α) : List α → List α
  | [] => [x]
  | y :: r => bif le x y then x :: y :: r else y :: insG le x r
def sortG {α : Type} (le : α → α → Bool) : List α → List α
  | [] => []
  | x :: r => insG le x (sortG le r)
section
variable {α : Type} {le : α → α → Bool}
theorem insG_perm (le : α → α → Bool) (x : α) : ∀ l, (insG le x l).Perm (x :: l)
 | [] => List.Perm.refl _
 | y :: r => by
  unfold insG
  cases le x y with
  | true => exact List.Perm.refl _
  | false => exact ((insG_perm le x r).cons y).trans (List.Perm.swap x y r)
theorem sortG_perm (le : α → α → Bool) : ∀ l, (sortG le l).Perm l
 | [] => List.Perm.refl _
 | x :: r => (insG_perm le x _).trans ((sortG_perm le r).cons x)
theorem sortG_len (le : α → α → Bool) (l : List α) : (sortG le l).length = l.length := (sortG_perm le l).length_eq
theorem insG_sorted (ht : ∀ a b c, le a b = true → le b c = true → le a c = true) (hn : ∀ a b, le a b = true ∨ le b a = true) (x : α) : ∀ l, l.Pairwise (fun a b => le a b = true) → (insG le x l).Pairwise (fun a b => le a b = true)
 | [], _ => by simp [insG]
 | y :: r, h => by
  obtain ⟨h1, h2⟩ := List.pairwise_cons.1 h
  unfold insG
  cases hxy : le x y with
  | true => exact List.pairwise_cons.2 ⟨fun z hz => by
    rcases List.mem_cons.1 hz with rfl | hz
    ·exact hxy
    ·exact ht _ _ _ hxy (h1 z hz), h⟩
  | false =>
   refine List.pairwise_cons.2 ⟨fun z hz => ?_, insG_sorted ht hn x r h2⟩
   rcases List.mem_cons.1 ((insG_perm le x r).mem_iff.1 hz) with rfl | hz
   ·exact (hn z y).resolve_left (by simp [hxy])
   ·exact h1 z hz
theorem sortG_sorted (ht : ∀ a b c, le a b = true → le b c = true → le a c = true) (hn : ∀ a b, le a b = true ∨ le b a = true) : ∀ l, (sortG le l).Pairwise (fun a b => le a b = true)
 | [] => List.Pairwise.nil
 | x :: r => insG_sorted ht hn x _ (sortG_sorted ht hn r)
theorem sortG_eq (ht : ∀ a b c, le a b = true → le b c = true → le a c = true) (hn : ∀ a b, le a b = true ∨ le b a = true) (ha : ∀ a b, le a b = true → le b a = true → a = b) (l : List α) : l.mergeSort le = sortG le l :=
 List.Perm.eq_of_pairwise (le := fun a b => le a b = true) (fun a b _ _ h1 h2 => ha a b h1 h2) (List.pairwise_mergeSort ht (fun a b => by simpa using hn a b) l) (sortG_sorted ht hn l) ((List.mergeSort_perm l _).trans (sortG_perm _ l).symm)
end
def leI (x y : Int) : Bool := decide (x ≤ y)
def leS (x y : List UInt8) : Bool := decide (x ≤ y)
theorem sortI_eq (l : List Int) : l.mergeSort (fun x y => decide (x ≤ y)) = sortG leI l :=
 sortG_eq (le := leI) (fun a b c h1 h2 => by simp only [leI, decide_eq_true_eq] at *; omega) (fun a b => by simp only [leI, decide_eq_true_eq]; omega) (fun a b h1 h2 => by simp only [leI, decide_eq_true_eq] at *; omega) l
theorem sortS_eq (l : List (List UInt8)) : l.mergeSort (fun x y => decide (x ≤ y)) = sortG leS l :=
 sortG_eq (le := leS) (fun a b c h1 h2 => by simp only [leS, decide_eq_true_eq] at *; exact List.le_trans h1 h2) (fun a b => by simp only [leS, decide_eq_true_eq]; exact List.le_total a b) (fun a b h1 h2 => by simp only [leS, decide_eq_true_eq] at *; exact List.le_antisymm h1 h2) l
theorem comp_le {α : Type} [Inhabited α] [DecidableEq α] (l : List α) : (Lib.compact l).length ≤ l.length := by
 unfold Lib.compact Lib.compactUpTo
 rw [List.length_map]
 exact Nat.le_trans (List.length_filter_le _ _) (by simp)
def h_SortI (_ : Nat) (d : List Int) : Option (List Int) := need (d.length < 4611686018427387904) (some (sortG leI d))
theorem h_SortI_ok (n : Nat) (M : Mem) (A : Option Addr) (cap : Nat) (d : List Int) (cs : List Value) (hr : RepSeq M (d.map (Dat.int .i64)) cs) (r : List Int) (hF : h_SortI n d = some r) :
  OkH Tryz.prog M [.row 3 1 (.slice A d.length cap) d.length cs] 105 [.slice A d.length cap] fun M' E' v => ∃ s, v = .tuple #[] ∧ E' = [.row 3 1 (.slice A d.length cap) r.length s] ∧ RepSeq M' (r.map (Dat.int .i64)) s ∧ r.length = d.length := by
 unfold h_SortI at hF
 obtain ⟨g0, hF⟩ := need_some hF
 obtain rfl := Option.some.inj hF
 have hl := sortG_len leI d
 obtain rfl := ints_eq_ hr
 intro M2 hM w0 H w hp
 refine (sortRow (P := Tryz.prog) (f := 105) (e := 3) (enc := Value.int .i64) (zs := d) (ys := sortG leI d) hl (fun blk off cap w hH hb => by have := Tryz.slices_Sort_int blk off cap d w hH hb g0; rwa [sortI_eq] at this) (fun _ M => Ok.ofPure fun w => Tryz.slices_Sort_int_none none 0 w) M (.slice A d.length cap) M2 hM w0 H w hp).mono fun _ w' ⟨v, he, M', E', h1, h2, h3, h4⟩ => ⟨v, he, M', E', h1, h2, _, h3, by rw [hl]; exact h4, ints_rep _, hl⟩
def h_SortS (_ : Nat) (d : List (List UInt8)) : Option (List (List UInt8)) := need (d.length < 4611686018427387904) (some (sortG leS d))
theorem h_SortS_ok (n : Nat) (M : Mem) (A : Option Addr) (cap : Nat) (d : List (List UInt8)) (cs : List Value) (hr : RepSeq M (d.map Dat.str) cs) (r : List (List UInt8)) (hF : h_SortS n d = some r) :
  OkH Tryz.prog M [.row 9 1 (.slice A d.length cap) d.length cs] 114 [.slice A d.length cap] fun M' E' v => ∃ s, v = .tuple #[] ∧ E' = [.row 9 1 (.slice A d.length cap) r.length s] ∧ RepSeq M' (r.map Dat.str) s ∧ r.length = d.length := by
 unfold h_SortS at hF
 obtain ⟨g0, hF⟩ := need_some hF
 obtain rfl := Option.some.inj hF
 have hl := sortG_len leS d
 obtain rfl := strs_eq_ hr
 intro M2 hM w0 H w hp
 refine (sortRow (P := Tryz.prog) (f := 114) (e := 9) (enc := S) (zs := d) (ys := sortG leS d) hl (fun blk off cap w hH hb => by have := Tryz.slices_Sort_string blk off cap d w hH hb g0; rwa [sortS_eq] at this) (fun _ M => Ok.ofPure fun w => Tryz.slices_Sort_string_none none 0 w) M (.slice A d.length cap) M2 hM w0 H w hp).mono fun _ w' ⟨v, he, M', E', h1, h2, h3, h4⟩ => ⟨v, he, M', E', h1, h2, _, h3, by rw [hl]; exact h4, strs_rep _, hl⟩
def h_CompactI (_ : Nat) (d : List Int) : Option (List Int) := need (d.length < 4611686018427387904) (some (Lib.compact d))
theorem h_CompactI_ok (n : Nat) (M : Mem) (A : Option Addr) (cap : Nat) (d : List Int) (cs : List Value) (hr : RepSeq M (d.map (Dat.int .i64)) cs) (r : List Int) (hF : h_CompactI n d = some r) :
  OkH Tryz.prog M [.row 3 1 (.slice A d.length cap) d.length cs] 106 [.slice A d.length cap] fun M' E' v => ∃ s, v = .slice A r.length cap ∧ E' = [.row 3 1 (.slice A r.length cap) r.length s] ∧ RepSeq M' (r.map (Dat.int .i64)) s := by
 unfold h_CompactI at hF
 obtain ⟨g0, hF⟩ := need_some hF
 obtain rfl := Option.some.inj hF
 obtain rfl := ints_eq_ hr
 intro M2 hM w0 H w hp
 refine (compactRow (P := Tryz.prog) (f := 106) (e := 3) (enc := Value.int .i64) (zs := d) 0 (fun blk off cap w hH hc => Tryz.slices_Compact_int blk off cap d w hH (by omega) hc) (fun a cap w => Tryz.slices_Compact_int_empty a cap w) (comp_le d) M A cap M2 hM w0 H w hp).mono fun _ w' ⟨v, he, M', E', h1, h2, h3, h4⟩ => ⟨v, he, M', E', h1, h2, _, h3, h4, ints_rep _⟩
def h_CompactS (_ : Nat) (d : List (List UInt8)) : Option (List (List UInt8)) := need (d.length < 4611686018427387904) (some (Lib.compact d))
theorem h_CompactS_ok (n : Nat) (M : Mem) (A : Option Addr) (cap : Nat) (d : List (List UInt8)) (cs : List Value) (hr : RepSeq M (d.map Dat.str) cs) (r : List (List UInt8)) (hF : h_CompactS n d = some r) :
  OkH Tryz.prog M [.row 9 1 (.slice A d.length cap) d.length cs] 116 [.slice A d.length cap] fun M' E' v => ∃ s, v = .slice A r.length cap ∧ E' = [.row 9 1 (.slice A r.length cap) r.length s] ∧ RepSeq M' (r.map Dat.str) s := by
 unfold h_CompactS at hF
 obtain ⟨g0, hF⟩ := need_some hF
 obtain rfl := Option.some.inj hF
 obtain rfl := strs_eq_ hr
 intro M2 hM w0 H w hp
 refine (compactRow (P := Tryz.prog) (f := 116) (e := 9) (enc := S) (zs := d) [] (fun blk off cap w hH hc => Tryz.slices_Compact_string blk off cap d w hH (by omega) hc) (fun a cap w => Tryz.slices_Compact_string_empty a cap w) (comp_le d) M A cap M2 hM w0 H w hp).mono fun _ w' ⟨v, he, M', E', h1, h2, h3, h4⟩ => ⟨v, he, M', E', h1, h2, _, h3, h4, strs_rep _⟩
end Go.Proofs.YtfdmlionhbeebaaGreat
end

section
namespace Go.Proofs.YtfdmlionhbeebaaGreat
open Go Go.Vc Go.RowKit
theorem E_endr {P : Program} {fn : Func} {n : Nat} {L : Fr} {a : Act} {w : World} {R : Ending → World → Prop} (hf : Frm n L a) (hr : fn.results = #[]) (h : R (.returned (.tuple #[])) w) : bodyPost P fn R .ret a w :=
 ⟨hf.defers, _, results_none hr _ P w, h⟩
set_option maxRecDepth 100000 in
theorem backC_iter (xs : List TC0) (hlen : xs.length ≤ 9223372036854775806) (M : Mem) (A : Option Addr) (cap bv : Nat) (hsl : Sli M 8 emb_TC0 A cap xs) (hbv : M.cell? ⟨bv, 0, none⟩ = some (.slice A xs.length cap)) :
  IterOk Tryz.prog 163 [.pointer (some ⟨bv, 0, none⟩)] (vals2 (vstr emb_TC0)) (backI xs) M := by
 refine ⟨Go.Proofs.enters_of Tryz.func163 (by kernel_rfl) rfl, fun σ β Y s0 r hr l J Jx hJ hJx hY w0 M1 E H w hM0 hj p0 => ?_⟩
 replace hsl := hsl.mono hM0
 replace hbv := hM0.cell hbv
 refine R_enter 19 Tryz.func163 rfl rfl (by simp) (fun a0 f0 => ?_)
 replace f0 : Frm 19 [(0, .func (.yield l) #[] #[]), (1, .pointer (some ⟨bv, 0, none⟩))] a0 := f0
 refine R_seq ?_
 refine R_reg ?_
 refine W_eq (v := .slice A xs.length cap) f0 (by kernel_rfl) (by kernel_rfl) rfl rfl (X_load1 (v := .slice A xs.length cap) rfl (ad := ⟨bv, 0, none⟩) (by kernel_rfl) (by kernel_rfl) (p0.cell hbv)) (fun a_1 f_1 => ?_)
 refine W_run (L' := [(0, .func (.yield l) #[] #[]), (1, .pointer (some ⟨bv, 0, none⟩)), (6, .int .i64 (IntKind.wrap .i64 (((xs.length : Nat) : Int) - 1)))]) (w' := w) f_1 2 [0, 1, 6] (by kernel_rfl) (fun a_2 f_2 => ?_)
 have hin0 : inR .i64 (((xs.length : Nat) : Int) - 1) := inR_mk.2 ⟨by omega, by omega⟩
 have f_3 := Frm.set f_2 6 (v := .int .i64 (IntKind.wrap .i64 (((xs.length : Nat) : Int) - 1))) (v' := .int .i64 (((xs.length : Nat) : Int) - 1)) (by kernel_rfl) (congrArg (Value.int .i64) (inR_wrap hin0))
 have f_4 : Frm 19 [(0, .func (.yield l) #[] #[]), (1, .pointer (some ⟨bv, 0, none⟩)), (6, .int .i64 (((xs.length : Nat) : Int) - 1))] a_2 := f_3.keep (ks := [0, 1, 6]) (by kernel_rfl)
 refine W_run (L' := [(0, .func (.yield l) #[] #[]), (1, .pointer (some ⟨bv, 0, none⟩)), (3, .int .i64 (((xs.length : Nat) : Int) - 1))]) (w' := w) f_4 1 [0, 1, 3] (by kernel_rfl) (fun a_5 f_5 => ?_)
 refine W_end rfl ?_
 refine T_n ?_
 refine wp_block ?_
 have hr0 : foldY Y (backI (xs.take xs.length)) s0 = some r := by rw [List.take_length]; exact hr
 refine wp_mono (Q := fun e a w => (e = .exit 0 ∧ ∃ s' M' E', r = .nx s' ∧ M1.le M' ∧ J s' M' E' ∧ Frm 19 [(0, .func (.yield l) #[] #[])] a ∧ Hp w0 M' (E' ++ H) w) ∨ (e = .ret ∧ ∃ b M' E', r = .br b ∧ M1.le M' ∧ Jx b M' E' ∧ Frm 19 [] a ∧ Hp w0 M' (E' ++ H) w))
  (R_loop (n := 19) (w0 := w0) (M := M1) (fun (x : Nat × σ × List Ent) => [(0, .func (.yield l) #[] #[]), (1, .pointer (some ⟨bv, 0, none⟩)), (3, .int .i64 ((x.1 : Int) - 1))]) (fun x => x.2.2 ++ H)
   (fun x (MM : Mem) => J x.2.1 MM x.2.2 ∧ foldY Y (backI (xs.take x.1)) x.2.1 = some r ∧ x.1 ≤ xs.length) (fun x => x.1) (xs.length, s0, E) f_5 p0 ⟨hj, hr0, Nat.le_refl _⟩ ?_) ?_
 ·rintro ⟨k, s, Es⟩ M_3 a_11 w_2 hM3 ⟨hjs, hfs, hk⟩ f_11 p_2
  dsimp only at hjs hfs hk
  replace f_11 : Frm 19 [(0, .func (.yield l) #[] #[]), (1, .pointer (some ⟨bv, 0, none⟩)), (3, .int .i64 ((k : Int) - 1))] a_11 := f_11
  replace p_2 : Hp w0 M_3 (Es ++ H) w_2 := p_2
  refine R_seq ?_
  refine R_seq ?_
  refine R_reg ?_
  refine W_run (L' := [(0, .func (.yield l) #[] #[]), (1, .pointer (some ⟨bv, 0, none⟩)), (3, .int .i64 ((k : Int) - 1)), (8, .bool (decide (0 ≤ ((k : Int) - 1))))]) (w' := w_2) f_11 2 [0, 1, 3, 8] (by kernel_rfl) (fun a_12 f_12 => ?_)
  refine W_end rfl ?_
  refine T_n ?_
  refine R_cond f_12 (b := decide (0 ≤ ((k : Int) - 1))) (by kernel_rfl) (by kernel_rfl) (fun h_3 => ?_) (fun h_3 => ?_)
  ·have k_1 : 0 ≤ ((k : Int) - 1) := of_decide_eq_true h_3
   obtain ⟨q, rfl⟩ : ∃ q, k = q + 1 := ⟨k - 1, by omega⟩
   have hq : q < xs.length := by omega
   rw [back_take hq] at hfs
   have e1 : ((q + 1 : Nat) : Int) - 1 = (q : Int) := by omega
   rw [e1] at f_12
   refine wp_skip ?_
   refine T_n ?_
   refine R_seq ?_
   refine wp_block ?_
   refine R_seq ?_
   obtain ⟨r1, hy1, hfold⟩ := Option.bind_eq_some_iff.1 hfs
   have hx : xs[q]? = some xs[q] := List.getElem?_eq_getElem hq
   have hgx : getI xs (q : Int) = some xs[q] := by unfold getI; rw [if_pos (by omega)]; exact hx
   obtain ⟨ad_1, c_1, e_1, hl_1, hr_1, hc_1⟩ := Sli.at_ (hsl.mono hM3) hgx
   refine WI_reg ?_
   refine WI_pre 6 (by kernel_rfl) ?_
   refine W_eq (w' := w_2) (v := .func (.yield l) #[] #[]) f_12 (by kernel_rfl) (by kernel_rfl) rfl rfl (by kernel_rfl) (fun a_13 f_13 => ?_)
   refine W_eq (w' := w_2) (v := .int .i64 (q : Int)) f_13 (by kernel_rfl) (by kernel_rfl) rfl rfl (by kernel_rfl) (fun a_14 f_14 => ?_)
   refine W_eq (w' := w_2) (v := .slice A xs.length cap) f_14 (by kernel_rfl) (by kernel_rfl) rfl rfl (X_load1 (v := .slice A xs.length cap) rfl (ad := ⟨bv, 0, none⟩) (by kernel_rfl) (by kernel_rfl) (p_2.cell (hM3.cell hbv))) (fun a_15 f_15 => ?_)
   refine W_eq (w' := w_2) (v := .int .i64 (q : Int)) f_15 (by kernel_rfl) (by kernel_rfl) rfl rfl (by kernel_rfl) (fun a_16 f_16 => ?_)
   refine W_eq (w' := w_2) (v := .pointer (some (ad_1.add ((q : Int).toNat * 8)))) f_16 (by kernel_rfl) (by kernel_rfl) rfl rfl (X_indexAddrA e_1 rfl (len := xs.length) (cap := cap) (k := .i64) (i := (q : Int)) (by kernel_rfl) (by kernel_rfl) (e := 72) (by kernel_rfl) (sz := 8) (by kernel_rfl) (getI_nn hgx) (getI_lt hgx)) (fun a_17 f_17 => ?_)
   refine W_eq (w' := w_2) (v := (.agg c_1.toArray)) f_17 (by kernel_rfl) (by kernel_rfl) rfl rfl (X_loadN (cs := c_1) rfl (ad := ad_1.add ((q : Int).toNat * 8)) (by kernel_rfl) (by rw [hl_1]; kernel_rfl) (fun j u h => p_2.cell (hc_1 j u h))) (fun a_18 f_18 => ?_)
   refine W_end rfl ⟨rfl, ?_⟩
   obtain ⟨fn, tmps, asg, bd, hrun, hR⟩ := hY s _ r1 hy1 w0 M_3 Es H w_2 [.int .i64 (q : Int), (.agg c_1.toArray)] hjs ⟨_, rfl, ⟨c_1, rfl, hr_1⟩⟩ p_2
   refine WI_round f_18 (by kernel_rfl) (by kernel_rfl) rfl rfl (fun c e => by cases e) (hx := Eq.trans (by kernel_rfl) hrun) hR ?_
   rintro e w_3 ⟨M2, E2, hM2, p_3, hr3⟩
   cases r1 with
   | br b =>
    obtain ⟨rfl, hjx⟩ := hr3
    obtain rfl := Option.some.inj hfold
    refine ⟨_, rfl, fun a_19 f_19 => ?_⟩
    refine list_in (ro := none) (by rintro ⟨_, _, h⟩; rcases h with h | h <;> cases h.1) _ (by kernel_rfl) _ _ ?_
    refine W_run (L' := [(18, .bool true)]) (w' := w_3) f_19 1 [18] (by kernel_rfl) (fun a_20 f_20 => ?_)
    refine W_end rfl ?_
    refine T_n ?_
    refine R_cond_t f_20 (by kernel_rfl) (by kernel_rfl) ?_
    refine wp_ret ?_
    refine B_r ?_
    refine T_r ?_
    refine T_r ?_
    exact .inr ⟨rfl, b, M2, E2, rfl, hM3.trans hM2, hjx, f_20.keep (ks := []) (by kernel_rfl), p_3⟩
   | nx s1 =>
    obtain ⟨rfl, hj1⟩ := hr3
    replace hfold : foldY Y (backI (xs.take q)) s1 = some r := hfold
    refine ⟨_, rfl, fun a_19 f_19 => ?_⟩
    refine list_in (ro := none) (by rintro ⟨_, _, h⟩; rcases h with h | h <;> cases h.1) _ (by kernel_rfl) _ _ ?_
    refine W_run (L' := [(0, .func (.yield l) #[] #[]), (1, .pointer (some ⟨bv, 0, none⟩)), (3, .int .i64 (q : Int)), (18, .bool false)]) (w' := w_3) f_19 1 [0, 1, 3, 18] (by kernel_rfl) (fun a_20 f_20 => ?_)
    refine W_end rfl ?_
    refine T_n ?_
    refine R_cond_f f_20 (by kernel_rfl) (by kernel_rfl) ?_
    refine wp_skip ?_
    refine B_n ?_
    refine T_n ?_
    refine R_reg ?_
    have hin : inR .i64 ((q : Int) - 1) := inR_mk.2 ⟨by omega, by omega⟩
    refine W_run (L' := [(0, .func (.yield l) #[] #[]), (1, .pointer (some ⟨bv, 0, none⟩)), (10, .int .i64 (IntKind.wrap .i64 ((q : Int) - 1)))]) (w' := w_3) f_20 2 [0, 1, 10] (by kernel_rfl) (fun a_23 f_23 => ?_)
    have f_24 := Frm.set f_23 10 (v := .int .i64 (IntKind.wrap .i64 ((q : Int) - 1))) (v' := .int .i64 ((q : Int) - 1)) (by kernel_rfl) (congrArg (Value.int .i64) (inR_wrap hin))
    have f_25 : Frm 19 [(0, .func (.yield l) #[] #[]), (1, .pointer (some ⟨bv, 0, none⟩)), (10, .int .i64 ((q : Int) - 1))] a_23 := f_24.keep (ks := [0, 1, 10]) (by kernel_rfl)
    refine W_run (L' := [(0, .func (.yield l) #[] #[]), (1, .pointer (some ⟨bv, 0, none⟩)), (3, .int .i64 ((q : Int) - 1))]) (w' := w_3) f_25 1 [0, 1, 3] (by kernel_rfl) (fun a_26 f_26 => ?_)
    refine W_end rfl ?_
    refine T_n ?_
    exact ⟨(q, s1, E2), by dsimp only; omega, M2, hM3.trans hM2, ⟨hj1, hfold, by dsimp only; omega⟩, f_26, p_3⟩
  ·have k_1 : ¬ (0 ≤ ((k : Int) - 1)) := of_decide_eq_false h_3
   obtain rfl : k = 0 := by omega
   refine wp_exit ?_
   refine T_x ?_
   refine T_x ?_
   obtain rfl := Option.some.inj hfs
   exact .inl ⟨rfl, s, M_3, Es, rfl, hM3, hjs, f_12.keep (ks := [0]) (by kernel_rfl), p_2⟩
 ·rintro _ a_24 w_4 (⟨rfl, s', M', E', rfl, g1, g2, f_29, p_3⟩ | ⟨rfl, b, M', E', rfl, g1, g2, f_29, p_3⟩)
  ·refine B_x ?_
   refine E_end0 f_29 rfl ?_
   exact ⟨_, rfl, M', E', g1, p_3, g2⟩
  ·refine B_r ?_
   refine E_endr f_29 rfl ?_
   exact ⟨_, rfl, M', E', g1, p_3, g2⟩
theorem backC_ok (xs : List TC0) (hlen : xs.length ≤ 9223372036854775806) (M : Mem) (A : Option Addr) (cap : Nat) (h0 : Sli M 8 emb_TC0 A cap xs) :
  Ok Tryz.prog M 104 [.slice A xs.length cap] (fun M' u => ∃ f caps, u = .func (.func f) #[] caps.toArray ∧ IterOk Tryz.prog f caps (vals2 (vstr emb_TC0)) (backI xs) M') := by
 intro M1 hM0 w0 H w p0
 replace h0 := h0.mono hM0
 refine R_enter 4 Tryz.func104 rfl rfl (by simp) (fun a0 f0 => ?_)
 replace f0 : Frm 4 [(0, .slice A xs.length cap)] a0 := f0
 refine R_seq ?_
 refine R_reg ?_
 refine W_box (cs := #[.slice A xs.length cap]) (T := 31) f0 p0 1 [1] (fun b => [(1, .pointer (some ⟨b, 0, none⟩))]) (fun _ => by kernel_rfl) (fun bv M2 w hM1 hc p1 a_1 f_1 => ?_)
 replace f_1 : Frm 4 [(1, .pointer (some ⟨bv, 0, none⟩))] a_1 := f_1
 refine W_run (L' := [(1, .pointer (some ⟨bv, 0, none⟩))]) (w' := w) f_1 1 [1] (by kernel_rfl) (fun a_2 f_2 => ?_)
 refine W_end rfl ?_
 refine T_n ?_
 refine R_seq ?_
 refine R_reg ?_
 refine W_run (L' := [(2, .func (.func 163) #[] #[.pointer (some ⟨bv, 0, none⟩)])]) (w' := w) f_2 2 [2] (by kernel_rfl) (fun a_3 f_3 => ?_)
 refine W_end rfl ?_
 refine T_n ?_
 refine wp_ret ?_
 refine E_ret1 f_3 rfl (by kernel_rfl : Vc.look _ 2 = some (.func (.func 163) #[] #[.pointer (some ⟨bv, 0, none⟩)])) ?_
 exact ⟨_, rfl, M2, hM1, p1, 163, [.pointer (some ⟨bv, 0, none⟩)], rfl, backC_iter xs hlen M2 A cap bv (h0.mono hM1) (hc 0 _ rfl)⟩
def ref03_weight_s1 (n : Nat) (d0 : TJ0) (s_1 : Int × Int) : Option (Lp (Int × Int) Int) :=
    bif (decide (s_1.2 < ((d0.fKeys.length : Nat) : Int))) then
      ((getI d0.fKeys s_1.2).bind fun x_1 =>
      need (inR .i64 (s_1.1 + (min (x_1.length : Int) (10000 : Int)))) <|
      need (inR .i64 (s_1.2 + 1)) <|
      some (.nx (s_1.1 + (min (x_1.length : Int) (10000 : Int)), s_1.2 + 1)))
    else
      some (.br s_1.1)
def ref03_weight_s2 (n : Nat) (rec_ref03_weight : TJ0 → Int → Option Int) (d0 : TJ0) (d1 : Int) (s_2 : Int × Int) : Option (Lp (Int × Int) Int) :=
    ((bif (decide (s_2.2 < ((d0.fList.length : Nat) : Int))) then
        (some ((decide (s_2.1 ≤ 10000))))
      else
        some ((false)) : Option Bool)).bind fun y_3 =>
    bif y_3 then
      ((getI d0.fList s_2.2).bind fun x_2 =>
      need (inR .i64 (d1 - 1)) <|
      (rec_ref03_weight x_2 (d1 - 1)).bind fun x_3 =>
      need (inR .i64 (s_2.1 + x_3)) <|
      need (inR .i64 (s_2.2 + 1)) <|
      some (.nx (s_2.1 + x_3, s_2.2 + 1)))
    else
      some (.br s_2.1)
def ref03_weight_b (n : Nat) (rec_ref03_weight : TJ0 → Int → Option Int) (d0 : TJ0) (d1 : Int) : Option Int :=
  ((bif (decide (d1 = 0)) then
      (some ((true)))
    else
      bif (decide ((3000 : Int) < ((d0.fList.length : Nat) : Int))) then
        (some ((true)))
      else
        some ((decide ((3000 : Int) < ((d0.fKeys.length : Nat) : Int)))) : Option Bool)).bind fun y_1 =>
  bif y_1 then
    (some ((10000 : Int)))
  else
    need (inR .i64 ((1 : Int) + (min (d0.fText.length : Int) (10000 : Int)))) <|
    (loopF (ref03_weight_s1 n d0) n ((1 : Int) + (min (d0.fText.length : Int) (10000 : Int)), (0 : Int))).bind fun y_2 =>
    (loopF (ref03_weight_s2 n rec_ref03_weight d0 d1) n (y_2, (0 : Int))).bind fun y_4 =>
    some (y_4)
set_option maxRecDepth 20000 in
theorem ref03_weight_b_ok (n : Nat) (rec_ref03_weight : TJ0 → Int → Option Int) (hrec_ref03_weight : ∀ (M : Mem) (c0 : List Value) (d0 : TJ0) (h0 : Rep M (emb_TJ0 d0) c0) (d1 : Int) (r : Int) (hF : rec_ref03_weight d0 d1 = some r), Ok Tryz.prog M 112 [.agg c0.toArray, .int .i64 d1] (fun _ v => v = .int .i64 r)) (M : Mem) (c0 : List Value) (d0 : TJ0) (h0 : Rep M (emb_TJ0 d0) c0) (d1 : Int) (r : Int) (hF : ref03_weight_b n rec_ref03_weight d0 d1 = some r) : Ok Tryz.prog M 112 [.agg c0.toArray, .int .i64 d1] (fun _ v => v = .int .i64 r) := by
 unfold ref03_weight_b at hF
 intro M1 hM0 w0 H w p0
 replace h0 := Rep.mono hM0 _ _ h0
 obtain ⟨A_1, cap_1, A_2, cap_2, rfl, h_1, h_2⟩ := TJ0.opn h0
 refine R_enter 65 Tryz.func112 rfl rfl (by simp) fun a0 f0 => RR (Y12 (cs := #[.int .i8 d0.fKind, .bool d0.fBool, .int .i64 d0.fNum, S d0.fText, .slice A_1 d0.fList.length cap_1, .slice A_2 d0.fKeys.length cap_2]) (T := 117) f0 p0 fun b_1 M_1 w_1 hM_1 hc_1 p_1 _ f => ?_)
 have hc_2 := fz_box hc_1
 refine Y f 1 fun _ f => eT (R_seq (R_seq ?_))
 obtain ⟨j_1, hj_1, hF_1⟩ := bS hF
 refine R_mid (fun a_12 w_2 => ∃ y_1 : Bool, j_1 = y_1 ∧ ∃ M_2 : Mem, M_1.le M_2 ∧ Frm 65 [(1, .int .i64 d1), (2, .pointer (some (⟨b_1, 0, none⟩))), (21, .bool y_1)] a_12 ∧ Hp w0 M_2 (H) w_2) ?_ ?_
 ·refine R_reg (Y f 3 fun _ f => ?_)
  rcases cE hj_1 with ⟨h_3, hF_2⟩ | ⟨h_3, hF_3⟩
  ·have k_1 := dI.1 h_3
   have f := f.st 10 (cB h_3)
   refine Y f 11 fun _ f => eT ?_
   exact ⟨(true), (sI hF_2).symm, M_1, (mR _), f.kp, p_1⟩
  ·have k_2 := iff_f dI h_3
   have f := f.st 10 (cB h_3)
   refine Y f 1 fun _ f => Y14 f p_1 hc_2 4 rfl fun _ f => Y f 4 fun _ f => ?_
   rcases cE hF_3 with ⟨h_4, hF_4⟩ | ⟨h_4, hF_5⟩
   ·have k_3 := dI.1 h_4
    have f := f.st 16 (cB h_4)
    refine Y f 5 fun _ f => eT ?_
    exact ⟨(true), (sI hF_4).symm, M_1, (mR _), f.kp, p_1⟩
   ·have k_4 := iff_f dI h_4
    have f := f.st 16 (cB h_4)
    refine Y f 1 fun _ f => Y14 f p_1 hc_2 5 rfl fun _ f => Y f 3 fun _ f => eT ?_
    exact ⟨(decide ((3000 : Int) < ((d0.fKeys.length : Nat) : Int))), (sI hF_5).symm, M_1, (mR _), f.kp, p_1⟩
 ·rintro a_12 w_2 ⟨y_1, hq_1, M_2, hM_2, f, p_2⟩
  subst j_1
  refine T_n (RcF f hF_1 (fun h_5 hF_6 => ?_) fun h_5 hF_7 => ?_)
  ·refine RR (Y f 1 fun _ f => eT (wp_ret (T_r (E_ret1 f rfl (by kernel_rfl : Vc.look _ 4 = some (.int .i64 10000)) ?_))))
   obtain rfl := sI hF_6
   exact ⟨_, rfl, M_2, (hM_1.trans hM_2), p_2, rfl⟩
  ·refine wp_skip (T_n (RR (Y f 1 fun _ f => Y14 f p_2 (fzu hM_2 hc_2) 3 rfl fun _ f => Y f 1 fun _ f => Z (v := .int .i64 (min (d0.fText.length : Int) (10000 : Int))) f (X_min (k := .i64) (a := (d0.fText.length : Int)) (b := (10000 : Int)) rfl (by kernel_rfl) (by kernel_rfl)) fun _ f => ?_)))
   obtain ⟨g_1, hF_8⟩ := nS hF_7
   refine Y f 1 fun _ f => ?_
   have f := f.st 26 (congrArg (Value.int .i64) (inR_wrap g_1))
   refine Y f 1 fun _ f => eT (R_seq (RR (Y f 1 fun _ f => eT (wp_block ?_))))
   obtain ⟨b_2, hL_1, hF_9⟩ := bS hF_8
   refine wp_mono (Q := fun e a w => (e = .exit 0 ∧ (∃ y_2 : Int, b_2 = y_2 ∧ ∃ M_4 : Mem, M_2.le M_4 ∧ Frm 65 [(1, .int .i64 d1), (2, .pointer (some (⟨b_1, 0, none⟩))), (5, .int .i64 y_2)] a ∧ Hp w0 M_4 (H) w))) (R_loop (n := 65) (w0 := w0) (M := M_2) (fun (x : Nat × (Int × Int)) => match x with | (m_1, s_1) => [(1, .int .i64 d1), (2, .pointer (some (⟨b_1, 0, none⟩))), (5, .int .i64 s_1.1), (6, .int .i64 s_1.2)]) (fun (x : Nat × (Int × Int)) => match x with | (m_1, s_1) => (H)) (fun (x : Nat × (Int × Int)) (MM : Mem) => match x with | (m_1, s_1) => loopF (ref03_weight_s1 n d0) m_1 s_1 = some b_2) (fun (x : Nat × (Int × Int)) => match x with | (m_1, s_1) => m_1) (n, ((1 : Int) + (min (d0.fText.length : Int) (10000 : Int)), (0 : Int))) (f.kp) p_2 hL_1 ?_) ?_
   ·rintro ⟨m_1, s_1⟩ M_3 _ w_3 hM_3 I_1 f p_3
    have I_1L := I_1
    obtain ⟨m_2, r_1, rfl, hs_1, hn_1⟩ := loop_step I_1L
    unfold ref03_weight_s1 at hs_1
    refine R_seq (RR (Y f 2 fun _ f => Y14 f p_3 (fzu (hM_2.trans hM_3) hc_2) 5 rfl fun _ f => Y f 2 fun _ f => eT (RcF f hs_1 (fun h_6 hF_10 => ?_) fun h_6 hF_14 => ?_)))
    ·have k_7 := dI.1 h_6
     refine wp_skip (T_n (R_seq (wp_block (R_reg (Y f 2 fun _ f => Y14 f p_3 (fzu (hM_2.trans hM_3) hc_2) 5 rfl fun _ f => Y f 1 fun _ f => ?_)))))
     obtain ⟨x_1, hx_1, hF_11⟩ := bS hF_10
     obtain ⟨ad_1, c_1, e_1, -, hr_1, hc_3⟩ := Sli.at_ (h_2.mono ((hM_1.trans hM_2).trans hM_3)) hx_1
     obtain rfl : c_1 = [S x_1] := hr_1
     refine Z f (Y28 e_1 rfl (len := d0.fKeys.length) (cap := cap_2) (k := .i64) (i := s_1.2) (e := 9) (sz := 1) (getI_nn hx_1) (getI_lt hx_1)) fun _ f => Y14 f p_3 hc_3 0 rfl fun _ f => Y f 1 fun _ f => Z (v := .int .i64 (min (x_1.length : Int) (10000 : Int))) f (X_min (k := .i64) (a := (x_1.length : Int)) (b := (10000 : Int)) rfl (by kernel_rfl) (by kernel_rfl)) fun _ f => ?_
     obtain ⟨g_2, hF_12⟩ := nS hF_11
     refine Y f 1 fun _ f => ?_
     have f := f.st 42 (congrArg (Value.int .i64) (inR_wrap g_2))
     refine Y f 1 fun _ f => W_end rfl (B_n (T_n (R_reg (Y f 1 fun _ f => ?_))))
     obtain ⟨g_3, hF_13⟩ := nS hF_12
     refine Y f 1 fun _ f => ?_
     have f := f.st 33 (congrArg (Value.int .i64) (inR_wrap g_3))
     refine Y f 1 fun _ f => eT ?_
     obtain rfl := sI hF_13
     exact ⟨⟨m_2, (s_1.1 + (min (x_1.length : Int) (10000 : Int)), s_1.2 + 1)⟩, Nat.lt_succ_self _, M_3, hM_3, hn_1, f.kp, p_3⟩
    ·have k_8 := iff_f dI h_6
     refine wp_exit (T_x (T_x ?_))
     obtain rfl := sI hF_14
     exact ⟨rfl, s_1.1, (sI hn_1).symm, M_3, hM_3, f.kp, p_3⟩
   ·rintro _ _ w_5 ⟨rfl, y_2, hq_, M_4, hM_4, f, p_4⟩
    subst b_2
    refine B_x (T_n (R_seq (RR (Y f 1 fun _ f => eT (wp_block ?_)))))
    obtain ⟨b_3, hL_2, hF_15⟩ := bS hF_9
    refine wp_mono (Q := fun e a w => (e = .exit 2 ∧ (∃ y_4 : Int, b_3 = y_4 ∧ ∃ M_7 : Mem, M_4.le M_7 ∧ Frm 65 [(5, .int .i64 y_4)] a ∧ Hp w0 M_7 (H) w))) (R_loop (n := 65) (w0 := w0) (M := M_4) (fun (x : Nat × (Int × Int)) => match x with | (m_3, s_2) => [(1, .int .i64 d1), (2, .pointer (some (⟨b_1, 0, none⟩))), (5, .int .i64 s_2.1), (7, .int .i64 s_2.2)]) (fun (x : Nat × (Int × Int)) => match x with | (m_3, s_2) => (H)) (fun (x : Nat × (Int × Int)) (MM : Mem) => match x with | (m_3, s_2) => loopF (ref03_weight_s2 n rec_ref03_weight d0 d1) m_3 s_2 = some b_3) (fun (x : Nat × (Int × Int)) => match x with | (m_3, s_2) => m_3) (n, (y_2, (0 : Int))) (f.kp) p_4 hL_2 ?_) ?_
    ·rintro ⟨m_3, s_2⟩ M_5 _ w_6 hM_5 I_2 f p_5
     have I_2L := I_2
     obtain ⟨m_4, r_2, rfl, hs_2, hn_2⟩ := loop_step I_2L
     unfold ref03_weight_s2 at hs_2
     refine R_seq (R_seq ?_)
     obtain ⟨j_2, hj_2, hF_16⟩ := bS hs_2
     refine R_mid (fun a_46 w_7 => ∃ y_3 : Bool, j_2 = y_3 ∧ ∃ M_6 : Mem, M_5.le M_6 ∧ Frm 65 [(1, .int .i64 d1), (2, .pointer (some (⟨b_1, 0, none⟩))), (5, .int .i64 s_2.1), (7, .int .i64 s_2.2), (51, .bool y_3)] a_46 ∧ Hp w0 M_6 (H) w_7) ?_ ?_
     ·refine R_reg (Y f 2 fun _ f => Y14 f p_5 (fzu ((hM_2.trans hM_4).trans hM_5) hc_2) 4 rfl fun _ f => Y f 3 fun _ f => ?_)
      rcases cE hj_2 with ⟨h_7, hF_17⟩ | ⟨h_7, hF_18⟩
      ·have k_9 := dI.1 h_7
       have f := f.st 48 (cB h_7)
       refine Y f 3 fun _ f => eT ?_
       exact ⟨(decide (s_2.1 ≤ 10000)), (sI hF_17).symm, M_5, (mR _), f.kp, p_5⟩
      ·have k_10 := iff_f dI h_7
       have f := f.st 48 (cB h_7)
       refine Y f 3 fun _ f => eT ?_
       exact ⟨(false), (sI hF_18).symm, M_5, (mR _), f.kp, p_5⟩
     ·rintro a_46 w_7 ⟨y_3, hq_2, M_6, hM_6, f, p_6⟩
      subst j_2
      refine T_n (RcF f hF_16 (fun h_8 hF_19 => ?_) fun h_8 hF_25 => ?_)
      ·refine wp_skip (T_n (R_seq (wp_block (R_reg (Y f 2 fun _ f => Y14 f p_6 (fzu (((hM_2.trans hM_4).trans hM_5).trans hM_6) hc_2) 4 rfl fun _ f => Y f 1 fun _ f => ?_)))))
       obtain ⟨x_2, hx_2, hF_20⟩ := bS hF_19
       obtain ⟨ad_2, c_2, e_2, -, hr_2, hc_4⟩ := Sli.at_ (h_1.mono ((((hM_1.trans hM_2).trans hM_4).trans hM_5).trans hM_6)) hx_2
       obtain ⟨A_3, cap_3, A_4, cap_4, rfl, h_9, h_10⟩ := TJ0.opn hr_2
       refine Z f (Y28 e_2 rfl (len := d0.fList.length) (cap := cap_1) (k := .i64) (i := s_2.2) (e := 117) (sz := 6) (getI_nn hx_2) (getI_lt hx_2)) fun _ f => Z (v := .agg #[.int .i8 x_2.fKind, .bool x_2.fBool, .int .i64 x_2.fNum, S x_2.fText, .slice A_3 x_2.fList.length cap_3, .slice A_4 x_2.fKeys.length cap_4]) f (Y30 (cs := [.int .i8 x_2.fKind, .bool x_2.fBool, .int .i64 x_2.fNum, S x_2.fText, .slice A_3 x_2.fList.length cap_3, .slice A_4 x_2.fKeys.length cap_4]) rfl (ad := ad_2.add (s_2.2.toNat * 6)) (fun j v h => p_6.cell (hc_4 j v h))) fun _ f => Y f 1 fun _ f => ?_
       obtain ⟨g_4, hF_21⟩ := nS hF_20
       refine Y f 1 fun _ f => ?_
       have f := f.st 61 (congrArg (Value.int .i64) (inR_wrap g_4))
       obtain ⟨x_3, hx_3, hF_22⟩ := bS hF_21
       refine Y17 f p_6 (hrec_ref03_weight _ _ x_2 (TJ0.shutx (x := x_2) h_9 h_10) (d1 - 1) x_3 hx_3) fun w_8 p_7 _ f => ?_
       obtain ⟨g_5, hF_23⟩ := nS hF_22
       refine Y f 1 fun _ f => ?_
       have f := f.st 63 (congrArg (Value.int .i64) (inR_wrap g_5))
       refine Y f 1 fun _ f => W_end rfl (B_n (T_n (R_reg (Y f 1 fun _ f => ?_))))
       obtain ⟨g_6, hF_24⟩ := nS hF_23
       refine Y f 1 fun _ f => ?_
       have f := f.st 53 (congrArg (Value.int .i64) (inR_wrap g_6))
       refine Y f 1 fun _ f => eT ?_
       obtain rfl := sI hF_24
       exact ⟨⟨m_4, (s_2.1 + x_3, s_2.2 + 1)⟩, Nat.lt_succ_self _, M_6, (hM_5.trans hM_6), hn_2, f.kp, p_7⟩
      ·refine wp_exit (T_x (T_x ?_))
       obtain rfl := sI hF_25
       exact ⟨rfl, s_2.1, (sI hn_2).symm, M_6, (hM_5.trans hM_6), f.kp, p_6⟩
    ·rintro _ _ w_10 ⟨rfl, y_4, hq_, M_7, hM_7, f, p_8⟩
     subst b_3
     refine B_x (T_n (RR (Y f 2 fun _ f => eT (wp_ret (E_ret1 f rfl (by kernel_rfl : Vc.look _ 4 = some (.int .i64 y_4)) ?_)))))
     obtain rfl := sI hF_15
     exact ⟨_, rfl, M_7, (((hM_1.trans hM_2).trans hM_4).trans hM_7), p_8, rfl⟩
def ref03_weight_k (n : Nat) : Nat → TJ0 → Int → Option Int
  | 0 => fun _ _ => none
  | k + 1 => ref03_weight_b n (ref03_weight_k n k)
def ref03_weight (n : Nat) (d0 : TJ0) (d1 : Int) : Option Int := ref03_weight_k n n d0 d1
theorem ref03_weight_ok (n : Nat) (M : Mem) (c0 : List Value) (d0 : TJ0) (h0 : Rep M (emb_TJ0 d0) c0) (d1 : Int) (r : Int) (hF : ref03_weight n d0 d1 = some r) : Ok Tryz.prog M 112 [.agg c0.toArray, .int .i64 d1] (fun _ v => v = .int .i64 r) := by
 have key : ∀ (k : Nat) (M : Mem) (c0 : List Value) (d0 : TJ0) (h0 : Rep M (emb_TJ0 d0) c0) (d1 : Int) (r : Int) (hF : ref03_weight_k n k d0 d1 = some r), Ok Tryz.prog M 112 [.agg c0.toArray, .int .i64 d1] (fun _ v => v = .int .i64 r) := by
  intro k
  induction k with
  | zero => intro M c0 d0 h0 d1 r hF; simp [ref03_weight_k] at hF
  | succ k ih => intro M c0 d0 h0 d1 r hF; exact ref03_weight_b_ok n (ref03_weight_k n k) ih M c0 d0 h0 d1 r hF
 exact key n M c0 d0 h0 d1 r hF
def ref03_Great (n : Nat) (d0 : TJ0) : Option Bool :=
  (ref03_weight n d0 (30 : Int)).bind fun x_1 =>
  some ((decide ((5000 : Int) < x_1)))
theorem ref03_Great_ok (n : Nat) (M : Mem) (c0 : List Value) (d0 : TJ0) (h0 : Rep M (emb_TJ0 d0) c0) (r : Bool) (hF : ref03_Great n d0 = some r) : Ok Tryz.prog M 60 [.agg c0.toArray] (fun _ v => v = .bool r) := by
 unfold ref03_Great at hF
 intro M1 hM0 w0 H w p0
 replace h0 := Rep.mono hM0 _ _ h0
 obtain ⟨A_1, cap_1, A_2, cap_2, rfl, h_1, h_2⟩ := TJ0.opn h0
 refine R_enter 6 Tryz.func60 rfl rfl (by simp) fun a0 f0 => RR (Y12 (cs := #[.int .i8 d0.fKind, .bool d0.fBool, .int .i64 d0.fNum, S d0.fText, .slice A_1 d0.fList.length cap_1, .slice A_2 d0.fKeys.length cap_2]) (T := 117) f0 p0 fun b_1 M_1 w_1 hM_1 hc_1 p_1 _ f => ?_)
 have hc_2 := fz_box hc_1
 refine Y f 1 fun _ f => eT (RR (Z (v := .agg #[.int .i8 d0.fKind, .bool d0.fBool, .int .i64 d0.fNum, S d0.fText, .slice A_1 d0.fList.length cap_1, .slice A_2 d0.fKeys.length cap_2]) f (Y30 (cs := [.int .i8 d0.fKind, .bool d0.fBool, .int .i64 d0.fNum, S d0.fText, .slice A_1 d0.fList.length cap_1, .slice A_2 d0.fKeys.length cap_2]) rfl (ad := ⟨b_1, 0, none⟩) (fun j v h => p_1.cell (hc_2 j v h))) fun _ f => ?_))
 obtain ⟨x_1, hx_1, hF_1⟩ := bS hF
 refine Y17 f p_1 (ref03_weight_ok n _ _ d0 (TJ0.shutx (x := d0) (h_1.mono hM_1) (h_2.mono hM_1)) (30 : Int) x_1 hx_1) fun w_2 p_2 _ f => Y f 2 fun _ f => eT (wp_ret (E_ret1 f rfl (by kernel_rfl : Vc.look _ 2 = some (.bool (decide ((5000 : Int) < x_1)))) ?_))
 obtain rfl := sI hF_1
 exact ⟨_, rfl, M_1, hM_1, p_2, rfl⟩
end Go.Proofs.YtfdmlionhbeebaaGreat
end

section
namespace Go.Vc
open Go
theorem bnd {α β : Type} (x : α) (f : α → Option β) : (some x).bind f = f x := (Option.bind_some x f).trans (Eq.refl _)
theorem cT {α : Type} (x y : α) : (bif true then x else y) = x := (cond_true x y).trans (Eq.refl _)
theorem cF {α : Type} (x y : α) : (bif false then x else y) = y := (cond_false x y).trans (Eq.refl _)
theorem getI_at {α : Type} {xs : List α} {k : Nat} (d : α) (h : k < xs.length) : getI xs (k : Int) = some (xs.getD k d) := by
 unfold getI
 rw [if_pos (by omega)]
 simp [List.getD, h]
theorem getI_in {α : Type} {xs : List α} {i : Int} (d : α) (h0 : 0 ≤ i) (h : i < xs.length) : getI xs i = some (xs.getD i.toNat d) := by
 obtain ⟨k, rfl⟩ := Int.eq_ofNat_of_zero_le h0
 exact getI_at d (by omega)
theorem inR_small {x : Int} (h0 : -1000000000000 ≤ x) (h1 : x ≤ 1000000000000) : inR .i64 x := inR_mk.2 ⟨by omega, by omega⟩
theorem need_i {α : Type} {x : Int} {y : Option α} (h0 : -1000000000000 ≤ x) (h1 : x ≤ 1000000000000) : need (inR .i64 x) y = y := need_t (inR_small h0 h1)
section
variable {σ β : Type} {step : σ → Option (Lp σ β)} {n : Nat}
theorem loop_run (f : Nat → σ) (p : Nat → Option β) (len : Nat) (e : β) (hs : ∀ k, k < len → step (f k) = some (match p k with | some b => .br b | none => .nx (f (k + 1)))) (he : step (f len) = some (.br e)) (hn : len < n) :
  loopF step n (f 0) = some (((List.range len).findSome? p).getD e) := by
 have key : ∀ m k, k + m = len → ∀ n, m < n → loopF step n (f k) = some (((List.range' k m).findSome? p).getD e) := by
  intro m
  induction m with
  | zero =>
   intro k hk n hn
   obtain ⟨n, rfl⟩ : ∃ q, n = q + 1 := ⟨n - 1, by omega⟩
   have : k = len := by omega
   subst this
   simp [loopF, he]
  | succ m ih =>
   intro k hk n hn
   obtain ⟨n, rfl⟩ : ∃ q, n = q + 1 := ⟨n - 1, by omega⟩
   have h1 := hs k (by omega)
   rw [loopF, h1, Option.bind_some, List.range'_succ, List.findSome?_cons]
   cases p k with
   | some b => rfl
   | none => exact ih (k + 1) (by omega) n (by omega)
 have := key len 0 (by omega) n hn
 rwa [← List.range_eq_range'] at this
theorem loop_all (f : Nat → σ) (len : Nat) (e : β) (hs : ∀ k, k < len → step (f k) = some (.nx (f (k + 1)))) (he : step (f len) = some (.br e)) (hn : len < n) : loopF step n (f 0) = some e := by
 have := loop_run f (fun _ => none) len e hs he hn
 rw [this]
 have : (List.range len).findSome? (fun _ => (none : Option β)) = none := by simp
 rw [this]; rfl
theorem loop_any {step : Int → Option (Lp Int β)} (q : Nat → Bool) (len : Nat) (b e : β) (hs : ∀ k : Nat, k < len → step (k : Int) = if q k then some (.br b) else some (.nx ((k : Int) + 1))) (he : step (len : Int) = some (.br e)) (hn : len < n) :
  loopF step n 0 = some (bif (List.range len).any q then b else e) := by
 have := loop_run (n := n) (fun k => (k : Int)) (fun k => if q k then some b else none) len e (fun k hk => by
  rw [hs k hk]
  by_cases h : q k = true <;> simp [h]) he hn
 have e0 : ((0 : Nat) : Int) = 0 := rfl
 simp only [e0] at this
 rw [this]
 congr 1
 cases h : (List.range len).any q with
 | true =>
  cases h2 : (List.range len).findSome? (fun k => if q k = true then some b else none) with
  | some x =>
   obtain ⟨k, hk, hx⟩ := List.exists_of_findSome?_eq_some h2
   by_cases hq : q k = true
   ·simp [hq] at hx; simp [hx]
   ·simp [hq] at hx
  | none =>
   rw [List.findSome?_eq_none_iff] at h2
   obtain ⟨k, hk, hq⟩ := List.any_eq_true.1 h
   have := h2 k hk
   simp [hq] at this
 | false =>
  have : (List.range len).findSome? (fun k => if q k = true then some b else none) = none := by
   rw [List.findSome?_eq_none_iff]
   intro k hk
   have := List.any_eq_false.1 h k hk
   simp [this]
  rw [this]; rfl
theorem loop_inv (I : Nat → σ → Prop) (post : β → Prop) (len : Nat) {s0 : σ} (h0 : I 0 s0)
  (hs : ∀ k s, k < len → I k s → (∃ s', step s = some (.nx s') ∧ I (k + 1) s') ∨ ∃ b, step s = some (.br b) ∧ post b)
  (he : ∀ s, I len s → ∃ b, step s = some (.br b) ∧ post b) (hn : len < n) : ∃ b, loopF step n s0 = some b ∧ post b := by
 have key : ∀ m k s, k + m = len → I k s → ∀ n, m < n → ∃ b, loopF step n s = some b ∧ post b := by
  intro m
  induction m with
  | zero =>
   intro k s hk hI n hn
   obtain ⟨n, rfl⟩ : ∃ q, n = q + 1 := ⟨n - 1, by omega⟩
   have : k = len := by omega
   subst this
   obtain ⟨b, h1, h2⟩ := he s hI
   exact ⟨b, by simp [loopF, h1], h2⟩
  | succ m ih =>
   intro k s hk hI n hn
   obtain ⟨n, rfl⟩ : ∃ q, n = q + 1 := ⟨n - 1, by omega⟩
   rcases hs k s (by omega) hI with ⟨s', h1, h2⟩ | ⟨b, h1, h2⟩
   ·obtain ⟨b, h3, h4⟩ := ih (k + 1) s' (by omega) h2 n (by omega)
    exact ⟨b, by simp [loopF, h1, h3], h4⟩
   ·exact ⟨b, by simp [loopF, h1], h2⟩
 exact key len 0 s0 (by omega) h0 n hn
theorem loop_meas (I : σ → Prop) (μ : σ → Nat) (post : β → Prop) {s0 : σ} (h0 : I s0) (hs : ∀ s, I s → (∃ s', step s = some (.nx s') ∧ I s' ∧ μ s' < μ s) ∨ ∃ b, step s = some (.br b) ∧ post b) (hn : μ s0 < n) :
  ∃ b, loopF step n s0 = some b ∧ post b := by
 have key : ∀ m s, μ s ≤ m → I s → ∀ n, m < n → ∃ b, loopF step n s = some b ∧ post b := by
  intro m
  induction m with
  | zero =>
   intro s hm hI n hn
   obtain ⟨n, rfl⟩ : ∃ q, n = q + 1 := ⟨n - 1, by omega⟩
   rcases hs s hI with ⟨s', _, _, h3⟩ | ⟨b, h1, h2⟩
   ·omega
   ·exact ⟨b, by simp [loopF, h1], h2⟩
  | succ m ih =>
   intro s hm hI n hn
   obtain ⟨n, rfl⟩ : ∃ q, n = q + 1 := ⟨n - 1, by omega⟩
   rcases hs s hI with ⟨s', h1, h2, h3⟩ | ⟨b, h1, h2⟩
   ·obtain ⟨b, h4, h5⟩ := ih s' (by omega) h2 n (by omega)
    exact ⟨b, by simp [loopF, h1, h4], h5⟩
   ·exact ⟨b, by simp [loopF, h1], h2⟩
 exact key (μ s0) s0 (Nat.le_refl _) h0 n hn
end
theorem any_range {α : Type} (d : α) (q : α → Bool) (xs : List α) : ((List.range xs.length).any fun k => q (xs.getD k d)) = xs.any q := by
 rw [Bool.eq_iff_iff, List.any_eq_true, List.any_eq_true]
 constructor
 ·rintro ⟨k, hk, h⟩
  have hk' : k < xs.length := by simpa using hk
  exact ⟨xs[k], List.getElem_mem hk', by simpa [List.getD, hk'] using h⟩
 ·rintro ⟨x, hx, h⟩
  obtain ⟨k, hk, rfl⟩ := List.mem_iff_getElem.1 hx
  exact ⟨k, by simpa using hk, by simpa [List.getD, hk] using h⟩
theorem cond_ite {α : Type} (b : Bool) (x y : α) : (bif b then x else y) = if b then x else y := by cases b <;> rfl
end Go.Vc
end

section
namespace Go.Proofs.YtfdmlionhbeebaaGreat
open Go Go.Vc Go.RowKit
mutual
def walkV : TJ0 → List TJ0
  | ⟨k, b, n, t, l, ks⟩ => ⟨k, b, n, t, l, ks⟩ :: walkVs l
def walkVs : List TJ0 → List TJ0
  | [] => []
  | x :: r => walkV x ++ walkVs r
end
theorem walkV_eq (v : TJ0) : walkV v = v :: walkVs v.fList := by cases v; rw [walkV]
def Small : Nat → TJ0 → Prop
  | 0, _ => False
  | d + 1, v => v.fList.length ≤ 3000 ∧ v.fKeys.length ≤ 3000 ∧ v.fText.length ≤ 5000 ∧ (∀ k ∈ v.fKeys, k.length ≤ 5000) ∧ ∀ x ∈ v.fList, Small d x
theorem walkVs_app : ∀ (l m : List TJ0), walkVs (l ++ m) = walkVs l ++ walkVs m
 | [], m => by simp [walkVs]
 | x :: r, m => by simp [walkVs, walkVs_app r m]
theorem walkVs_take {l : List TJ0} {i : Nat} {x : TJ0} (h : l[i]? = some x) : walkVs (l.take (i + 1)) = walkVs (l.take i) ++ walkV x := by
 rw [List.take_add_one, h, walkVs_app]
 simp [walkVs]
theorem weight_ok {n : Nat} (hn : 3000 < n) : ∀ (k d : Nat) (v : TJ0), d < k → d ≤ 1000 → ∃ W : Int, ref03_weight_k n k v (d : Int) = some W ∧ 0 ≤ W ∧ W ≤ 30010001 + 10000 * d ∧ (W ≤ 5000 → Small d v ∧ ((walkV v).length : Int) ≤ W)
 | 0, d, v, h, _ => absurd h (by omega)
 | k + 1, d, v, h, hd => by
  show ∃ W : Int, ref03_weight_b n (ref03_weight_k n k) v (d : Int) = some W ∧ _
  unfold ref03_weight_b
  by_cases h0 : d = 0 ∨ 3000 < v.fList.length ∨ 3000 < v.fKeys.length
  ·have e : (bif decide ((d : Int) = 0) then some true else bif decide ((3000 : Int) < ((v.fList.length : Nat) : Int)) then some true else some (decide ((3000 : Int) < ((v.fKeys.length : Nat) : Int))) : Option Bool) = some true := by
    by_cases a : (d : Int) = 0
    ·rw [decide_eq_true a, cT]
    ·rw [decide_eq_false a, cF]
     by_cases b : (3000 : Int) < ((v.fList.length : Nat) : Int)
     ·rw [decide_eq_true b, cT]
     ·rw [decide_eq_false b, cF, decide_eq_true (by omega)]
   rw [e, bnd, cT]
   exact ⟨10000, rfl, by omega, by omega, fun h => absurd h (by omega)⟩
  ·have e : (bif decide ((d : Int) = 0) then some true else bif decide ((3000 : Int) < ((v.fList.length : Nat) : Int)) then some true else some (decide ((3000 : Int) < ((v.fKeys.length : Nat) : Int))) : Option Bool) = some false := by
    rw [decide_eq_false (by omega), cF, decide_eq_false (by omega), cF, decide_eq_false (by omega)]
   rw [e, bnd, cF]
   obtain ⟨base, hbase⟩ : ∃ base : Int, base = (1 : Int) + (min (v.fText.length : Int) (10000 : Int)) := ⟨_, rfl⟩
   rw [← hbase, need_i (by omega) (by omega)]
   obtain ⟨y, hy, hy1, hy2, hy3⟩ := loop_inv (step := ref03_weight_s1 n v) (n := n) (s0 := (base, (0 : Int)))
    (fun k s => s.2 = (k : Int) ∧ base ≤ s.1 ∧ s.1 ≤ base + 10000 * k ∧ (s.1 ≤ 5000 → ∀ j, j < k → (v.fKeys.getD j []).length ≤ 5000))
    (fun b => base ≤ b ∧ b ≤ base + 10000 * v.fKeys.length ∧ (b ≤ 5000 → ∀ j, j < v.fKeys.length → (v.fKeys.getD j []).length ≤ 5000)) v.fKeys.length
    ⟨rfl, Int.le_refl _, by simp, fun _ j hj => absurd hj (by omega)⟩
    (fun q s hq hI => by
     obtain ⟨t, i⟩ := s
     obtain ⟨h1, h2, h3, h4⟩ := hI
     have h1' : i = (q : Int) := h1
     subst h1'
     left
     refine ⟨(t + min ((v.fKeys.getD q []).length : Int) 10000, (q : Int) + 1), ?_, by simp, ?_, ?_, ?_⟩
     ·show ref03_weight_s1 n v (t, (q : Int)) = _
      unfold ref03_weight_s1
      dsimp only at h2 h3 ⊢
      rw [decide_eq_true (by omega), cT, getI_at [] hq, bnd, need_i (by omega) (by omega), need_i (by omega) (by omega)]
     ·dsimp only at h2 ⊢; omega
     ·dsimp only at h3 ⊢; push_cast; omega
     ·dsimp only at h4 ⊢
      intro hle j hj
      by_cases hjq : j = q
      ·subst hjq; omega
      ·exact h4 (by omega) j (by omega))
    (fun s hI => by
     obtain ⟨t, i⟩ := s
     obtain ⟨h1, h2, h3, h4⟩ := hI
     have h1' : i = (v.fKeys.length : Int) := h1
     subst h1'
     refine ⟨t, ?_, h2, h3, h4⟩
     unfold ref03_weight_s1
     dsimp only
     rw [decide_eq_false (by omega), cF])
    (by omega)
   rw [hy, bnd]
   obtain ⟨z, hz, hz1, hz2, hz3⟩ := loop_inv (step := ref03_weight_s2 n (ref03_weight_k n k) v (d : Int)) (n := n) (s0 := (y, (0 : Int)))
    (fun k s => s.2 = (k : Int) ∧ y ≤ s.1 ∧ s.1 ≤ 30010001 + 10000 * d ∧ (s.1 ≤ 5000 → (∀ j x, j < k → v.fList[j]? = some x → Small (d - 1) x) ∧ ((walkVs (v.fList.take k)).length : Int) + 1 ≤ s.1))
    (fun b => y ≤ b ∧ b ≤ 30010001 + 10000 * d ∧ (b ≤ 5000 → (∀ j x, j < v.fList.length → v.fList[j]? = some x → Small (d - 1) x) ∧ ((walkVs v.fList).length : Int) + 1 ≤ b)) v.fList.length
    ⟨rfl, Int.le_refl _, by omega, fun _ => ⟨fun j x hj => absurd hj (by omega), by simp [walkVs]; omega⟩⟩
    (fun q s hq hI => by
     obtain ⟨t, i⟩ := s
     obtain ⟨h1, h2, h3, h4⟩ := hI
     have h1' : i = (q : Int) := h1
     subst h1'
     dsimp only at h2 h3 h4
     by_cases ht : t ≤ 10000
     ·left
      have hx : v.fList[q]? = some v.fList[q] := List.getElem?_eq_getElem hq
      obtain ⟨W, w1, w2, w3, w4⟩ := weight_ok hn k (d - 1) v.fList[q] (by omega) (by omega)
      have hd1 : ((d - 1 : Nat) : Int) = (d : Int) - 1 := by omega
      rw [hd1] at w1
      refine ⟨(t + W, (q : Int) + 1), ?_, by simp, ?_, ?_, ?_⟩
      ·show ref03_weight_s2 n (ref03_weight_k n k) v (d : Int) (t, (q : Int)) = _
       unfold ref03_weight_s2
       dsimp only
       have hg : getI v.fList (q : Int) = some v.fList[q] := by simp [getI]
       rw [decide_eq_true (by omega), cT, bnd, decide_eq_true ht, cT, hg, bnd, need_i (by omega) (by omega), w1, bnd, need_i (by omega) (by omega), need_i (by omega) (by omega)]
      ·dsimp only; omega
      ·dsimp only; omega
      ·dsimp only
       intro hle
       obtain ⟨s1, s2⟩ := h4 (by omega)
       obtain ⟨c1, c2⟩ := w4 (by omega)
       refine ⟨fun j x hj hjx => ?_, ?_⟩
       ·by_cases hjq : j = q
        ·subst hjq
         rw [hx] at hjx
         exact Option.some.inj hjx ▸ c1
        ·exact s1 j x (by omega) hjx
       ·rw [walkVs_take hx, List.length_append]
        omega
     ·right
      refine ⟨t, ?_, h2, h3, fun hle => absurd hle (by omega)⟩
      unfold ref03_weight_s2
      dsimp only
      rw [decide_eq_true (by omega), cT, bnd, decide_eq_false ht, cF])
    (fun s hI => by
     obtain ⟨t, i⟩ := s
     obtain ⟨h1, h2, h3, h4⟩ := hI
     have h1' : i = (v.fList.length : Int) := h1
     subst h1'
     dsimp only at h2 h3 h4
     rw [List.take_length] at h4
     refine ⟨t, ?_, h2, h3, h4⟩
     unfold ref03_weight_s2
     dsimp only
     rw [decide_eq_false (by omega), cF, bnd, cF])
    (by omega)
   rw [hz, bnd]
   refine ⟨z, rfl, by omega, hz2, fun hle => ?_⟩
   obtain ⟨s1, s2⟩ := hz3 hle
   have s3 := hy3 (by omega)
   obtain ⟨d, rfl⟩ : ∃ e, d = e + 1 := ⟨d - 1, by omega⟩
   refine ⟨⟨by omega, by omega, by omega, fun q hq => ?_, fun x hx => ?_⟩, ?_⟩
   ·obtain ⟨j, hj, rfl⟩ := List.getElem_of_mem hq
    have := s3 j hj
    simpa [hj] using this
   ·obtain ⟨j, hj, rfl⟩ := List.getElem_of_mem hx
    exact s1 j _ hj (List.getElem?_eq_getElem hj)
   ·rw [walkV_eq, List.length_cons]
    push_cast
    omega
def ref09_Great_s1 (n : Nat) (d0 : List TE0) (s_1 : Int) : Option (Lp Int (Sum Unit Unit)) :=
    bif (decide (s_1 < ((d0.length : Nat) : Int))) then
      ((getI d0 s_1).bind fun x_1 =>
      bif (decide ((200 : Int) < (x_1.fName.length : Int))) then
        (some (.br (.inl ())))
      else
        (getI d0 s_1).bind fun x_2 =>
        (ref03_Great n (⟨x_2.fV.fKind, (x_2.fV.fBool), x_2.fV.fNum, x_2.fV.fText, x_2.fV.fList, x_2.fV.fKeys⟩ : TJ0)).bind fun x_3 =>
        bif x_3 then
          (some (.br (.inl ())))
        else
          need (inR .i64 (s_1 + 1)) <|
          some (.nx (s_1 + 1)))
    else
      some (.br (.inr ()))
def ref09_Great (n : Nat) (d0 : List TE0) : Option Bool :=
  bif (decide ((60 : Int) < ((d0.length : Nat) : Int))) then
    (some ((true)))
  else
    (loopF (ref09_Great_s1 n d0) n (0 : Int)).bind fun b_1 =>
    (match b_1 with 
    | .inl y_1 => some ((true)) 
    | .inr y_2 => some ((false)))
set_option maxRecDepth 20000 in
theorem ref09_Great_ok (n : Nat) (M : Mem) (A0 : Option Addr) (cap0 : Nat) (d0 : List TE0) (h0 : Sli M 8 emb_TE0 A0 cap0 d0) (r : Bool) (hF : ref09_Great n d0 = some r) : Ok Tryz.prog M 78 [.slice A0 d0.length cap0] (fun _ v => v = .bool r) := by
 unfold ref09_Great at hF
 intro M1 hM0 w0 H w p0
 replace h0 := h0.mono hM0
 refine R_enter 28 Tryz.func78 rfl rfl (by simp) fun a0 f0 => RR (Y f0 1 fun _ f => eT (R_seq (RR (Y f 3 fun _ f => eT (RcF f hF (fun h_1 hF_1 => ?_) fun h_1 hF_2 => ?_)))))
 ·have k_1 := dI.1 h_1
  refine RR (Y f 1 fun _ f => eT (wp_ret (T_r (E_ret1 f rfl (by kernel_rfl : Vc.look _ 2 = some (.bool true)) ?_))))
  obtain rfl := sI hF_1
  exact ⟨_, rfl, M1, (mR _), p0, rfl⟩
 ·have k_2 := iff_f dI h_1
  refine wp_skip (T_n (R_seq (RR (Y f 1 fun _ f => eT (wp_block ?_)))))
  obtain ⟨b_1, hL_1, hF_3⟩ := bS hF_2
  refine wp_mono (Q := fun e a w => (e = .ret ∧ (∃ y_1 : Unit, b_1 = .inl y_1 ∧ ∃ M_2 : Mem, M1.le M_2 ∧ Frm 28 [(2, .bool true)] a ∧ Hp w0 M_2 (H) w)) ∨ (e = .exit 0 ∧ (∃ y_2 : Unit, b_1 = .inr y_2 ∧ ∃ M_3 : Mem, M1.le M_3 ∧ Frm 28 [] a ∧ Hp w0 M_3 (H) w))) (R_loop (n := 28) (w0 := w0) (M := M1) (fun (x : Nat × Int) => match x with | (m_1, s_1) => [(0, .slice A0 d0.length cap0), (3, .int .i64 s_1)]) (fun (x : Nat × Int) => match x with | (m_1, s_1) => (H)) (fun (x : Nat × Int) (MM : Mem) => match x with | (m_1, s_1) => loopF (ref09_Great_s1 n d0) m_1 s_1 = some b_1) (fun (x : Nat × Int) => match x with | (m_1, s_1) => m_1) (n, (0 : Int)) (f.kp) p0 hL_1 ?_) ?_
  ·rintro ⟨m_1, s_1⟩ M_1 _ w_1 hM_1 I_1 f p_1
   have I_1L := I_1
   obtain ⟨m_2, r_1, rfl, hs_1, hn_1⟩ := loop_step I_1L
   unfold ref09_Great_s1 at hs_1
   refine R_seq (RR (Y f 4 fun _ f => eT (RcF f hs_1 (fun h_2 hF_4 => ?_) fun h_2 hF_13 => ?_)))
   ·have k_3 := dI.1 h_2
    refine wp_skip (T_n (R_seq (wp_block (RR (Y f 2 fun _ f => ?_)))))
    obtain ⟨x_1, hx_1, hF_5⟩ := bS hF_4
    obtain ⟨ad_1, c_1, e_1, -, hr_1, hc_1⟩ := Sli.at_ (h0.mono hM_1) hx_1
    obtain ⟨A_1, cap_1, A_2, cap_2, rfl, h_3, h_4⟩ := TE0.opn hr_1
    refine Z f (Y28 e_1 rfl (len := d0.length) (cap := cap0) (k := .i64) (i := s_1) (e := 119) (sz := 8) (getI_nn hx_1) (getI_lt hx_1)) fun _ f => Y f 1 fun _ f => Y14 f p_1 hc_1 0 rfl fun _ f => Y f 3 fun _ f => ?_
    rcases cE hF_5 with ⟨h_5, hF_6⟩ | ⟨h_5, hF_7⟩
    ·have k_4 := dI.1 h_5
     have f := f.st 20 (cB h_5)
     refine Y f 7 fun _ f => eT (Y8 f (RR (Y f 1 fun _ f => eT (wp_ret (B_r (T_r (T_r ?_)))))))
     obtain rfl := sI hF_6
     exact .inl ⟨rfl, (), (sI hn_1).symm, M_1, hM_1, f.kp, p_1⟩
    ·have k_5 := iff_f dI h_5
     have f := f.st 20 (cB h_5)
     refine Y f 2 fun _ f => ?_
     obtain ⟨x_2, hx_2, hF_8⟩ := bS hF_7
     obtain ⟨ad_2, c_2, e_2, -, hr_2, hc_2⟩ := Sli.at_ (h0.mono hM_1) hx_2
     obtain ⟨A_3, cap_3, A_4, cap_4, rfl, h_6, h_7⟩ := TE0.opn hr_2
     refine Z f (Y28 e_2 rfl (len := d0.length) (cap := cap0) (k := .i64) (i := s_1) (e := 119) (sz := 8) (getI_nn hx_2) (getI_lt hx_2)) fun _ f => Y f 1 fun _ f => Z (v := .agg #[.int .i8 x_2.fV.fKind, .bool x_2.fV.fBool, .int .i64 x_2.fV.fNum, S x_2.fV.fText, .slice A_3 x_2.fV.fList.length cap_3, .slice A_4 x_2.fV.fKeys.length cap_4]) f (Y30 (cs := [.int .i8 x_2.fV.fKind, .bool x_2.fV.fBool, .int .i64 x_2.fV.fNum, S x_2.fV.fText, .slice A_3 x_2.fV.fList.length cap_3, .slice A_4 x_2.fV.fKeys.length cap_4]) rfl (ad := (ad_2.add (s_1.toNat * 8)).add 2) (fz_part (base := ad_2.add (s_1.toNat * 8)) (fun j v h => p_1.cell (hc_2 j v h)) 2 rfl)) fun _ f => ?_
     obtain ⟨x_3, hx_3, hF_9⟩ := bS hF_8
     refine Y17 f p_1 (ref03_Great_ok n _ _ (⟨x_2.fV.fKind, (x_2.fV.fBool), x_2.fV.fNum, x_2.fV.fText, x_2.fV.fList, x_2.fV.fKeys⟩ : TJ0) (TJ0.shut h_6 h_7) x_3 hx_3) fun w_2 p_2 _ f => Y f 1 fun _ f => eT (RcF f hF_9 (fun h_8 hF_10 => ?_) fun h_8 hF_11 => ?_)
     ·refine RR (Y f 1 fun _ f => eT (wp_ret (B_r (T_r (T_r ?_)))))
      obtain rfl := sI hF_10
      exact .inl ⟨rfl, (), (sI hn_1).symm, M_1, hM_1, f.kp, p_2⟩
     ·refine wp_skip (B_n (T_n (R_reg (Y f 1 fun _ f => ?_))))
      obtain ⟨g_1, hF_12⟩ := nS hF_11
      refine Y f 1 fun _ f => ?_
      have f := f.st 12 (congrArg (Value.int .i64) (inR_wrap g_1))
      refine Y f 1 fun _ f => eT ?_
      obtain rfl := sI hF_12
      exact ⟨⟨m_2, s_1 + 1⟩, Nat.lt_succ_self _, M_1, hM_1, hn_1, f.kp, p_2⟩
   ·have k_8 := iff_f dI h_2
    refine wp_exit (T_x (T_x ?_))
    obtain rfl := sI hF_13
    exact .inr ⟨rfl, (), (sI hn_1).symm, M_1, hM_1, f.kp, p_1⟩
  ·rintro _ _ w_5 (⟨rfl, y_1, rfl, M_2, hM_2, f, p_3⟩ | ⟨rfl, y_2, rfl, M_3, hM_3, f, p_4⟩)
   ·refine B_r (T_r (E_ret1 f rfl (by kernel_rfl : Vc.look _ 2 = some (.bool true)) ?_))
    obtain rfl := sI hF_3
    exact ⟨_, rfl, M_2, hM_2, p_3, rfl⟩
   ·refine B_x (T_n (RR (Y f 1 fun _ f => eT (wp_ret (E_ret1 f rfl (by kernel_rfl : Vc.look _ 2 = some (.bool false)) ?_)))))
    obtain rfl := sI hF_3
    exact ⟨_, rfl, M_3, hM_3, p_4, rfl⟩
def ref14_Great_s1 (n : Nat) (d0 : List TE0) (s_1 : Int) : Option (Lp Int (Sum Unit Unit)) :=
    ((bif (decide (s_1 < ((d0.length : Nat) : Int))) then
        (some ((decide (s_1 ≤ 40))))
      else
        some ((false)) : Option Bool)).bind fun y_1 =>
    bif y_1 then
      ((getI d0 s_1).bind fun x_1 =>
      (ref03_Great n (⟨x_1.fV.fKind, (x_1.fV.fBool), x_1.fV.fNum, x_1.fV.fText, x_1.fV.fList, x_1.fV.fKeys⟩ : TJ0)).bind fun x_2 =>
      bif x_2 then
        (some (.br (.inl ())))
      else
        (getI d0 s_1).bind fun x_3 =>
        bif (decide ((400 : Int) < (x_3.fName.length : Int))) then
          (some (.br (.inl ())))
        else
          need (inR .i64 (s_1 + 1)) <|
          some (.nx (s_1 + 1)))
    else
      some (.br (.inr ()))
def ref14_Great (n : Nat) (d0 : List TE0) : Option Bool :=
  (loopF (ref14_Great_s1 n d0) n (0 : Int)).bind fun b_1 =>
  (match b_1 with 
  | .inl y_2 => some ((true)) 
  | .inr y_3 => some ((decide ((40 : Int) < ((d0.length : Nat) : Int)))))
set_option maxRecDepth 20000 in
theorem ref14_Great_ok (n : Nat) (M : Mem) (A0 : Option Addr) (cap0 : Nat) (d0 : List TE0) (h0 : Sli M 8 emb_TE0 A0 cap0 d0) (r : Bool) (hF : ref14_Great n d0 = some r) : Ok Tryz.prog M 26 [.slice A0 d0.length cap0] (fun _ v => v = .bool r) := by
 unfold ref14_Great at hF
 intro M1 hM0 w0 H w p0
 replace h0 := h0.mono hM0
 refine R_enter 32 Tryz.func26 rfl rfl (by simp) fun a0 f0 => RR (Y f0 1 fun _ f => eT (R_seq (RR (Y f 1 fun _ f => eT (wp_block ?_)))))
 obtain ⟨b_1, hL_1, hF_1⟩ := bS hF
 refine wp_mono (Q := fun e a w => (e = .ret ∧ (∃ y_2 : Unit, b_1 = .inl y_2 ∧ ∃ M_3 : Mem, M1.le M_3 ∧ Frm 32 [(2, .bool true)] a ∧ Hp w0 M_3 (H) w)) ∨ (e = .exit 0 ∧ (∃ y_3 : Unit, b_1 = .inr y_3 ∧ ∃ M_4 : Mem, M1.le M_4 ∧ Frm 32 [(0, .slice A0 d0.length cap0)] a ∧ Hp w0 M_4 (H) w))) (R_loop (n := 32) (w0 := w0) (M := M1) (fun (x : Nat × Int) => match x with | (m_1, s_1) => [(0, .slice A0 d0.length cap0), (3, .int .i64 s_1)]) (fun (x : Nat × Int) => match x with | (m_1, s_1) => (H)) (fun (x : Nat × Int) (MM : Mem) => match x with | (m_1, s_1) => loopF (ref14_Great_s1 n d0) m_1 s_1 = some b_1) (fun (x : Nat × Int) => match x with | (m_1, s_1) => m_1) (n, (0 : Int)) (f.kp) p0 hL_1 ?_) ?_
 ·rintro ⟨m_1, s_1⟩ M_1 _ w_1 hM_1 I_1 f p_1
  have I_1L := I_1
  obtain ⟨m_2, r_1, rfl, hs_1, hn_1⟩ := loop_step I_1L
  unfold ref14_Great_s1 at hs_1
  refine R_seq (R_seq ?_)
  obtain ⟨j_1, hj_1, hF_2⟩ := bS hs_1
  refine R_mid (fun a_7 w_2 => ∃ y_1 : Bool, j_1 = y_1 ∧ ∃ M_2 : Mem, M_1.le M_2 ∧ Frm 32 [(0, .slice A0 d0.length cap0), (3, .int .i64 s_1), (11, .bool y_1)] a_7 ∧ Hp w0 M_2 (H) w_2) ?_ ?_
  ·refine R_reg (Y f 5 fun _ f => ?_)
   rcases cE hj_1 with ⟨h_1, hF_3⟩ | ⟨h_1, hF_4⟩
   ·have k_1 := dI.1 h_1
    have f := f.st 8 (cB h_1)
    refine Y f 3 fun _ f => eT ?_
    exact ⟨(decide (s_1 ≤ 40)), (sI hF_3).symm, M_1, (mR _), f.kp, p_1⟩
   ·have k_2 := iff_f dI h_1
    have f := f.st 8 (cB h_1)
    refine Y f 3 fun _ f => eT ?_
    exact ⟨(false), (sI hF_4).symm, M_1, (mR _), f.kp, p_1⟩
  ·rintro a_7 w_2 ⟨y_1, hq_1, M_2, hM_2, f, p_2⟩
   subst j_1
   refine T_n (RcF f hF_2 (fun h_2 hF_5 => ?_) fun h_2 hF_14 => ?_)
   ·refine wp_skip (T_n (R_seq (wp_block (RR (Y f 2 fun _ f => ?_)))))
    obtain ⟨x_1, hx_1, hF_6⟩ := bS hF_5
    obtain ⟨ad_1, c_1, e_1, -, hr_1, hc_1⟩ := Sli.at_ (h0.mono (hM_1.trans hM_2)) hx_1
    obtain ⟨A_1, cap_1, A_2, cap_2, rfl, h_3, h_4⟩ := TE0.opn hr_1
    refine Z f (Y28 e_1 rfl (len := d0.length) (cap := cap0) (k := .i64) (i := s_1) (e := 119) (sz := 8) (getI_nn hx_1) (getI_lt hx_1)) fun _ f => Y f 1 fun _ f => Z (v := .agg #[.int .i8 x_1.fV.fKind, .bool x_1.fV.fBool, .int .i64 x_1.fV.fNum, S x_1.fV.fText, .slice A_1 x_1.fV.fList.length cap_1, .slice A_2 x_1.fV.fKeys.length cap_2]) f (Y30 (cs := [.int .i8 x_1.fV.fKind, .bool x_1.fV.fBool, .int .i64 x_1.fV.fNum, S x_1.fV.fText, .slice A_1 x_1.fV.fList.length cap_1, .slice A_2 x_1.fV.fKeys.length cap_2]) rfl (ad := (ad_1.add (s_1.toNat * 8)).add 2) (fz_part (base := ad_1.add (s_1.toNat * 8)) (fun j v h => p_2.cell (hc_1 j v h)) 2 rfl)) fun _ f => ?_
    obtain ⟨x_2, hx_2, hF_7⟩ := bS hF_6
    refine Y17 f p_2 (ref03_Great_ok n _ _ (⟨x_1.fV.fKind, (x_1.fV.fBool), x_1.fV.fNum, x_1.fV.fText, x_1.fV.fList, x_1.fV.fKeys⟩ : TJ0) (TJ0.shut h_3 h_4) x_2 hx_2) fun w_3 p_3 _ f => Y f 1 fun _ f => ?_
    rcases cE hF_7 with ⟨h_5, hF_8⟩ | ⟨h_5, hF_9⟩
    ·have f := f.st 20 (cB h_5)
     refine Y f 8 fun _ f => eT (Y8 f (RR (Y f 1 fun _ f => eT (wp_ret (B_r (T_r (T_r ?_)))))))
     obtain rfl := sI hF_8
     exact .inl ⟨rfl, (), (sI hn_1).symm, M_2, (hM_1.trans hM_2), f.kp, p_3⟩
    ·have f := f.st 20 (cB h_5)
     refine Y f 2 fun _ f => ?_
     obtain ⟨x_3, hx_3, hF_10⟩ := bS hF_9
     obtain ⟨ad_2, c_2, e_2, -, hr_2, hc_2⟩ := Sli.at_ (h0.mono (hM_1.trans hM_2)) hx_3
     obtain ⟨A_3, cap_3, A_4, cap_4, rfl, h_6, h_7⟩ := TE0.opn hr_2
     refine Z f (Y28 e_2 rfl (len := d0.length) (cap := cap0) (k := .i64) (i := s_1) (e := 119) (sz := 8) (getI_nn hx_3) (getI_lt hx_3)) fun _ f => Y f 1 fun _ f => Y14 f p_3 hc_2 0 rfl fun _ f => Y f 3 fun _ f => eT (RcF f hF_10 (fun h_8 hF_11 => ?_) fun h_8 hF_12 => ?_)
     ·have k_6 := dI.1 h_8
      refine RR (Y f 1 fun _ f => eT (wp_ret (B_r (T_r (T_r ?_)))))
      obtain rfl := sI hF_11
      exact .inl ⟨rfl, (), (sI hn_1).symm, M_2, (hM_1.trans hM_2), f.kp, p_3⟩
     ·have k_7 := iff_f dI h_8
      refine wp_skip (B_n (T_n (R_reg (Y f 1 fun _ f => ?_))))
      obtain ⟨g_1, hF_13⟩ := nS hF_12
      refine Y f 1 fun _ f => ?_
      have f := f.st 13 (congrArg (Value.int .i64) (inR_wrap g_1))
      refine Y f 1 fun _ f => eT ?_
      obtain rfl := sI hF_13
      exact ⟨⟨m_2, s_1 + 1⟩, Nat.lt_succ_self _, M_2, (hM_1.trans hM_2), hn_1, f.kp, p_3⟩
   ·refine wp_exit (T_x (T_x ?_))
    obtain rfl := sI hF_14
    exact .inr ⟨rfl, (), (sI hn_1).symm, M_2, (hM_1.trans hM_2), f.kp, p_2⟩
 ·rintro _ _ w_6 (⟨rfl, y_2, rfl, M_3, hM_3, f, p_4⟩ | ⟨rfl, y_3, rfl, M_4, hM_4, f, p_5⟩)
  ·refine B_r (T_r (E_ret1 f rfl (by kernel_rfl : Vc.look _ 2 = some (.bool true)) ?_))
   obtain rfl := sI hF_1
   exact ⟨_, rfl, M_3, hM_3, p_4, rfl⟩
  ·refine B_x (T_n (RR (Y f 4 fun _ f => eT (wp_ret (E_ret1 f rfl (by kernel_rfl : Vc.look _ 2 = some (.bool (decide ((40 : Int) < ((d0.length : Nat) : Int))))) ?_)))))
   obtain rfl := sI hF_1
   exact ⟨_, rfl, M_4, hM_4, p_5, rfl⟩
def ref22_greats_s1 (n : Nat) (d0 : List TS0) (s_1 : Int) : Option (Lp Int (Sum Unit Unit)) :=
    ((bif (decide (s_1 < ((d0.length : Nat) : Int))) then
        (some ((decide (s_1 ≤ 100))))
      else
        some ((false)) : Option Bool)).bind fun y_1 =>
    bif y_1 then
      ((getI d0 s_1).bind fun x_1 =>
      (ref09_Great n x_1.fProps).bind fun x_2 =>
      bif x_2 then
        (some (.br (.inl ())))
      else
        (getI d0 s_1).bind fun x_3 =>
        bif (decide ((60 : Int) < ((x_3.fLeans.length : Nat) : Int))) then
          (some (.br (.inl ())))
        else
          (getI d0 s_1).bind fun x_4 =>
          (getI d0 s_1).bind fun x_5 =>
          need (inR .i64 ((x_4.fId.length : Int) + (x_5.fType.length : Int))) <|
          (getI d0 s_1).bind fun x_6 =>
          need (inR .i64 (((x_4.fId.length : Int) + (x_5.fType.length : Int)) + (x_6.fPhys.length : Int))) <|
          bif (decide ((2000 : Int) < (((x_4.fId.length : Int) + (x_5.fType.length : Int)) + (x_6.fPhys.length : Int)))) then
            (some (.br (.inl ())))
          else
            need (inR .i64 (s_1 + 1)) <|
            some (.nx (s_1 + 1)))
    else
      some (.br (.inr ()))
def ref22_greats (n : Nat) (d0 : List TS0) : Option Bool :=
  (loopF (ref22_greats_s1 n d0) n (0 : Int)).bind fun b_1 =>
  (match b_1 with 
  | .inl y_2 => some ((true)) 
  | .inr y_3 => some ((decide ((100 : Int) < ((d0.length : Nat) : Int)))))
set_option maxRecDepth 20000 in
theorem ref22_greats_ok (n : Nat) (M : Mem) (A0 : Option Addr) (cap0 : Nat) (d0 : List TS0) (h0 : Sli M 6 emb_TS0 A0 cap0 d0) (r : Bool) (hF : ref22_greats n d0 = some r) : Ok Tryz.prog M 59 [.slice A0 d0.length cap0] (fun _ v => v = .bool r) := by
 unfold ref22_greats at hF
 intro M1 hM0 w0 H w p0
 replace h0 := h0.mono hM0
 refine R_enter 55 Tryz.func59 rfl rfl (by simp) fun a0 f0 => RR (Y f0 1 fun _ f => eT (R_seq (RR (Y f 1 fun _ f => eT (wp_block ?_)))))
 obtain ⟨b_1, hL_1, hF_1⟩ := bS hF
 refine wp_mono (Q := fun e a w => (e = .ret ∧ (∃ y_2 : Unit, b_1 = .inl y_2 ∧ ∃ M_3 : Mem, M1.le M_3 ∧ Frm 55 [(2, .bool true)] a ∧ Hp w0 M_3 (H) w)) ∨ (e = .exit 0 ∧ (∃ y_3 : Unit, b_1 = .inr y_3 ∧ ∃ M_4 : Mem, M1.le M_4 ∧ Frm 55 [(0, .slice A0 d0.length cap0)] a ∧ Hp w0 M_4 (H) w))) (R_loop (n := 55) (w0 := w0) (M := M1) (fun (x : Nat × Int) => match x with | (m_1, s_1) => [(0, .slice A0 d0.length cap0), (3, .int .i64 s_1)]) (fun (x : Nat × Int) => match x with | (m_1, s_1) => (H)) (fun (x : Nat × Int) (MM : Mem) => match x with | (m_1, s_1) => loopF (ref22_greats_s1 n d0) m_1 s_1 = some b_1) (fun (x : Nat × Int) => match x with | (m_1, s_1) => m_1) (n, (0 : Int)) (f.kp) p0 hL_1 ?_) ?_
 ·rintro ⟨m_1, s_1⟩ M_1 _ w_1 hM_1 I_1 f p_1
  have I_1L := I_1
  obtain ⟨m_2, r_1, rfl, hs_1, hn_1⟩ := loop_step I_1L
  unfold ref22_greats_s1 at hs_1
  refine R_seq (R_seq ?_)
  obtain ⟨j_1, hj_1, hF_2⟩ := bS hs_1
  refine R_mid (fun a_7 w_2 => ∃ y_1 : Bool, j_1 = y_1 ∧ ∃ M_2 : Mem, M_1.le M_2 ∧ Frm 55 [(0, .slice A0 d0.length cap0), (3, .int .i64 s_1), (11, .bool y_1)] a_7 ∧ Hp w0 M_2 (H) w_2) ?_ ?_
  ·refine R_reg (Y f 5 fun _ f => ?_)
   rcases cE hj_1 with ⟨h_1, hF_3⟩ | ⟨h_1, hF_4⟩
   ·have k_1 := dI.1 h_1
    have f := f.st 8 (cB h_1)
    refine Y f 3 fun _ f => eT ?_
    exact ⟨(decide (s_1 ≤ 100)), (sI hF_3).symm, M_1, (mR _), f.kp, p_1⟩
   ·have k_2 := iff_f dI h_1
    have f := f.st 8 (cB h_1)
    refine Y f 3 fun _ f => eT ?_
    exact ⟨(false), (sI hF_4).symm, M_1, (mR _), f.kp, p_1⟩
  ·rintro a_7 w_2 ⟨y_1, hq_1, M_2, hM_2, f, p_2⟩
   subst j_1
   refine T_n (RcF f hF_2 (fun h_2 hF_5 => ?_) fun h_2 hF_21 => ?_)
   ·refine wp_skip (T_n (R_seq (wp_block (R_seq (R_draw p_2 (by kernel_rfl) (by kernel_rfl) (Y5 default f 2 fun _ f => ?_))))))
    obtain ⟨x_1, hx_1, hF_6⟩ := bS hF_5
    obtain ⟨ad_1, c_1, e_1, -, hr_1, hc_1⟩ := Sli.at_ (h0.mono (hM_1.trans hM_2)) hx_1
    obtain ⟨A_1, cap_1, A_2, cap_2, rfl, h_3, h_4⟩ := TS0.opn hr_1
    refine Y2 (v := .pointer (some (ad_1.add (s_1.toNat * 6)))) f (fun _ pq => Y28 e_1 rfl (len := d0.length) (cap := cap0) (k := .i64) (i := s_1) (e := 68) (sz := 6) (getI_nn hx_1) (getI_lt hx_1)) fun _ f => Y5 default f 1 fun _ f => Y4 f hc_1 3 rfl fun _ f => ?_
    obtain ⟨x_2, hx_2, hF_7⟩ := bS hF_6
    refine Y3 f (ref09_Great_ok n _ A_1 cap_1 x_1.fProps h_3 x_2 hx_2) fun _ f => Y5 default f 1 fun _ f => ?_
    rcases cE hF_7 with ⟨h_5, hF_8⟩ | ⟨h_5, hF_9⟩
    ·have f := f.st 20 (cB h_5)
     refine Y5 default f 31 fun _ f => Q_end rfl ?_
     intro w_4 p_4
     refine T_n (Y8 f (RR (Y f 1 fun _ f => eT (wp_ret (B_r (T_r (T_r ?_)))))))
     obtain rfl := sI hF_8
     exact .inl ⟨rfl, (), (sI hn_1).symm, M_2, (hM_1.trans hM_2), f.kp, p_4⟩
    ·have f := f.st 20 (cB h_5)
     refine Y5 default f 2 fun _ f => ?_
     obtain ⟨x_3, hx_3, hF_10⟩ := bS hF_9
     obtain ⟨ad_2, c_2, e_2, -, hr_2, hc_2⟩ := Sli.at_ (h0.mono (hM_1.trans hM_2)) hx_3
     obtain ⟨A_3, cap_3, A_4, cap_4, rfl, h_6, h_7⟩ := TS0.opn hr_2
     refine Y2 (v := .pointer (some (ad_2.add (s_1.toNat * 6)))) f (fun _ pq => Y28 e_2 rfl (len := d0.length) (cap := cap0) (k := .i64) (i := s_1) (e := 68) (sz := 6) (getI_nn hx_3) (getI_lt hx_3)) fun _ f => Y5 default f 1 fun _ f => Y4 f hc_2 5 rfl fun _ f => Y5 default f 4 fun _ f => ?_
     rcases cE hF_10 with ⟨h_8, hF_11⟩ | ⟨h_8, hF_12⟩
     ·have k_6 := dI.1 h_8
      have f := f.st 29 (cB h_8)
      refine Y5 default f 22 fun _ f => Q_end rfl ?_
      intro w_5 p_5
      refine T_n (Y8 f (RR (Y f 1 fun _ f => eT (wp_ret (B_r (T_r (T_r ?_)))))))
      obtain rfl := sI hF_11
      exact .inl ⟨rfl, (), (sI hn_1).symm, M_2, (hM_1.trans hM_2), f.kp, p_5⟩
     ·have k_7 := iff_f dI h_8
      have f := f.st 29 (cB h_8)
      refine Y5 default f 2 fun _ f => ?_
      obtain ⟨x_4, hx_4, hF_13⟩ := bS hF_12
      obtain ⟨ad_3, c_3, e_3, -, hr_3, hc_3⟩ := Sli.at_ (h0.mono (hM_1.trans hM_2)) hx_4
      obtain ⟨A_5, cap_5, A_6, cap_6, rfl, h_9, h_10⟩ := TS0.opn hr_3
      refine Y2 (v := .pointer (some (ad_3.add (s_1.toNat * 6)))) f (fun _ pq => Y28 e_3 rfl (len := d0.length) (cap := cap0) (k := .i64) (i := s_1) (e := 68) (sz := 6) (getI_nn hx_4) (getI_lt hx_4)) fun _ f => Y5 default f 1 fun _ f => Y4 f hc_3 0 rfl fun _ f => Y5 default f 3 fun _ f => ?_
      obtain ⟨x_5, hx_5, hF_14⟩ := bS hF_13
      obtain ⟨ad_4, c_4, e_4, -, hr_4, hc_4⟩ := Sli.at_ (h0.mono (hM_1.trans hM_2)) hx_5
      obtain ⟨A_7, cap_7, A_8, cap_8, rfl, h_11, h_12⟩ := TS0.opn hr_4
      refine Y2 (v := .pointer (some (ad_4.add (s_1.toNat * 6)))) f (fun _ pq => Y28 e_4 rfl (len := d0.length) (cap := cap0) (k := .i64) (i := s_1) (e := 68) (sz := 6) (getI_nn hx_5) (getI_lt hx_5)) fun _ f => Y5 default f 1 fun _ f => Y4 f hc_4 1 rfl fun _ f => Y5 default f 1 fun _ f => ?_
      obtain ⟨g_1, hF_15⟩ := nS hF_14
      refine Y2 (v := .int .i64 (IntKind.wrap .i64 ((x_4.fId.length : Int) + (x_5.fType.length : Int)))) f (fun _ pq => by kernel_rfl) fun _ f => ?_
      have f := f.st 42 (congrArg (Value.int .i64) (inR_wrap g_1))
      refine Y5 default f 2 fun _ f => ?_
      obtain ⟨x_6, hx_6, hF_16⟩ := bS hF_15
      obtain ⟨ad_5, c_5, e_5, -, hr_5, hc_5⟩ := Sli.at_ (h0.mono (hM_1.trans hM_2)) hx_6
      obtain ⟨A_9, cap_9, A_10, cap_10, rfl, h_13, h_14⟩ := TS0.opn hr_5
      refine Y2 (v := .pointer (some (ad_5.add (s_1.toNat * 6)))) f (fun _ pq => Y28 e_5 rfl (len := d0.length) (cap := cap0) (k := .i64) (i := s_1) (e := 68) (sz := 6) (getI_nn hx_6) (getI_lt hx_6)) fun _ f => Y5 default f 1 fun _ f => Y4 f hc_5 2 rfl fun _ f => Y5 default f 1 fun _ f => ?_
      obtain ⟨g_2, hF_17⟩ := nS hF_16
      refine Y2 (v := .int .i64 (IntKind.wrap .i64 (((x_4.fId.length : Int) + (x_5.fType.length : Int)) + (x_6.fPhys.length : Int)))) f (fun _ pq => by kernel_rfl) fun _ f => ?_
      have f := f.st 49 (congrArg (Value.int .i64) (inR_wrap g_2))
      refine Y5 default f 2 fun _ f => Q_end rfl ?_
      intro w_6 p_6
      refine T_n (RcF f hF_17 (fun h_15 hF_18 => ?_) fun h_15 hF_19 => ?_)
      ·have k_8 := dI.1 h_15
       refine RR (Y f 1 fun _ f => eT (wp_ret (B_r (T_r (T_r ?_)))))
       obtain rfl := sI hF_18
       exact .inl ⟨rfl, (), (sI hn_1).symm, M_2, (hM_1.trans hM_2), f.kp, p_6⟩
      ·have k_9 := iff_f dI h_15
       refine wp_skip (B_n (T_n (R_reg (Y f 1 fun _ f => ?_))))
       obtain ⟨g_3, hF_20⟩ := nS hF_19
       refine Y f 1 fun _ f => ?_
       have f := f.st 13 (congrArg (Value.int .i64) (inR_wrap g_3))
       refine Y f 1 fun _ f => eT ?_
       obtain rfl := sI hF_20
       exact ⟨⟨m_2, s_1 + 1⟩, Nat.lt_succ_self _, M_2, (hM_1.trans hM_2), hn_1, f.kp, p_6⟩
   ·refine wp_exit (T_x (T_x ?_))
    obtain rfl := sI hF_21
    exact .inr ⟨rfl, (), (sI hn_1).symm, M_2, (hM_1.trans hM_2), f.kp, p_2⟩
 ·rintro _ _ w_9 (⟨rfl, y_2, rfl, M_3, hM_3, f, p_7⟩ | ⟨rfl, y_3, rfl, M_4, hM_4, f, p_8⟩)
  ·refine B_r (T_r (E_ret1 f rfl (by kernel_rfl : Vc.look _ 2 = some (.bool true)) ?_))
   obtain rfl := sI hF_1
   exact ⟨_, rfl, M_3, hM_3, p_7, rfl⟩
  ·refine B_x (T_n (RR (Y f 4 fun _ f => eT (wp_ret (E_ret1 f rfl (by kernel_rfl : Vc.look _ 2 = some (.bool (decide ((100 : Int) < ((d0.length : Nat) : Int))))) ?_)))))
   obtain rfl := sI hF_1
   exact ⟨_, rfl, M_4, hM_4, p_8, rfl⟩
def ref22_Great (n : Nat) (d0 : TF0) : Option Bool :=
  (ref22_greats n d0.fOwned).bind fun x_1 =>
  bif x_1 then
    (some ((true)))
  else
    (ref22_greats n d0.fPending).bind fun x_2 =>
    bif x_2 then
      (some ((true)))
    else
      (ref22_greats n d0.fRetained).bind fun x_3 =>
      bif x_3 then
        (some ((true)))
      else
        (ref14_Great n d0.fOuts).bind fun x_4 =>
        bif x_4 then
          (some ((true)))
        else
          (ref14_Great n d0.fArgs).bind fun x_5 =>
          bif x_5 then
            (some ((true)))
          else
            some ((decide ((5000 : Int) < (d0.fText.length : Int))))
theorem ref22_Great_ok (n : Nat) (M : Mem) (c0 : List Value) (d0 : TF0) (h0 : Rep M (emb_TF0 d0) c0) (r : Bool) (hF : ref22_Great n d0 = some r) : Ok Tryz.prog M 25 [.agg c0.toArray] (fun _ v => v = .bool r) := by
 unfold ref22_Great at hF
 intro M1 hM0 w0 H w p0
 replace h0 := Rep.mono hM0 _ _ h0
 obtain ⟨A_1, cap_1, A_2, cap_2, A_3, cap_3, A_4, cap_4, A_5, cap_5, rfl, h_1, h_2, h_3, h_4, h_5⟩ := TF0.opn h0
 refine R_enter 32 Tryz.func25 rfl rfl (by simp) fun a0 f0 => RR (Y12 (cs := #[.slice A_1 d0.fOwned.length cap_1, .slice A_2 d0.fPending.length cap_2, .slice A_3 d0.fRetained.length cap_3, .slice A_4 d0.fOuts.length cap_4, S d0.fText, .slice A_5 d0.fArgs.length cap_5, .int .i64 d0.fCalls, .int .i8 d0.fStatus]) (T := 26) f0 p0 fun b_1 M_1 w_1 hM_1 hc_1 p_1 _ f => ?_)
 have hc_2 := fz_box hc_1
 refine Y f 1 fun _ f => eT (RR (Y f 1 fun _ f => Y14 f p_1 hc_2 0 rfl fun _ f => ?_))
 obtain ⟨x_1, hx_1, hF_1⟩ := bS hF
 refine Y17 f p_1 (ref22_greats_ok n _ A_1 cap_1 d0.fOwned (h_1.mono hM_1) x_1 hx_1) fun w_2 p_2 _ f => Y f 1 fun _ f => ?_
 rcases cE hF_1 with ⟨h_6, hF_2⟩ | ⟨h_6, hF_3⟩
 ·have f := f.st 6 (cB h_6)
  refine Y f 26 fun _ f => eT (wp_ret (E_ret1 f rfl (by kernel_rfl : Vc.look _ 2 = some (.bool true)) ?_))
  obtain rfl := sI hF_2
  exact ⟨_, rfl, M_1, hM_1, p_2, rfl⟩
 ·have f := f.st 6 (cB h_6)
  refine Y f 1 fun _ f => Y14 f p_2 hc_2 1 rfl fun _ f => ?_
  obtain ⟨x_2, hx_2, hF_4⟩ := bS hF_3
  refine Y17 f p_2 (ref22_greats_ok n _ A_2 cap_2 d0.fPending (h_2.mono hM_1) x_2 hx_2) fun w_3 p_3 _ f => Y f 2 fun _ f => ?_
  rcases cE hF_4 with ⟨h_7, hF_5⟩ | ⟨h_7, hF_6⟩
  ·have f := f.st 11 (cB h_7)
   refine Y f 21 fun _ f => eT (wp_ret (E_ret1 f rfl (by kernel_rfl : Vc.look _ 2 = some (.bool true)) ?_))
   obtain rfl := sI hF_5
   exact ⟨_, rfl, M_1, hM_1, p_3, rfl⟩
  ·have f := f.st 11 (cB h_7)
   refine Y f 1 fun _ f => Y14 f p_3 hc_2 2 rfl fun _ f => ?_
   obtain ⟨x_3, hx_3, hF_7⟩ := bS hF_6
   refine Y17 f p_3 (ref22_greats_ok n _ A_3 cap_3 d0.fRetained (h_3.mono hM_1) x_3 hx_3) fun w_4 p_4 _ f => Y f 2 fun _ f => ?_
   rcases cE hF_7 with ⟨h_8, hF_8⟩ | ⟨h_8, hF_9⟩
   ·have f := f.st 16 (cB h_8)
    refine Y f 16 fun _ f => eT (wp_ret (E_ret1 f rfl (by kernel_rfl : Vc.look _ 2 = some (.bool true)) ?_))
    obtain rfl := sI hF_8
    exact ⟨_, rfl, M_1, hM_1, p_4, rfl⟩
   ·have f := f.st 16 (cB h_8)
    refine Y f 1 fun _ f => Y14 f p_4 hc_2 3 rfl fun _ f => ?_
    obtain ⟨x_4, hx_4, hF_10⟩ := bS hF_9
    refine Y17 f p_4 (ref14_Great_ok n _ A_4 cap_4 d0.fOuts (h_4.mono hM_1) x_4 hx_4) fun w_5 p_5 _ f => Y f 2 fun _ f => ?_
    rcases cE hF_10 with ⟨h_9, hF_11⟩ | ⟨h_9, hF_12⟩
    ·have f := f.st 21 (cB h_9)
     refine Y f 11 fun _ f => eT (wp_ret (E_ret1 f rfl (by kernel_rfl : Vc.look _ 2 = some (.bool true)) ?_))
     obtain rfl := sI hF_11
     exact ⟨_, rfl, M_1, hM_1, p_5, rfl⟩
    ·have f := f.st 21 (cB h_9)
     refine Y f 1 fun _ f => Y14 f p_5 hc_2 5 rfl fun _ f => ?_
     obtain ⟨x_5, hx_5, hF_13⟩ := bS hF_12
     refine Y17 f p_5 (ref14_Great_ok n _ A_5 cap_5 d0.fArgs (h_5.mono hM_1) x_5 hx_5) fun w_6 p_6 _ f => Y f 2 fun _ f => ?_
     rcases cE hF_13 with ⟨h_10, hF_14⟩ | ⟨h_10, hF_15⟩
     ·have f := f.st 26 (cB h_10)
      refine Y f 6 fun _ f => eT (wp_ret (E_ret1 f rfl (by kernel_rfl : Vc.look _ 2 = some (.bool true)) ?_))
      obtain rfl := sI hF_14
      exact ⟨_, rfl, M_1, hM_1, p_6, rfl⟩
     ·have f := f.st 26 (cB h_10)
      refine Y f 1 fun _ f => Y14 f p_6 hc_2 4 rfl fun _ f => Y f 4 fun _ f => eT (wp_ret (E_ret1 f rfl (by kernel_rfl : Vc.look _ 2 = some (.bool (decide ((5000 : Int) < (d0.fText.length : Int))))) ?_))
      obtain rfl := sI hF_15
      exact ⟨_, rfl, M_1, hM_1, p_6, rfl⟩
def law22_Great_s1 (n : Nat) (d0 : TK0) (s_1 : Int) : Option (Lp Int (Sum Unit Unit)) :=
    bif (decide (s_1 < ((d0.fChanges.length : Nat) : Int))) then
      ((getI d0.fChanges s_1).bind fun x_3 =>
      bif (decide ((60 : Int) < ((x_3.fLeans.length : Nat) : Int))) then
        (some (.br (.inl ())))
      else
        (ref14_Great n x_3.fProps).bind fun x_4 =>
        bif x_4 then
          (some (.br (.inl ())))
        else
          need (inR .i64 ((x_3.fId.length : Int) + (x_3.fType.length : Int))) <|
          bif (decide ((2000 : Int) < ((x_3.fId.length : Int) + (x_3.fType.length : Int)))) then
            (some (.br (.inl ())))
          else
            need (inR .i64 (s_1 + 1)) <|
            some (.nx (s_1 + 1)))
    else
      some (.br (.inr ()))
def law22_Great_s2 (n : Nat) (d0 : TK0) (s_2 : Int) : Option (Lp Int (Sum Unit Unit)) :=
    bif (decide (s_2 < ((d0.fTasks.length : Nat) : Int))) then
      ((getI d0.fTasks s_2).bind fun x_5 =>
      (ref14_Great n x_5.fCall.fProps).bind fun x_6 =>
      bif x_6 then
        (some (.br (.inl ())))
      else
        (getI d0.fTasks s_2).bind fun x_7 =>
        (getI d0.fTasks s_2).bind fun x_8 =>
        need (inR .i64 ((x_7.fPhys.length : Int) + (x_8.fCall.fPhys.length : Int))) <|
        (getI d0.fTasks s_2).bind fun x_9 =>
        need (inR .i64 (((x_7.fPhys.length : Int) + (x_8.fCall.fPhys.length : Int)) + (x_9.fCall.fType.length : Int))) <|
        bif (decide ((2000 : Int) < (((x_7.fPhys.length : Int) + (x_8.fCall.fPhys.length : Int)) + (x_9.fCall.fType.length : Int)))) then
          (some (.br (.inl ())))
        else
          need (inR .i64 (s_2 + 1)) <|
          some (.nx (s_2 + 1)))
    else
      some (.br (.inr ()))
def law22_Great (n : Nat) (d0 : TK0) : Option Bool :=
  (((ref22_Great n (⟨d0.fOld.fOwned, d0.fOld.fPending, d0.fOld.fRetained, d0.fOld.fOuts, d0.fOld.fText, d0.fOld.fArgs, d0.fOld.fCalls, d0.fOld.fStatus⟩ : TF0)).bind fun x_1 =>
    bif x_1 then
      (some ((true)))
    else
      bif (decide ((60 : Int) < ((d0.fChanges.length : Nat) : Int))) then
        (some ((true)))
      else
        bif (decide ((200 : Int) < ((d0.fTasks.length : Nat) : Int))) then
          (some ((true)))
        else
          (ref14_Great n d0.fArgs).bind fun x_2 =>
          bif x_2 then
            (some ((true)))
          else
            bif (decide ((5000 : Int) < (d0.fText.length : Int))) then
              (some ((true)))
            else
              need (inR .i64 (((d0.fNew.fNodes.length : Nat) : Int) + ((d0.fNew.fScopes.length : Nat) : Int))) <|
              some ((decide ((60 : Int) < (((d0.fNew.fNodes.length : Nat) : Int) + ((d0.fNew.fScopes.length : Nat) : Int))))) : Option Bool)).bind fun y_1 =>
  bif y_1 then
    (some ((true)))
  else
    (loopF (law22_Great_s1 n d0) n (0 : Int)).bind fun b_2 =>
    (match b_2 with 
    | .inl y_2 => some ((true)) 
    | .inr y_3 => (loopF (law22_Great_s2 n d0) n (0 : Int)).bind fun b_4 =>
      (match b_4 with 
      | .inl y_4 => some ((true)) 
      | .inr y_5 => some ((false))))
set_option maxRecDepth 20000 in
theorem law22_Great_ok (n : Nat) (M : Mem) (c0 : List Value) (d0 : TK0) (h0 : Rep M (emb_TK0 d0) c0) (r : Bool) (hF : law22_Great n d0 = some r) : Ok Tryz.prog M 7 [.agg c0.toArray] (fun _ v => v = .bool r) := by
 unfold law22_Great at hF
 intro M1 hM0 w0 H w p0
 replace h0 := Rep.mono hM0 _ _ h0
 obtain ⟨A_1, cap_1, A_2, cap_2, A_3, cap_3, A_4, cap_4, A_5, cap_5, A_6, cap_6, A_7, cap_7, A_8, cap_8, A_9, cap_9, A_10, cap_10, rfl, h_1, h_2, h_3, h_4, h_5, h_6, h_7, h_8, h_9, h_10⟩ := TK0.opn h0
 refine R_enter 118 Tryz.func7 rfl rfl (by simp) fun a0 f0 => RR (Y12 (cs := #[.int .i8 d0.fKind, .int .i64 d0.fWidth, .slice A_1 d0.fOld.fOwned.length cap_1, .slice A_2 d0.fOld.fPending.length cap_2, .slice A_3 d0.fOld.fRetained.length cap_3, .slice A_4 d0.fOld.fOuts.length cap_4, S d0.fOld.fText, .slice A_5 d0.fOld.fArgs.length cap_5, .int .i64 d0.fOld.fCalls, .int .i8 d0.fOld.fStatus, .slice A_6 d0.fNew.fScopes.length cap_6, .slice A_7 d0.fNew.fNodes.length cap_7, S d0.fText, .slice A_8 d0.fArgs.length cap_8, .slice A_9 d0.fChanges.length cap_9, .slice A_10 d0.fTasks.length cap_10, .int .i8 d0.fPhase, .int .i8 d0.fStatus]) (T := 34) f0 p0 fun b_1 M_1 w_1 hM_1 hc_1 p_1 _ f => ?_)
 have hc_2 := fz_box hc_1
 refine Y f 1 fun _ f => eT (R_seq (R_seq ?_))
 obtain ⟨j_1, hj_1, hF_1⟩ := bS hF
 refine R_mid (fun a_32 w_4 => ∃ y_1 : Bool, j_1 = y_1 ∧ ∃ M_2 : Mem, M_1.le M_2 ∧ Frm 118 [(1, .pointer (some (⟨b_1, 0, none⟩))), (43, .bool y_1)] a_32 ∧ Hp w0 M_2 (H) w_4) ?_ ?_
 ·refine R_reg (Y f 1 fun _ f => Z (v := .agg #[.slice A_1 d0.fOld.fOwned.length cap_1, .slice A_2 d0.fOld.fPending.length cap_2, .slice A_3 d0.fOld.fRetained.length cap_3, .slice A_4 d0.fOld.fOuts.length cap_4, S d0.fOld.fText, .slice A_5 d0.fOld.fArgs.length cap_5, .int .i64 d0.fOld.fCalls, .int .i8 d0.fOld.fStatus]) f (Y30 (cs := [.slice A_1 d0.fOld.fOwned.length cap_1, .slice A_2 d0.fOld.fPending.length cap_2, .slice A_3 d0.fOld.fRetained.length cap_3, .slice A_4 d0.fOld.fOuts.length cap_4, S d0.fOld.fText, .slice A_5 d0.fOld.fArgs.length cap_5, .int .i64 d0.fOld.fCalls, .int .i8 d0.fOld.fStatus]) rfl (ad := (⟨b_1, 0, none⟩ : Addr).add 2) (fz_part (base := (⟨b_1, 0, none⟩ : Addr)) (fun j v h => p_1.cell (hc_2 j v h)) 2 rfl)) fun _ f => ?_)
  obtain ⟨x_1, hx_1, hF_2⟩ := bS hj_1
  refine Y17 f p_1 (ref22_Great_ok n _ _ (⟨d0.fOld.fOwned, d0.fOld.fPending, d0.fOld.fRetained, d0.fOld.fOuts, d0.fOld.fText, d0.fOld.fArgs, d0.fOld.fCalls, d0.fOld.fStatus⟩ : TF0) (TF0.shut (h_1.mono hM_1) (h_2.mono hM_1) (h_3.mono hM_1) (h_4.mono hM_1) (h_5.mono hM_1)) x_1 hx_1) fun w_2 p_2 _ f => Y f 1 fun _ f => ?_
  rcases cE hF_2 with ⟨h_11, hF_3⟩ | ⟨h_11, hF_4⟩
  ·have f := f.st 9 (cB h_11)
   refine Y f 34 fun _ f => eT ?_
   exact ⟨(true), (sI hF_3).symm, M_1, (mR _), f.kp, p_2⟩
  ·have f := f.st 9 (cB h_11)
   refine Y f 1 fun _ f => Y14 f p_2 hc_2 14 rfl fun _ f => Y f 4 fun _ f => ?_
   rcases cE hF_4 with ⟨h_12, hF_5⟩ | ⟨h_12, hF_6⟩
   ·have k_3 := dI.1 h_12
    have f := f.st 15 (cB h_12)
    refine Y f 28 fun _ f => eT ?_
    exact ⟨(true), (sI hF_5).symm, M_1, (mR _), f.kp, p_2⟩
   ·have k_4 := iff_f dI h_12
    have f := f.st 15 (cB h_12)
    refine Y f 1 fun _ f => Y14 f p_2 hc_2 15 rfl fun _ f => Y f 4 fun _ f => ?_
    rcases cE hF_6 with ⟨h_13, hF_7⟩ | ⟨h_13, hF_8⟩
    ·have k_5 := dI.1 h_13
     have f := f.st 21 (cB h_13)
     refine Y f 22 fun _ f => eT ?_
     exact ⟨(true), (sI hF_7).symm, M_1, (mR _), f.kp, p_2⟩
    ·have k_6 := iff_f dI h_13
     have f := f.st 21 (cB h_13)
     refine Y f 1 fun _ f => Y14 f p_2 hc_2 13 rfl fun _ f => ?_
     obtain ⟨x_2, hx_2, hF_9⟩ := bS hF_8
     refine Y17 f p_2 (ref14_Great_ok n _ A_8 cap_8 d0.fArgs (h_8.mono hM_1) x_2 hx_2) fun w_3 p_3 _ f => Y f 2 fun _ f => ?_
     rcases cE hF_9 with ⟨h_14, hF_10⟩ | ⟨h_14, hF_11⟩
     ·have f := f.st 26 (cB h_14)
      refine Y f 17 fun _ f => eT ?_
      exact ⟨(true), (sI hF_10).symm, M_1, (mR _), f.kp, p_3⟩
     ·have f := f.st 26 (cB h_14)
      refine Y f 1 fun _ f => Y14 f p_3 hc_2 12 rfl fun _ f => Y f 4 fun _ f => ?_
      rcases cE hF_11 with ⟨h_15, hF_12⟩ | ⟨h_15, hF_13⟩
      ·have k_9 := dI.1 h_15
       have f := f.st 32 (cB h_15)
       refine Y f 11 fun _ f => eT ?_
       exact ⟨(true), (sI hF_12).symm, M_1, (mR _), f.kp, p_3⟩
      ·have k_10 := iff_f dI h_15
       have f := f.st 32 (cB h_15)
       refine Y f 2 fun _ f => Y14 f p_3 hc_2 11 rfl fun _ f => Y f 3 fun _ f => Y14 f p_3 hc_2 10 rfl fun _ f => Y f 1 fun _ f => ?_
       obtain ⟨g_1, hF_14⟩ := nS hF_13
       refine Y f 1 fun _ f => ?_
       have f := f.st 41 (congrArg (Value.int .i64) (inR_wrap g_1))
       refine Y f 2 fun _ f => eT ?_
       exact ⟨(decide ((60 : Int) < (((d0.fNew.fNodes.length : Nat) : Int) + ((d0.fNew.fScopes.length : Nat) : Int)))), (sI hF_14).symm, M_1, (mR _), f.kp, p_3⟩
 ·rintro a_32 w_4 ⟨y_1, hq_1, M_2, hM_2, f, p_4⟩
  subst j_1
  refine T_n (RcF f hF_1 (fun h_16 hF_15 => ?_) fun h_16 hF_16 => ?_)
  ·refine RR (Y f 1 fun _ f => eT (wp_ret (T_r (E_ret1 f rfl (by kernel_rfl : Vc.look _ 2 = some (.bool true)) ?_))))
   obtain rfl := sI hF_15
   exact ⟨_, rfl, M_2, (hM_1.trans hM_2), p_4, rfl⟩
  ·refine wp_skip (T_n (R_seq (RR (Y f 1 fun _ f => eT (wp_block ?_)))))
   obtain ⟨b_2, hL_1, hF_17⟩ := bS hF_16
   refine wp_mono (Q := fun e a w => (e = .ret ∧ (∃ y_2 : Unit, b_2 = .inl y_2 ∧ ∃ M_4 : Mem, M_2.le M_4 ∧ Frm 118 [(2, .bool true)] a ∧ Hp w0 M_4 (H) w)) ∨ (e = .exit 0 ∧ (∃ y_3 : Unit, b_2 = .inr y_3 ∧ ∃ M_5 : Mem, M_2.le M_5 ∧ Frm 118 [(1, .pointer (some (⟨b_1, 0, none⟩)))] a ∧ Hp w0 M_5 (H) w))) (R_loop (n := 118) (w0 := w0) (M := M_2) (fun (x : Nat × Int) => match x with | (m_1, s_1) => [(1, .pointer (some (⟨b_1, 0, none⟩))), (3, .int .i64 s_1)]) (fun (x : Nat × Int) => match x with | (m_1, s_1) => (H)) (fun (x : Nat × Int) (MM : Mem) => match x with | (m_1, s_1) => loopF (law22_Great_s1 n d0) m_1 s_1 = some b_2) (fun (x : Nat × Int) => match x with | (m_1, s_1) => m_1) (n, (0 : Int)) (f.kp) p_4 hL_1 ?_) ?_
   ·rintro ⟨m_1, s_1⟩ M_3 _ w_5 hM_3 I_1 f p_5
    have I_1L := I_1
    obtain ⟨m_2, r_1, rfl, hs_1, hn_1⟩ := loop_step I_1L
    unfold law22_Great_s1 at hs_1
    refine R_seq (RR (Y f 2 fun _ f => Y14 f p_5 (fzu (hM_2.trans hM_3) hc_2) 14 rfl fun _ f => Y f 2 fun _ f => eT (RcF f hs_1 (fun h_17 hF_18 => ?_) fun h_17 hF_29 => ?_)))
    ·have k_13 := dI.1 h_17
     refine wp_skip (T_n (R_seq (wp_block (RR (Y f 1 fun _ f => Y14 f p_5 (fzu (hM_2.trans hM_3) hc_2) 14 rfl fun _ f => Y f 1 fun _ f => ?_)))))
     obtain ⟨x_3, hx_3, hF_19⟩ := bS hF_18
     obtain ⟨ad_1, c_1, e_1, -, hr_1, hc_3⟩ := Sli.at_ (h_9.mono ((hM_1.trans hM_2).trans hM_3)) hx_3
     obtain ⟨A_11, cap_11, A_12, cap_12, rfl, h_18, h_19⟩ := TC0.opn hr_1
     refine Z f (Y28 e_1 rfl (len := d0.fChanges.length) (cap := cap_9) (k := .i64) (i := s_1) (e := 72) (sz := 8) (getI_nn hx_3) (getI_lt hx_3)) fun _ f => Z (v := .agg #[S x_3.fId, .int .i8 x_3.fKind, S x_3.fType, .slice A_11 x_3.fProps.length cap_11, .bool x_3.fRetain, .int .i64 x_3.fNode, .bool x_3.fOld, .slice A_12 x_3.fLeans.length cap_12]) f (Y30 (cs := [S x_3.fId, .int .i8 x_3.fKind, S x_3.fType, .slice A_11 x_3.fProps.length cap_11, .bool x_3.fRetain, .int .i64 x_3.fNode, .bool x_3.fOld, .slice A_12 x_3.fLeans.length cap_12]) rfl (ad := ad_1.add (s_1.toNat * 8)) (fun j v h => p_5.cell (hc_3 j v h))) fun _ f => Y11 f p_5 (.cells #[S [], .int .i8 0, S [], .slice none 0 0, .bool false, .int .i64 0, .bool false, .slice none 0 0] 72 (0, 0)) fun b_3 w_6 p_6 _ f => Y26 (vs := [S x_3.fId, .int .i8 x_3.fKind, S x_3.fType, .slice A_11 x_3.fProps.length cap_11, .bool x_3.fRetain, .int .i64 x_3.fNode, .bool x_3.fOld, .slice A_12 x_3.fLeans.length cap_12]) (j := 0) f p_6 rfl rfl (by simp [Value.oneCell', S]) (by simp) (by decide) (cs' := #[S x_3.fId, .int .i8 x_3.fKind, S x_3.fType, .slice A_11 x_3.fProps.length cap_11, .bool x_3.fRetain, .int .i64 x_3.fNode, .bool x_3.fOld, .slice A_12 x_3.fLeans.length cap_12]) fun w_7 p_7 _ f => eT (RR (Y f 1 fun _ f => Z f (Y29 (v := .slice A_12 x_3.fLeans.length cap_12) rfl (ad := ⟨b_3, 7, none⟩) (p_7.ownCell 0 rfl 7)) fun _ f => Y f 3 fun _ f => ?_))
     rcases cE hF_19 with ⟨h_20, hF_20⟩ | ⟨h_20, hF_21⟩
     ·have k_14 := dI.1 h_20
      have f := f.st 60 (cB h_20)
      refine Y f 14 fun _ f => eT (Y8 f (RR (Y f 1 fun _ f => eT (wp_ret (B_r (T_r (T_r ?_)))))))
      obtain rfl := sI hF_20
      exact .inl ⟨rfl, (), (sI hn_1).symm, M_3, hM_3, f.kp, (p_7.dropN 1)⟩
     ·have k_15 := iff_f dI h_20
      have f := f.st 60 (cB h_20)
      refine Y f 1 fun _ f => Z f (Y29 (v := .slice A_11 x_3.fProps.length cap_11) rfl (ad := ⟨b_3, 3, none⟩) (p_7.ownCell 0 rfl 3)) fun _ f => ?_
      obtain ⟨x_4, hx_4, hF_22⟩ := bS hF_21
      refine Y17 f p_7 (ref14_Great_ok n _ A_11 cap_11 x_3.fProps h_18 x_4 hx_4) fun w_8 p_8 _ f => Y f 2 fun _ f => ?_
      rcases cE hF_22 with ⟨h_21, hF_23⟩ | ⟨h_21, hF_24⟩
      ·have f := f.st 65 (cB h_21)
       refine Y f 9 fun _ f => eT (Y8 f (RR (Y f 1 fun _ f => eT (wp_ret (B_r (T_r (T_r ?_)))))))
       obtain rfl := sI hF_23
       exact .inl ⟨rfl, (), (sI hn_1).symm, M_3, hM_3, f.kp, (p_8.dropN 1)⟩
      ·have f := f.st 65 (cB h_21)
       refine Y f 1 fun _ f => Z f (Y29 (v := S x_3.fId) rfl (ad := ⟨b_3, 0, none⟩) (p_8.ownCell 0 rfl 0)) fun _ f => Y f 2 fun _ f => Z f (Y29 (v := S x_3.fType) rfl (ad := ⟨b_3, 2, none⟩) (p_8.ownCell 0 rfl 2)) fun _ f => Y f 1 fun _ f => ?_
       obtain ⟨g_2, hF_25⟩ := nS hF_24
       refine Y f 1 fun _ f => ?_
       have f := f.st 72 (congrArg (Value.int .i64) (inR_wrap g_2))
       refine Y f 2 fun _ f => eT (RcF f hF_25 (fun h_22 hF_26 => ?_) fun h_22 hF_27 => ?_)
       ·have k_18 := dI.1 h_22
        refine RR (Y f 1 fun _ f => eT (wp_ret (B_r (T_r (T_r ?_)))))
        obtain rfl := sI hF_26
        exact .inl ⟨rfl, (), (sI hn_1).symm, M_3, hM_3, f.kp, (p_8.dropN 1)⟩
       ·have k_19 := iff_f dI h_22
        refine wp_skip (B_n (T_n (R_reg (Y f 1 fun _ f => ?_))))
        obtain ⟨g_3, hF_28⟩ := nS hF_27
        refine Y f 1 fun _ f => ?_
        have f := f.st 50 (congrArg (Value.int .i64) (inR_wrap g_3))
        refine Y f 1 fun _ f => eT ?_
        obtain rfl := sI hF_28
        exact ⟨⟨m_2, s_1 + 1⟩, Nat.lt_succ_self _, M_3, hM_3, hn_1, f.kp, (p_8.dropN 1)⟩
    ·have k_20 := iff_f dI h_17
     refine wp_exit (T_x (T_x ?_))
     obtain rfl := sI hF_29
     exact .inr ⟨rfl, (), (sI hn_1).symm, M_3, hM_3, f.kp, p_5⟩
   ·rintro _ _ w_11 (⟨rfl, y_2, rfl, M_4, hM_4, f, p_9⟩ | ⟨rfl, y_3, rfl, M_5, hM_5, f, p_10⟩)
    ·refine B_r (T_r (E_ret1 f rfl (by kernel_rfl : Vc.look _ 2 = some (.bool true)) ?_))
     obtain rfl := sI hF_17
     exact ⟨_, rfl, M_4, ((hM_1.trans hM_2).trans hM_4), p_9, rfl⟩
    ·refine B_x (T_n (R_seq (RR (Y f 1 fun _ f => eT (wp_block ?_)))))
     obtain ⟨b_4, hL_2, hF_30⟩ := bS hF_17
     refine wp_mono (Q := fun e a w => (e = .ret ∧ (∃ y_4 : Unit, b_4 = .inl y_4 ∧ ∃ M_7 : Mem, M_5.le M_7 ∧ Frm 118 [(2, .bool true)] a ∧ Hp w0 M_7 (H) w)) ∨ (e = .exit 2 ∧ (∃ y_5 : Unit, b_4 = .inr y_5 ∧ ∃ M_8 : Mem, M_5.le M_8 ∧ Frm 118 [] a ∧ Hp w0 M_8 (H) w))) (R_loop (n := 118) (w0 := w0) (M := M_5) (fun (x : Nat × Int) => match x with | (m_3, s_2) => [(1, .pointer (some (⟨b_1, 0, none⟩))), (5, .int .i64 s_2)]) (fun (x : Nat × Int) => match x with | (m_3, s_2) => (H)) (fun (x : Nat × Int) (MM : Mem) => match x with | (m_3, s_2) => loopF (law22_Great_s2 n d0) m_3 s_2 = some b_4) (fun (x : Nat × Int) => match x with | (m_3, s_2) => m_3) (n, (0 : Int)) (f.kp) p_10 hL_2 ?_) ?_
     ·rintro ⟨m_3, s_2⟩ M_6 _ w_12 hM_6 I_2 f p_11
      have I_2L := I_2
      obtain ⟨m_4, r_2, rfl, hs_2, hn_2⟩ := loop_step I_2L
      unfold law22_Great_s2 at hs_2
      refine R_seq (RR (Y f 2 fun _ f => Y14 f p_11 (fzu ((hM_2.trans hM_5).trans hM_6) hc_2) 15 rfl fun _ f => Y f 2 fun _ f => eT (RcF f hs_2 (fun h_23 hF_31 => ?_) fun h_23 hF_44 => ?_)))
      ·have k_21 := dI.1 h_23
       refine wp_skip (T_n (R_seq (wp_block (R_seq (R_draw p_11 (by kernel_rfl) (by kernel_rfl) (Y5 default f 1 fun _ f => Y4 f (fzu ((hM_2.trans hM_5).trans hM_6) hc_2) 15 rfl fun _ f => Y5 default f 1 fun _ f => ?_))))))
       obtain ⟨x_5, hx_5, hF_32⟩ := bS hF_31
       obtain ⟨ad_2, c_2, e_2, -, hr_2, hc_4⟩ := Sli.at_ (h_10.mono (((hM_1.trans hM_2).trans hM_5).trans hM_6)) hx_5
       obtain ⟨A_13, cap_13, rfl, h_24⟩ := TR0.opn hr_2
       refine Y2 (v := .pointer (some (ad_2.add (s_2.toNat * 9)))) f (fun _ pq => Y28 e_2 rfl (len := d0.fTasks.length) (cap := cap_10) (k := .i64) (i := s_2) (e := 44) (sz := 9) (getI_nn hx_5) (getI_lt hx_5)) fun _ f => Y5 default f 2 fun _ f => Y4 f hc_4 6 rfl fun _ f => ?_
       obtain ⟨x_6, hx_6, hF_33⟩ := bS hF_32
       refine Y3 f (ref14_Great_ok n _ A_13 cap_13 x_5.fCall.fProps h_24 x_6 hx_6) fun _ f => Y5 default f 1 fun _ f => ?_
       rcases cE hF_33 with ⟨h_25, hF_34⟩ | ⟨h_25, hF_35⟩
       ·have f := f.st 90 (cB h_25)
        refine Y5 default f 27 fun _ f => Q_end rfl ?_
        intro w_14 p_13
        refine T_n (Y8 f (RR (Y f 1 fun _ f => eT (wp_ret (B_r (T_r (T_r ?_)))))))
        obtain rfl := sI hF_34
        exact .inl ⟨rfl, (), (sI hn_2).symm, M_6, hM_6, f.kp, p_13⟩
       ·have f := f.st 90 (cB h_25)
        refine Y5 default f 1 fun _ f => Y4 f (fzu ((hM_2.trans hM_5).trans hM_6) hc_2) 15 rfl fun _ f => Y5 default f 1 fun _ f => ?_
        obtain ⟨x_7, hx_7, hF_36⟩ := bS hF_35
        obtain ⟨ad_3, c_3, e_3, -, hr_3, hc_5⟩ := Sli.at_ (h_10.mono (((hM_1.trans hM_2).trans hM_5).trans hM_6)) hx_7
        obtain ⟨A_14, cap_14, rfl, h_26⟩ := TR0.opn hr_3
        refine Y2 (v := .pointer (some (ad_3.add (s_2.toNat * 9)))) f (fun _ pq => Y28 e_3 rfl (len := d0.fTasks.length) (cap := cap_10) (k := .i64) (i := s_2) (e := 44) (sz := 9) (getI_nn hx_7) (getI_lt hx_7)) fun _ f => Y5 default f 1 fun _ f => Y4 f hc_5 8 rfl fun _ f => Y5 default f 2 fun _ f => Y4 f (fzu ((hM_2.trans hM_5).trans hM_6) hc_2) 15 rfl fun _ f => Y5 default f 1 fun _ f => ?_
        obtain ⟨x_8, hx_8, hF_37⟩ := bS hF_36
        obtain ⟨ad_4, c_4, e_4, -, hr_4, hc_6⟩ := Sli.at_ (h_10.mono (((hM_1.trans hM_2).trans hM_5).trans hM_6)) hx_8
        obtain ⟨A_15, cap_15, rfl, h_27⟩ := TR0.opn hr_4
        refine Y2 (v := .pointer (some (ad_4.add (s_2.toNat * 9)))) f (fun _ pq => Y28 e_4 rfl (len := d0.fTasks.length) (cap := cap_10) (k := .i64) (i := s_2) (e := 44) (sz := 9) (getI_nn hx_8) (getI_lt hx_8)) fun _ f => Y5 default f 2 fun _ f => Y4 f hc_6 4 rfl fun _ f => Y5 default f 1 fun _ f => ?_
        obtain ⟨g_4, hF_38⟩ := nS hF_37
        refine Y2 (v := .int .i64 (IntKind.wrap .i64 ((x_7.fPhys.length : Int) + (x_8.fCall.fPhys.length : Int)))) f (fun _ pq => by kernel_rfl) fun _ f => ?_
        have f := f.st 106 (congrArg (Value.int .i64) (inR_wrap g_4))
        refine Y5 default f 1 fun _ f => Y4 f (fzu ((hM_2.trans hM_5).trans hM_6) hc_2) 15 rfl fun _ f => Y5 default f 1 fun _ f => ?_
        obtain ⟨x_9, hx_9, hF_39⟩ := bS hF_38
        obtain ⟨ad_5, c_5, e_5, -, hr_5, hc_7⟩ := Sli.at_ (h_10.mono (((hM_1.trans hM_2).trans hM_5).trans hM_6)) hx_9
        obtain ⟨A_16, cap_16, rfl, h_28⟩ := TR0.opn hr_5
        refine Y2 (v := .pointer (some (ad_5.add (s_2.toNat * 9)))) f (fun _ pq => Y28 e_5 rfl (len := d0.fTasks.length) (cap := cap_10) (k := .i64) (i := s_2) (e := 44) (sz := 9) (getI_nn hx_9) (getI_lt hx_9)) fun _ f => Y5 default f 2 fun _ f => Y4 f hc_7 5 rfl fun _ f => Y5 default f 1 fun _ f => ?_
        obtain ⟨g_5, hF_40⟩ := nS hF_39
        refine Y2 (v := .int .i64 (IntKind.wrap .i64 (((x_7.fPhys.length : Int) + (x_8.fCall.fPhys.length : Int)) + (x_9.fCall.fType.length : Int)))) f (fun _ pq => by kernel_rfl) fun _ f => ?_
        have f := f.st 115 (congrArg (Value.int .i64) (inR_wrap g_5))
        refine Y5 default f 2 fun _ f => Q_end rfl ?_
        intro w_15 p_14
        refine T_n (RcF f hF_40 (fun h_29 hF_41 => ?_) fun h_29 hF_42 => ?_)
        ·have k_24 := dI.1 h_29
         refine RR (Y f 1 fun _ f => eT (wp_ret (B_r (T_r (T_r ?_)))))
         obtain rfl := sI hF_41
         exact .inl ⟨rfl, (), (sI hn_2).symm, M_6, hM_6, f.kp, p_14⟩
        ·have k_25 := iff_f dI h_29
         refine wp_skip (B_n (T_n (R_reg (Y f 1 fun _ f => ?_))))
         obtain ⟨g_6, hF_43⟩ := nS hF_42
         refine Y f 1 fun _ f => ?_
         have f := f.st 81 (congrArg (Value.int .i64) (inR_wrap g_6))
         refine Y f 1 fun _ f => eT ?_
         obtain rfl := sI hF_43
         exact ⟨⟨m_4, s_2 + 1⟩, Nat.lt_succ_self _, M_6, hM_6, hn_2, f.kp, p_14⟩
      ·have k_26 := iff_f dI h_23
       refine wp_exit (T_x (T_x ?_))
       obtain rfl := sI hF_44
       exact .inr ⟨rfl, (), (sI hn_2).symm, M_6, hM_6, f.kp, p_11⟩
     ·rintro _ _ w_18 (⟨rfl, y_4, rfl, M_7, hM_7, f, p_15⟩ | ⟨rfl, y_5, rfl, M_8, hM_8, f, p_16⟩)
      ·refine B_r (T_r (E_ret1 f rfl (by kernel_rfl : Vc.look _ 2 = some (.bool true)) ?_))
       obtain rfl := sI hF_30
       exact ⟨_, rfl, M_7, (((hM_1.trans hM_2).trans hM_5).trans hM_7), p_15, rfl⟩
      ·refine B_x (T_n (RR (Y f 1 fun _ f => eT (wp_ret (E_ret1 f rfl (by kernel_rfl : Vc.look _ 2 = some (.bool false)) ?_)))))
       obtain rfl := sI hF_30
       exact ⟨_, rfl, M_8, (((hM_1.trans hM_2).trans hM_5).trans hM_8), p_16, rfl⟩
end Go.Proofs.YtfdmlionhbeebaaGreat
end

section
namespace Go.Vc
open Go
mutual
def dsz : Dat → Nat
  | .int _ _ => 1
  | .bool _ => 1
  | .str l => l.length + 1
  | .list _ ds => dszs ds + 1
  | .struct ds => dszs ds + 1
def dszs : List Dat → Nat
  | [] => 0
  | d :: ds => dsz d + dszs ds
end
theorem dszs_app : ∀ (a b : List Dat), dszs (a ++ b) = dszs a + dszs b
 | [], b => by simp [dszs]
 | d :: a, b => by simp only [List.cons_append, dszs, dszs_app a b]; omega
theorem dszs_mem : ∀ {ds : List Dat} {d : Dat}, d ∈ ds → dsz d ≤ dszs ds
 | x :: ds, d, h => by
  rcases List.mem_cons.1 h with rfl | h
  ·simp only [dszs]; omega
  ·have := dszs_mem h; simp only [dszs]; omega
theorem dsz_pos : ∀ d : Dat, 1 ≤ dsz d
 | .int _ _ => by simp [dsz]
 | .bool _ => by simp [dsz]
 | .str l => by simp [dsz]
 | .list _ ds => by simp [dsz]
 | .struct ds => by simp [dsz]
theorem dszs_len : ∀ ds : List Dat, ds.length ≤ dszs ds
 | [] => by simp
 | d :: ds => by have := dsz_pos d; have := dszs_len ds; simp only [dszs, List.length_cons]; omega
theorem le_sum : ∀ {l : List Nat} {x : Nat}, x ∈ l → x ≤ l.sum
 | y :: l, x, h => by
  rcases List.mem_cons.1 h with rfl | h
  ·simp
  ·have := le_sum h; simp only [List.sum_cons]; omega
section
variable {H : Type}
structure BulkOk (B : DataW H → Nat) : Prop where
  one : ∀ d, 1 ≤ B d
  str : ∀ l, B (.lit (.string l)) = l.length + 1
  slice : ∀ e s, (e.map B).sum + 1 ≤ B (.slice e s)
  agg : ∀ e, (e.map B).sum + 1 ≤ B (.agg e)
variable {enc : TypeId × Value → H} {P : Program} {w : World} {t : TypeId} {α : Type} {f : α → Dat} {m : Nat} {B : DataW H → Nat}
def OpnAt (enc : TypeId × Value → H) (P : Program) (w : World) (t : TypeId) {α : Type} (f : α → Dat) (B : DataW H → Nat) (m : Nat) : Prop :=
  ∀ cs x, DataW.trod enc P w 0 (fun _ => true) true m t cs = some x → ∃ a, Rep (Mem.of w) (f a) cs ∧ Vld (f a) ∧ dsz (f a) ≤ B x.1
theorem OpnAt.zero : OpnAt enc P w t f B 0 := fun cs x h => by simp [DataW.trod] at h
theorem opa_int {k : IntKind} (hB : BulkOk B) (ht : P.underlying t = some (.int k)) : OpnAt enc P w t (Dat.int k) B m := fun cs x h => by
 obtain ⟨a, rfl, _, hw⟩ := DataW.trod_int ht h
 exact ⟨a, rfl, hw, hB.one _⟩
theorem opa_bool (hB : BulkOk B) (ht : P.underlying t = some .bool) : OpnAt enc P w t Dat.bool B m := fun cs x h => by
 obtain ⟨a, rfl, _⟩ := DataW.trod_bool ht h
 exact ⟨a, rfl, trivial, hB.one _⟩
theorem opa_str (hB : BulkOk B) (ht : P.underlying t = some .string) : OpnAt enc P w t Dat.str B m := fun cs x h => by
 obtain ⟨s, rfl, hx, hw⟩ := DataW.trod_string ht h
 refine ⟨s.data.toList, (by show [Value.string s] = _; rw [S_eta]), by show s.data.toList.length ≤ maxLen; simpa using hw, ?_⟩
 rw [hx]
 show s.data.toList.length + 1 ≤ B (.lit (.string s.data.toList))
 rw [hB.str]
 exact Nat.le_refl _
theorem opa_slice {e : TypeId} {sz : Nat} (hB : BulkOk B) (ht : P.underlying t = some (.slice e)) (hsz : P.cellsOf e = sz) (h : OpnAt enc P w e f B m) : OpnAt enc P w t (eL sz f) B (m + 1) := fun cs x hx => by
 rcases DataW.trod_slice ht hx with ⟨rfl, hx⟩ | ⟨ad, len, cap, elems, rest, n', hn', rfl, hxe, _, hlc, hcm, hel, hat, _⟩
 ·refine ⟨[], Sli.rep (Sli.nil (sz := sz) (f := f)), by simp [Vld, eL, VldAll], ?_⟩
  have := hB.one x.1
  simpa [eL, dsz, dszs] using this
 ·obtain rfl : n' = m := by omega
  have key : ∀ k, k ≤ len → ∃ xs : List α, xs.length = k ∧ RepArr (Mem.of w) sz (xs.map f) ad ∧ (∀ x ∈ xs, Vld (f x)) ∧ dszs (xs.map f) ≤ ((elems.take k).map fun x => B x.1).sum := by
   intro k
   induction k with
   | zero => intro _; exact ⟨[], rfl, trivial, fun x hx => (by cases hx), by simp [dszs]⟩
   | succ k ih =>
    intro hk
    obtain ⟨xs, h1, h2, h3, h3b⟩ := ih (by omega)
    have hk' : k < elems.length := by omega
    have := hat k (by omega)
    rw [List.getElem?_eq_getElem hk'] at this
    obtain ⟨cs', g1, g2⟩ := Option.bind_eq_some_iff.1 this
    obtain ⟨a, g3, g4, g4b⟩ := h cs' _ g2
    obtain ⟨g5, g6⟩ := cells_of g1
    rw [hsz] at g5 g6
    refine ⟨xs ++ [a], by simp [h1], ?_, fun x hx => ?_, ?_⟩
    ·rw [List.map_append]
     have app : ∀ (ds : List Dat) (ad : Addr), RepArr (Mem.of w) sz ds ad → RepArr (Mem.of w) sz [f a] (ad.add (ds.length * sz)) → RepArr (Mem.of w) sz (ds ++ [f a]) ad := by
      intro ds
      induction ds with
      | nil => intro ad _ hh; simpa [Addr.add] using hh
      | cons d ds ih =>
       intro ad h1 h2
       refine ⟨h1.1, ih _ h1.2 ?_⟩
       rw [add_of_add]
       rw [List.length_cons, show (ds.length + 1) * sz = sz + ds.length * sz by rw [Nat.add_mul]; omega] at h2
       exact h2
     refine app _ _ h2 ⟨⟨cs', g5, g3, ?_⟩, trivial⟩
     rw [List.length_map, h1]
     exact g6
    ·rcases List.mem_append.1 hx with hx | hx
     ·exact h3 x hx
     ·simp at hx; subst hx; exact g4
    ·rw [List.map_append, dszs_app, List.take_add_one, List.getElem?_eq_getElem hk', List.map_append, List.sum_append]
     simp only [List.map_cons, List.map_nil, dszs, Option.toList_some, List.sum_cons, List.sum_nil]
     omega
  obtain ⟨xs, h1, h2, h3, h3b⟩ := key len (Nat.le_refl _)
  subst h1
  refine ⟨xs, Sli.rep ⟨hlc, fun e => (by cases e), .inr ⟨ad, rfl, h2⟩⟩, ?_, ?_⟩
  ·refine ⟨by rw [List.length_map]; omega, VldAll.mk fun d hd => ?_⟩
   obtain ⟨x, hx, rfl⟩ := List.mem_map.1 hd
   exact h3 x hx
  ·rw [hxe]
   show dszs (xs.map f) + 1 ≤ _
   have := hB.slice (elems.map (·.1)) (rest.map (·.1))
   rw [← hel, List.take_length] at h3b
   rw [List.map_map] at this
   have e : (elems.map (B ∘ fun x => x.1)) = elems.map fun x => B x.1 := rfl
   rw [e] at this
   show _ ≤ B (.slice (elems.map (·.1)) (rest.map (·.1)))
   omega
theorem opa_slice0 {e : TypeId} {sz : Nat} (hB : BulkOk B) (ht : P.underlying t = some (.slice e)) (hsz : P.cellsOf e = sz) (h : ∀ k, k < m → OpnAt enc P w e f B k) : OpnAt enc P w t (eL sz f) B m := by
 cases m with
 | zero => exact OpnAt.zero
 | succ m => exact opa_slice hB ht hsz (h m (Nat.lt_succ_self m))
theorem OpnAt.arg (h : ∀ n, OpnAt enc P w t f B n) {v : Value} {d : DataW H} {ps : List MemPlace} (ht : DataW.Trod enc P w 0 (fun _ => true) true t v d ps) : ∃ a, Rep (Mem.of w) (f a) v.cells.toList ∧ Vld (f a) ∧ dsz (f a) ≤ B d := by
 obtain ⟨fuel, hf⟩ := ht
 exact h fuel _ _ hf
theorem OpnAt.struct_arg (h : ∀ n, OpnAt enc P w t f B n) {v : Value} {d : DataW H} {ps : List MemPlace} (hv : ∃ cs : Array Value, v = .agg cs) (ht : DataW.Trod enc P w 0 (fun _ => true) true t v d ps) :
  ∃ (c : List Value) (a : α), v = .agg c.toArray ∧ Rep (Mem.of w) (f a) c ∧ Vld (f a) ∧ dsz (f a) ≤ B d := by
 obtain ⟨cs, rfl⟩ := hv
 obtain ⟨a, h1, h2⟩ := OpnAt.arg h ht
 exact ⟨cs.toList, a, by simp, h1, h2⟩
end
end Go.Vc
end

section
namespace Go.Proofs.YtfdmlionhbeebaaGreat
open Go Go.Vc Go.RowKit
theorem getI_here {α : Type} {xs : List α} {k : Nat} (h : k < xs.length) : getI xs (k : Int) = some xs[k] := by simp [getI, h]
theorem eta_V (v : TJ0) : (⟨v.fKind, v.fBool, v.fNum, v.fText, v.fList, v.fKeys⟩ : TJ0) = v := by cases v; rfl
theorem g03 {n : Nat} (hn : 3000 < n) (v : TJ0) : ∃ g, ref03_Great n v = some g := by
 obtain ⟨W, w1, -⟩ := weight_ok hn n 30 v (by omega) (by omega)
 refine ⟨decide ((5000 : Int) < W), ?_⟩
 unfold ref03_Great ref03_weight
 have e : ((30 : Nat) : Int) = 30 := rfl
 rw [e] at w1
 rw [w1, bnd]
theorem g09 {n : Nat} (hn : 3000 < n) (gs : List TE0) : ∃ g, ref09_Great n gs = some g := by
 unfold ref09_Great
 by_cases h6 : (60 : Int) < ((gs.length : Nat) : Int)
 ·rw [decide_eq_true h6, cT]; exact ⟨_, rfl⟩
 ·rw [decide_eq_false h6, cF]
  obtain ⟨b, hb, -⟩ := loop_inv (step := ref09_Great_s1 n gs) (n := n) (s0 := (0 : Int)) (fun k s => s = (k : Int)) (fun _ => True) gs.length rfl
   (fun k s hk hI => by
    subst hI
    unfold ref09_Great_s1
    obtain ⟨g, hg⟩ := g03 hn gs[k].fV
    rw [decide_eq_true (by omega), cT, getI_here hk, bnd]
    by_cases h2 : (200 : Int) < (gs[k].fName.length : Int)
    ·rw [decide_eq_true h2, cT]; exact .inr ⟨_, rfl, trivial⟩
    ·rw [decide_eq_false h2, cF, bnd, eta_V, hg, bnd]
     cases g with
     | true => rw [cT]; exact .inr ⟨_, rfl, trivial⟩
     | false => rw [cF, need_i (by omega) (by omega)]; exact .inl ⟨_, rfl, by simp⟩)
   (fun s hI => by subst hI; unfold ref09_Great_s1; rw [decide_eq_false (by omega), cF]; exact ⟨_, rfl, trivial⟩) (by omega)
  rw [hb, bnd]
  cases b with
  | inl y => exact ⟨_, rfl⟩
  | inr y => exact ⟨_, rfl⟩
theorem g14 {n : Nat} (hn : 3000 < n) (gs : List TE0) : ∃ g, ref14_Great n gs = some g := by
 unfold ref14_Great
 obtain ⟨b, hb, -⟩ := loop_inv (step := ref14_Great_s1 n gs) (n := n) (s0 := (0 : Int)) (fun k s => s = (k : Int)) (fun _ => True) (min gs.length 41) rfl
  (fun k s hk hI => by
   subst hI
   have hk1 : k < gs.length := by omega
   unfold ref14_Great_s1
   obtain ⟨g, hg⟩ := g03 hn gs[k].fV
   rw [decide_eq_true (show (k : Int) < ((gs.length : Nat) : Int) by omega), cT, decide_eq_true (show (k : Int) ≤ 40 by omega), bnd, cT, getI_here hk1, bnd, eta_V, hg, bnd]
   cases g with
   | true => rw [cT]; exact .inr ⟨_, rfl, trivial⟩
   | false =>
    rw [cF, bnd]
    by_cases h4 : (400 : Int) < (gs[k].fName.length : Int)
    ·rw [decide_eq_true h4, cT]; exact .inr ⟨_, rfl, trivial⟩
    ·rw [decide_eq_false h4, cF, need_i (by omega) (by omega)]; exact .inl ⟨_, rfl, by simp⟩)
  (fun s hI => by
   subst hI
   unfold ref14_Great_s1
   by_cases h : gs.length ≤ 41
   ·rw [decide_eq_false (by omega), cF, bnd, cF]; exact ⟨_, rfl, trivial⟩
   ·rw [decide_eq_true (by omega), cT, decide_eq_false (by omega), bnd, cF]; exact ⟨_, rfl, trivial⟩) (by omega)
 rw [hb, bnd]
 cases b with
 | inl y => exact ⟨_, rfl⟩
 | inr y => exact ⟨_, rfl⟩
theorem greats22 {n : Nat} (hn : 3000 < n) (l : List TS0) (hb : ∀ x ∈ l, x.fId.length ≤ 2000000 ∧ x.fType.length ≤ 2000000 ∧ x.fPhys.length ≤ 2000000) : ∃ g, ref22_greats n l = some g ∧ (g = false → l.length ≤ 100) := by
 unfold ref22_greats
 obtain ⟨b, hb, -⟩ := loop_inv (step := ref22_greats_s1 n l) (n := n) (s0 := (0 : Int)) (fun k s => s = (k : Int)) (fun _ => True) (min l.length 101) rfl
  (fun k s hk hI => by
   subst hI
   have hk1 : k < l.length := by omega
   obtain ⟨b1, b2, b3⟩ := hb l[k] (List.getElem_mem hk1)
   unfold ref22_greats_s1
   obtain ⟨g, hg⟩ := g09 hn l[k].fProps
   rw [decide_eq_true (show (k : Int) < ((l.length : Nat) : Int) by omega), cT, decide_eq_true (show (k : Int) ≤ 100 by omega), bnd, cT, getI_here hk1, bnd, hg, bnd]
   cases g with
   | true => rw [cT]; exact .inr ⟨_, rfl, trivial⟩
   | false =>
    rw [cF, bnd]
    by_cases h4 : (60 : Int) < ((l[k].fLeans.length : Nat) : Int)
    ·rw [decide_eq_true h4, cT]; exact .inr ⟨_, rfl, trivial⟩
    ·rw [decide_eq_false h4, cF, bnd, bnd, need_i (by omega) (by omega), bnd, need_i (by omega) (by omega)]
     by_cases h5 : (2000 : Int) < (((l[k].fId.length : Int) + (l[k].fType.length : Int)) + (l[k].fPhys.length : Int))
     ·rw [decide_eq_true h5, cT]; exact .inr ⟨_, rfl, trivial⟩
     ·rw [decide_eq_false h5, cF, need_i (by omega) (by omega)]; exact .inl ⟨_, rfl, by simp⟩)
  (fun s hI => by
   subst hI
   unfold ref22_greats_s1
   by_cases h : l.length ≤ 101
   ·rw [decide_eq_false (by omega), cF, bnd, cF]; exact ⟨_, rfl, trivial⟩
   ·rw [decide_eq_true (by omega), cT, decide_eq_false (by omega), bnd, cF]; exact ⟨_, rfl, trivial⟩) (by omega)
 rw [hb, bnd]
 cases b with
 | inl y => exact ⟨_, rfl, fun h => by cases h⟩
 | inr y => exact ⟨_, rfl, fun h => by have := of_decide_eq_false h; omega⟩
structure Sml (w : TK0) : Prop where
  ch : w.fChanges.length ≤ 60
  tk : w.fTasks.length ≤ 200
  ln : ∀ c ∈ w.fChanges, c.fLeans.length ≤ 60
  ow : w.fOld.fOwned.length ≤ 100
  pe : w.fOld.fPending.length ≤ 100
  re : w.fOld.fRetained.length ≤ 100
structure Blk1 (w : TK0) : Prop where
  ow : ∀ x ∈ w.fOld.fOwned, x.fId.length ≤ 2000000 ∧ x.fType.length ≤ 2000000 ∧ x.fPhys.length ≤ 2000000
  pe : ∀ x ∈ w.fOld.fPending, x.fId.length ≤ 2000000 ∧ x.fType.length ≤ 2000000 ∧ x.fPhys.length ≤ 2000000
  re : ∀ x ∈ w.fOld.fRetained, x.fId.length ≤ 2000000 ∧ x.fType.length ≤ 2000000 ∧ x.fPhys.length ≤ 2000000
  ch : ∀ x ∈ w.fChanges, x.fId.length ≤ 2000000 ∧ x.fType.length ≤ 2000000
  tk : ∀ x ∈ w.fTasks, x.fPhys.length ≤ 2000000 ∧ x.fCall.fPhys.length ≤ 2000000 ∧ x.fCall.fType.length ≤ 2000000
  nw : w.fNew.fNodes.length ≤ 2000000 ∧ w.fNew.fScopes.length ≤ 2000000
theorem own_sz (x : TS0) : x.fId.length ≤ dsz (emb_TS0 x) ∧ x.fType.length ≤ dsz (emb_TS0 x) ∧ x.fPhys.length ≤ dsz (emb_TS0 x) := by
 rw [emb_TS0_eq]
 simp only [dsz, dszs]
 omega
theorem change_sz (x : TC0) : x.fId.length ≤ dsz (emb_TC0 x) ∧ x.fType.length ≤ dsz (emb_TC0 x) := by
 rw [emb_TC0_eq]
 simp only [dsz, dszs]
 omega
theorem call_sz (x : TQ0) : x.fPhys.length ≤ dsz (emb_TQ0 x) ∧ x.fType.length ≤ dsz (emb_TQ0 x) := by
 rw [emb_TQ0_eq]
 simp only [dsz, dszs]
 omega
theorem task_sz (x : TR0) : x.fPhys.length ≤ dsz (emb_TR0 x) ∧ x.fCall.fPhys.length ≤ dsz (emb_TR0 x) ∧ x.fCall.fType.length ≤ dsz (emb_TR0 x) := by
 have := call_sz x.fCall
 rw [emb_TR0_eq]
 simp only [dsz, dszs]
 omega
theorem mem_sz {α : Type} {f : α → Dat} {l : List α} {x : α} (h : x ∈ l) : dsz (f x) ≤ dszs (l.map f) := dszs_mem (List.mem_map_of_mem h)
theorem len_sz {α : Type} {f : α → Dat} (l : List α) : l.length ≤ dszs (l.map f) := by have := dszs_len (l.map f); simpa using this
theorem work_blk {w : TK0} (hb : dsz (emb_TK0 w) ≤ 1048576) : Blk1 w := by
 rw [emb_TK0_eq] at hb
 simp only [dsz, dszs, eL] at hb
 rw [emb_TF0_eq, emb_TL0_eq] at hb
 simp only [dsz, dszs, eL] at hb
 have n1 := len_sz (f := emb_TN0) w.fNew.fNodes
 have n2 := len_sz (f := emb_TG0) w.fNew.fScopes
 refine ⟨fun x hx => ?_, fun x hx => ?_, fun x hx => ?_, fun x hx => ?_, fun x hx => ?_, by omega, by omega⟩
 ·have h1 := mem_sz (f := emb_TS0) hx; have h2 := own_sz x; omega
 ·have h1 := mem_sz (f := emb_TS0) hx; have h2 := own_sz x; omega
 ·have h1 := mem_sz (f := emb_TS0) hx; have h2 := own_sz x; omega
 ·have h1 := mem_sz (f := emb_TC0) hx; have h2 := change_sz x; omega
 ·have h1 := mem_sz (f := emb_TR0) hx; have h2 := task_sz x; omega
theorem g22 {n : Nat} (hn : 3000 < n) (w : TK0) (hb : Blk1 w) : ∃ g, ref22_Great n w.fOld = some g ∧ (g = false → w.fOld.fOwned.length ≤ 100 ∧ w.fOld.fPending.length ≤ 100 ∧ w.fOld.fRetained.length ≤ 100) := by
 obtain ⟨g1, h1, k1⟩ := greats22 hn _ hb.ow
 obtain ⟨g2, h2, k2⟩ := greats22 hn _ hb.pe
 obtain ⟨g3, h3, k3⟩ := greats22 hn _ hb.re
 obtain ⟨g4, h4⟩ := g14 hn w.fOld.fOuts
 obtain ⟨g5, h5⟩ := g14 hn w.fOld.fArgs
 unfold ref22_Great
 rw [h1, bnd]
 cases g1 with
 | true => rw [cT]; exact ⟨_, rfl, fun h => by cases h⟩
 | false =>
  rw [cF, h2, bnd]
  cases g2 with
  | true => rw [cT]; exact ⟨_, rfl, fun h => by cases h⟩
  | false =>
   rw [cF, h3, bnd]
   cases g3 with
   | true => rw [cT]; exact ⟨_, rfl, fun h => by cases h⟩
   | false =>
    rw [cF, h4, bnd]
    cases g4 with
    | true => rw [cT]; exact ⟨_, rfl, fun h => by cases h⟩
    | false =>
     rw [cF, h5, bnd]
     cases g5 with
     | true => rw [cT]; exact ⟨_, rfl, fun h => by cases h⟩
     | false => rw [cF]; exact ⟨_, rfl, fun _ => ⟨k1 rfl, k2 rfl, k3 rfl⟩⟩
theorem great22 {n : Nat} (hn : 3000 < n) (w : TK0) (hb : dsz (emb_TK0 w) ≤ 1048576) : ∃ g, law22_Great n w = some g ∧ (g = false → Sml w) := by
 have hB := work_blk hb
 obtain ⟨g1, h1, k1⟩ := g22 hn w hB
 obtain ⟨g2, h2⟩ := g14 hn w.fArgs
 have hnw := hB.nw
 have hd : ∀ y : Option Bool, (y = some true ∨ (y = some false ∧ g1 = false ∧ w.fChanges.length ≤ 60 ∧ w.fTasks.length ≤ 200)) → ∃ g, (y.bind fun y_1 => bif y_1 then some true else (loopF (law22_Great_s1 n w) n (0 : Int)).bind fun b_2 => (match b_2 with | .inl y_2 => some (true) | .inr y_3 => (loopF (law22_Great_s2 n w) n (0 : Int)).bind fun b_4 => (match b_4 with | .inl y_4 => some (true) | .inr y_5 => some (false)))) = some g ∧ (g = false → Sml w) := by
  rintro y (rfl | ⟨rfl, hg1, hc, ht⟩)
  ·rw [bnd, cT]; exact ⟨_, rfl, fun h => by cases h⟩
  ·rw [bnd, cF]
   obtain ⟨b, e1, p1⟩ := loop_inv (step := law22_Great_s1 n w) (n := n) (s0 := (0 : Int)) (fun k s => s = (k : Int) ∧ ∀ j (h : j < w.fChanges.length), j < k → w.fChanges[j].fLeans.length ≤ 60)
    (fun b => ∀ u, b = .inr u → ∀ j (h : j < w.fChanges.length), w.fChanges[j].fLeans.length ≤ 60) w.fChanges.length ⟨rfl, fun j _ h => absurd h (by omega)⟩
    (fun k s hk hI => by
     obtain ⟨rfl, hI⟩ := hI
     unfold law22_Great_s1
     obtain ⟨b1, b2⟩ := hB.ch _ (List.getElem_mem hk)
     obtain ⟨g, hg⟩ := g14 hn w.fChanges[k].fProps
     rw [decide_eq_true (by omega), cT, getI_here hk, bnd]
     by_cases h4 : (60 : Int) < ((w.fChanges[k].fLeans.length : Nat) : Int)
     ·rw [decide_eq_true h4, cT]; exact .inr ⟨_, rfl, fun u h => by cases h⟩
     ·rw [decide_eq_false h4, cF, hg, bnd]
      cases g with
      | true => rw [cT]; exact .inr ⟨_, rfl, fun u h => by cases h⟩
      | false =>
       rw [cF, need_i (by omega) (by omega)]
       by_cases h5 : (2000 : Int) < ((w.fChanges[k].fId.length : Int) + (w.fChanges[k].fType.length : Int))
       ·rw [decide_eq_true h5, cT]; exact .inr ⟨_, rfl, fun u h => by cases h⟩
       ·rw [decide_eq_false h5, cF, need_i (by omega) (by omega)]
        refine .inl ⟨_, rfl, by simp, fun j h hj => ?_⟩
        by_cases e : j = k
        ·subst e; omega
        ·exact hI j h (by omega))
    (fun s hI => by
     obtain ⟨rfl, hI⟩ := hI
     unfold law22_Great_s1
     rw [decide_eq_false (by omega), cF]
     exact ⟨_, rfl, fun _ _ j h => hI j h h⟩) (by omega)
   rw [e1, bnd]
   cases b with
   | inl u => exact ⟨_, rfl, fun h => by cases h⟩
   | inr u =>
    have hln := p1 u rfl
    obtain ⟨b, e2, -⟩ := loop_inv (step := law22_Great_s2 n w) (n := n) (s0 := (0 : Int)) (fun k s => s = (k : Int)) (fun _ => True) w.fTasks.length rfl
     (fun k s hk hI => by
      subst hI
      unfold law22_Great_s2
      obtain ⟨b1, b2, b3⟩ := hB.tk _ (List.getElem_mem hk)
      obtain ⟨g, hg⟩ := g14 hn w.fTasks[k].fCall.fProps
      rw [decide_eq_true (by omega), cT, getI_here hk, bnd, hg, bnd]
      cases g with
      | true => rw [cT]; exact .inr ⟨_, rfl, trivial⟩
      | false =>
       rw [cF, bnd, bnd, need_i (by omega) (by omega), bnd, need_i (by omega) (by omega)]
       by_cases h5 : (2000 : Int) < (((w.fTasks[k].fPhys.length : Int) + (w.fTasks[k].fCall.fPhys.length : Int)) + (w.fTasks[k].fCall.fType.length : Int))
       ·rw [decide_eq_true h5, cT]; exact .inr ⟨_, rfl, trivial⟩
       ·rw [decide_eq_false h5, cF, need_i (by omega) (by omega)]; exact .inl ⟨_, rfl, by simp⟩)
     (fun s hI => by subst hI; unfold law22_Great_s2; rw [decide_eq_false (by omega), cF]; exact ⟨_, rfl, trivial⟩) (by omega)
    show ∃ g, ((loopF (law22_Great_s2 n w) n (0 : Int)).bind _) = some g ∧ _
    rw [e2, bnd]
    cases b with
    | inl u => exact ⟨_, rfl, fun h => by cases h⟩
    | inr u =>
     obtain ⟨o1, o2, o3⟩ := k1 hg1
     exact ⟨_, rfl, fun _ => ⟨hc, ht, fun c hc => by obtain ⟨j, hj, rfl⟩ := List.getElem_of_mem hc; exact hln j hj, o1, o2, o3⟩⟩
 refine hd _ ?_
 show (((ref22_Great n w.fOld).bind _) = some true ∨ ((ref22_Great n w.fOld).bind _) = some false ∧ _)
 rw [h1, bnd]
 cases g1 with
 | true => rw [cT]; exact .inl rfl
 | false =>
  rw [cF]
  by_cases a1 : (60 : Int) < ((w.fChanges.length : Nat) : Int)
  ·rw [decide_eq_true a1, cT]; exact .inl rfl
  ·rw [decide_eq_false a1, cF]
   by_cases a2 : (200 : Int) < ((w.fTasks.length : Nat) : Int)
   ·rw [decide_eq_true a2, cT]; exact .inl rfl
   ·rw [decide_eq_false a2, cF, h2, bnd]
    cases g2 with
    | true => rw [cT]; exact .inl rfl
    | false =>
     rw [cF]
     by_cases a3 : (5000 : Int) < (w.fText.length : Int)
     ·rw [decide_eq_true a3, cT]; exact .inl rfl
     ·rw [decide_eq_false a3, cF, need_i (by omega) (by omega)]
      by_cases a4 : (60 : Int) < (((w.fNew.fNodes.length : Nat) : Int) + ((w.fNew.fScopes.length : Nat) : Int))
      ·rw [decide_eq_true a4]; exact .inl rfl
      ·rw [decide_eq_false a4]; exact .inr ⟨rfl, rfl, by omega, by omega⟩
def state_Own_1 (n : Nat) (d0 : TS0) (d1 : List UInt8) : Option Bool :=
  some ((decide (d0.fId = d1)))
theorem state_Own_1_ok (n : Nat) (M : Mem) (c0 : List Value) (d0 : TS0) (h0 : Rep M (emb_TS0 d0) c0) (ad1 : Addr) (c1 : List Value) (d1 : List UInt8) (h1 : Rep M (Dat.str d1) c1) (q1 : ∀ j v, c1[j]? = some v → M.cell? (ad1.add j) = some v) (r : Bool) (hF : state_Own_1 n d0 d1 = some r) : Ok Tryz.prog M 110 [.agg c0.toArray, .pointer (some ad1)] (fun _ v => v = .bool r) := by
 unfold state_Own_1 at hF
 intro M1 hM0 w0 H w p0
 replace h0 := Rep.mono hM0 _ _ h0
 replace h1 := Rep.mono hM0 _ _ h1
 replace q1 := fun j v h => hM0.cell (q1 j v h)
 obtain ⟨A_1, cap_1, A_2, cap_2, rfl, h_1, h_2⟩ := TS0.opn h0
 obtain rfl : c1 = [S d1] := h1
 refine R_enter 8 Tryz.func110 rfl rfl (by simp) fun a0 f0 => RR (Y12 (cs := #[S d0.fId, S d0.fType, S d0.fPhys, .slice A_1 d0.fProps.length cap_1, .bool d0.fRetain, .slice A_2 d0.fLeans.length cap_2]) (T := 68) f0 p0 fun b_1 M_1 w_1 hM_1 hc_1 p_1 _ f => ?_)
 have hc_2 := fz_box hc_1
 refine Y f 1 fun _ f => eT (RR (Y f 1 fun _ f => Y14 f p_1 hc_2 0 rfl fun _ f => Y14 f p_1 (fzu hM_1 q1) 0 rfl fun _ f => Z f (Y33 rfl (l := d0.fId) (m := d1)) fun _ f => Y f 1 fun _ f => eT (wp_ret (E_ret1 f rfl (by kernel_rfl : Vc.look _ 3 = some (.bool (decide (d0.fId = d1)))) ?_))))
 obtain rfl := sI hF
 exact ⟨_, rfl, M_1, hM_1, p_1, rfl⟩
def slices_IndexFuncapi_Own_api_Own_s1 (n : Nat) (d0 : List TS0) (d1_0 : List UInt8) (s_1 : Int) : Option (Lp Int (Sum Int Unit)) :=
    bif (decide (s_1 < ((d0.length : Nat) : Int))) then
      ((getI d0 s_1).bind fun x_1 =>
      (state_Own_1 n x_1 d1_0).bind fun x_2 =>
      bif x_2 then
        (some (.br (.inl s_1)))
      else
        need (inR .i64 (s_1 + 1)) <|
        some (.nx (s_1 + 1)))
    else
      some (.br (.inr ()))
def slices_IndexFuncapi_Own_api_Own (n : Nat) (d0 : List TS0) (d1_0 : List UInt8) : Option Int :=
  (loopF (slices_IndexFuncapi_Own_api_Own_s1 n d0 d1_0) n (0 : Int)).bind fun b_1 =>
  (match b_1 with 
  | .inl y_1 => some (y_1) 
  | .inr y_2 => some ((-1 : Int)))
theorem slices_IndexFuncapi_Own_api_Own_ok (n : Nat) (M : Mem) (A0 : Option Addr) (cap0 : Nat) (d0 : List TS0) (h0 : Sli M 6 emb_TS0 A0 cap0 d0) (ad1_0 : Addr) (c1_0 : List Value) (d1_0 : List UInt8) (h1_0 : Rep M (Dat.str d1_0) c1_0) (q1_0 : ∀ j v, c1_0[j]? = some v → M.cell? (ad1_0.add j) = some v) (r : Int) (hF : slices_IndexFuncapi_Own_api_Own n d0 d1_0 = some r) : Ok Tryz.prog M 109 [.slice A0 d0.length cap0, .func (.func 110) #[] #[.pointer (some ad1_0)]] (fun _ v => v = .int .i64 r) := by
 unfold slices_IndexFuncapi_Own_api_Own at hF
 intro M1 hM0 w0 H w p0
 replace h0 := h0.mono hM0
 replace h1_0 := Rep.mono hM0 _ _ h1_0
 replace q1_0 := fun j v h => hM0.cell (q1_0 j v h)
 obtain rfl : c1_0 = [S d1_0] := h1_0
 refine R_enter 19 Tryz.func109 rfl rfl (by simp) fun a0 f0 => RR (Y f0 1 fun _ f => eT (R_seq (RR (Y f 3 fun _ f => eT (wp_block ?_)))))
 obtain ⟨b_1, hL_1, hF_1⟩ := bS hF
 refine wp_mono (Q := fun e a w => (e = .ret ∧ (∃ y_1 : Int, b_1 = .inl y_1 ∧ ∃ M_2 : Mem, M1.le M_2 ∧ Frm 19 [(4, .int .i64 y_1)] a ∧ Hp w0 M_2 (H) w)) ∨ (e = .exit 0 ∧ (∃ y_2 : Unit, b_1 = .inr y_2 ∧ ∃ M_3 : Mem, M1.le M_3 ∧ Frm 19 [] a ∧ Hp w0 M_3 (H) w))) (R_loop (n := 19) (w0 := w0) (M := M1) (fun (x : Nat × Int) => match x with | (m_1, s_1) => [(0, .slice A0 d0.length cap0), (1, .func (.func 110) #[] #[.pointer (some ad1_0)]), (7, .int .i64 ((d0.length : Nat) : Int)), (8, .int .i64 s_1)]) (fun (x : Nat × Int) => match x with | (m_1, s_1) => (H)) (fun (x : Nat × Int) (MM : Mem) => match x with | (m_1, s_1) => loopF (slices_IndexFuncapi_Own_api_Own_s1 n d0 d1_0) m_1 s_1 = some b_1) (fun (x : Nat × Int) => match x with | (m_1, s_1) => m_1) (n, (0 : Int)) (f.kp) p0 hL_1 ?_) ?_
 ·rintro ⟨m_1, s_1⟩ M_1 _ w_1 hM_1 I_1 f p_1
  have I_1L := I_1
  obtain ⟨m_2, r_1, rfl, hs_1, hn_1⟩ := loop_step I_1L
  unfold slices_IndexFuncapi_Own_api_Own_s1 at hs_1
  refine RR (Y f 1 fun _ f => eT (R_seq (RcF f hs_1 (fun h_1 hF_2 => ?_) fun h_1 hF_8 => ?_)))
  ·have k_1 := dI.1 h_1
   refine wp_skip (T_n (R_seq (wp_block (RR (Y f 2 fun _ f => eT (RR (Y f 3 fun _ f => ?_)))))))
   obtain ⟨x_1, hx_1, hF_3⟩ := bS hF_2
   obtain ⟨ad_1, c_1, e_1, -, hr_1, hc_1⟩ := Sli.at_ (h0.mono hM_1) hx_1
   obtain ⟨A_1, cap_1, A_2, cap_2, rfl, h_2, h_3⟩ := TS0.opn hr_1
   refine Z f (Y28 e_1 rfl (len := d0.length) (cap := cap0) (k := .i64) (i := s_1) (e := 68) (sz := 6) (getI_nn hx_1) (getI_lt hx_1)) fun _ f => Z (v := .agg #[S x_1.fId, S x_1.fType, S x_1.fPhys, .slice A_1 x_1.fProps.length cap_1, .bool x_1.fRetain, .slice A_2 x_1.fLeans.length cap_2]) f (Y30 (cs := [S x_1.fId, S x_1.fType, S x_1.fPhys, .slice A_1 x_1.fProps.length cap_1, .bool x_1.fRetain, .slice A_2 x_1.fLeans.length cap_2]) rfl (ad := ad_1.add (s_1.toNat * 6)) (fun j v h => p_1.cell (hc_1 j v h))) fun _ f => ?_
   obtain ⟨x_2, hx_2, hF_4⟩ := bS hF_3
   refine Y17 f p_1 (state_Own_1_ok n _ _ x_1 (TS0.shutx (x := x_1) h_2 h_3) ad1_0 [S d1_0] d1_0 (rfl) (fz_at ((fzu hM_1 q1_0)) 0 rfl) x_2 hx_2) fun w_2 p_2 _ f => eT (RcF f hF_4 (fun h_4 hF_5 => ?_) fun h_4 hF_6 => ?_)
   ·refine RR (Y f 2 fun _ f => eT (wp_ret (B_r (T_r (T_r ?_)))))
    obtain rfl := sI hF_5
    exact .inl ⟨rfl, s_1, (sI hn_1).symm, M_1, hM_1, f.kp, p_2⟩
   ·refine wp_skip (B_n (T_n (R_reg ?_)))
    obtain ⟨g_1, hF_7⟩ := nS hF_6
    refine Y f 1 fun _ f => ?_
    have f := f.st 18 (congrArg (Value.int .i64) (inR_wrap g_1))
    refine Y f 1 fun _ f => eT ?_
    obtain rfl := sI hF_7
    exact ⟨⟨m_2, s_1 + 1⟩, Nat.lt_succ_self _, M_1, hM_1, hn_1, f.kp, p_2⟩
  ·have k_4 := iff_f dI h_1
   refine wp_exit (T_x (T_x ?_))
   obtain rfl := sI hF_8
   exact .inr ⟨rfl, (), (sI hn_1).symm, M_1, hM_1, f.kp, p_1⟩
 ·rintro _ _ w_5 (⟨rfl, y_1, rfl, M_2, hM_2, f, p_3⟩ | ⟨rfl, y_2, rfl, M_3, hM_3, f, p_4⟩)
  ·refine B_r (T_r (E_ret1 f rfl (by kernel_rfl : Vc.look _ 4 = some (.int .i64 y_1)) ?_))
   obtain rfl := sI hF_1
   exact ⟨_, rfl, M_2, hM_2, p_3, rfl⟩
  ·refine B_x (T_n (RR (Y f 1 fun _ f => eT (wp_ret (E_ret1 f rfl (by kernel_rfl : Vc.look _ 4 = some (.int .i64 (-1))) ?_)))))
   obtain rfl := sI hF_1
   exact ⟨_, rfl, M_3, hM_3, p_4, rfl⟩
def state_Own (n : Nat) (d0 : TF0) (d1 : List UInt8) : Option (TS0 × Bool) :=
  (slices_IndexFuncapi_Own_api_Own n d0.fOwned d1).bind fun x_1 =>
  bif (decide ((0 : Int) ≤ x_1)) then
    ((getI d0.fOwned x_1).bind fun x_2 =>
    some ((x_2, (true))))
  else
    some ((z_TS0, (false)))
theorem state_Own_ok (n : Nat) (M : Mem) (c0 : List Value) (d0 : TF0) (h0 : Rep M (emb_TF0 d0) c0) (d1 : List UInt8) (r : TS0 × Bool) (hF : state_Own n d0 d1 = some r) : Ok Tryz.prog M 55 [.agg c0.toArray, S d1] (fun M' v => ∃ (c0 : List Value), v = .tuple #[.agg c0.toArray, .bool r.2] ∧ Rep M' (emb_TS0 r.1) c0) := by
 unfold state_Own at hF
 intro M1 hM0 w0 H w p0
 replace h0 := Rep.mono hM0 _ _ h0
 obtain ⟨A_1, cap_1, A_2, cap_2, A_3, cap_3, A_4, cap_4, A_5, cap_5, rfl, h_1, h_2, h_3, h_4, h_5⟩ := TF0.opn h0
 refine R_enter 19 Tryz.func55 rfl rfl (by simp) fun a0 f0 => RR (Y12 (cs := #[.slice A_1 d0.fOwned.length cap_1, .slice A_2 d0.fPending.length cap_2, .slice A_3 d0.fRetained.length cap_3, .slice A_4 d0.fOuts.length cap_4, S d0.fText, .slice A_5 d0.fArgs.length cap_5, .int .i64 d0.fCalls, .int .i8 d0.fStatus]) (T := 26) f0 p0 fun b_1 M_1 w_1 hM_1 hc_1 p_1 _ f => ?_)
 have hc_2 := fz_box hc_1
 refine Y12 (cs := #[S d1]) (T := 9) f p_1 fun b_2 M_2 w_2 hM_2 hc_3 p_2 _ f => ?_
 have hc_4 := fz_box hc_3
 refine Y11 f p_2 (.cells #[S [], S [], S [], .slice none 0 0, .bool false, .slice none 0 0] 68 (0, 0)) fun b_3 w_3 p_3 _ f => Y f 1 fun _ f => eT (R_seq (RR (Y f 1 fun _ f => Y14 f p_3 (fzu hM_2 hc_2) 0 rfl fun _ f => Y f 1 fun _ f => ?_)))
 obtain ⟨x_1, hx_1, hF_1⟩ := bS hF
 refine Y17 f p_3 (slices_IndexFuncapi_Own_api_Own_ok n _ A_1 cap_1 d0.fOwned (h_1.mono (hM_1.trans hM_2)) (⟨b_2, 0, none⟩) [S d1] d1 (rfl) (fz_at (hc_4) 0 rfl) x_1 hx_1) fun w_4 p_4 _ f => Y f 1 fun _ f => eT (RR (Y f 2 fun _ f => eT (RcF f hF_1 (fun h_6 hF_2 => ?_) fun h_6 hF_4 => ?_)))
 ·have k_1 := dI.1 h_6
  refine RR (Y f 1 fun _ f => Y14 f p_4 (fzu hM_2 hc_2) 0 rfl fun _ f => Y f 1 fun _ f => ?_)
  obtain ⟨x_2, hx_2, hF_3⟩ := bS hF_2
  obtain ⟨ad_1, c_1, e_1, -, hr_1, hc_5⟩ := Sli.at_ (h_1.mono (hM_1.trans hM_2)) hx_2
  obtain ⟨A_6, cap_6, A_7, cap_7, rfl, h_7, h_8⟩ := TS0.opn hr_1
  refine Z f (Y28 e_1 rfl (len := d0.fOwned.length) (cap := cap_1) (k := .i64) (i := x_1) (e := 68) (sz := 6) (getI_nn hx_2) (getI_lt hx_2)) fun _ f => Z (v := .agg #[S x_2.fId, S x_2.fType, S x_2.fPhys, .slice A_6 x_2.fProps.length cap_6, .bool x_2.fRetain, .slice A_7 x_2.fLeans.length cap_7]) f (Y30 (cs := [S x_2.fId, S x_2.fType, S x_2.fPhys, .slice A_6 x_2.fProps.length cap_6, .bool x_2.fRetain, .slice A_7 x_2.fLeans.length cap_7]) rfl (ad := ad_1.add (x_1.toNat * 6)) (fun j v h => p_4.cell (hc_5 j v h))) fun _ f => Y26 (vs := [S x_2.fId, S x_2.fType, S x_2.fPhys, .slice A_6 x_2.fProps.length cap_6, .bool x_2.fRetain, .slice A_7 x_2.fLeans.length cap_7]) (j := 0) f p_4 rfl rfl (by simp [Value.oneCell', S]) (by simp) (by decide) (cs' := #[S x_2.fId, S x_2.fType, S x_2.fPhys, .slice A_6 x_2.fProps.length cap_6, .bool x_2.fRetain, .slice A_7 x_2.fLeans.length cap_7]) fun w_5 p_5 _ f => Y f 1 fun _ f => eT (wp_ret (T_r (E_rv2 f rfl (Y9 (cs := [S x_2.fId, S x_2.fType, S x_2.fPhys, .slice A_6 x_2.fProps.length cap_6, .bool x_2.fRetain, .slice A_7 x_2.fLeans.length cap_7]) (ad := ⟨b_3, 0, none⟩) f (own_cells (p_5.ownCell 0 rfl) 0 rfl)) (Y10 (v := .bool true) f) ?_)))
  obtain rfl := sI hF_3
  exact ⟨_, rfl, M_2, (hM_1.trans hM_2), (p_5.dropN 1), ⟨[S x_2.fId, S x_2.fType, S x_2.fPhys, .slice A_6 x_2.fProps.length cap_6, .bool x_2.fRetain, .slice A_7 x_2.fLeans.length cap_7], rfl, (TS0.shutx (x := x_2) h_7 h_8)⟩⟩
 ·have k_2 := iff_f dI h_6
  refine wp_skip (T_n (RR (Z (v := .agg #[S [], S [], S [], .slice none 0 0, .bool false, .slice none 0 0]) f (Y30 (cs := [S [], S [], S [], .slice none 0 0, .bool false, .slice none 0 0]) rfl (ad := ⟨b_3, 0, none⟩) (own_cells (p_4.ownCell 0 rfl) 0 rfl)) fun _ f => Y26 (vs := [S [], S [], S [], .slice none 0 0, .bool false, .slice none 0 0]) (j := 0) f p_4 rfl rfl (by simp [Value.oneCell', S]) (by simp) (by decide) (cs' := #[S [], S [], S [], .slice none 0 0, .bool false, .slice none 0 0]) fun w_6 p_6 _ f => Y f 1 fun _ f => eT (wp_ret (E_rv2 f rfl (Y9 (cs := [S [], S [], S [], .slice none 0 0, .bool false, .slice none 0 0]) (ad := ⟨b_3, 0, none⟩) f (own_cells (p_6.ownCell 0 rfl) 0 rfl)) (Y10 (v := .bool false) f) ?_)))))
  obtain rfl := sI hF_4
  exact ⟨_, rfl, M_2, (hM_1.trans hM_2), (p_6.dropN 1), ⟨[S [], S [], S [], .slice none 0 0, .bool false, .slice none 0 0], rfl, (TS0.shut Sli.nil Sli.nil)⟩⟩
def forward_Flight_s1 (n : Nat) (d0 : TK0) (s_1 : List Int × Int) : Option (Lp (List Int × Int) (List Int)) :=
    bif (decide (s_1.2 < ((d0.fTasks.length : Nat) : Int))) then
      ((getI d0.fTasks s_1.2).bind fun x_1 =>
      bif (decide (x_1.fState = 0)) then
        (need ((s_1.1.length + 1) * 8 ≤ 140737488355328) <|
        need (inR .i64 (s_1.2 + 1)) <|
        some (.nx (s_1.1 ++ [x_1.fCall.fToken], s_1.2 + 1)))
      else
        need (inR .i64 (s_1.2 + 1)) <|
        some (.nx (s_1.1, s_1.2 + 1)))
    else
      some (.br s_1.1)
def forward_Flight (n : Nat) (d0 : TK0) : Option (List Int) :=
  (loopF (forward_Flight_s1 n d0) n (([] : List Int), (0 : Int))).bind fun y_1 =>
  some (y_1)
set_option maxRecDepth 20000 in
theorem forward_Flight_ok (n : Nat) (M : Mem) (c0 : List Value) (d0 : TK0) (h0 : Rep M (emb_TK0 d0) c0) (r : List Int) (hF : forward_Flight n d0 = some r) : OkH Tryz.prog M [] 17 [.agg c0.toArray] (fun M' E' v => ∃ (A0 : Option Addr) (k0 : Nat) (s0 : List Value), v = .slice A0 r.length k0 ∧ E' = [.row 3 1 (.slice A0 r.length k0) r.length s0] ∧ RepSeq M' (r.map (Dat.int .i64)) s0) := by
 unfold forward_Flight at hF
 intro M1 hM0 w0 H w p0
 replace h0 := Rep.mono hM0 _ _ h0
 obtain ⟨A_1, cap_1, A_2, cap_2, A_3, cap_3, A_4, cap_4, A_5, cap_5, A_6, cap_6, A_7, cap_7, A_8, cap_8, A_9, cap_9, A_10, cap_10, rfl, h_1, h_2, h_3, h_4, h_5, h_6, h_7, h_8, h_9, h_10⟩ := TK0.opn h0
 refine R_enter 23 Tryz.func17 rfl rfl (by simp) fun a0 f0 => RR (Y12 (cs := #[.int .i8 d0.fKind, .int .i64 d0.fWidth, .slice A_1 d0.fOld.fOwned.length cap_1, .slice A_2 d0.fOld.fPending.length cap_2, .slice A_3 d0.fOld.fRetained.length cap_3, .slice A_4 d0.fOld.fOuts.length cap_4, S d0.fOld.fText, .slice A_5 d0.fOld.fArgs.length cap_5, .int .i64 d0.fOld.fCalls, .int .i8 d0.fOld.fStatus, .slice A_6 d0.fNew.fScopes.length cap_6, .slice A_7 d0.fNew.fNodes.length cap_7, S d0.fText, .slice A_8 d0.fArgs.length cap_8, .slice A_9 d0.fChanges.length cap_9, .slice A_10 d0.fTasks.length cap_10, .int .i8 d0.fPhase, .int .i8 d0.fStatus]) (T := 34) f0 p0 fun b_1 M_1 w_1 hM_1 hc_1 p_1 _ f => ?_)
 have hc_2 := fz_box hc_1
 refine Y f 1 fun _ f => eT (R_seq (RR (Y f 1 fun _ f => Y14 f p_1 hc_2 15 rfl fun _ f => Y f 2 fun _ f => eT (wp_block ?_))))
 obtain ⟨A_11, cap_11, hv_1⟩ : ∃ A cap, Value.slice none 0 0 = .slice A ([] : List Int).length cap := ⟨none, 0, rfl⟩
 have p_2 : Hp w0 M_1 ((Ent.row 3 1 (.slice A_11 ([] : List Int).length cap_11) ([] : List Int).length []) :: H) w_1 := by rw [← hv_1]; exact p_1.nilRow 3 1
 have f := f.st 2 (hv_1)
 have hr_1 : RepSeq M_1 (([] : List Int).map (Dat.int .i64)) [] := rfl
 obtain ⟨b_2, hL_1, hF_1⟩ := bS hF
 refine wp_mono (Q := fun e a w => (e = .exit 0 ∧ (∃ y_1 : List Int, b_2 = y_1 ∧ ∃ M_3 : Mem, M_1.le M_3 ∧ ∃ (A_15 : Option Addr), ∃ (cap_15 : Nat), ∃ (cs_3 : List Value), RepSeq M_3 (y_1.map (Dat.int .i64)) cs_3 ∧ Frm 23 [(2, .slice A_15 y_1.length cap_15)] a ∧ Hp w0 M_3 ((Ent.row 3 1 (.slice A_15 y_1.length cap_15) y_1.length cs_3) :: H) w))) (R_loop (n := 23) (w0 := w0) (M := M_1) (fun (x : Nat × (List Int × Int) × (Option Addr) × Nat × (List Value)) => match x with | (m_1, s_1, A_12, cap_12, cs_1) => [(2, .slice A_12 s_1.1.length cap_12), (6, .slice A_10 d0.fTasks.length cap_10), (7, .int .i64 ((d0.fTasks.length : Nat) : Int)), (8, .int .i64 s_1.2)]) (fun (x : Nat × (List Int × Int) × (Option Addr) × Nat × (List Value)) => match x with | (m_1, s_1, A_12, cap_12, cs_1) => ((Ent.row 3 1 (.slice A_12 s_1.1.length cap_12) s_1.1.length cs_1) :: H)) (fun (x : Nat × (List Int × Int) × (Option Addr) × Nat × (List Value)) (MM : Mem) => match x with | (m_1, s_1, A_12, cap_12, cs_1) => loopF (forward_Flight_s1 n d0) m_1 s_1 = some b_2 ∧ RepSeq MM (s_1.1.map (Dat.int .i64)) cs_1) (fun (x : Nat × (List Int × Int) × (Option Addr) × Nat × (List Value)) => match x with | (m_1, s_1, A_12, cap_12, cs_1) => m_1) (n, (([] : List Int), (0 : Int)), A_11, cap_11, []) (f.kp) p_2 ⟨hL_1, hr_1⟩ ?_) ?_
 ·rintro ⟨m_1, s_1, A_12, cap_12, cs_1⟩ M_2 _ w_2 hM_2 I_1 f p_3
  obtain ⟨I_1L, hr_2⟩ := I_1
  obtain ⟨m_2, r_1, rfl, hs_1, hn_1⟩ := loop_step I_1L
  unfold forward_Flight_s1 at hs_1
  refine RR (Y f 1 fun _ f => eT (R_seq (RcF f hs_1 (fun h_11 hF_2 => ?_) fun h_11 hF_9 => ?_)))
  ·have k_1 := dI.1 h_11
   refine wp_skip (T_n (R_seq (wp_block (RR ?_))))
   obtain ⟨x_1, hx_1, hF_3⟩ := bS hF_2
   obtain ⟨ad_1, c_1, e_1, -, hr_3, hc_3⟩ := Sli.at_ (h_10.mono (hM_1.trans hM_2)) hx_1
   obtain ⟨A_13, cap_13, rfl, h_12⟩ := TR0.opn hr_3
   refine Z f (Y28 e_1 rfl (len := d0.fTasks.length) (cap := cap_10) (k := .i64) (i := s_1.2) (e := 44) (sz := 9) (getI_nn hx_1) (getI_lt hx_1)) fun _ f => Z (v := .agg #[.int .i64 x_1.fChange, .int .i8 x_1.fPhase, .int .i64 x_1.fCall.fToken, .int .i8 x_1.fCall.fKind, S x_1.fCall.fPhys, S x_1.fCall.fType, .slice A_13 x_1.fCall.fProps.length cap_13, .int .i8 x_1.fState, S x_1.fPhys]) f (Y30 (cs := [.int .i64 x_1.fChange, .int .i8 x_1.fPhase, .int .i64 x_1.fCall.fToken, .int .i8 x_1.fCall.fKind, S x_1.fCall.fPhys, S x_1.fCall.fType, .slice A_13 x_1.fCall.fProps.length cap_13, .int .i8 x_1.fState, S x_1.fPhys]) rfl (ad := ad_1.add (s_1.2.toNat * 9)) (fun j v h => p_3.cell (hc_3 j v h))) fun _ f => Y11 f p_3 (.cells #[.int .i64 0, .int .i8 0, .int .i64 0, .int .i8 0, S [], S [], .slice none 0 0, .int .i8 0, S []] 44 (0, 0)) fun b_3 w_3 p_4 _ f => Y26 (vs := [.int .i64 x_1.fChange, .int .i8 x_1.fPhase, .int .i64 x_1.fCall.fToken, .int .i8 x_1.fCall.fKind, S x_1.fCall.fPhys, S x_1.fCall.fType, .slice A_13 x_1.fCall.fProps.length cap_13, .int .i8 x_1.fState, S x_1.fPhys]) (j := 0) f p_4 rfl rfl (by simp [Value.oneCell', S]) (by simp) (by decide) (cs' := #[.int .i64 x_1.fChange, .int .i8 x_1.fPhase, .int .i64 x_1.fCall.fToken, .int .i8 x_1.fCall.fKind, S x_1.fCall.fPhys, S x_1.fCall.fType, .slice A_13 x_1.fCall.fProps.length cap_13, .int .i8 x_1.fState, S x_1.fPhys]) fun w_4 p_5 _ f => eT (RR (Y f 1 fun _ f => Z f (Y29 (v := .int .i8 x_1.fState) rfl (ad := ⟨b_3, 7, none⟩) (p_5.ownCell 0 rfl 7)) fun _ f => Y f 1 fun _ f => eT (RcF f hF_3 (fun h_13 hF_4 => ?_) fun h_13 hF_7 => ?_)))
   ·have k_2 := dI.1 h_13
    refine R_reg (Y f 3 fun _ f => Z f (Y29 (v := .int .i64 x_1.fCall.fToken) rfl (ad := ⟨b_3, 2, none⟩) (p_5.ownCell 0 rfl 2)) fun _ f => V_allocS (k := 1) (c := 1) f p_5 (.cells #[.int .i64 x_1.fCall.fToken] 3 (0, 0)) (by kernel_rfl) (fun _ => by kernel_rfl) fun b_4 w_5 p_6 _ f => ?_)
    have p_7 := p_6.pl [2]
    obtain ⟨g_1, hF_5⟩ := nS hF_4
    refine Y20 (z := .int .i64 0) (f := (Dat.int .i64)) (xs := s_1.1) (ys := [x_1.fCall.fToken]) (news := [.int .i64 x_1.fCall.fToken]) (ad := ⟨b_4, 0, none⟩) (m := 1) (c := 1) f p_7 hr_2 (by exact ⟨_, _, rfl, rfl, rfl⟩) rfl rfl rfl rfl (own_cells (p_7.ownCell 1 rfl) 0 rfl) (by exact g_1) (by have hg_ := g_1; first | omega | (simp only [List.length_cons, List.length_nil] at *; omega)) fun A_14 cap_14 cs_2 w_6 p_8 hr_4 _ f => ?_
    have p_9 := p_8.pl [1]
    have p_10 := p_9.drop
    refine Y f 1 fun _ f => W_end rfl (B_n (T_n (R_reg ?_)))
    obtain ⟨g_2, hF_6⟩ := nS hF_5
    refine Y f 1 fun _ f => ?_
    have f := f.st 21 (congrArg (Value.int .i64) (inR_wrap g_2))
    refine Y f 1 fun _ f => W_end rfl ?_
    have p_12 := p_10.pl [1]
    refine T_n ?_
    obtain rfl := sI hF_6
    exact ⟨⟨m_2, (s_1.1 ++ [x_1.fCall.fToken], s_1.2 + 1), A_14, cap_14, cs_2⟩, Nat.lt_succ_self _, M_2, hM_2, ⟨hn_1, hr_4⟩, f.kp, (p_12.dropN 1)⟩
   ·have k_3 := iff_f dI h_13
    refine wp_skip (B_n (T_n (R_reg ?_)))
    obtain ⟨g_3, hF_8⟩ := nS hF_7
    refine Y f 1 fun _ f => ?_
    have f := f.st 21 (congrArg (Value.int .i64) (inR_wrap g_3))
    refine Y f 1 fun _ f => eT ?_
    obtain rfl := sI hF_8
    exact ⟨⟨m_2, (s_1.1, s_1.2 + 1), A_12, cap_12, cs_1⟩, Nat.lt_succ_self _, M_2, hM_2, ⟨hn_1, hr_2⟩, f.kp, (p_5.dropN 1)⟩
  ·have k_4 := iff_f dI h_11
   refine wp_exit (T_x (T_x ?_))
   obtain rfl := sI hF_9
   exact ⟨rfl, s_1.1, (sI hn_1).symm, M_2, hM_2, A_12, cap_12, cs_1, hr_2, f.kp, p_3⟩
 ·rintro _ _ w_8 ⟨rfl, y_1, hq_, M_3, hM_3, A_15, cap_15, cs_3, hr_5, f, p_11⟩
  subst b_2
  refine B_x (T_n (RR (Y f 2 fun _ f => eT (wp_ret (E_ret1 f rfl (by kernel_rfl : Vc.look _ 2 = some (.slice A_15 y_1.length cap_15)) ?_)))))
  obtain rfl := sI hF_1
  exact ⟨_, rfl, M_3, _, (hM_1.trans hM_3), p_11, ⟨A_15, cap_15, cs_3, rfl, rfl, hr_5⟩⟩
def forward_Task_1 (n : Nat) (d0 : TR0) (d1 : Int) (d2 : Int) : Option Bool :=
  bif (decide (d0.fChange = d1)) then
    (some ((decide (d0.fPhase = d2))))
  else
    some ((false))
theorem forward_Task_1_ok (n : Nat) (M : Mem) (ad0 : Addr) (c0 : List Value) (d0 : TR0) (h0 : Rep M (emb_TR0 d0) c0) (q0 : ∀ j v, c0[j]? = some v → M.cell? (ad0.add j) = some v) (ad1 : Addr) (c1 : List Value) (d1 : Int) (h1 : Rep M ((Dat.int .i64) d1) c1) (q1 : ∀ j v, c1[j]? = some v → M.cell? (ad1.add j) = some v) (ad2 : Addr) (c2 : List Value) (d2 : Int) (h2 : Rep M ((Dat.int .i8) d2) c2) (q2 : ∀ j v, c2[j]? = some v → M.cell? (ad2.add j) = some v) (r : Bool) (hF : forward_Task_1 n d0 d1 d2 = some r) : Ok Tryz.prog M 70 [.pointer (some ad0), .pointer (some ad1), .pointer (some ad2)] (fun _ v => v = .bool r) := by
 unfold forward_Task_1 at hF
 intro M1 hM0 w0 H w p0
 replace h0 := Rep.mono hM0 _ _ h0
 replace q0 := fun j v h => hM0.cell (q0 j v h)
 replace h1 := Rep.mono hM0 _ _ h1
 replace q1 := fun j v h => hM0.cell (q1 j v h)
 replace h2 := Rep.mono hM0 _ _ h2
 replace q2 := fun j v h => hM0.cell (q2 j v h)
 obtain ⟨A_1, cap_1, rfl, h_1⟩ := TR0.opn h0
 obtain rfl : c1 = [.int .i64 d1] := h1
 obtain rfl : c2 = [.int .i8 d2] := h2
 refine R_enter 19 Tryz.func70 rfl rfl (by simp) fun a0 f0 => RR (Y f0 1 fun _ f => eT (R_seq (R_draw p0 (by kernel_rfl) (by kernel_rfl) (Y5 default f 3 fun _ f => Y4 f q0 0 rfl fun _ f => Y4 f q1 0 rfl fun _ f => Y5 default f 2 fun _ f => ?_))))
 rcases cE hF with ⟨h_2, hF_1⟩ | ⟨h_2, hF_2⟩
 ·have k_1 := dI.1 h_2
  have f := f.st 11 (cB h_2)
  refine Y5 default f 3 fun _ f => Y4 f q0 1 rfl fun _ f => Y4 f q2 0 rfl fun _ f => Y5 default f 3 fun _ f => Q_end rfl ?_
  intro w_1 p_1
  refine T_n (wp_ret (E_ret1 f rfl (by kernel_rfl : Vc.look _ 4 = some (.bool (decide (d0.fPhase = d2)))) ?_))
  obtain rfl := sI hF_1
  exact ⟨_, rfl, M1, (mR _), p_1, rfl⟩
 ·have k_2 := iff_f dI h_2
  have f := f.st 11 (cB h_2)
  refine Y5 default f 8 fun _ f => Q_end rfl ?_
  intro w_2 p_2
  refine T_n (wp_ret (E_ret1 f rfl (by kernel_rfl : Vc.look _ 4 = some (.bool false)) ?_))
  obtain rfl := sI hF_2
  exact ⟨_, rfl, M1, (mR _), p_2, rfl⟩
def forward_first_s1 (n : Nat) (d0 : List TR0) (d1_0 : Int) (d1_1 : Int) (s_1 : Int × Int × Int × Int × Int × List UInt8 × List UInt8 × List TE0 × Int × List UInt8) : Option (Lp (Int × Int × Int × Int × Int × List UInt8 × List UInt8 × List TE0 × Int × List UInt8) (Sum (Int × Int × Int × Int × List UInt8 × List UInt8 × List TE0 × Int × List UInt8) (Int × Int × Int × Int × List UInt8 × List UInt8 × List TE0 × Int × List UInt8))) :=
    bif (decide (s_1.1 < ((d0.length : Nat) : Int))) then
      ((getI d0 s_1.1).bind fun x_1 =>
      (forward_Task_1 n x_1 d1_0 d1_1).bind fun x_2 =>
      bif x_2 then
        ((getI d0 s_1.1).bind fun x_3 =>
        some (.br (.inl (x_3.fChange, x_3.fPhase, x_3.fCall.fToken, x_3.fCall.fKind, x_3.fCall.fPhys, x_3.fCall.fType, x_3.fCall.fProps, x_3.fState, x_3.fPhys))))
      else
        need (inR .i64 (s_1.1 + 1)) <|
        some (.nx (s_1.1 + 1, s_1.2.1, s_1.2.2.1, s_1.2.2.2.1, s_1.2.2.2.2.1, s_1.2.2.2.2.2.1, s_1.2.2.2.2.2.2.1, s_1.2.2.2.2.2.2.2.1, s_1.2.2.2.2.2.2.2.2.1, s_1.2.2.2.2.2.2.2.2.2)))
    else
      some (.br (.inr (s_1.2.1, s_1.2.2.1, s_1.2.2.2.1, s_1.2.2.2.2.1, s_1.2.2.2.2.2.1, s_1.2.2.2.2.2.2.1, s_1.2.2.2.2.2.2.2.1, s_1.2.2.2.2.2.2.2.2.1, s_1.2.2.2.2.2.2.2.2.2)))
def forward_first (n : Nat) (d0 : List TR0) (d1_0 : Int) (d1_1 : Int) : Option (TR0 × Bool) :=
  (loopF (forward_first_s1 n d0 d1_0 d1_1) n ((0 : Int), (0 : Int), (0 : Int), (0 : Int), (0 : Int), ([] : List UInt8), ([] : List UInt8), ([] : List TE0), (0 : Int), ([] : List UInt8))).bind fun b_2 =>
  (match b_2 with 
  | .inl y_1 => some (((⟨y_1.1, y_1.2.1, (⟨y_1.2.2.1, y_1.2.2.2.1, y_1.2.2.2.2.1, y_1.2.2.2.2.2.1, y_1.2.2.2.2.2.2.1⟩ : TQ0), y_1.2.2.2.2.2.2.2.1, y_1.2.2.2.2.2.2.2.2⟩ : TR0), (true))) 
  | .inr y_2 => some (((⟨y_2.1, y_2.2.1, (⟨y_2.2.2.1, y_2.2.2.2.1, y_2.2.2.2.2.1, y_2.2.2.2.2.2.1, y_2.2.2.2.2.2.2.1⟩ : TQ0), y_2.2.2.2.2.2.2.2.1, y_2.2.2.2.2.2.2.2.2⟩ : TR0), (false))))
theorem forward_first_ok (n : Nat) (M : Mem) (A0 : Option Addr) (cap0 : Nat) (d0 : List TR0) (h0 : Sli M 9 emb_TR0 A0 cap0 d0) (ad1_0 : Addr) (c1_0 : List Value) (d1_0 : Int) (h1_0 : Rep M ((Dat.int .i64) d1_0) c1_0) (q1_0 : ∀ j v, c1_0[j]? = some v → M.cell? (ad1_0.add j) = some v) (ad1_1 : Addr) (c1_1 : List Value) (d1_1 : Int) (h1_1 : Rep M ((Dat.int .i8) d1_1) c1_1) (q1_1 : ∀ j v, c1_1[j]? = some v → M.cell? (ad1_1.add j) = some v) (r : TR0 × Bool) (hF : forward_first n d0 d1_0 d1_1 = some r) : Ok Tryz.prog M 69 [.slice A0 d0.length cap0, .func (.func 70) #[] #[.pointer (some ad1_0), .pointer (some ad1_1)]] (fun M' v => ∃ (c0 : List Value), v = .tuple #[.agg c0.toArray, .bool r.2] ∧ Rep M' (emb_TR0 r.1) c0) := by
 unfold forward_first at hF
 intro M1 hM0 w0 H w p0
 replace h0 := h0.mono hM0
 replace h1_0 := Rep.mono hM0 _ _ h1_0
 replace q1_0 := fun j v h => hM0.cell (q1_0 j v h)
 replace h1_1 := Rep.mono hM0 _ _ h1_1
 replace q1_1 := fun j v h => hM0.cell (q1_1 j v h)
 obtain rfl : c1_0 = [.int .i64 d1_0] := h1_0
 obtain rfl : c1_1 = [.int .i8 d1_1] := h1_1
 refine R_enter 23 Tryz.func69 rfl rfl (by simp) fun a0 f0 => RR (Y11 f0 p0 (.cells #[.int .i64 0, .int .i8 0, .int .i64 0, .int .i8 0, S [], S [], .slice none 0 0, .int .i8 0, S []] 44 (0, 0)) fun b_1 w_1 p_1 _ f => Y f 1 fun _ f => eT (R_seq (RR (Y f 3 fun _ f => eT (wp_block ?_)))))
 obtain ⟨b_2, hL_1, hF_1⟩ := bS hF
 refine wp_mono (Q := fun e a w => (e = .ret ∧ (∃ y_1 : Int × Int × Int × Int × List UInt8 × List UInt8 × List TE0 × Int × List UInt8, b_2 = .inl y_1 ∧ ∃ M_2 : Mem, M1.le M_2 ∧ ∃ (A_4 : Option Addr), ∃ (cap_4 : Nat), Sli M_2 8 emb_TE0 A_4 cap_4 y_1.2.2.2.2.2.2.1 ∧ Frm 23 [(4, .pointer (some (⟨b_1, 0, none⟩))), (5, .bool true)] a ∧ Hp w0 M_2 ((Ent.obj b_1 (.cells #[.int .i64 y_1.1, .int .i8 y_1.2.1, .int .i64 y_1.2.2.1, .int .i8 y_1.2.2.2.1, S y_1.2.2.2.2.1, S y_1.2.2.2.2.2.1, .slice A_4 y_1.2.2.2.2.2.2.1.length cap_4, .int .i8 y_1.2.2.2.2.2.2.2.1, S y_1.2.2.2.2.2.2.2.2] 44 (0, 0))) :: H) w)) ∨ (e = .exit 0 ∧ (∃ y_2 : Int × Int × Int × Int × List UInt8 × List UInt8 × List TE0 × Int × List UInt8, b_2 = .inr y_2 ∧ ∃ M_3 : Mem, M1.le M_3 ∧ ∃ (A_5 : Option Addr), ∃ (cap_5 : Nat), Sli M_3 8 emb_TE0 A_5 cap_5 y_2.2.2.2.2.2.2.1 ∧ Frm 23 [(4, .pointer (some (⟨b_1, 0, none⟩)))] a ∧ Hp w0 M_3 ((Ent.obj b_1 (.cells #[.int .i64 y_2.1, .int .i8 y_2.2.1, .int .i64 y_2.2.2.1, .int .i8 y_2.2.2.2.1, S y_2.2.2.2.2.1, S y_2.2.2.2.2.2.1, .slice A_5 y_2.2.2.2.2.2.2.1.length cap_5, .int .i8 y_2.2.2.2.2.2.2.2.1, S y_2.2.2.2.2.2.2.2.2] 44 (0, 0))) :: H) w))) (R_loop (n := 23) (w0 := w0) (M := M1) (fun (x : Nat × (Int × Int × Int × Int × Int × List UInt8 × List UInt8 × List TE0 × Int × List UInt8) × (Option Addr) × Nat) => match x with | (m_1, s_1, A_1, cap_1) => [(0, .slice A0 d0.length cap0), (1, .func (.func 70) #[] #[.pointer (some ad1_0), .pointer (some ad1_1)]), (4, .pointer (some (⟨b_1, 0, none⟩))), (8, .int .i64 ((d0.length : Nat) : Int)), (9, .int .i64 s_1.1)]) (fun (x : Nat × (Int × Int × Int × Int × Int × List UInt8 × List UInt8 × List TE0 × Int × List UInt8) × (Option Addr) × Nat) => match x with | (m_1, s_1, A_1, cap_1) => ((Ent.obj b_1 (.cells #[.int .i64 s_1.2.1, .int .i8 s_1.2.2.1, .int .i64 s_1.2.2.2.1, .int .i8 s_1.2.2.2.2.1, S s_1.2.2.2.2.2.1, S s_1.2.2.2.2.2.2.1, .slice A_1 s_1.2.2.2.2.2.2.2.1.length cap_1, .int .i8 s_1.2.2.2.2.2.2.2.2.1, S s_1.2.2.2.2.2.2.2.2.2] 44 (0, 0))) :: H)) (fun (x : Nat × (Int × Int × Int × Int × Int × List UInt8 × List UInt8 × List TE0 × Int × List UInt8) × (Option Addr) × Nat) (MM : Mem) => match x with | (m_1, s_1, A_1, cap_1) => loopF (forward_first_s1 n d0 d1_0 d1_1) m_1 s_1 = some b_2 ∧ Sli MM 8 emb_TE0 A_1 cap_1 s_1.2.2.2.2.2.2.2.1) (fun (x : Nat × (Int × Int × Int × Int × Int × List UInt8 × List UInt8 × List TE0 × Int × List UInt8) × (Option Addr) × Nat) => match x with | (m_1, s_1, A_1, cap_1) => m_1) (n, ((0 : Int), (0 : Int), (0 : Int), (0 : Int), (0 : Int), ([] : List UInt8), ([] : List UInt8), ([] : List TE0), (0 : Int), ([] : List UInt8)), none, 0) (f.kp) p_1 ⟨hL_1, Sli.nil⟩ ?_) ?_
 ·rintro ⟨m_1, s_1, A_1, cap_1⟩ M_1 _ w_2 hM_1 I_1 f p_2
  obtain ⟨I_1L, h_1⟩ := I_1
  obtain ⟨m_2, r_1, rfl, hs_1, hn_1⟩ := loop_step I_1L
  unfold forward_first_s1 at hs_1
  refine RR (Y f 1 fun _ f => eT (R_seq (RcF f hs_1 (fun h_2 hF_2 => ?_) fun h_2 hF_9 => ?_)))
  ·have k_1 := dI.1 h_2
   refine wp_skip (T_n (R_seq (wp_block (RR (Y f 2 fun _ f => eT (RR (Y f 3 fun _ f => ?_)))))))
   obtain ⟨x_1, hx_1, hF_3⟩ := bS hF_2
   obtain ⟨ad_1, c_1, e_1, -, hr_1, hc_1⟩ := Sli.at_ (h0.mono hM_1) hx_1
   obtain ⟨A_2, cap_2, rfl, h_3⟩ := TR0.opn hr_1
   refine Z f (Y28 e_1 rfl (len := d0.length) (cap := cap0) (k := .i64) (i := s_1.1) (e := 44) (sz := 9) (getI_nn hx_1) (getI_lt hx_1)) fun _ f => ?_
   obtain ⟨x_2, hx_2, hF_4⟩ := bS hF_3
   refine Y17 f p_2 (forward_Task_1_ok n _ (ad_1.add (s_1.1.toNat * 9)) [.int .i64 x_1.fChange, .int .i8 x_1.fPhase, .int .i64 x_1.fCall.fToken, .int .i8 x_1.fCall.fKind, S x_1.fCall.fPhys, S x_1.fCall.fType, .slice A_2 x_1.fCall.fProps.length cap_2, .int .i8 x_1.fState, S x_1.fPhys] x_1 (TR0.shutx (x := x_1) h_3) (fz_at (hc_1) 0 rfl) ad1_0 [.int .i64 d1_0] d1_0 (rfl) (fz_at ((fzu hM_1 q1_0)) 0 rfl) ad1_1 [.int .i8 d1_1] d1_1 (rfl) (fz_at ((fzu hM_1 q1_1)) 0 rfl) x_2 hx_2) fun w_3 p_3 _ f => eT (RcF f hF_4 (fun h_4 hF_5 => ?_) fun h_4 hF_7 => ?_)
   ·refine RR (Y f 2 fun _ f => ?_)
    obtain ⟨x_3, hx_3, hF_6⟩ := bS hF_5
    obtain ⟨ad_2, c_2, e_2, -, hr_2, hc_2⟩ := Sli.at_ (h0.mono hM_1) hx_3
    obtain ⟨A_3, cap_3, rfl, h_5⟩ := TR0.opn hr_2
    refine Z f (Y28 e_2 rfl (len := d0.length) (cap := cap0) (k := .i64) (i := s_1.1) (e := 44) (sz := 9) (getI_nn hx_3) (getI_lt hx_3)) fun _ f => Z (v := .agg #[.int .i64 x_3.fChange, .int .i8 x_3.fPhase, .int .i64 x_3.fCall.fToken, .int .i8 x_3.fCall.fKind, S x_3.fCall.fPhys, S x_3.fCall.fType, .slice A_3 x_3.fCall.fProps.length cap_3, .int .i8 x_3.fState, S x_3.fPhys]) f (Y30 (cs := [.int .i64 x_3.fChange, .int .i8 x_3.fPhase, .int .i64 x_3.fCall.fToken, .int .i8 x_3.fCall.fKind, S x_3.fCall.fPhys, S x_3.fCall.fType, .slice A_3 x_3.fCall.fProps.length cap_3, .int .i8 x_3.fState, S x_3.fPhys]) rfl (ad := ad_2.add (s_1.1.toNat * 9)) (fun j v h => p_3.cell (hc_2 j v h))) fun _ f => Y26 (vs := [.int .i64 x_3.fChange, .int .i8 x_3.fPhase, .int .i64 x_3.fCall.fToken, .int .i8 x_3.fCall.fKind, S x_3.fCall.fPhys, S x_3.fCall.fType, .slice A_3 x_3.fCall.fProps.length cap_3, .int .i8 x_3.fState, S x_3.fPhys]) (j := 0) f p_3 rfl rfl (by simp [Value.oneCell', S]) (by simp) (by decide) (cs' := #[.int .i64 x_3.fChange, .int .i8 x_3.fPhase, .int .i64 x_3.fCall.fToken, .int .i8 x_3.fCall.fKind, S x_3.fCall.fPhys, S x_3.fCall.fType, .slice A_3 x_3.fCall.fProps.length cap_3, .int .i8 x_3.fState, S x_3.fPhys]) fun w_4 p_4 _ f => Y f 1 fun _ f => eT (wp_ret (B_r (T_r (T_r ?_))))
    obtain rfl := sI hF_6
    exact .inl ⟨rfl, (x_3.fChange, x_3.fPhase, x_3.fCall.fToken, x_3.fCall.fKind, x_3.fCall.fPhys, x_3.fCall.fType, x_3.fCall.fProps, x_3.fState, x_3.fPhys), (sI hn_1).symm, M_1, hM_1, A_3, cap_3, h_5, f.kp, p_4⟩
   ·refine wp_skip (B_n (T_n (R_reg ?_)))
    obtain ⟨g_1, hF_8⟩ := nS hF_7
    refine Y f 1 fun _ f => ?_
    have f := f.st 21 (congrArg (Value.int .i64) (inR_wrap g_1))
    refine Y f 1 fun _ f => eT ?_
    obtain rfl := sI hF_8
    exact ⟨⟨m_2, (s_1.1 + 1, s_1.2.1, s_1.2.2.1, s_1.2.2.2.1, s_1.2.2.2.2.1, s_1.2.2.2.2.2.1, s_1.2.2.2.2.2.2.1, s_1.2.2.2.2.2.2.2.1, s_1.2.2.2.2.2.2.2.2.1, s_1.2.2.2.2.2.2.2.2.2), A_1, cap_1⟩, Nat.lt_succ_self _, M_1, hM_1, ⟨hn_1, h_1⟩, f.kp, p_3⟩
  ·have k_4 := iff_f dI h_2
   refine wp_exit (T_x (T_x ?_))
   obtain rfl := sI hF_9
   exact .inr ⟨rfl, (s_1.2.1, s_1.2.2.1, s_1.2.2.2.1, s_1.2.2.2.2.1, s_1.2.2.2.2.2.1, s_1.2.2.2.2.2.2.1, s_1.2.2.2.2.2.2.2.1, s_1.2.2.2.2.2.2.2.2.1, s_1.2.2.2.2.2.2.2.2.2), (sI hn_1).symm, M_1, hM_1, A_1, cap_1, h_1, f.kp, p_2⟩
 ·rintro _ _ w_7 (⟨rfl, y_1, rfl, M_2, hM_2, A_4, cap_4, h_6, f, p_5⟩ | ⟨rfl, y_2, rfl, M_3, hM_3, A_5, cap_5, h_7, f, p_6⟩)
  ·refine B_r (T_r (E_rv2 f rfl (Y9 (cs := [.int .i64 y_1.1, .int .i8 y_1.2.1, .int .i64 y_1.2.2.1, .int .i8 y_1.2.2.2.1, S y_1.2.2.2.2.1, S y_1.2.2.2.2.2.1, .slice A_4 y_1.2.2.2.2.2.2.1.length cap_4, .int .i8 y_1.2.2.2.2.2.2.2.1, S y_1.2.2.2.2.2.2.2.2]) (ad := ⟨b_1, 0, none⟩) f (own_cells (p_5.ownCell 0 rfl) 0 rfl)) (Y10 (v := .bool true) f) ?_))
   obtain rfl := sI hF_1
   exact ⟨_, rfl, M_2, hM_2, (p_5.dropN 1), ⟨[.int .i64 y_1.1, .int .i8 y_1.2.1, .int .i64 y_1.2.2.1, .int .i8 y_1.2.2.2.1, S y_1.2.2.2.2.1, S y_1.2.2.2.2.2.1, .slice A_4 y_1.2.2.2.2.2.2.1.length cap_4, .int .i8 y_1.2.2.2.2.2.2.2.1, S y_1.2.2.2.2.2.2.2.2], rfl, (TR0.shut h_6)⟩⟩
  ·refine B_x (T_n (RR (Z (v := .agg #[.int .i64 y_2.1, .int .i8 y_2.2.1, .int .i64 y_2.2.2.1, .int .i8 y_2.2.2.2.1, S y_2.2.2.2.2.1, S y_2.2.2.2.2.2.1, .slice A_5 y_2.2.2.2.2.2.2.1.length cap_5, .int .i8 y_2.2.2.2.2.2.2.2.1, S y_2.2.2.2.2.2.2.2.2]) f (Y30 (cs := [.int .i64 y_2.1, .int .i8 y_2.2.1, .int .i64 y_2.2.2.1, .int .i8 y_2.2.2.2.1, S y_2.2.2.2.2.1, S y_2.2.2.2.2.2.1, .slice A_5 y_2.2.2.2.2.2.2.1.length cap_5, .int .i8 y_2.2.2.2.2.2.2.2.1, S y_2.2.2.2.2.2.2.2.2]) rfl (ad := ⟨b_1, 0, none⟩) (own_cells (p_6.ownCell 0 rfl) 0 rfl)) fun _ f => Y26 (vs := [.int .i64 y_2.1, .int .i8 y_2.2.1, .int .i64 y_2.2.2.1, .int .i8 y_2.2.2.2.1, S y_2.2.2.2.2.1, S y_2.2.2.2.2.2.1, .slice A_5 y_2.2.2.2.2.2.2.1.length cap_5, .int .i8 y_2.2.2.2.2.2.2.2.1, S y_2.2.2.2.2.2.2.2.2]) (j := 0) f p_6 rfl rfl (by simp [Value.oneCell', S]) (by simp) (by decide) (cs' := #[.int .i64 y_2.1, .int .i8 y_2.2.1, .int .i64 y_2.2.2.1, .int .i8 y_2.2.2.2.1, S y_2.2.2.2.2.1, S y_2.2.2.2.2.2.1, .slice A_5 y_2.2.2.2.2.2.2.1.length cap_5, .int .i8 y_2.2.2.2.2.2.2.2.1, S y_2.2.2.2.2.2.2.2.2]) fun w_8 p_7 _ f => Y f 1 fun _ f => eT (wp_ret (E_rv2 f rfl (Y9 (cs := [.int .i64 y_2.1, .int .i8 y_2.2.1, .int .i64 y_2.2.2.1, .int .i8 y_2.2.2.2.1, S y_2.2.2.2.2.1, S y_2.2.2.2.2.2.1, .slice A_5 y_2.2.2.2.2.2.2.1.length cap_5, .int .i8 y_2.2.2.2.2.2.2.2.1, S y_2.2.2.2.2.2.2.2.2]) (ad := ⟨b_1, 0, none⟩) f (own_cells (p_7.ownCell 0 rfl) 0 rfl)) (Y10 (v := .bool false) f) ?_)))))
   obtain rfl := sI hF_1
   exact ⟨_, rfl, M_3, hM_3, (p_7.dropN 1), ⟨[.int .i64 y_2.1, .int .i8 y_2.2.1, .int .i64 y_2.2.2.1, .int .i8 y_2.2.2.2.1, S y_2.2.2.2.2.1, S y_2.2.2.2.2.2.1, .slice A_5 y_2.2.2.2.2.2.2.1.length cap_5, .int .i8 y_2.2.2.2.2.2.2.2.1, S y_2.2.2.2.2.2.2.2.2], rfl, (TR0.shut h_7)⟩⟩
def forward_Task (n : Nat) (d0 : TK0) (d1 : Int) (d2 : Int) : Option (TR0 × Bool) :=
  (forward_first n d0.fTasks d1 d2).bind fun x_1 =>
  some ((x_1.1, (x_1.2)))
theorem forward_Task_ok (n : Nat) (M : Mem) (c0 : List Value) (d0 : TK0) (h0 : Rep M (emb_TK0 d0) c0) (d1 : Int) (d2 : Int) (r : TR0 × Bool) (hF : forward_Task n d0 d1 d2 = some r) : Ok Tryz.prog M 35 [.agg c0.toArray, .int .i64 d1, .int .i8 d2] (fun M' v => ∃ (c0 : List Value), v = .tuple #[.agg c0.toArray, .bool r.2] ∧ Rep M' (emb_TR0 r.1) c0) := by
 unfold forward_Task at hF
 intro M1 hM0 w0 H w p0
 replace h0 := Rep.mono hM0 _ _ h0
 obtain ⟨A_1, cap_1, A_2, cap_2, A_3, cap_3, A_4, cap_4, A_5, cap_5, A_6, cap_6, A_7, cap_7, A_8, cap_8, A_9, cap_9, A_10, cap_10, rfl, h_1, h_2, h_3, h_4, h_5, h_6, h_7, h_8, h_9, h_10⟩ := TK0.opn h0
 refine R_enter 14 Tryz.func35 rfl rfl (by simp) fun a0 f0 => RR (Y12 (cs := #[.int .i8 d0.fKind, .int .i64 d0.fWidth, .slice A_1 d0.fOld.fOwned.length cap_1, .slice A_2 d0.fOld.fPending.length cap_2, .slice A_3 d0.fOld.fRetained.length cap_3, .slice A_4 d0.fOld.fOuts.length cap_4, S d0.fOld.fText, .slice A_5 d0.fOld.fArgs.length cap_5, .int .i64 d0.fOld.fCalls, .int .i8 d0.fOld.fStatus, .slice A_6 d0.fNew.fScopes.length cap_6, .slice A_7 d0.fNew.fNodes.length cap_7, S d0.fText, .slice A_8 d0.fArgs.length cap_8, .slice A_9 d0.fChanges.length cap_9, .slice A_10 d0.fTasks.length cap_10, .int .i8 d0.fPhase, .int .i8 d0.fStatus]) (T := 34) f0 p0 fun b_1 M_1 w_1 hM_1 hc_1 p_1 _ f => ?_)
 have hc_2 := fz_box hc_1
 refine Y12 (cs := #[.int .i64 d1]) (T := 3) f p_1 fun b_2 M_2 w_2 hM_2 hc_3 p_2 _ f => ?_
 have hc_4 := fz_box hc_3
 refine Y12 (cs := #[.int .i8 d2]) (T := 22) f p_2 fun b_3 M_3 w_3 hM_3 hc_5 p_3 _ f => ?_
 have hc_6 := fz_box hc_5
 refine Y11 f p_3 (.cells #[.int .i64 0, .int .i8 0, .int .i64 0, .int .i8 0, S [], S [], .slice none 0 0, .int .i8 0, S []] 44 (0, 0)) fun b_4 w_4 p_4 _ f => Y f 1 fun _ f => eT (RR (Y f 1 fun _ f => Y14 f p_4 (fzu (hM_2.trans hM_3) hc_2) 15 rfl fun _ f => Y f 1 fun _ f => ?_))
 obtain ⟨x_1, hx_1, hF_1⟩ := bS hF
 refine Y15 f p_4 (forward_first_ok n _ A_10 cap_10 d0.fTasks (h_10.mono ((hM_1.trans hM_2).trans hM_3)) (⟨b_2, 0, none⟩) [.int .i64 d1] d1 (rfl) (fz_at ((fzu hM_3 hc_4)) 0 rfl) (⟨b_3, 0, none⟩) [.int .i8 d2] d2 (rfl) (fz_at (hc_6) 0 rfl) x_1 hx_1) fun _ M_4 w_5 hM_4 p_5 q_1 _ f => ?_
 obtain ⟨c_1, rfl, hr_1⟩ := q_1
 obtain ⟨A_11, cap_11, rfl, h_11⟩ := TR0.opn hr_1
 refine Y f 2 fun _ f => Y26 (vs := [.int .i64 x_1.1.fChange, .int .i8 x_1.1.fPhase, .int .i64 x_1.1.fCall.fToken, .int .i8 x_1.1.fCall.fKind, S x_1.1.fCall.fPhys, S x_1.1.fCall.fType, .slice A_11 x_1.1.fCall.fProps.length cap_11, .int .i8 x_1.1.fState, S x_1.1.fPhys]) (j := 0) f p_5 rfl rfl (by simp [Value.oneCell', S]) (by simp) (by decide) (cs' := #[.int .i64 x_1.1.fChange, .int .i8 x_1.1.fPhase, .int .i64 x_1.1.fCall.fToken, .int .i8 x_1.1.fCall.fKind, S x_1.1.fCall.fPhys, S x_1.1.fCall.fType, .slice A_11 x_1.1.fCall.fProps.length cap_11, .int .i8 x_1.1.fState, S x_1.1.fPhys]) fun w_6 p_6 _ f => Y f 1 fun _ f => eT (wp_ret (E_rv2 f rfl (Y9 (cs := [.int .i64 x_1.1.fChange, .int .i8 x_1.1.fPhase, .int .i64 x_1.1.fCall.fToken, .int .i8 x_1.1.fCall.fKind, S x_1.1.fCall.fPhys, S x_1.1.fCall.fType, .slice A_11 x_1.1.fCall.fProps.length cap_11, .int .i8 x_1.1.fState, S x_1.1.fPhys]) (ad := ⟨b_4, 0, none⟩) f (own_cells (p_6.ownCell 0 rfl) 0 rfl)) (Y10 (v := .bool x_1.2) f) ?_))
 obtain rfl := sI hF_1
 exact ⟨_, rfl, M_4, (((hM_1.trans hM_2).trans hM_3).trans hM_4), (p_6.dropN 1), ⟨[.int .i64 x_1.1.fChange, .int .i8 x_1.1.fPhase, .int .i64 x_1.1.fCall.fToken, .int .i8 x_1.1.fCall.fKind, S x_1.1.fCall.fPhys, S x_1.1.fCall.fType, .slice A_11 x_1.1.fCall.fProps.length cap_11, .int .i8 x_1.1.fState, S x_1.1.fPhys], rfl, (TR0.shutx (x := x_1.1) h_11)⟩⟩
def forward_within (n : Nat) (d0 : Int) (d1 : Int) (d2 : Int) : Option Bool :=
  bif (decide (d1 ≤ d0)) then
    (some ((decide (d0 ≤ d2))))
  else
    some ((false))
theorem forward_within_ok (n : Nat) (M : Mem) (d0 : Int) (d1 : Int) (d2 : Int) (r : Bool) (hF : forward_within n d0 d1 d2 = some r) : Ok Tryz.prog M 56 [.int .i64 d0, .int .i64 d1, .int .i64 d2] (fun _ v => v = .bool r) := by
 unfold forward_within at hF
 intro M1 hM0 w0 H w p0
 refine R_enter 15 Tryz.func56 rfl rfl (by simp) fun a0 f0 => RR (Y f0 1 fun _ f => eT (RR (Y f 4 fun _ f => ?_)))
 rcases cE hF with ⟨h_1, hF_1⟩ | ⟨h_1, hF_2⟩
 ·have k_1 := dI.1 h_1
  have f := f.st 10 (cB h_1)
  refine Y f 5 fun _ f => eT (wp_ret (E_ret1 f rfl (by kernel_rfl : Vc.look _ 6 = some (.bool (decide (d0 ≤ d2)))) ?_))
  obtain rfl := sI hF_1
  exact ⟨_, rfl, M1, (mR _), p0, rfl⟩
 ·have k_2 := iff_f dI h_1
  have f := f.st 10 (cB h_1)
  refine Y f 5 fun _ f => eT (wp_ret (E_ret1 f rfl (by kernel_rfl : Vc.look _ 6 = some (.bool false)) ?_))
  obtain rfl := sI hF_2
  exact ⟨_, rfl, M1, (mR _), p0, rfl⟩
def forward_within_2 (n : Nat) (d0 : Int) (d1 : Int) (d2 : Int) : Option Bool :=
  bif (decide (d1 ≤ d0)) then
    (some ((decide (d0 ≤ d2))))
  else
    some ((false))
theorem forward_within_2_ok (n : Nat) (M : Mem) (d0 : Int) (d1 : Int) (d2 : Int) (r : Bool) (hF : forward_within_2 n d0 d1 d2 = some r) : Ok Tryz.prog M 64 [.int .i8 d0, .int .i8 d1, .int .i8 d2] (fun _ v => v = .bool r) := by
 unfold forward_within_2 at hF
 intro M1 hM0 w0 H w p0
 refine R_enter 15 Tryz.func64 rfl rfl (by simp) fun a0 f0 => RR (Y f0 1 fun _ f => eT (RR (Y f 4 fun _ f => ?_)))
 rcases cE hF with ⟨h_1, hF_1⟩ | ⟨h_1, hF_2⟩
 ·have k_1 := dI.1 h_1
  have f := f.st 10 (cB h_1)
  refine Y f 5 fun _ f => eT (wp_ret (E_ret1 f rfl (by kernel_rfl : Vc.look _ 6 = some (.bool (decide (d0 ≤ d2)))) ?_))
  obtain rfl := sI hF_1
  exact ⟨_, rfl, M1, (mR _), p0, rfl⟩
 ·have k_2 := iff_f dI h_1
  have f := f.st 10 (cB h_1)
  refine Y f 5 fun _ f => eT (wp_ret (E_ret1 f rfl (by kernel_rfl : Vc.look _ 6 = some (.bool false)) ?_))
  obtain rfl := sI hF_2
  exact ⟨_, rfl, M1, (mR _), p0, rfl⟩
end Go.Proofs.YtfdmlionhbeebaaGreat
end
