/-
  Texts of this claim, packed (what nothing names is left out): VkL, VkM, Ty, Shelf, HdB, BackIt, B1, B5, B6, B3, B4, B7. Own work, partly printed by own programs. No condition.
-/
import Derived.Test.YtfdmlionhbeebaaPkR1
import Derived.WideKeyRuns
import Derived.Shelf.Small.Bits
import Derived.Shelf.Strconv.Itoa0
import Derived.Shelf.Sort.Plain
import Derived.Shelf.Slices.Turned
import Derived.Ground.Names2Prog
import Derived.Shelf.Slices.Clone
import Derived.Shelf.Slices.CompactI
import Derived.Shelf.Slices.CompactS
import Derived.Shelf.Slices.SearchI
import Derived.Shelf.Slices.Cells
import Derived.Shelf.Slices.In.SortNone
import Derived.Ground.SlgnProg
import Derived.Shelf.SlicesE.Clone
import Derived.Test.YtfdmlionhbeebaaProg
import Derived.Test.YtfdmlionhbeebaaRows
set_option linter.unusedVariables false
set_option linter.unusedSimpArgs false
set_option maxHeartbeats 2000000
section
namespace Go.Vc
open Go Go.RowKit
variable {dd : List Deferred}
section
variable {σ α β : Type} {P : Program} {l : Nat} {vals : Mem → α → List Value → Prop} {Y : σ → α → Option (Lp σ β)}
theorem Frm.zip2 {n : Nat} {L : Fr} {a : Act} (h : Frm n L a) {p q : Nat} (hp : Nat.blt p n = true) (hq : Nat.blt q n = true) (v u : Value) : Frm n ((q, u) :: (p, v) :: L) { tmps := ((#[p, q] : Array Tmp).zip #[v, u]).foldl (fun t (p, v) => t.setIfInBounds p v) a.tmps, defers := [] } := by
 have := (h.put (d := p) (by simpa [Nat.blt_eq] using hp) v).put (d := q) (by simpa [Nat.blt_eq] using hq) u
 have e : ((#[p, q] : Array Tmp).zip #[v, u]).foldl (fun t (p, v) => t.setIfInBounds p v) a.tmps = ((a.put (some p) v).put (some q) u).tmps := by
  simp [Act.put]
 exact ⟨by rw [e]; exact this.size, rfl, by rw [e]; exact this.at_⟩
theorem R_range2 {n : Nat} {Lf : Fr} {g : Operand} {p q : Nat} {assign body : Code} {Q : Exit → Act → World → Prop} {a : Act} {w w0 : World} {M : Mem} {H E0 : List Ent} {f : FuncId} {caps : List Value}
  (hf : Frm n Lf a) (hp : Hp w0 M (E0 ++ H) w) (hg : has Lf g = true) (hgv : ev Lf g = .func (.func f) #[] caps.toArray) (hpn : Nat.blt p n = true) (hqn : Nat.blt q n = true) (eg : ∀ args w, (callFunc f args).run P w = .ok (.enter f args) w)
  (Ju : σ → Mem → List Ent → Prop) (Jxu : β → Mem → List Ent → Prop) (jm : β → Jmp) (s0 : σ) (r : Lp σ β) (hJ : Ju s0 M E0) (hgr : Grows Ju) (hgx : Grows Jxu)
  (hv1 : ∀ M x vs, vals M x vs → ∃ v u, vs = [v, u])
  (hit : ∀ l J Jx, Grows J → Grows Jx → Yld P l vals J Jx Y → IterTo P f (.func (.yield l) #[] #[] :: caps) J Jx r s0 M)
  (round : ∀ s x r', Y s x = some r' → ∀ l w0' M' E1 Hr w1 a1 v u, M.le M' → Ju s M' E1 → vals M' x [v, u] → Hp w0' M' (E1 ++ Hr) w1 → Frm n ((q, u) :: (p, v) :: Lf) a1 →
   assign.wr (some l) P (Exit.then (fun a2 w2 => ∃ M2 E2, M'.le M2 ∧ Hp w0' M2 (E2 ++ Hr) w2 ∧ ∀ Hr' w3, Hp w0' M2 (E2 ++ Hr') w3 → body.wr (some l) P (RB Ju Jxu jm r' w0' M2 Hr') a2 w3) (fun _ _ _ => False)) a1 w1)
  (hdone : ∀ s', r = .nx s' → ∀ l D rr M' E1 w4 a', M.le M' → Ju s' M' E1 → Hp w0 M' (.obj l (.loop rr) :: .obj D (.deferred (some [])) :: (E1 ++ H)) w4 → Frm n Lf a' (mark D) → Q .normal a' w4)
  (hjump : ∀ b, r = .br b → ∀ l D rr M' E1 w4 a', M.le M' → Jxu b M' E1 → Hp w0 M' (.obj l (.loop rr) :: .obj D (.deferred (some [])) :: (E1 ++ H)) w4 → Frm n Lf a' (mark D) → Q (jm b).way a' w4) :
  (Code.rangeFunc g #[p, q] assign body).wp P Q a w := by
 refine (wpIn_wide (n := 0)).1 (wpIn_rangeFunc (F := Fence.wide) fun fn _ => ?_)
 obtain ⟨rec, hrec⟩ : ∃ rec : LoopState → Option Code → Loop, rec = fun st pe => { state := st, pending := pe, fn, tmps := a.tmps, params := #[p, q], assign, body, defers := w.heap.size } := ⟨_, rfl⟩
 obtain ⟨D, hD⟩ : ∃ D, D = w.heap.size := ⟨_, rfl⟩
 obtain ⟨l, hl⟩ : ∃ l, l = w.heap.size + 1 := ⟨_, rfl⟩
 have hg' : a.eval g = .func (.func f) #[] caps.toArray := (hf.ev hg).trans hgv
 obtain ⟨W1, hW1⟩ : ∃ W1, W1 = (w.alloc (.deferred (some []))).alloc (.loop (rec .ready none)) := ⟨_, rfl⟩
 refine ⟨l, mark D, W1, { target := .fn (.func f) caps.toArray, args := #[.func (.yield l) #[] #[]] }, W1, f,
  (.func (.yield l) #[] #[] :: caps).toArray, W1, ?_, ?_, ?_, ?_, (fun h => absurd h (by decide)), ?_⟩
 ·rw [hW1, hl, hD, hrec]; exact run_enterLoop_outer _ _ _ _ _
 ·simp only [resolve, hg']
  simp [go_sem]
 ·intro f' _; trivial
 ·simp [invoke, go_sem, eg]
 have hp1 : Hp w0 M (.obj l (.loop (rec .ready none)) :: .obj D (.deferred (some [])) :: (E0 ++ H)) W1 := by
  rw [hW1]
  have h1 := (hp.alloc (.deferred (some []))).alloc (.loop (rec .ready none))
  rw [World.size_alloc, ← hD] at h1
  rw [hl, ← hD]
  exact h1
 let J : σ → Mem → List Ent → Prop := fun s M' E => M.le M' ∧ ∃ E1, E = .obj l (.loop (rec .ready none)) :: .obj D (.deferred (some [])) :: E1 ∧ Ju s M' E1
 let Jx : β → Mem → List Ent → Prop := fun b M' E => M.le M' ∧ ∃ E1, E = .obj l (.loop (rec .done (some (jm b).code))) :: .obj D (.deferred (some [])) :: E1 ∧ Jxu b M' E1
 have hgJ : Grows J := fun s M1 M2 E h12 ⟨h1, E1, h2, h3⟩ => ⟨h1.trans h12, E1, h2, hgr _ _ _ _ h12 h3⟩
 have hgJx : Grows Jx := fun s M1 M2 E h12 ⟨h1, E1, h2, h3⟩ => ⟨h1.trans h12, E1, h2, hgx _ _ _ _ h12 h3⟩
 have hY : Yld P l vals J Jx Y := by
  intro s x r' hr' w0' M1 E Hr w1 vs ⟨hM1, E1, hE, hu⟩ hvs hp2
  subst hE
  obtain ⟨v, u, rfl⟩ := hv1 _ _ _ hvs
  have hlr : w1.heap[l]? = some (.loop (rec .ready none)) := (hp2.own _ (List.mem_cons_self)).2
  have hy := run_yield (P := P) (args := #[v, u]) hlr (by rw [hrec]; rfl)
  refine ⟨fn, _, assign, body, by rw [hrec] at hy; exact hy, roundIn_of_wpIn trivial ?_⟩
  have hp3 : Hp w0' M1 (E1 ++ (.obj l (.loop (rec .ready none)) :: .obj D (.deferred (some [])) :: Hr)) w1 := by
   refine hp2.perm ?_
   exact (List.perm_append_comm (l₁ := [_, _]) (l₂ := E1)).append_right Hr |>.trans (by simp)
  have h1 := round s x r' hr' l w0' M1 E1 _ w1 _ v u hM1 hu hvs hp3 (hf.zip2 hpn hqn v u)
  refine RI_mono h1 fun e a2 w2 hq => ?_
  cases e with
  | normal =>
   obtain ⟨M2, E2, hM2, hp4, hb⟩ := hq
   have hp5 : Hp w0' M2 (.obj l (.loop (rec .ready none)) :: (.obj D (.deferred (some [])) :: (E2 ++ Hr))) w2 := hp4.perm (by
    have := (List.perm_append_comm (l₁ := E2) (l₂ := [Ent.obj l (.loop (rec .ready none)), Ent.obj D (.deferred (some []))])).append_right Hr
    simpa using this)
   have hlr2 : w2.heap[l]? = some (.loop (rec .ready none)) := (hp5.own _ (List.mem_cons_self)).2
   have hbr := run_beginRound (P := P) hlr2 (by rw [hrec])
   have hp6 : Hp w0' M2 (.obj l (.loop (rec .busy none)) :: (.obj D (.deferred (some [])) :: (E2 ++ Hr))) (w2.putObj l (.loop { rec .ready none with state := .busy })) := by
    have := hp5.put (y := .loop { rec .ready none with state := .busy })
    rw [hrec] at this ⊢
    exact this
   have hp7 : Hp w0' M2 (E2 ++ (.obj l (.loop (rec .busy none)) :: .obj D (.deferred (some [])) :: Hr)) (w2.putObj l (.loop { rec .ready none with state := .busy })) := hp6.perm (by
    have := (List.perm_append_comm (l₁ := [Ent.obj l (.loop (rec .busy none)), Ent.obj D (.deferred (some []))]) (l₂ := E2)).append_right Hr
    simpa using this)
   refine ⟨_, hbr, RI_mono (hb _ _ hp7) fun e3 a3 w3 hq3 => ?_⟩
   have fin : ∀ (jump : Option Code) (M3 : Mem) (E3 : List Ent), Hp w0' M3 (E3 ++ (.obj l (.loop (rec .busy none)) :: .obj D (.deferred (some [])) :: Hr)) w3 →
     ∃ w4, (Instr.endRound l jump).run P w3 = .ok (.bool jump.isNone) w4 ∧ Hp w0' M3 ((.obj l (.loop (rec (if jump.isNone then .ready else .done) jump)) :: .obj D (.deferred (some [])) :: E3) ++ Hr) w4 := fun jump M3 E3 hq => by
    have hq1 : Hp w0' M3 (.obj l (.loop (rec .busy none)) :: (.obj D (.deferred (some [])) :: (E3 ++ Hr))) w3 := hq.perm (by
     have := (List.perm_append_comm (l₁ := E3) (l₂ := [Ent.obj l (.loop (rec .busy none)), Ent.obj D (.deferred (some []))])).append_right Hr
     simpa using this)
    have hlr3 : w3.heap[l]? = some (.loop (rec .busy none)) := (hq1.own _ (List.mem_cons_self)).2
    refine ⟨_, run_endRound jump hlr3, ?_⟩
    have := hq1.put (y := .loop { rec .busy none with state := if jump.isNone then .ready else .done, pending := jump })
    rw [hrec] at this ⊢
    exact this
   unfold RB at hq3
   cases r' with
   | nx s' =>
    obtain ⟨rfl, M3, E3, hM3, hp8, hu3⟩ := hq3
    obtain ⟨w4, he, hp9⟩ := fin none M3 E3 hp8
    exact ⟨_, w4, he, M3, _, hM2.trans hM3, hp9, rfl, hM1.trans (hM2.trans hM3), E3, rfl, hu3⟩
   | br b =>
    obtain ⟨he3, M3, E3, hM3, hp8, hu3⟩ := hq3
    obtain ⟨w4, he, hp9⟩ := fin (some (jm b).code) M3 E3 hp8
    cases hj : jm b with
    | ret =>
     rw [hj] at he3
     cases he3
     rw [hj] at he hp9
     exact ⟨_, w4, he, M3, _, hM2.trans hM3, hp9, rfl, hM1.trans (hM2.trans hM3), E3, by rw [hj]; rfl, hu3⟩
    | exit id =>
     rw [hj] at he3
     cases he3
     rw [hj] at he hp9
     exact ⟨_, w4, he, M3, _, hM2.trans hM3, hp9, rfl, hM1.trans (hM2.trans hM3), E3, by rw [hj]; rfl, hu3⟩
  | _ => exact hq.elim
 have hcall := hit l J Jx hgJ hgJx hY w0 M (.obj l (.loop (rec .ready none)) :: .obj D (.deferred (some [])) :: E0) H _ (Mem.le_refl M) ⟨Mem.le_refl M, E0, rfl, hJ⟩ hp1
 refine CallsIn.mono (callsIn_wide.2 hcall) ?_
 rintro e w3 ⟨v, rfl, M', E', hM', hp4, hr⟩
 have hfm := hf.marked D
 cases hrr : r with
 | nx s' =>
  rw [hrr] at hr
  obtain ⟨_, E1, rfl, hu⟩ := hr
  have hlr : w3.heap[l]? = some (.loop (rec .ready none)) := (hp4.own _ (List.mem_cons_self)).2
  have he := run_endLoop (P := P) hlr (by rw [hrec]; simp)
  have hpe : (rec .ready none).pending = none := by rw [hrec]
  rw [hpe] at he
  refine ⟨none, _, he, ?_⟩
  exact hdone s' hrr l D _ M' E1 _ _ hM' hu hp4.put hfm
 | br b =>
  rw [hrr] at hr
  obtain ⟨_, E1, rfl, hu⟩ := hr
  have hlr : w3.heap[l]? = some (.loop (rec .done (some (jm b).code))) := (hp4.own _ (List.mem_cons_self)).2
  have he := run_endLoop (P := P) hlr (by rw [hrec]; simp)
  have hpe : (rec .done (some (jm b).code)).pending = some (jm b).code := by rw [hrec]
  refine ⟨some (jm b).code, _, he.trans (congrArg (fun z => Result.ok z _) hpe), ?_⟩
  have hp5 := hp4.put (y := .loop { rec .done (some (jm b).code) with state := .exhausted })
  have h5 := hjump b hrr l D _ M' E1 _ _ hM' hu hp5 hfm
  cases hj : jm b with
  | ret => rw [hj] at h5; exact wpIn_ret h5
  | exit id => rw [hj] at h5; exact wpIn_exit h5
end
section
variable {P : Program} {ops : Array Oper} {Q Q' : Exit → Act → World → Prop} {ro : Option Nat} {a : Act} {w : World}
theorem op_in' {o : Oper} {K K' : Act → World → Prop} (hd : ∀ c, o.op ≠ .defer c) (hQ : ∀ e a w, Q' e a w → e = .normal) (hK : ∀ a w, K a w → K' a w) (h : o.wp P a w K Q') : o.wpIn (fen ro) 0 P a w K' Q := by
 refine ⟨fun f _ => fen_fn f, ?_⟩
 rw [fen_round, Oper.semAt_eq ro _ _ hd]
 unfold Oper.wp at h
 generalize (execOp a.eval o).run P w = r at h ⊢
 cases r with
 | ok x w' =>
  cases x with
  | value v => exact hK _ _ h
  | skip => exact hK _ _ h
  | defer d => exact hK _ _ h
  | enter f args =>
   refine ⟨fen_depth, calls_in (Calls.mono h fun e w'' he => ?_)⟩
   cases e with
   | returned v => exact hK _ _ he
   | panicked c => cases hQ _ _ _ he
   | outgrown =>
    obtain ⟨a', w', h2⟩ := he
    cases hQ _ _ _ h2
  | row row args => exact ⟨fen_depth, rows_in (_root_.Go.Rows.mono h fun v w'' he => hK _ _ he)⟩
  | _ => exact h.elim
 | halt x w' =>
  cases x with
  | panic v => cases hQ _ _ _ h
  | _ => exact h.elim
theorem list_in_then (rest : List Oper) : ∀ (l : List Oper), noDefer l = true → ∀ (a : Act) (w : World), wpList P ops (fun e a w => e = .normal ∧ wpListIn (fen ro) 0 P ops Q rest a w) l a w → wpListIn (fen ro) 0 P ops Q (l ++ rest) a w
 | [], _, a, w, h => h.2
 | o :: l, hd, a, w, h => by
  have hd' : noDefer l = true := by
   unfold noDefer at hd ⊢
   rw [List.all_cons, Bool.and_eq_true] at hd
   exact hd.2
  simp only [wpList] at h
  simp only [List.cons_append, wpListIn]
  split
  ·rename_i hw
   rw [if_pos hw] at h
   rcases h with h | h
   ·exact op_in' (noDefer_at hd (by simp)) (fun _ _ _ h => h.1) (list_in_then rest l hd') h
   ·obtain ⟨a', w', h2, _⟩ := h.2
    cases h2
  ·rename_i hw
   rw [if_neg hw] at h
   exact ⟨fun f _ => fen_fn f, list_in_then rest l hd' _ _ h⟩
theorem WI_pre {l : List Oper} (m : Nat) (hd : noDefer (l.take m) = true) (h : wpList P ops (fun e a w => e = .normal ∧ wpListIn (fen ro) 0 P ops Q (l.drop m) a w) (l.take m) a w) : wpListIn (fen ro) 0 P ops Q l a w := by
 have := list_in_then (l.drop m) (l.take m) hd a w h
 rwa [List.take_append_drop] at this
theorem WI_reg {id : Nat} (h : wpListIn (fen none) 0 P ops Q ops.toList a w) : (Code.region id ops false).wp P Q a w := RI_out (wpIn_region_list h)
end
def vals2 {α : Type} (f : Mem → α → Value → Prop) (M : Mem) (x : Int × α) (vs : List Value) : Prop := ∃ u, vs = [.int .i64 x.1, u] ∧ f M x.2 u
def vstr {α : Type} (emb : α → Dat) (M : Mem) (x : α) (u : Value) : Prop := ∃ cs, u = .agg cs.toArray ∧ Rep M (emb x) cs
def vint (k : IntKind) (_ : Mem) (x : Int) (u : Value) : Prop := u = .int k x
def enumF {α : Type} : Int → List α → List (Int × α)
  | _, [] => []
  | i, x :: r => (i, x) :: enumF (i + 1) r
def backI {α : Type} (l : List α) : List (Int × α) := (enumF 0 l).reverse
theorem enumF_app {α : Type} : ∀ (l m : List α) (i : Int), enumF i (l ++ m) = enumF i l ++ enumF (i + l.length) m
 | [], m, i => by simp [enumF]
 | x :: l, m, i => by
  simp only [List.cons_append, enumF, enumF_app l m, List.length_cons]
  rw [show i + 1 + (l.length : Int) = i + ((l.length + 1 : Nat) : Int) by omega]
theorem back_take {α : Type} {l : List α} {k : Nat} (h : k < l.length) : backI (l.take (k + 1)) = ((k : Int), l[k]) :: backI (l.take k) := by
 unfold backI
 rw [List.take_succ_eq_append_getElem h, enumF_app, List.reverse_append]
 simp [enumF, Nat.min_eq_left (Nat.le_of_lt h)]
end Go.Vc
end

section
namespace Go.Vc
open Go Go.RowKit Go.WideShapes
variable {dd : List Deferred}
structure KeyRun (P : Program) (t : TypeId) {κ : Type} [DecidableEq κ] (enc : κ → Value) : Prop where
  ch : ∀ w e k, (Instr.checkKey e 10000 t (enc k)).run P w = .ok () w
  wide : (match P.underlying t with | some (.array _ _) | some (.struct _) => true | _ => false) = true
  eq : ∀ w a b, (Op.equal t (enc a) (enc b)).run P w = .ok (decide (a = b)) w
  same : ∀ a, Instr.sameBits 10000 (enc a) (enc a) = true
section
variable {P : Program} {κ : Type} [DecidableEq κ] {enc : κ → Value} {kt : TypeId}
theorem KeyRun.ask (K : KeyRun P kt enc) (w : World) (k : κ) : ∀ (m : List (κ × Value)) (n j : Nat), (Instr.findAsking kt (enc k) ((m.zipIdx n).map (mEnt enc)) j).run P w = .ok (lkAt k m j) w
 | [], n, j => by simp [Instr.findAsking, lkAt]
 | p :: r, n, j => by
  simp only [List.zipIdx_cons, List.map_cons, Instr.findAsking, Sem.run_bind]
  have he : (Op.equal kt (enc k) (mEnt enc (p, n)).key).run P w = .ok (decide (k = p.1)) w := K.eq w k p.1
  rw [he]
  by_cases e : p.1 = k
  ·have e' : k = p.1 := e.symm
   simp [e', lkAt, mEnt]
  ·have e' : ¬ k = p.1 := fun x => e x.symm
   simp only [e', decide_false, Result.andThen_ok, Bool.false_eq_true, if_false, lkAt, e]
   exact K.ask w k r (n + 1) (j + 1)
theorem KeyRun.find (K : KeyRun P kt enc) (w : World) (k : κ) (m : List (κ × Value)) : (Instr.findKey kt (enc k) (m.zipIdx.map (mEnt enc))).run P w = .ok (lkAt k m 0) w := by
 exact (run_findKey_eq w K.wide _ _).trans (K.ask w k m 0 0)
variable {w : World} {ρ : Operand → Value} {o : Oper}
theorem X_lookupS {t et : TypeId} {x ix : Operand} {ok : Bool} {b : Nat} {m : List (κ × Value)} {k : κ} {z : Value} (ho : o.op = .lookup t x ix ok) (hx : ρ x = .map (some b)) (hk : ρ ix = enc k) (ht : P.underlying t = some (.map kt et)) (K : KeyRun P kt enc)
  (hz : (P.info? et).bind (·.zero) = some z) (hb : w.heap[b]? = some (mObj enc m)) :
  (execOp ρ o).run P w = .ok (.value (if ok then .tuple #[((lkAt k m 0).map (·.2)).getD z, .bool (lkAt k m 0).isSome] else ((lkAt k m 0).map (·.2)).getD z)) w := by
 have hzero : (zeroValue et).run P w = .ok z w := by
  cases hi : P.info? et with
  | none => simp [hi] at hz
  | some i => simp only [hi, Option.bind_some] at hz; simp [zeroValue, typeInfo, hi, hz]
 have hg : (getObj b).run P w = .ok (mObj enc m) w := run_getObj hb (mObj_ne m)
 unfold execOp
 simp only [ho, hx, hk, Instr.lookup, Sem.run_bind, run_underlying ht, Result.andThen_ok, hg]
 simp only [mObj, Sem.run_bind, Sem.run_pure, Result.andThen_ok, K.ch, K.find]
 cases lkAt k m 0 with
 | none => simp [hzero]
 | some p => simp
theorem X_mapUpdateS {t et : TypeId} {x ix y : Operand} {b : Nat} {m : List (κ × Value)} {k : κ} {v : Value} (ho : o.op = .mapUpdate t x ix y ∨ o.op = .insert t x ix y) (hx : ρ x = .map (some b)) (hk : ρ ix = enc k) (hv : ρ y = v) (ht : P.underlying t = some (.map kt et)) (K : KeyRun P kt enc)
  (hb : w.heap[b]? = some (mObj enc m)) : (execOp ρ o).run P w = .ok .skip { w with heap := w.heap.setIfInBounds b (mObj enc (updM m k v)) } := by
 have hg : (getObj b).run P w = .ok (mObj enc m) w := run_getObj hb (mObj_ne m)
 have hs : ∀ y : Obj, (setObj b y).run P w = .ok () { w with heap := w.heap.setIfInBounds b y } := fun y => setObj_run hb (mObj_ne m)
 have main : (Instr.mapUpdate t (.map (some b)) (enc k) v).run P w = .ok () { w with heap := w.heap.setIfInBounds b (mObj enc (updM m k v)) } := by
  simp only [Instr.mapUpdate, Sem.run_bind, run_underlying ht, Result.andThen_ok, hg]
  simp only [mObj, Sem.run_bind, Result.andThen_ok, K.ch, K.find]
  cases hl : lkAt k m 0 with
  | none =>
   simp only [hs, updM, hl]
   congr 4
   ·apply Array.ext'; simp [List.zipIdx_append, mEnt]
   ·simp
  | some p =>
   obtain ⟨i, u⟩ := p
   have hm := (lkAt_some hl).2
   simp only [Nat.sub_zero] at hm
   have hkey : ((m.zipIdx.map (mEnt enc)).toArray[i]?.map (·.key)).getD (enc k) = enc k := by
    simp [List.getElem?_zipIdx, hm, mEnt]
   simp only [hkey, Instr.keyThatStays, K.same, if_true, Sem.run_bind, Sem.run_pure, Result.andThen_ok, hs, updM, hl]
   rw [set_ent m i k v u hm]
   simp
 unfold execOp
 rcases ho with ho | ho <;> simp only [ho, hx, hk, hv, Sem.run_bind, main] <;> rfl
variable {V : Type} {ev : V → Value}
theorem X_lookup1S {t et : TypeId} {x ix : Operand} {b : Nat} {m : List (κ × V)} {k : κ} {z : V} (ho : o.op = .lookup t x ix false) (hx : ρ x = .map (some b)) (hk : ρ ix = enc k) (ht : P.underlying t = some (.map kt et)) (K : KeyRun P kt enc)
  (hz : (P.info? et).bind (·.zero) = some (ev z)) (hb : w.heap[b]? = some (mapO enc ev m)) : (execOp ρ o).run P w = .ok (.value (ev ((mget m k).getD z))) w := by
 have := X_lookupS (ok := false) ho hx hk ht K hz hb
 rw [this, lkAt_map]
 cases mget m k <;> rfl
variable {ops : Array Oper} {n : Nat} {Q : Exit → Act → World → Prop} {L : Fr} {a : Act} {w0 : World} {M : Mem} {H : List Ent}
theorem W_mapputS {o : Oper} {rest : List Oper} {t et : TypeId} {x ix y : Operand} {b : Nat} {m : List (κ × V)} {k : κ} {v : V} (hf : Frm n L a dd) (hp : Hp w0 M (.obj b (mapO enc ev m) :: H) w) (hw : wantedL ops L o = some true) (hr : readyL L o = true) (hd : o.dst = none)
  (ho : o.op = .mapUpdate t x ix y ∨ o.op = .insert t x ix y) (hx : Vc.ev L x = .map (some b)) (hk : Vc.ev L ix = enc k) (hv : Vc.ev L y = ev v) (ht : P.underlying t = some (.map kt et)) (K : KeyRun P kt enc)
  (hq : ∀ w', Hp w0 M (.obj b (mapO enc ev (mput m k v)) :: H) w' → ∀ a', Frm n L a' dd → wpList P ops Q rest a' w') : wpList P ops Q (o :: rest) a w := by
 refine W_skip hf hw hr hd (X_mapUpdateS ho hx hk hv ht K (hp.ownObj 0 rfl)) (hq _ ?_)
 have := hp.put (y := mObj enc (updM (m.map fun p => (p.1, ev p.2)) k (ev v)))
 show Hp w0 M (.obj b (mObj enc ((mput m k v).map fun p => (p.1, ev p.2))) :: H) _
 rw [← updM_map]; exact this
def FChk (P : Program) (e : Bool) (xs : Array Value) (w : World) : List (TypeId × Nat) → Prop
  | [] => True
  | (t, o) :: s => (∃ a, (part t xs o).run P w = .ok a w ∧ (Instr.checkKey e 9999 t a).run P w = .ok () w) ∧ FChk P e xs w s
theorem FChk.run {e : Bool} {xs : Array Value} : ∀ {fs : List Field} {s : List (TypeId × Nat)}, fieldsAre fs s = true → FChk P e xs w s →
  (forIn (m := Sem) fs PUnit.unit fun f _ => (do
   if f.name ≠ "_" then Instr.checkKey e 9999 f.type (← part f.type xs f.offset)
   pure (ForInStep.yield PUnit.unit) : Sem (ForInStep PUnit))).run P w = .ok PUnit.unit w
 | [], [], _, _ => by simp
 | f :: fs, (t, o) :: s, h, ⟨⟨a, ha, hc⟩, h2⟩ => by
  simp only [fieldsAre, Bool.and_eq_true, bne_iff_ne] at h
  obtain ⟨h1, h3, h4, h5⟩ := h
  have e1 := Nat.eq_of_beq_eq_true h3
  have e2 := Nat.eq_of_beq_eq_true h4
  subst e1; subst e2
  have ih := FChk.run h5 h2
  simp only [List.forIn_cons, Sem.run_bind, h1, ne_eq, not_false_eq_true, if_true, Result.andThen_ok, ha, hc, Sem.run_pure]
  exact ih
 | [], _ :: _, h, _ => by simp [fieldsAre] at h
 | _ :: _, [], h, _ => by simp [fieldsAre] at h
theorem structKey {xs : κ → Array Value} {s : List (TypeId × Nat)} (ht : P.underlying kt = some (.struct (P.fieldsOf kt))) (hp : P.stoodInHeld kt = false) (hf : fieldsAre (P.fieldsOf kt).toList s = true)
  (hc : ∀ w e k, FChk P e (xs k) w s) (he : ∀ w a b, ∃ rs, FEq P 9999 (xs a) (xs b) w s rs ∧ andL rs = decide (a = b)) (hs : ∀ k, Instr.sameBits 10000 (.agg (xs k)) (.agg (xs k)) = true) : KeyRun P kt (fun k => .agg (xs k)) where
 ch := fun w e k => by
  rw [show (10000 : Nat) = 9999 + 1 from rfl, Instr.checkKey]
  simp only [Sem.run_bind, run_underlying ht, Result.andThen_ok]
  rw [← Array.forIn_toList]
  have := FChk.run hf (hc w e k)
  simp at this ⊢
  rw [this]
  simp
 wide := by rw [ht]
 eq := fun w a b => by
  obtain ⟨rs, h1, h2⟩ := he w a b
  rw [← h2]
  have := run_equalIn_struct w 9999 kt (xs a) (xs b) ht hp
  rw [FEq.run hf h1] at this
  exact this
 same := hs
theorem chInt {t : TypeId} {k : IntKind} (h : P.underlying t = some (.int k)) (w : World) (n : Nat) (e : Bool) (x : Int) : (Instr.checkKey e (n + 1) t (.int k x)).run P w = .ok () w := by
 unfold Instr.checkKey
 rw [Sem.run_bind, run_underlying h]
 rfl
theorem key2 {κ : Type} [DecidableEq κ] {f g : κ → Int} {k1 k2 : IntKind} {t1 t2 : TypeId} (ht : P.underlying kt = some (.struct (P.fieldsOf kt))) (hp : P.stoodInHeld kt = false) (hf : fieldsAre (P.fieldsOf kt).toList [(t1, 0), (t2, 1)] = true)
  (h1 : P.underlying t1 = some (.int k1)) (h2 : P.underlying t2 = some (.int k2)) (hi : ∀ a b : κ, (a = b) ↔ (f a = f b ∧ g a = g b)) : KeyRun P kt (fun k : κ => .agg #[.int k1 (f k), .int k2 (g k)]) := by
 have p1 : ∀ (w : World) (k : κ), (part t1 #[Value.int k1 (f k), .int k2 (g k)] 0).run P w = .ok (.int k1 (f k)) w := fun w k => by simp [part, isAgg, run_underlying h1]
 have p2 : ∀ (w : World) (k : κ), (part t2 #[Value.int k1 (f k), .int k2 (g k)] 1).run P w = .ok (.int k2 (g k)) w := fun w k => by simp [part, isAgg, run_underlying h2]
 refine structKey (xs := fun k : κ => #[Value.int k1 (f k), .int k2 (g k)]) ht hp hf (fun w e k => ⟨⟨_, p1 w k, chInt h1 w 9998 e _⟩, ⟨_, p2 w k, chInt h2 w 9998 e _⟩, trivial⟩) (fun w a b => ⟨[decide (f a = f b), decide (g a = g b)], ⟨⟨_, _, p1 w a, p1 w b, EqI h1⟩, ⟨_, _, p2 w a, p2 w b, EqI h2⟩, trivial⟩, ?_⟩) (fun k => by simp [Instr.sameBits])
 simp only [andL, hi a b]
 rw [Bool.eq_iff_iff]; simp
end
end Go.Vc
end

section
namespace Go.Proofs.Ytfdmlionhbeebaa
open Go Go.Vc Go.RowKit
structure TK0 where
  fKind : Int
  fBool : Bool
  fNum : Int
  fText : List UInt8
  fList : List TK0
  fKeys : List (List UInt8)
mutual
def emb_TK0 : TK0 → Dat
  | ⟨x0, x1, x2, x3, x4, x5⟩ => .struct [(Dat.int .i8) x0, Dat.bool x1, (Dat.int .i64) x2, Dat.str x3, .list 6 (embs_TK0 x4), (eL 1 Dat.str) x5]
def embs_TK0 : List TK0 → List Dat
  | [] => []
  | x :: r => emb_TK0 x :: embs_TK0 r
end
structure TF0 where
  fName : List UInt8
  fUnknown : Bool
  fV : TK0
def emb_TF0 : TF0 → Dat
  | ⟨x0, x1, x2⟩ => .struct [Dat.str x0, Dat.bool x1, emb_TK0 x2]
structure TU0 where
  fId : List UInt8
  fType : List UInt8
  fPhys : List UInt8
  fProps : List TF0
  fRetain : Bool
  fLeans : List (List UInt8)
def emb_TU0 : TU0 → Dat
  | ⟨x0, x1, x2, x3, x4, x5⟩ => .struct [Dat.str x0, Dat.str x1, Dat.str x2, (eL 8 emb_TF0) x3, Dat.bool x4, (eL 1 Dat.str) x5]
theorem emb_TU0_eq (x : TU0) : emb_TU0 x = .struct [Dat.str x.fId, Dat.str x.fType, Dat.str x.fPhys, (eL 8 emb_TF0) x.fProps, Dat.bool x.fRetain, (eL 1 Dat.str) x.fLeans] := by
 cases x
 simp [emb_TU0, eL]
theorem szd_TU0 (x : TU0) : Szd 6 (emb_TU0 x) := by rw [emb_TU0_eq]; exact (szd_cons (szd_str _) (szd_cons (szd_str _) (szd_cons (szd_str _) (szd_cons ((fun _ => szd_list _ _) _) (szd_cons (szd_bool _) (szd_cons ((fun _ => szd_list _ _) _) szd_nil))))))
theorem TU0.opn {M : Mem} {x : TU0} {cs : List Value} (h : Rep M (emb_TU0 x) cs) : ∃ (A3 : Option Addr) (c3 : Nat) (A5 : Option Addr) (c5 : Nat), cs = [S x.fId, S x.fType, S x.fPhys, .slice A3 x.fProps.length c3, .bool x.fRetain, .slice A5 x.fLeans.length c5] ∧ Sli M 8 emb_TF0 A3 c3 x.fProps ∧ Sli M 1 Dat.str A5 c5 x.fLeans := by
 rw [emb_TU0_eq] at h
 obtain ⟨cq_0, dq_0, eq_0, hq_0, gq_0⟩ := h
 have yq_0 : cq_0 = _ := hq_0
 obtain ⟨cq_1, dq_1, eq_1, hq_1, gq_1⟩ := gq_0
 have yq_1 : cq_1 = _ := hq_1
 obtain ⟨cq_2, dq_2, eq_2, hq_2, gq_2⟩ := gq_1
 have yq_2 : cq_2 = _ := hq_2
 obtain ⟨cq_3, dq_3, eq_3, hq_3, gq_3⟩ := gq_2
 obtain ⟨Aq_3, kq_3, yq_3, zq_3⟩ := Rep.sli hq_3
 obtain ⟨cq_4, dq_4, eq_4, hq_4, gq_4⟩ := gq_3
 have yq_4 : cq_4 = _ := hq_4
 obtain ⟨cq_5, dq_5, eq_5, hq_5, gq_5⟩ := gq_4
 obtain ⟨Aq_5, kq_5, yq_5, zq_5⟩ := Rep.sli hq_5
 have lq : dq_5 = [] := gq_5
 exact ⟨Aq_3, kq_3, Aq_5, kq_5, by simp [eq_0, yq_0, eq_1, yq_1, eq_2, yq_2, eq_3, yq_3, eq_4, yq_4, eq_5, yq_5, lq], zq_3, zq_5⟩
theorem TU0.shut {M : Mem} {a0 : List UInt8} {a1 : List UInt8} {a2 : List UInt8} {a3 : List TF0} {a4 : Bool} {a5 : List (List UInt8)} {A3 : Option Addr} {c3 : Nat} {A5 : Option Addr} {c5 : Nat} (h3 : Sli M 8 emb_TF0 A3 c3 a3) (h5 : Sli M 1 Dat.str A5 c5 a5) : Rep M (emb_TU0 ⟨a0, a1, a2, a3, a4, a5⟩) [S a0, S a1, S a2, .slice A3 a3.length c3, .bool a4, .slice A5 a5.length c5] := by
 rw [emb_TU0_eq]; exact ⟨_, _, rfl, rfl, ⟨_, _, rfl, rfl, ⟨_, _, rfl, rfl, ⟨_, _, rfl, (Sli.rep h3), ⟨_, _, rfl, rfl, ⟨_, _, rfl, (Sli.rep h5), rfl⟩⟩⟩⟩⟩⟩
theorem TU0.shutx {M : Mem} {x : TU0} {A3 : Option Addr} {c3 : Nat} {A5 : Option Addr} {c5 : Nat} (h3 : Sli M 8 emb_TF0 A3 c3 x.fProps) (h5 : Sli M 1 Dat.str A5 c5 x.fLeans) : Rep M (emb_TU0 x) [S x.fId, S x.fType, S x.fPhys, .slice A3 x.fProps.length c3, .bool x.fRetain, .slice A5 x.fLeans.length c5] := by
 have h := TU0.shut (M := M) (a0 := x.fId) (a1 := x.fType) (a2 := x.fPhys) (a3 := x.fProps) (a4 := x.fRetain) (a5 := x.fLeans) h3 h5
 rw [emb_TU0_eq] at h ⊢
 exact h
structure TG0 where
  fOwned : List TU0
  fPending : List TU0
  fRetained : List TU0
  fOuts : List TF0
  fText : List UInt8
  fArgs : List TF0
  fCalls : Int
  fStatus : Int
def emb_TG0 : TG0 → Dat
  | ⟨x0, x1, x2, x3, x4, x5, x6, x7⟩ => .struct [(eL 6 emb_TU0) x0, (eL 6 emb_TU0) x1, (eL 6 emb_TU0) x2, (eL 8 emb_TF0) x3, Dat.str x4, (eL 8 emb_TF0) x5, (Dat.int .i64) x6, (Dat.int .i8) x7]
theorem emb_TG0_eq (x : TG0) : emb_TG0 x = .struct [(eL 6 emb_TU0) x.fOwned, (eL 6 emb_TU0) x.fPending, (eL 6 emb_TU0) x.fRetained, (eL 8 emb_TF0) x.fOuts, Dat.str x.fText, (eL 8 emb_TF0) x.fArgs, (Dat.int .i64) x.fCalls, (Dat.int .i8) x.fStatus] := by
 cases x
 simp [emb_TG0, eL]
theorem TG0.opn {M : Mem} {x : TG0} {cs : List Value} (h : Rep M (emb_TG0 x) cs) : ∃ (A0 : Option Addr) (c0 : Nat) (A1 : Option Addr) (c1 : Nat) (A2 : Option Addr) (c2 : Nat) (A3 : Option Addr) (c3 : Nat) (A5 : Option Addr) (c5 : Nat), cs = [.slice A0 x.fOwned.length c0, .slice A1 x.fPending.length c1, .slice A2 x.fRetained.length c2, .slice A3 x.fOuts.length c3, S x.fText, .slice A5 x.fArgs.length c5, .int .i64 x.fCalls, .int .i8 x.fStatus] ∧ Sli M 6 emb_TU0 A0 c0 x.fOwned ∧ Sli M 6 emb_TU0 A1 c1 x.fPending ∧ Sli M 6 emb_TU0 A2 c2 x.fRetained ∧ Sli M 8 emb_TF0 A3 c3 x.fOuts ∧ Sli M 8 emb_TF0 A5 c5 x.fArgs := by
 rw [emb_TG0_eq] at h
 obtain ⟨cq_0, dq_0, eq_0, hq_0, gq_0⟩ := h
 obtain ⟨Aq_0, kq_0, yq_0, zq_0⟩ := Rep.sli hq_0
 obtain ⟨cq_1, dq_1, eq_1, hq_1, gq_1⟩ := gq_0
 obtain ⟨Aq_1, kq_1, yq_1, zq_1⟩ := Rep.sli hq_1
 obtain ⟨cq_2, dq_2, eq_2, hq_2, gq_2⟩ := gq_1
 obtain ⟨Aq_2, kq_2, yq_2, zq_2⟩ := Rep.sli hq_2
 obtain ⟨cq_3, dq_3, eq_3, hq_3, gq_3⟩ := gq_2
 obtain ⟨Aq_3, kq_3, yq_3, zq_3⟩ := Rep.sli hq_3
 obtain ⟨cq_4, dq_4, eq_4, hq_4, gq_4⟩ := gq_3
 have yq_4 : cq_4 = _ := hq_4
 obtain ⟨cq_5, dq_5, eq_5, hq_5, gq_5⟩ := gq_4
 obtain ⟨Aq_5, kq_5, yq_5, zq_5⟩ := Rep.sli hq_5
 obtain ⟨cq_6, dq_6, eq_6, hq_6, gq_6⟩ := gq_5
 have yq_6 : cq_6 = _ := hq_6
 obtain ⟨cq_7, dq_7, eq_7, hq_7, gq_7⟩ := gq_6
 have yq_7 : cq_7 = _ := hq_7
 have lq : dq_7 = [] := gq_7
 exact ⟨Aq_0, kq_0, Aq_1, kq_1, Aq_2, kq_2, Aq_3, kq_3, Aq_5, kq_5, by simp [eq_0, yq_0, eq_1, yq_1, eq_2, yq_2, eq_3, yq_3, eq_4, yq_4, eq_5, yq_5, eq_6, yq_6, eq_7, yq_7, lq], zq_0, zq_1, zq_2, zq_3, zq_5⟩
theorem TG0.shut {M : Mem} {a0 : List TU0} {a1 : List TU0} {a2 : List TU0} {a3 : List TF0} {a4 : List UInt8} {a5 : List TF0} {a6 : Int} {a7 : Int} {A0 : Option Addr} {c0 : Nat} {A1 : Option Addr} {c1 : Nat} {A2 : Option Addr} {c2 : Nat} {A3 : Option Addr} {c3 : Nat} {A5 : Option Addr} {c5 : Nat} (h0 : Sli M 6 emb_TU0 A0 c0 a0) (h1 : Sli M 6 emb_TU0 A1 c1 a1) (h2 : Sli M 6 emb_TU0 A2 c2 a2) (h3 : Sli M 8 emb_TF0 A3 c3 a3) (h5 : Sli M 8 emb_TF0 A5 c5 a5) : Rep M (emb_TG0 ⟨a0, a1, a2, a3, a4, a5, a6, a7⟩) [.slice A0 a0.length c0, .slice A1 a1.length c1, .slice A2 a2.length c2, .slice A3 a3.length c3, S a4, .slice A5 a5.length c5, .int .i64 a6, .int .i8 a7] := by
 rw [emb_TG0_eq]; exact ⟨_, _, rfl, (Sli.rep h0), ⟨_, _, rfl, (Sli.rep h1), ⟨_, _, rfl, (Sli.rep h2), ⟨_, _, rfl, (Sli.rep h3), ⟨_, _, rfl, rfl, ⟨_, _, rfl, (Sli.rep h5), ⟨_, _, rfl, rfl, ⟨_, _, rfl, rfl, rfl⟩⟩⟩⟩⟩⟩⟩⟩
theorem TG0.shutx {M : Mem} {x : TG0} {A0 : Option Addr} {c0 : Nat} {A1 : Option Addr} {c1 : Nat} {A2 : Option Addr} {c2 : Nat} {A3 : Option Addr} {c3 : Nat} {A5 : Option Addr} {c5 : Nat} (h0 : Sli M 6 emb_TU0 A0 c0 x.fOwned) (h1 : Sli M 6 emb_TU0 A1 c1 x.fPending) (h2 : Sli M 6 emb_TU0 A2 c2 x.fRetained) (h3 : Sli M 8 emb_TF0 A3 c3 x.fOuts) (h5 : Sli M 8 emb_TF0 A5 c5 x.fArgs) : Rep M (emb_TG0 x) [.slice A0 x.fOwned.length c0, .slice A1 x.fPending.length c1, .slice A2 x.fRetained.length c2, .slice A3 x.fOuts.length c3, S x.fText, .slice A5 x.fArgs.length c5, .int .i64 x.fCalls, .int .i8 x.fStatus] := by
 have h := TG0.shut (M := M) (a0 := x.fOwned) (a1 := x.fPending) (a2 := x.fRetained) (a3 := x.fOuts) (a4 := x.fText) (a5 := x.fArgs) (a6 := x.fCalls) (a7 := x.fStatus) h0 h1 h2 h3 h5
 rw [emb_TG0_eq] at h ⊢
 exact h
structure TJ0 where
  fName : List UInt8
  fNumber : Bool
  fHas : Bool
  fDefault : TK0
  fAllowed : List TK0
def emb_TJ0 : TJ0 → Dat
  | ⟨x0, x1, x2, x3, x4⟩ => .struct [Dat.str x0, Dat.bool x1, Dat.bool x2, emb_TK0 x3, (eL 6 emb_TK0) x4]
structure TS0 where
  fKind : Int
  fText : List UInt8
  fNum : Int
  fName : List UInt8
  fAttr : List UInt8
  fL : List TS0
mutual
def emb_TS0 : TS0 → Dat
  | ⟨x0, x1, x2, x3, x4, x5⟩ => .struct [(Dat.int .i8) x0, Dat.str x1, (Dat.int .i64) x2, Dat.str x3, Dat.str x4, .list 6 (embs_TS0 x5)]
def embs_TS0 : List TS0 → List Dat
  | [] => []
  | x :: r => emb_TS0 x :: embs_TS0 r
end
structure TO0 where
  fName : List UInt8
  fKind : Int
  fA : TS0
  fB : TS0
  fL : List TO0
mutual
def emb_TO0 : TO0 → Dat
  | ⟨x0, x1, x2, x3, x4⟩ => .struct [Dat.str x0, (Dat.int .i8) x1, emb_TS0 x2, emb_TS0 x3, .list 15 (embs_TO0 x4)]
def embs_TO0 : List TO0 → List Dat
  | [] => []
  | x :: r => emb_TO0 x :: embs_TO0 r
end
structure TM0 where
  fName : List UInt8
  fE : TS0
def emb_TM0 : TM0 → Dat
  | ⟨x0, x1⟩ => .struct [Dat.str x0, emb_TS0 x1]
structure TE0 where
  fName : List UInt8
  fCond : List UInt8
  fE : TS0
def emb_TE0 : TE0 → Dat
  | ⟨x0, x1, x2⟩ => .struct [Dat.str x0, Dat.str x1, emb_TS0 x2]
mutual
structure TA0 where
  fId : List UInt8
  fType : List UInt8
  fCond : List UInt8
  fProps : List TM0
  fDepends : List (List UInt8)
  fRetain : Bool
  fInner : List TB0
structure TB0 where
  fParams : List TJ0
  fConds : List TO0
  fRes : List TA0
  fOuts : List TE0
end
mutual
def emb_TA0 : TA0 → Dat
  | ⟨x0, x1, x2, x3, x4, x5, x6⟩ => .struct [Dat.str x0, Dat.str x1, Dat.str x2, (eL 7 emb_TM0) x3, (eL 1 Dat.str) x4, Dat.bool x5, .list 4 (embs_TB0 x6)]
def embs_TA0 : List TA0 → List Dat
  | [] => []
  | x :: r => emb_TA0 x :: embs_TA0 r
def emb_TB0 : TB0 → Dat
  | ⟨x0, x1, x2, x3⟩ => .struct [(eL 10 emb_TJ0) x0, (eL 15 emb_TO0) x1, .list 7 (embs_TA0 x2), (eL 8 emb_TE0) x3]
def embs_TB0 : List TB0 → List Dat
  | [] => []
  | x :: r => emb_TB0 x :: embs_TB0 r
end
structure TH0 where
  fParent : Int
  fPrefix : List UInt8
  fT : TB0
  fArgs : List TM0
def emb_TH0 : TH0 → Dat
  | ⟨x0, x1, x2, x3⟩ => .struct [(Dat.int .i64) x0, Dat.str x1, emb_TB0 x2, (eL 7 emb_TM0) x3]
structure TI0 where
  fScope : Int
  fName : List UInt8
  deriving DecidableEq, Inhabited
def emb_TI0 : TI0 → Dat
  | ⟨x0, x1⟩ => .struct [(Dat.int .i64) x0, Dat.str x1]
structure TQ0 where
  fId : List UInt8
  fScope : Int
  fR : TA0
  fGuards : List TI0
  fAfter : List (List UInt8)
def emb_TQ0 : TQ0 → Dat
  | ⟨x0, x1, x2, x3, x4⟩ => .struct [Dat.str x0, (Dat.int .i64) x1, emb_TA0 x2, (eL 2 emb_TI0) x3, (eL 1 Dat.str) x4]
structure TN0 where
  fScopes : List TH0
  fNodes : List TQ0
def emb_TN0 : TN0 → Dat
  | ⟨x0, x1⟩ => .struct [(eL 7 emb_TH0) x0, (eL 11 emb_TQ0) x1]
theorem emb_TN0_eq (x : TN0) : emb_TN0 x = .struct [(eL 7 emb_TH0) x.fScopes, (eL 11 emb_TQ0) x.fNodes] := by
 cases x
 simp [emb_TN0, eL]
structure TD0 where
  fId : List UInt8
  fKind : Int
  fType : List UInt8
  fProps : List TF0
  fRetain : Bool
  fNode : Int
  fOld : Bool
  fLeans : List (List UInt8)
def emb_TD0 : TD0 → Dat
  | ⟨x0, x1, x2, x3, x4, x5, x6, x7⟩ => .struct [Dat.str x0, (Dat.int .i8) x1, Dat.str x2, (eL 8 emb_TF0) x3, Dat.bool x4, (Dat.int .i64) x5, Dat.bool x6, (eL 1 Dat.str) x7]
theorem emb_TD0_eq (x : TD0) : emb_TD0 x = .struct [Dat.str x.fId, (Dat.int .i8) x.fKind, Dat.str x.fType, (eL 8 emb_TF0) x.fProps, Dat.bool x.fRetain, (Dat.int .i64) x.fNode, Dat.bool x.fOld, (eL 1 Dat.str) x.fLeans] := by
 cases x
 simp [emb_TD0, eL]
theorem szd_TD0 (x : TD0) : Szd 8 (emb_TD0 x) := by rw [emb_TD0_eq]; exact (szd_cons (szd_str _) (szd_cons ((szd_int .i8) _) (szd_cons (szd_str _) (szd_cons ((fun _ => szd_list _ _) _) (szd_cons (szd_bool _) (szd_cons ((szd_int .i64) _) (szd_cons (szd_bool _) (szd_cons ((fun _ => szd_list _ _) _) szd_nil))))))))
theorem TD0.opn {M : Mem} {x : TD0} {cs : List Value} (h : Rep M (emb_TD0 x) cs) : ∃ (A3 : Option Addr) (c3 : Nat) (A7 : Option Addr) (c7 : Nat), cs = [S x.fId, .int .i8 x.fKind, S x.fType, .slice A3 x.fProps.length c3, .bool x.fRetain, .int .i64 x.fNode, .bool x.fOld, .slice A7 x.fLeans.length c7] ∧ Sli M 8 emb_TF0 A3 c3 x.fProps ∧ Sli M 1 Dat.str A7 c7 x.fLeans := by
 rw [emb_TD0_eq] at h
 obtain ⟨cq_0, dq_0, eq_0, hq_0, gq_0⟩ := h
 have yq_0 : cq_0 = _ := hq_0
 obtain ⟨cq_1, dq_1, eq_1, hq_1, gq_1⟩ := gq_0
 have yq_1 : cq_1 = _ := hq_1
 obtain ⟨cq_2, dq_2, eq_2, hq_2, gq_2⟩ := gq_1
 have yq_2 : cq_2 = _ := hq_2
 obtain ⟨cq_3, dq_3, eq_3, hq_3, gq_3⟩ := gq_2
 obtain ⟨Aq_3, kq_3, yq_3, zq_3⟩ := Rep.sli hq_3
 obtain ⟨cq_4, dq_4, eq_4, hq_4, gq_4⟩ := gq_3
 have yq_4 : cq_4 = _ := hq_4
 obtain ⟨cq_5, dq_5, eq_5, hq_5, gq_5⟩ := gq_4
 have yq_5 : cq_5 = _ := hq_5
 obtain ⟨cq_6, dq_6, eq_6, hq_6, gq_6⟩ := gq_5
 have yq_6 : cq_6 = _ := hq_6
 obtain ⟨cq_7, dq_7, eq_7, hq_7, gq_7⟩ := gq_6
 obtain ⟨Aq_7, kq_7, yq_7, zq_7⟩ := Rep.sli hq_7
 have lq : dq_7 = [] := gq_7
 exact ⟨Aq_3, kq_3, Aq_7, kq_7, by simp [eq_0, yq_0, eq_1, yq_1, eq_2, yq_2, eq_3, yq_3, eq_4, yq_4, eq_5, yq_5, eq_6, yq_6, eq_7, yq_7, lq], zq_3, zq_7⟩
theorem TD0.shut {M : Mem} {a0 : List UInt8} {a1 : Int} {a2 : List UInt8} {a3 : List TF0} {a4 : Bool} {a5 : Int} {a6 : Bool} {a7 : List (List UInt8)} {A3 : Option Addr} {c3 : Nat} {A7 : Option Addr} {c7 : Nat} (h3 : Sli M 8 emb_TF0 A3 c3 a3) (h7 : Sli M 1 Dat.str A7 c7 a7) : Rep M (emb_TD0 ⟨a0, a1, a2, a3, a4, a5, a6, a7⟩) [S a0, .int .i8 a1, S a2, .slice A3 a3.length c3, .bool a4, .int .i64 a5, .bool a6, .slice A7 a7.length c7] := by
 rw [emb_TD0_eq]; exact ⟨_, _, rfl, rfl, ⟨_, _, rfl, rfl, ⟨_, _, rfl, rfl, ⟨_, _, rfl, (Sli.rep h3), ⟨_, _, rfl, rfl, ⟨_, _, rfl, rfl, ⟨_, _, rfl, rfl, ⟨_, _, rfl, (Sli.rep h7), rfl⟩⟩⟩⟩⟩⟩⟩⟩
structure TP0 where
  fToken : Int
  fKind : Int
  fPhys : List UInt8
  fType : List UInt8
  fProps : List TF0
def emb_TP0 : TP0 → Dat
  | ⟨x0, x1, x2, x3, x4⟩ => .struct [(Dat.int .i64) x0, (Dat.int .i8) x1, Dat.str x2, Dat.str x3, (eL 8 emb_TF0) x4]
theorem emb_TP0_eq (x : TP0) : emb_TP0 x = .struct [(Dat.int .i64) x.fToken, (Dat.int .i8) x.fKind, Dat.str x.fPhys, Dat.str x.fType, (eL 8 emb_TF0) x.fProps] := by
 cases x
 simp [emb_TP0, eL]
theorem szd_TP0 (x : TP0) : Szd 5 (emb_TP0 x) := by rw [emb_TP0_eq]; exact (szd_cons ((szd_int .i64) _) (szd_cons ((szd_int .i8) _) (szd_cons (szd_str _) (szd_cons (szd_str _) (szd_cons ((fun _ => szd_list _ _) _) szd_nil)))))
theorem TP0.opn {M : Mem} {x : TP0} {cs : List Value} (h : Rep M (emb_TP0 x) cs) : ∃ (A4 : Option Addr) (c4 : Nat), cs = [.int .i64 x.fToken, .int .i8 x.fKind, S x.fPhys, S x.fType, .slice A4 x.fProps.length c4] ∧ Sli M 8 emb_TF0 A4 c4 x.fProps := by
 rw [emb_TP0_eq] at h
 obtain ⟨cq_0, dq_0, eq_0, hq_0, gq_0⟩ := h
 have yq_0 : cq_0 = _ := hq_0
 obtain ⟨cq_1, dq_1, eq_1, hq_1, gq_1⟩ := gq_0
 have yq_1 : cq_1 = _ := hq_1
 obtain ⟨cq_2, dq_2, eq_2, hq_2, gq_2⟩ := gq_1
 have yq_2 : cq_2 = _ := hq_2
 obtain ⟨cq_3, dq_3, eq_3, hq_3, gq_3⟩ := gq_2
 have yq_3 : cq_3 = _ := hq_3
 obtain ⟨cq_4, dq_4, eq_4, hq_4, gq_4⟩ := gq_3
 obtain ⟨Aq_4, kq_4, yq_4, zq_4⟩ := Rep.sli hq_4
 have lq : dq_4 = [] := gq_4
 exact ⟨Aq_4, kq_4, by simp [eq_0, yq_0, eq_1, yq_1, eq_2, yq_2, eq_3, yq_3, eq_4, yq_4, lq], zq_4⟩
theorem TP0.shut {M : Mem} {a0 : Int} {a1 : Int} {a2 : List UInt8} {a3 : List UInt8} {a4 : List TF0} {A4 : Option Addr} {c4 : Nat} (h4 : Sli M 8 emb_TF0 A4 c4 a4) : Rep M (emb_TP0 ⟨a0, a1, a2, a3, a4⟩) [.int .i64 a0, .int .i8 a1, S a2, S a3, .slice A4 a4.length c4] := by
 rw [emb_TP0_eq]; exact ⟨_, _, rfl, rfl, ⟨_, _, rfl, rfl, ⟨_, _, rfl, rfl, ⟨_, _, rfl, rfl, ⟨_, _, rfl, (Sli.rep h4), rfl⟩⟩⟩⟩⟩
structure TR0 where
  fChange : Int
  fPhase : Int
  fCall : TP0
  fState : Int
  fPhys : List UInt8
def emb_TR0 : TR0 → Dat
  | ⟨x0, x1, x2, x3, x4⟩ => .struct [(Dat.int .i64) x0, (Dat.int .i8) x1, emb_TP0 x2, (Dat.int .i8) x3, Dat.str x4]
theorem emb_TR0_eq (x : TR0) : emb_TR0 x = .struct [(Dat.int .i64) x.fChange, (Dat.int .i8) x.fPhase, emb_TP0 x.fCall, (Dat.int .i8) x.fState, Dat.str x.fPhys] := by
 cases x
 simp [emb_TR0, eL]
theorem szd_TR0 (x : TR0) : Szd 9 (emb_TR0 x) := by rw [emb_TR0_eq]; exact (szd_cons ((szd_int .i64) _) (szd_cons ((szd_int .i8) _) (szd_cons (szd_TP0 _) (szd_cons ((szd_int .i8) _) (szd_cons (szd_str _) szd_nil)))))
theorem TR0.opn {M : Mem} {x : TR0} {cs : List Value} (h : Rep M (emb_TR0 x) cs) : ∃ (A6 : Option Addr) (c6 : Nat), cs = [.int .i64 x.fChange, .int .i8 x.fPhase, .int .i64 x.fCall.fToken, .int .i8 x.fCall.fKind, S x.fCall.fPhys, S x.fCall.fType, .slice A6 x.fCall.fProps.length c6, .int .i8 x.fState, S x.fPhys] ∧ Sli M 8 emb_TF0 A6 c6 x.fCall.fProps := by
 rw [emb_TR0_eq] at h
 obtain ⟨cq_0, dq_0, eq_0, hq_0, gq_0⟩ := h
 have yq_0 : cq_0 = _ := hq_0
 obtain ⟨cq_1, dq_1, eq_1, hq_1, gq_1⟩ := gq_0
 have yq_1 : cq_1 = _ := hq_1
 obtain ⟨cq_2, dq_2, eq_2, hq_2, gq_2⟩ := gq_1
 rw [emb_TP0_eq] at hq_2
 obtain ⟨cq_2_0, dq_2_0, eq_2_0, hq_2_0, gq_2_0⟩ := hq_2
 have yq_2_0 : cq_2_0 = _ := hq_2_0
 obtain ⟨cq_2_1, dq_2_1, eq_2_1, hq_2_1, gq_2_1⟩ := gq_2_0
 have yq_2_1 : cq_2_1 = _ := hq_2_1
 obtain ⟨cq_2_2, dq_2_2, eq_2_2, hq_2_2, gq_2_2⟩ := gq_2_1
 have yq_2_2 : cq_2_2 = _ := hq_2_2
 obtain ⟨cq_2_3, dq_2_3, eq_2_3, hq_2_3, gq_2_3⟩ := gq_2_2
 have yq_2_3 : cq_2_3 = _ := hq_2_3
 obtain ⟨cq_2_4, dq_2_4, eq_2_4, hq_2_4, gq_2_4⟩ := gq_2_3
 obtain ⟨Aq_2_4, kq_2_4, yq_2_4, zq_2_4⟩ := Rep.sli hq_2_4
 have lq_2 : dq_2_4 = [] := gq_2_4
 obtain ⟨cq_3, dq_3, eq_3, hq_3, gq_3⟩ := gq_2
 have yq_3 : cq_3 = _ := hq_3
 obtain ⟨cq_4, dq_4, eq_4, hq_4, gq_4⟩ := gq_3
 have yq_4 : cq_4 = _ := hq_4
 have lq : dq_4 = [] := gq_4
 exact ⟨Aq_2_4, kq_2_4, by simp [eq_0, yq_0, eq_1, yq_1, eq_2, eq_2_0, yq_2_0, eq_2_1, yq_2_1, eq_2_2, yq_2_2, eq_2_3, yq_2_3, eq_2_4, yq_2_4, lq_2, eq_3, yq_3, eq_4, yq_4, lq], zq_2_4⟩
theorem TR0.shut {M : Mem} {a0 : Int} {a1 : Int} {a2 : Int} {a3 : Int} {a4 : List UInt8} {a5 : List UInt8} {a6 : List TF0} {a7 : Int} {a8 : List UInt8} {A6 : Option Addr} {c6 : Nat} (h6 : Sli M 8 emb_TF0 A6 c6 a6) : Rep M (emb_TR0 ⟨a0, a1, ⟨a2, a3, a4, a5, a6⟩, a7, a8⟩) [.int .i64 a0, .int .i8 a1, .int .i64 a2, .int .i8 a3, S a4, S a5, .slice A6 a6.length c6, .int .i8 a7, S a8] := by
 rw [emb_TR0_eq]; exact ⟨_, _, rfl, rfl, ⟨_, _, rfl, rfl, ⟨_, _, rfl, (by rw [emb_TP0_eq]; exact ⟨_, _, rfl, rfl, ⟨_, _, rfl, rfl, ⟨_, _, rfl, rfl, ⟨_, _, rfl, rfl, ⟨_, _, rfl, (Sli.rep h6), rfl⟩⟩⟩⟩⟩), ⟨_, _, rfl, rfl, ⟨_, _, rfl, rfl, rfl⟩⟩⟩⟩⟩
theorem TR0.shutx {M : Mem} {x : TR0} {A6 : Option Addr} {c6 : Nat} (h6 : Sli M 8 emb_TF0 A6 c6 x.fCall.fProps) : Rep M (emb_TR0 x) [.int .i64 x.fChange, .int .i8 x.fPhase, .int .i64 x.fCall.fToken, .int .i8 x.fCall.fKind, S x.fCall.fPhys, S x.fCall.fType, .slice A6 x.fCall.fProps.length c6, .int .i8 x.fState, S x.fPhys] := by
 obtain ⟨u0, u1, ⟨u2, u3, u4, u5, u6⟩, u7, u8⟩ := x
 exact TR0.shut h6
structure TL0 where
  fKind : Int
  fWidth : Int
  fOld : TG0
  fNew : TN0
  fText : List UInt8
  fArgs : List TF0
  fChanges : List TD0
  fTasks : List TR0
  fPhase : Int
  fStatus : Int
def emb_TL0 : TL0 → Dat
  | ⟨x0, x1, x2, x3, x4, x5, x6, x7, x8, x9⟩ => .struct [(Dat.int .i8) x0, (Dat.int .i64) x1, emb_TG0 x2, emb_TN0 x3, Dat.str x4, (eL 8 emb_TF0) x5, (eL 8 emb_TD0) x6, (eL 9 emb_TR0) x7, (Dat.int .i8) x8, (Dat.int .i8) x9]
theorem emb_TL0_eq (x : TL0) : emb_TL0 x = .struct [(Dat.int .i8) x.fKind, (Dat.int .i64) x.fWidth, emb_TG0 x.fOld, emb_TN0 x.fNew, Dat.str x.fText, (eL 8 emb_TF0) x.fArgs, (eL 8 emb_TD0) x.fChanges, (eL 9 emb_TR0) x.fTasks, (Dat.int .i8) x.fPhase, (Dat.int .i8) x.fStatus] := by
 cases x
 simp [emb_TL0, eL]
theorem TL0.opn {M : Mem} {x : TL0} {cs : List Value} (h : Rep M (emb_TL0 x) cs) : ∃ (A2 : Option Addr) (c2 : Nat) (A3 : Option Addr) (c3 : Nat) (A4 : Option Addr) (c4 : Nat) (A5 : Option Addr) (c5 : Nat) (A7 : Option Addr) (c7 : Nat) (A10 : Option Addr) (c10 : Nat) (A11 : Option Addr) (c11 : Nat) (A13 : Option Addr) (c13 : Nat) (A14 : Option Addr) (c14 : Nat) (A15 : Option Addr) (c15 : Nat), cs = [.int .i8 x.fKind, .int .i64 x.fWidth, .slice A2 x.fOld.fOwned.length c2, .slice A3 x.fOld.fPending.length c3, .slice A4 x.fOld.fRetained.length c4, .slice A5 x.fOld.fOuts.length c5, S x.fOld.fText, .slice A7 x.fOld.fArgs.length c7, .int .i64 x.fOld.fCalls, .int .i8 x.fOld.fStatus, .slice A10 x.fNew.fScopes.length c10, .slice A11 x.fNew.fNodes.length c11, S x.fText, .slice A13 x.fArgs.length c13, .slice A14 x.fChanges.length c14, .slice A15 x.fTasks.length c15, .int .i8 x.fPhase, .int .i8 x.fStatus] ∧ Sli M 6 emb_TU0 A2 c2 x.fOld.fOwned ∧ Sli M 6 emb_TU0 A3 c3 x.fOld.fPending ∧ Sli M 6 emb_TU0 A4 c4 x.fOld.fRetained ∧ Sli M 8 emb_TF0 A5 c5 x.fOld.fOuts ∧ Sli M 8 emb_TF0 A7 c7 x.fOld.fArgs ∧ Sli M 7 emb_TH0 A10 c10 x.fNew.fScopes ∧ Sli M 11 emb_TQ0 A11 c11 x.fNew.fNodes ∧ Sli M 8 emb_TF0 A13 c13 x.fArgs ∧ Sli M 8 emb_TD0 A14 c14 x.fChanges ∧ Sli M 9 emb_TR0 A15 c15 x.fTasks := by
 rw [emb_TL0_eq] at h
 obtain ⟨cq_0, dq_0, eq_0, hq_0, gq_0⟩ := h
 have yq_0 : cq_0 = _ := hq_0
 obtain ⟨cq_1, dq_1, eq_1, hq_1, gq_1⟩ := gq_0
 have yq_1 : cq_1 = _ := hq_1
 obtain ⟨cq_2, dq_2, eq_2, hq_2, gq_2⟩ := gq_1
 rw [emb_TG0_eq] at hq_2
 obtain ⟨cq_2_0, dq_2_0, eq_2_0, hq_2_0, gq_2_0⟩ := hq_2
 obtain ⟨Aq_2_0, kq_2_0, yq_2_0, zq_2_0⟩ := Rep.sli hq_2_0
 obtain ⟨cq_2_1, dq_2_1, eq_2_1, hq_2_1, gq_2_1⟩ := gq_2_0
 obtain ⟨Aq_2_1, kq_2_1, yq_2_1, zq_2_1⟩ := Rep.sli hq_2_1
 obtain ⟨cq_2_2, dq_2_2, eq_2_2, hq_2_2, gq_2_2⟩ := gq_2_1
 obtain ⟨Aq_2_2, kq_2_2, yq_2_2, zq_2_2⟩ := Rep.sli hq_2_2
 obtain ⟨cq_2_3, dq_2_3, eq_2_3, hq_2_3, gq_2_3⟩ := gq_2_2
 obtain ⟨Aq_2_3, kq_2_3, yq_2_3, zq_2_3⟩ := Rep.sli hq_2_3
 obtain ⟨cq_2_4, dq_2_4, eq_2_4, hq_2_4, gq_2_4⟩ := gq_2_3
 have yq_2_4 : cq_2_4 = _ := hq_2_4
 obtain ⟨cq_2_5, dq_2_5, eq_2_5, hq_2_5, gq_2_5⟩ := gq_2_4
 obtain ⟨Aq_2_5, kq_2_5, yq_2_5, zq_2_5⟩ := Rep.sli hq_2_5
 obtain ⟨cq_2_6, dq_2_6, eq_2_6, hq_2_6, gq_2_6⟩ := gq_2_5
 have yq_2_6 : cq_2_6 = _ := hq_2_6
 obtain ⟨cq_2_7, dq_2_7, eq_2_7, hq_2_7, gq_2_7⟩ := gq_2_6
 have yq_2_7 : cq_2_7 = _ := hq_2_7
 have lq_2 : dq_2_7 = [] := gq_2_7
 obtain ⟨cq_3, dq_3, eq_3, hq_3, gq_3⟩ := gq_2
 rw [emb_TN0_eq] at hq_3
 obtain ⟨cq_3_0, dq_3_0, eq_3_0, hq_3_0, gq_3_0⟩ := hq_3
 obtain ⟨Aq_3_0, kq_3_0, yq_3_0, zq_3_0⟩ := Rep.sli hq_3_0
 obtain ⟨cq_3_1, dq_3_1, eq_3_1, hq_3_1, gq_3_1⟩ := gq_3_0
 obtain ⟨Aq_3_1, kq_3_1, yq_3_1, zq_3_1⟩ := Rep.sli hq_3_1
 have lq_3 : dq_3_1 = [] := gq_3_1
 obtain ⟨cq_4, dq_4, eq_4, hq_4, gq_4⟩ := gq_3
 have yq_4 : cq_4 = _ := hq_4
 obtain ⟨cq_5, dq_5, eq_5, hq_5, gq_5⟩ := gq_4
 obtain ⟨Aq_5, kq_5, yq_5, zq_5⟩ := Rep.sli hq_5
 obtain ⟨cq_6, dq_6, eq_6, hq_6, gq_6⟩ := gq_5
 obtain ⟨Aq_6, kq_6, yq_6, zq_6⟩ := Rep.sli hq_6
 obtain ⟨cq_7, dq_7, eq_7, hq_7, gq_7⟩ := gq_6
 obtain ⟨Aq_7, kq_7, yq_7, zq_7⟩ := Rep.sli hq_7
 obtain ⟨cq_8, dq_8, eq_8, hq_8, gq_8⟩ := gq_7
 have yq_8 : cq_8 = _ := hq_8
 obtain ⟨cq_9, dq_9, eq_9, hq_9, gq_9⟩ := gq_8
 have yq_9 : cq_9 = _ := hq_9
 have lq : dq_9 = [] := gq_9
 exact ⟨Aq_2_0, kq_2_0, Aq_2_1, kq_2_1, Aq_2_2, kq_2_2, Aq_2_3, kq_2_3, Aq_2_5, kq_2_5, Aq_3_0, kq_3_0, Aq_3_1, kq_3_1, Aq_5, kq_5, Aq_6, kq_6, Aq_7, kq_7, by simp [eq_0, yq_0, eq_1, yq_1, eq_2, eq_2_0, yq_2_0, eq_2_1, yq_2_1, eq_2_2, yq_2_2, eq_2_3, yq_2_3, eq_2_4, yq_2_4, eq_2_5, yq_2_5, eq_2_6, yq_2_6, eq_2_7, yq_2_7, lq_2, eq_3, eq_3_0, yq_3_0, eq_3_1, yq_3_1, lq_3, eq_4, yq_4, eq_5, yq_5, eq_6, yq_6, eq_7, yq_7, eq_8, yq_8, eq_9, yq_9, lq], zq_2_0, zq_2_1, zq_2_2, zq_2_3, zq_2_5, zq_3_0, zq_3_1, zq_5, zq_6, zq_7⟩
theorem TL0.shut {M : Mem} {a0 : Int} {a1 : Int} {a2 : List TU0} {a3 : List TU0} {a4 : List TU0} {a5 : List TF0} {a6 : List UInt8} {a7 : List TF0} {a8 : Int} {a9 : Int} {a10 : List TH0} {a11 : List TQ0} {a12 : List UInt8} {a13 : List TF0} {a14 : List TD0} {a15 : List TR0} {a16 : Int} {a17 : Int} {A2 : Option Addr} {c2 : Nat} {A3 : Option Addr} {c3 : Nat} {A4 : Option Addr} {c4 : Nat} {A5 : Option Addr} {c5 : Nat} {A7 : Option Addr} {c7 : Nat} {A10 : Option Addr} {c10 : Nat} {A11 : Option Addr} {c11 : Nat} {A13 : Option Addr} {c13 : Nat} {A14 : Option Addr} {c14 : Nat} {A15 : Option Addr} {c15 : Nat} (h2 : Sli M 6 emb_TU0 A2 c2 a2) (h3 : Sli M 6 emb_TU0 A3 c3 a3) (h4 : Sli M 6 emb_TU0 A4 c4 a4) (h5 : Sli M 8 emb_TF0 A5 c5 a5) (h7 : Sli M 8 emb_TF0 A7 c7 a7) (h10 : Sli M 7 emb_TH0 A10 c10 a10) (h11 : Sli M 11 emb_TQ0 A11 c11 a11) (h13 : Sli M 8 emb_TF0 A13 c13 a13) (h14 : Sli M 8 emb_TD0 A14 c14 a14) (h15 : Sli M 9 emb_TR0 A15 c15 a15) : Rep M (emb_TL0 ⟨a0, a1, ⟨a2, a3, a4, a5, a6, a7, a8, a9⟩, ⟨a10, a11⟩, a12, a13, a14, a15, a16, a17⟩) [.int .i8 a0, .int .i64 a1, .slice A2 a2.length c2, .slice A3 a3.length c3, .slice A4 a4.length c4, .slice A5 a5.length c5, S a6, .slice A7 a7.length c7, .int .i64 a8, .int .i8 a9, .slice A10 a10.length c10, .slice A11 a11.length c11, S a12, .slice A13 a13.length c13, .slice A14 a14.length c14, .slice A15 a15.length c15, .int .i8 a16, .int .i8 a17] := by
 rw [emb_TL0_eq]; exact ⟨_, _, rfl, rfl, ⟨_, _, rfl, rfl, ⟨_, _, rfl, (by rw [emb_TG0_eq]; exact ⟨_, _, rfl, (Sli.rep h2), ⟨_, _, rfl, (Sli.rep h3), ⟨_, _, rfl, (Sli.rep h4), ⟨_, _, rfl, (Sli.rep h5), ⟨_, _, rfl, rfl, ⟨_, _, rfl, (Sli.rep h7), ⟨_, _, rfl, rfl, ⟨_, _, rfl, rfl, rfl⟩⟩⟩⟩⟩⟩⟩⟩), ⟨_, _, rfl, (by rw [emb_TN0_eq]; exact ⟨_, _, rfl, (Sli.rep h10), ⟨_, _, rfl, (Sli.rep h11), rfl⟩⟩), ⟨_, _, rfl, rfl, ⟨_, _, rfl, (Sli.rep h13), ⟨_, _, rfl, (Sli.rep h14), ⟨_, _, rfl, (Sli.rep h15), ⟨_, _, rfl, rfl, ⟨_, _, rfl, rfl, rfl⟩⟩⟩⟩⟩⟩⟩⟩⟩⟩
theorem TL0.shutx {M : Mem} {x : TL0} {A2 : Option Addr} {c2 : Nat} {A3 : Option Addr} {c3 : Nat} {A4 : Option Addr} {c4 : Nat} {A5 : Option Addr} {c5 : Nat} {A7 : Option Addr} {c7 : Nat} {A10 : Option Addr} {c10 : Nat} {A11 : Option Addr} {c11 : Nat} {A13 : Option Addr} {c13 : Nat} {A14 : Option Addr} {c14 : Nat} {A15 : Option Addr} {c15 : Nat} (h2 : Sli M 6 emb_TU0 A2 c2 x.fOld.fOwned) (h3 : Sli M 6 emb_TU0 A3 c3 x.fOld.fPending) (h4 : Sli M 6 emb_TU0 A4 c4 x.fOld.fRetained) (h5 : Sli M 8 emb_TF0 A5 c5 x.fOld.fOuts) (h7 : Sli M 8 emb_TF0 A7 c7 x.fOld.fArgs) (h10 : Sli M 7 emb_TH0 A10 c10 x.fNew.fScopes) (h11 : Sli M 11 emb_TQ0 A11 c11 x.fNew.fNodes) (h13 : Sli M 8 emb_TF0 A13 c13 x.fArgs) (h14 : Sli M 8 emb_TD0 A14 c14 x.fChanges) (h15 : Sli M 9 emb_TR0 A15 c15 x.fTasks) : Rep M (emb_TL0 x) [.int .i8 x.fKind, .int .i64 x.fWidth, .slice A2 x.fOld.fOwned.length c2, .slice A3 x.fOld.fPending.length c3, .slice A4 x.fOld.fRetained.length c4, .slice A5 x.fOld.fOuts.length c5, S x.fOld.fText, .slice A7 x.fOld.fArgs.length c7, .int .i64 x.fOld.fCalls, .int .i8 x.fOld.fStatus, .slice A10 x.fNew.fScopes.length c10, .slice A11 x.fNew.fNodes.length c11, S x.fText, .slice A13 x.fArgs.length c13, .slice A14 x.fChanges.length c14, .slice A15 x.fTasks.length c15, .int .i8 x.fPhase, .int .i8 x.fStatus] := by
 obtain ⟨u0, u1, ⟨u2, u3, u4, u5, u6, u7, u8, u9⟩, ⟨u10, u11⟩, u12, u13, u14, u15, u16, u17⟩ := x
 exact TL0.shut h2 h3 h4 h5 h7 h10 h11 h13 h14 h15
structure TC0 where
  fEnded : Bool
  fOk : Bool
  fPhys : List UInt8
  deriving DecidableEq, Inhabited
def emb_TC0 : TC0 → Dat
  | ⟨x0, x1, x2⟩ => .struct [Dat.bool x0, Dat.bool x1, Dat.str x2]
theorem emb_TC0_eq (x : TC0) : emb_TC0 x = .struct [Dat.bool x.fEnded, Dat.bool x.fOk, Dat.str x.fPhys] := by
 cases x
 simp [emb_TC0, eL]
theorem TC0.opn {M : Mem} {x : TC0} {cs : List Value} (h : Rep M (emb_TC0 x) cs) : cs = [.bool x.fEnded, .bool x.fOk, S x.fPhys] := by
 rw [emb_TC0_eq] at h
 obtain ⟨cq_0, dq_0, eq_0, hq_0, gq_0⟩ := h
 have yq_0 : cq_0 = _ := hq_0
 obtain ⟨cq_1, dq_1, eq_1, hq_1, gq_1⟩ := gq_0
 have yq_1 : cq_1 = _ := hq_1
 obtain ⟨cq_2, dq_2, eq_2, hq_2, gq_2⟩ := gq_1
 have yq_2 : cq_2 = _ := hq_2
 have lq : dq_2 = [] := gq_2
 simp [eq_0, yq_0, eq_1, yq_1, eq_2, yq_2, lq]
theorem TC0.shut {M : Mem} {a0 : Bool} {a1 : Bool} {a2 : List UInt8}   : Rep M (emb_TC0 ⟨a0, a1, a2⟩) [.bool a0, .bool a1, S a2] := by
 rw [emb_TC0_eq]; exact ⟨_, _, rfl, rfl, ⟨_, _, rfl, rfl, ⟨_, _, rfl, rfl, rfl⟩⟩⟩
structure T_forward_key where
  change : Int
  phase : Int
  deriving DecidableEq, Inhabited
abbrev z_TU0 : TU0 := (⟨([] : List UInt8), ([] : List UInt8), ([] : List UInt8), ([] : List TF0), (false), ([] : List (List UInt8))⟩ : TU0)
abbrev z_TG0 : TG0 := (⟨([] : List TU0), ([] : List TU0), ([] : List TU0), ([] : List TF0), ([] : List UInt8), ([] : List TF0), (0 : Int), (0 : Int)⟩ : TG0)
abbrev z_TN0 : TN0 := (⟨([] : List TH0), ([] : List TQ0)⟩ : TN0)
abbrev z_TP0 : TP0 := (⟨(0 : Int), (0 : Int), ([] : List UInt8), ([] : List UInt8), ([] : List TF0)⟩ : TP0)
end Go.Proofs.Ytfdmlionhbeebaa
end

section
namespace Go.Proofs
open Go.Shelf
def Try.lays125_ren : Go.Shelf.Ren := ⟨fun | 125 => 72 | 128 => 89 | 129 => 90 | n => n, fun | 46 => 128 | 3 => 3 | 51 => 143 | 53 => 145 | 4 => 4 | 5 => 5 | 9 => 9 | n => n, fun | n => n⟩
theorem Try.lays125 : Go.Proofs.Lays.n125 Try.prog Try.lays125_ren := {
 mixed := by kernel_rfl
 f125 := Try.func72.trans (congrArg some (by kernel_rfl))
 f128 := Try.func89.trans (congrArg some (by kernel_rfl))
 f129 := Try.func90.trans (congrArg some (by kernel_rfl))
 t3 := Try.underlying3
 a3 := Try.isAgg3
 z3 := Try.sizeOf3
 v3 := Try.zeroValue3
 t4 := Try.underlying4
 a4 := Try.isAgg4
 z4 := Try.sizeOf4
 v4 := Try.zeroValue4
 t5 := Try.underlying5
 a5 := Try.isAgg5
 z5 := Try.sizeOf5
 v5 := Try.zeroValue5
 t9 := Try.underlying9
 a9 := Try.isAgg9
 z9 := Try.sizeOf9
 v9 := Try.zeroValue9
 t46 := Try.underlying128
 a46 := Try.isAgg128
 z46 := Try.sizeOf128
 v46 := Try.zeroValue128
 t51 := Try.underlying143
 a51 := Try.isAgg143
 z51 := Try.sizeOf143
 v51 := Try.zeroValue143
 t53 := Try.underlying145
 a53 := Try.isAgg145
 z53 := Try.sizeOf145
 v53 := Try.zeroValue145 }
theorem Try.bits_Len (x : Int) (w : World) (h0 : 0 ≤ x) (h1 : x ≤ 18446744073709551615) :
  Calls Try.prog 72 #[.int .u64 x] w fun e w' => e = .returned (.int .i64 (Lib.bitLen x.toNat)) ∧ w' = w := Any.bits_Len Try.lays125 x w h0 h1
def Try.lays189_ren : Go.Shelf.Ren := ⟨fun | 189 => 57 | 125 => 72 | 257 => 71 | 128 => 89 | 129 => 90 | 294 => 80 | 295 => 81 | 296 => 82 | 297 => 83 | 298 => 84 | 299 => 85 | 216 => 86 | 300 => 87 | 301 => 88 | 328 => 92 | 329 => 93 | 330 => 94 | 331 => 95 | 332 => 96 | 215 => 97 | 343 => 107 | n => n, fun | 28 => 27 | 3 => 3 | 46 => 128 | 0 => 0 | 51 => 143 | 53 => 145 | 4 => 4 | 183 => 137 | 182 => 136 | 131 => 103 | 5 => 5 | 9 => 9 | 218 => 148 | 222 => 152 | 228 => 160 | 229 => 161 | n => n, fun | n => n⟩
theorem Try.lays189 : Go.Proofs.Lays.n189 Try.prog Try.lays189_ren := {
 mixed := by kernel_rfl
 f125 := Try.func72.trans (congrArg some (by kernel_rfl))
 f128 := Try.func89.trans (congrArg some (by kernel_rfl))
 f129 := Try.func90.trans (congrArg some (by kernel_rfl))
 f189 := Try.func57.trans (congrArg some (by kernel_rfl))
 f215 := Try.func97.trans (congrArg some (by kernel_rfl))
 f216 := Try.func86.trans (congrArg some (by kernel_rfl))
 f257 := Try.func71.trans (congrArg some (by kernel_rfl))
 f294 := Try.func80.trans (congrArg some (by kernel_rfl))
 f295 := Try.func81.trans (congrArg some (by kernel_rfl))
 f296 := Try.func82.trans (congrArg some (by kernel_rfl))
 f297 := Try.func83.trans (congrArg some (by kernel_rfl))
 f298 := Try.func84.trans (congrArg some (by kernel_rfl))
 f299 := Try.func85.trans (congrArg some (by kernel_rfl))
 f300 := Try.func87.trans (congrArg some (by kernel_rfl))
 f301 := Try.func88.trans (congrArg some (by kernel_rfl))
 f328 := Try.func92.trans (congrArg some (by kernel_rfl))
 f329 := Try.func93.trans (congrArg some (by kernel_rfl))
 f330 := Try.func94.trans (congrArg some (by kernel_rfl))
 f331 := Try.func95.trans (congrArg some (by kernel_rfl))
 f332 := Try.func96.trans (congrArg some (by kernel_rfl))
 f343 := Try.func107.trans (congrArg some (by kernel_rfl))
 t0 := Try.underlying0
 a0 := Try.isAgg0
 z0 := Try.sizeOf0
 v0 := Try.zeroValue0
 t3 := Try.underlying3
 a3 := Try.isAgg3
 z3 := Try.sizeOf3
 v3 := Try.zeroValue3
 t4 := Try.underlying4
 a4 := Try.isAgg4
 z4 := Try.sizeOf4
 v4 := Try.zeroValue4
 t5 := Try.underlying5
 a5 := Try.isAgg5
 z5 := Try.sizeOf5
 v5 := Try.zeroValue5
 t9 := Try.underlying9
 a9 := Try.isAgg9
 z9 := Try.sizeOf9
 v9 := Try.zeroValue9
 t28 := Try.underlying27
 a28 := Try.isAgg27
 z28 := Try.sizeOf27
 v28 := Try.zeroValue27
 t46 := Try.underlying128
 a46 := Try.isAgg128
 z46 := Try.sizeOf128
 v46 := Try.zeroValue128
 t51 := Try.underlying143
 a51 := Try.isAgg143
 z51 := Try.sizeOf143
 v51 := Try.zeroValue143
 t53 := Try.underlying145
 a53 := Try.isAgg145
 z53 := Try.sizeOf145
 v53 := Try.zeroValue145
 t131 := Try.underlying103
 a131 := Try.isAgg103
 z131 := Try.sizeOf103
 v131 := Try.zeroValue103
 t182 := Try.underlying136
 a182 := Try.isAgg136
 z182 := Try.sizeOf136
 v182 := Try.zeroValue136
 t183 := Try.underlying137
 a183 := Try.isAgg137
 z183 := Try.sizeOf137
 v183 := Try.zeroValue137
 t218 := Try.underlying148
 a218 := Try.isAgg148
 z218 := Try.sizeOf148
 v218 := Try.zeroValue148
 t222 := Try.underlying152
 a222 := Try.isAgg152
 z222 := Try.sizeOf152
 v222 := Try.zeroValue152
 t228 := Try.underlying160
 a228 := Try.isAgg160
 z228 := Try.sizeOf160
 v228 := Try.zeroValue160
 t229 := Try.underlying161
 a229 := Try.isAgg161
 z229 := Try.sizeOf161
 v229 := Try.zeroValue161 }
open Go.Sort Go.RowKit in
theorem Try.slices_Sort_int (blk off cap : Nat) (zs : List Int) (w : World) (hH : Holds (Value.int .i64) w blk off zs.toArray) (hblk : blk < w.heap.size) (hsz : zs.length < 4611686018427387904) :
  Calls Try.prog 57 #[.slice (some ⟨blk, off, none⟩) zs.length cap] w fun e w' =>
   e = .returned (.tuple #[]) ∧ ∃ n os, w' = grow (putRow (Value.int .i64) (Sort.ahead w n) blk off (zs.mergeSort fun x y => decide (x ≤ y)).toArray) os := Any.slices_Sort_int Try.lays189 blk off cap zs w hH hblk hsz
def Try.lays190_ren : Go.Shelf.Ren := ⟨fun | 190 => 74 | 125 => 72 | 258 => 91 | 128 => 89 | 129 => 90 | 302 => 98 | 303 => 99 | 304 => 100 | 305 => 101 | 306 => 102 | 307 => 103 | 308 => 104 | 309 => 105 | 310 => 106 | 333 => 108 | 329 => 93 | 330 => 94 | 334 => 109 | 335 => 110 | 336 => 111 | 344 => 112 | n => n, fun | 31 => 41 | 9 => 9 | 3 => 3 | 46 => 128 | 0 => 0 | 51 => 143 | 53 => 145 | 4 => 4 | 183 => 137 | 182 => 136 | 131 => 103 | 5 => 5 | 218 => 148 | 222 => 152 | 228 => 160 | 229 => 161 | n => n, fun | n => n⟩
theorem Try.lays190 : Go.Proofs.Lays.n190 Try.prog Try.lays190_ren := {
 mixed := by kernel_rfl
 f125 := Try.func72.trans (congrArg some (by kernel_rfl))
 f128 := Try.func89.trans (congrArg some (by kernel_rfl))
 f129 := Try.func90.trans (congrArg some (by kernel_rfl))
 f190 := Try.func74.trans (congrArg some (by kernel_rfl))
 f258 := Try.func91.trans (congrArg some (by kernel_rfl))
 f302 := Try.func98.trans (congrArg some (by kernel_rfl))
 f303 := Try.func99.trans (congrArg some (by kernel_rfl))
 f304 := Try.func100.trans (congrArg some (by kernel_rfl))
 f305 := Try.func101.trans (congrArg some (by kernel_rfl))
 f306 := Try.func102.trans (congrArg some (by kernel_rfl))
 f307 := Try.func103.trans (congrArg some (by kernel_rfl))
 f308 := Try.func104.trans (congrArg some (by kernel_rfl))
 f309 := Try.func105.trans (congrArg some (by kernel_rfl))
 f310 := Try.func106.trans (congrArg some (by kernel_rfl))
 f329 := Try.func93.trans (congrArg some (by kernel_rfl))
 f330 := Try.func94.trans (congrArg some (by kernel_rfl))
 f333 := Try.func108.trans (congrArg some (by kernel_rfl))
 f334 := Try.func109.trans (congrArg some (by kernel_rfl))
 f335 := Try.func110.trans (congrArg some (by kernel_rfl))
 f336 := Try.func111.trans (congrArg some (by kernel_rfl))
 f344 := Try.func112.trans (congrArg some (by kernel_rfl))
 t0 := Try.underlying0
 a0 := Try.isAgg0
 z0 := Try.sizeOf0
 v0 := Try.zeroValue0
 t3 := Try.underlying3
 a3 := Try.isAgg3
 z3 := Try.sizeOf3
 v3 := Try.zeroValue3
 t4 := Try.underlying4
 a4 := Try.isAgg4
 z4 := Try.sizeOf4
 v4 := Try.zeroValue4
 t5 := Try.underlying5
 a5 := Try.isAgg5
 z5 := Try.sizeOf5
 v5 := Try.zeroValue5
 t9 := Try.underlying9
 a9 := Try.isAgg9
 z9 := Try.sizeOf9
 v9 := Try.zeroValue9
 t31 := Try.underlying41
 a31 := Try.isAgg41
 z31 := Try.sizeOf41
 v31 := Try.zeroValue41
 t46 := Try.underlying128
 a46 := Try.isAgg128
 z46 := Try.sizeOf128
 v46 := Try.zeroValue128
 t51 := Try.underlying143
 a51 := Try.isAgg143
 z51 := Try.sizeOf143
 v51 := Try.zeroValue143
 t53 := Try.underlying145
 a53 := Try.isAgg145
 z53 := Try.sizeOf145
 v53 := Try.zeroValue145
 t131 := Try.underlying103
 a131 := Try.isAgg103
 z131 := Try.sizeOf103
 v131 := Try.zeroValue103
 t182 := Try.underlying136
 a182 := Try.isAgg136
 z182 := Try.sizeOf136
 v182 := Try.zeroValue136
 t183 := Try.underlying137
 a183 := Try.isAgg137
 z183 := Try.sizeOf137
 v183 := Try.zeroValue137
 t218 := Try.underlying148
 a218 := Try.isAgg148
 z218 := Try.sizeOf148
 v218 := Try.zeroValue148
 t222 := Try.underlying152
 a222 := Try.isAgg152
 z222 := Try.sizeOf152
 v222 := Try.zeroValue152
 t228 := Try.underlying160
 a228 := Try.isAgg160
 z228 := Try.sizeOf160
 v228 := Try.zeroValue160
 t229 := Try.underlying161
 a229 := Try.isAgg161
 z229 := Try.sizeOf161
 v229 := Try.zeroValue161 }
open Go.Sort Go.RowKit in
theorem Try.slices_Sort_string (blk off cap : Nat) (ss : List (List UInt8)) (w : World) (hH : Holds encStr w blk off ss.toArray) (hblk : blk < w.heap.size) (hsz : ss.length < 4611686018427387904) :
  Calls Try.prog 74 #[.slice (some ⟨blk, off, none⟩) ss.length cap] w fun e w' =>
   e = .returned (.tuple #[]) ∧ ∃ n os, w' = grow (putRow encStr (Sort.ahead w n) blk off (ss.mergeSort fun x y => decide (x ≤ y)).toArray) os := Any.slices_Sort_string Try.lays190 blk off cap ss w hH hblk hsz
def Try.laysNm220_ren : Go.Shelf.Ren := ⟨fun | 20 => 58 | n => n, fun | 22 => 27 | 3 => 3 | 4 => 4 | 0 => 0 | n => n, fun | n => n⟩
theorem Try.laysNm220 : Go.Proofs.Lays2.n20 Try.prog Try.laysNm220_ren := {
 mixed := by kernel_rfl
 f20 := Try.func58.trans (congrArg some (by kernel_rfl))
 t0 := Try.underlying0
 a0 := Try.isAgg0
 z0 := Try.sizeOf0
 v0 := Try.zeroValue0
 t3 := Try.underlying3
 a3 := Try.isAgg3
 z3 := Try.sizeOf3
 v3 := Try.zeroValue3
 t4 := Try.underlying4
 a4 := Try.isAgg4
 z4 := Try.sizeOf4
 v4 := Try.zeroValue4
 t22 := Try.underlying27
 a22 := Try.isAgg27
 z22 := Try.sizeOf27
 v22 := Try.zeroValue27
 i3 := by kernel_rfl }
open Go.RowKit Go.Lib Go.Sort in
theorem Try.slices_Compact_int (blk off cap : Nat) (zs : List Int) (w : World) (hH : Holds (Value.int .i64) w blk off zs.toArray) (hsz : zs.length ≤ 9223372036854775807) (hcap : zs.length ≤ cap) :
  Calls Try.prog 58 #[.slice (some ⟨blk, off, none⟩) zs.length cap] w fun e w' => e = .returned (.slice (some ⟨blk, off, none⟩) (Lib.compact zs).length cap) ∧ ∃ q, w' = putRow (Value.int .i64) (Sort.ahead w q) blk off (Lib.compact zs ++ List.replicate (zs.length - (Lib.compact zs).length) 0).toArray := Any.slices_Compact_int Try.laysNm220 blk off cap zs w hH hsz hcap
open Go.RowKit Go.Lib Go.Sort in
theorem Try.slices_Compact_int_empty (a : Option Addr) (cap : Nat) (w : World) :
  Calls Try.prog 58 #[.slice a 0 cap] w fun e w' => e = .returned (.slice a 0 cap) ∧ w' = w := Any.slices_Compact_int_empty Try.laysNm220 a cap w
def Try.lays194_ren : Go.Shelf.Ren := ⟨fun | 194 => 76 | n => n, fun | 31 => 41 | 9 => 9 | 3 => 3 | 4 => 4 | 0 => 0 | n => n, fun | n => n⟩
theorem Try.lays194 : Go.Proofs.Lays.n194 Try.prog Try.lays194_ren := {
 mixed := by kernel_rfl
 f194 := Try.func76.trans (congrArg some (by kernel_rfl))
 t0 := Try.underlying0
 a0 := Try.isAgg0
 z0 := Try.sizeOf0
 v0 := Try.zeroValue0
 t3 := Try.underlying3
 a3 := Try.isAgg3
 z3 := Try.sizeOf3
 v3 := Try.zeroValue3
 t4 := Try.underlying4
 a4 := Try.isAgg4
 z4 := Try.sizeOf4
 v4 := Try.zeroValue4
 t9 := Try.underlying9
 a9 := Try.isAgg9
 z9 := Try.sizeOf9
 v9 := Try.zeroValue9
 t31 := Try.underlying41
 a31 := Try.isAgg41
 z31 := Try.sizeOf41
 v31 := Try.zeroValue41 }
open Go.RowKit Go.Lib Go.Sort in
theorem Try.slices_Compact_string (blk off cap : Nat) (zs : List (List UInt8)) (w : World) (hH : Holds encStr w blk off zs.toArray) (hsz : zs.length ≤ 9223372036854775807) (hcap : zs.length ≤ cap) :
  Calls Try.prog 76 #[.slice (some ⟨blk, off, none⟩) zs.length cap] w fun e w' => e = .returned (.slice (some ⟨blk, off, none⟩) (Lib.compact zs).length cap) ∧ ∃ q, w' = putRow encStr (Sort.ahead w q) blk off (Lib.compact zs ++ List.replicate (zs.length - (Lib.compact zs).length) []).toArray := Any.slices_Compact_string Try.lays194 blk off cap zs w hH hsz hcap
open Go.RowKit Go.Lib Go.Sort in
theorem Try.slices_Compact_string_empty (a : Option Addr) (cap : Nat) (w : World) :
  Calls Try.prog 76 #[.slice a 0 cap] w fun e w' => e = .returned (.slice a 0 cap) ∧ w' = w := Any.slices_Compact_string_empty Try.lays194 a cap w
open Go.RowKit Go.Sort in
theorem Try.slices_Sort_string_none (p : Option Addr) (cap : Nat) (w : World) :
  Calls Try.prog 74 #[.slice p 0 cap] w fun e w' => e = .returned (.tuple #[]) ∧ w' = w := Any.slices_Sort_string_none Try.lays190 p cap w
open Go.RowKit Go.Sort in
theorem Try.slices_Sort_int_none (p : Option Addr) (cap : Nat) (w : World) :
  Calls Try.prog 57 #[.slice p 0 cap] w fun e w' => e = .returned (.tuple #[]) ∧ w' = w := Any.slices_Sort_int_none Try.lays189 p cap w
end Go.Proofs
end

section
namespace Go.Proofs.Ytfdmlionhbeebaa
open Go Go.Vc Go.RowKit Go.Sort
instance : DecidableEq T_forward_key := fun x y => decidable_of_iff (x.change = y.change ∧ x.phase = y.phase) (by cases x; cases y; simp)
def insG {α : Type} (le : α → α → Bool) (x : α) : List α → List α
  | [] => [x]
  | y :: r => bif le x y then x :: y :: r else y :: insG le x r
def sortG {α : Type} (le : α → α → Bool) : List α → List α
  | [] => []
  | x :: r => insG le x (sortG le r)
section
variable {α : Type} {le : α → α → Bool}
theorem insG_perm (le : α → α → Bool) (x : α) : ∀ l, (insG le x l).Perm (x :: l)
 | [] => List.Perm.refl _
 | y :: r => by
  unfold insG
  cases le x y with
  | true => exact List.Perm.refl _
  | false => exact ((insG_perm le x r).cons y).trans (List.Perm.swap x y r)
theorem sortG_perm (le : α → α → Bool) : ∀ l, (sortG le l).Perm l
 | [] => List.Perm.refl _
 | x :: r => (insG_perm le x _).trans ((sortG_perm le r).cons x)
theorem sortG_len (le : α → α → Bool) (l : List α) : (sortG le l).length = l.length := (sortG_perm le l).length_eq
theorem insG_sorted (ht : ∀ a b c, le a b = true → le b c = true → le a c = true) (hn : ∀ a b, le a b = true ∨ le b a = true) (x : α) : ∀ l, l.Pairwise (fun a b => le a b = true) → (insG le x l).Pairwise (fun a b => le a b = true)
 | [], _ => by simp [insG]
 | y :: r, h => by
  obtain ⟨h1, h2⟩ := List.pairwise_cons.1 h
  unfold insG
  cases hxy : le x y with
  | true => exact List.pairwise_cons.2 ⟨fun z hz => by
    rcases List.mem_cons.1 hz with rfl | hz
    ·exact hxy
    ·exact ht _ _ _ hxy (h1 z hz), h⟩
  | false =>
   refine List.pairwise_cons.2 ⟨fun z hz => ?_, insG_sorted ht hn x r h2⟩
   rcases List.mem_cons.1 ((insG_perm le x r).mem_iff.1 hz) with rfl | hz
   ·exact (hn z y).resolve_left (by simp [hxy])
   ·exact h1 z hz
theorem sortG_sorted (ht : ∀ a b c, le a b = true → le b c = true → le a c = true) (hn : ∀ a b, le a b = true ∨ le b a = true) : ∀ l, (sortG le l).Pairwise (fun a b => le a b = true)
 | [] => List.Pairwise.nil
 | x :: r => insG_sorted ht hn x _ (sortG_sorted ht hn r)
theorem sortG_eq (ht : ∀ a b c, le a b = true → le b c = true → le a c = true) (hn : ∀ a b, le a b = true ∨ le b a = true) (ha : ∀ a b, le a b = true → le b a = true → a = b) (l : List α) : l.mergeSort le = sortG le l :=
 List.Perm.eq_of_pairwise (le := fun a b => le a b = true) (fun a b _ _ h1 h2 => ha a b h1 h2) (List.pairwise_mergeSort ht (fun a b => by simpa using hn a b) l) (sortG_sorted ht hn l) ((List.mergeSort_perm l _).trans (sortG_perm _ l).symm)
end
def leI (x y : Int) : Bool := decide (x ≤ y)
def leS (x y : List UInt8) : Bool := decide (x ≤ y)
theorem sortI_eq (l : List Int) : l.mergeSort (fun x y => decide (x ≤ y)) = sortG leI l :=
 sortG_eq (le := leI) (fun a b c h1 h2 => by simp only [leI, decide_eq_true_eq] at *; omega) (fun a b => by simp only [leI, decide_eq_true_eq]; omega) (fun a b h1 h2 => by simp only [leI, decide_eq_true_eq] at *; omega) l
theorem sortS_eq (l : List (List UInt8)) : l.mergeSort (fun x y => decide (x ≤ y)) = sortG leS l :=
 sortG_eq (le := leS) (fun a b c h1 h2 => by simp only [leS, decide_eq_true_eq] at *; exact List.le_trans h1 h2) (fun a b => by simp only [leS, decide_eq_true_eq]; exact List.le_total a b) (fun a b h1 h2 => by simp only [leS, decide_eq_true_eq] at *; exact List.le_antisymm h1 h2) l
theorem comp_le {α : Type} [Inhabited α] [DecidableEq α] (l : List α) : (Lib.compact l).length ≤ l.length := by
 unfold Lib.compact Lib.compactUpTo
 rw [List.length_map]
 exact Nat.le_trans (List.length_filter_le _ _) (by simp)
def h_SortI (_ : Nat) (d : List Int) : Option (List Int) := need (d.length < 4611686018427387904) (some (sortG leI d))
theorem h_SortI_ok (n : Nat) (M : Mem) (A : Option Addr) (cap : Nat) (d : List Int) (cs : List Value) (hr : RepSeq M (d.map (Dat.int .i64)) cs) (r : List Int) (hF : h_SortI n d = some r) :
  OkH Try.prog M [.row 3 1 (.slice A d.length cap) d.length cs] 57 [.slice A d.length cap] fun M' E' v => ∃ s, v = .tuple #[] ∧ E' = [.row 3 1 (.slice A d.length cap) r.length s] ∧ RepSeq M' (r.map (Dat.int .i64)) s ∧ r.length = d.length := by
 unfold h_SortI at hF
 obtain ⟨g0, hF⟩ := need_some hF
 obtain rfl := Option.some.inj hF
 have hl := sortG_len leI d
 obtain rfl := ints_eq_ hr
 intro M2 hM w0 H w hp
 refine (sortRow (P := Try.prog) (f := 57) (e := 3) (enc := Value.int .i64) (zs := d) (ys := sortG leI d) hl (fun blk off cap w hH hb => by have := Try.slices_Sort_int blk off cap d w hH hb g0; rwa [sortI_eq] at this) (fun _ M => Ok.ofPure fun w => Try.slices_Sort_int_none none 0 w) M (.slice A d.length cap) M2 hM w0 H w hp).mono fun _ w' ⟨v, he, M', E', h1, h2, h3, h4⟩ => ⟨v, he, M', E', h1, h2, _, h3, by rw [hl]; exact h4, ints_rep _, hl⟩
def h_SortS (_ : Nat) (d : List (List UInt8)) : Option (List (List UInt8)) := need (d.length < 4611686018427387904) (some (sortG leS d))
theorem h_SortS_ok (n : Nat) (M : Mem) (A : Option Addr) (cap : Nat) (d : List (List UInt8)) (cs : List Value) (hr : RepSeq M (d.map Dat.str) cs) (r : List (List UInt8)) (hF : h_SortS n d = some r) :
  OkH Try.prog M [.row 9 1 (.slice A d.length cap) d.length cs] 74 [.slice A d.length cap] fun M' E' v => ∃ s, v = .tuple #[] ∧ E' = [.row 9 1 (.slice A d.length cap) r.length s] ∧ RepSeq M' (r.map Dat.str) s ∧ r.length = d.length := by
 unfold h_SortS at hF
 obtain ⟨g0, hF⟩ := need_some hF
 obtain rfl := Option.some.inj hF
 have hl := sortG_len leS d
 obtain rfl := strs_eq_ hr
 intro M2 hM w0 H w hp
 refine (sortRow (P := Try.prog) (f := 74) (e := 9) (enc := S) (zs := d) (ys := sortG leS d) hl (fun blk off cap w hH hb => by have := Try.slices_Sort_string blk off cap d w hH hb g0; rwa [sortS_eq] at this) (fun _ M => Ok.ofPure fun w => Try.slices_Sort_string_none none 0 w) M (.slice A d.length cap) M2 hM w0 H w hp).mono fun _ w' ⟨v, he, M', E', h1, h2, h3, h4⟩ => ⟨v, he, M', E', h1, h2, _, h3, by rw [hl]; exact h4, strs_rep _, hl⟩
def h_CompactI (_ : Nat) (d : List Int) : Option (List Int) := need (d.length < 4611686018427387904) (some (Lib.compact d))
theorem h_CompactI_ok (n : Nat) (M : Mem) (A : Option Addr) (cap : Nat) (d : List Int) (cs : List Value) (hr : RepSeq M (d.map (Dat.int .i64)) cs) (r : List Int) (hF : h_CompactI n d = some r) :
  OkH Try.prog M [.row 3 1 (.slice A d.length cap) d.length cs] 58 [.slice A d.length cap] fun M' E' v => ∃ s, v = .slice A r.length cap ∧ E' = [.row 3 1 (.slice A r.length cap) r.length s] ∧ RepSeq M' (r.map (Dat.int .i64)) s := by
 unfold h_CompactI at hF
 obtain ⟨g0, hF⟩ := need_some hF
 obtain rfl := Option.some.inj hF
 obtain rfl := ints_eq_ hr
 intro M2 hM w0 H w hp
 refine (compactRow (P := Try.prog) (f := 58) (e := 3) (enc := Value.int .i64) (zs := d) 0 (fun blk off cap w hH hc => Try.slices_Compact_int blk off cap d w hH (by omega) hc) (fun a cap w => Try.slices_Compact_int_empty a cap w) (comp_le d) M A cap M2 hM w0 H w hp).mono fun _ w' ⟨v, he, M', E', h1, h2, h3, h4⟩ => ⟨v, he, M', E', h1, h2, _, h3, h4, ints_rep _⟩
def h_CompactS (_ : Nat) (d : List (List UInt8)) : Option (List (List UInt8)) := need (d.length < 4611686018427387904) (some (Lib.compact d))
theorem h_CompactS_ok (n : Nat) (M : Mem) (A : Option Addr) (cap : Nat) (d : List (List UInt8)) (cs : List Value) (hr : RepSeq M (d.map Dat.str) cs) (r : List (List UInt8)) (hF : h_CompactS n d = some r) :
  OkH Try.prog M [.row 9 1 (.slice A d.length cap) d.length cs] 76 [.slice A d.length cap] fun M' E' v => ∃ s, v = .slice A r.length cap ∧ E' = [.row 9 1 (.slice A r.length cap) r.length s] ∧ RepSeq M' (r.map Dat.str) s := by
 unfold h_CompactS at hF
 obtain ⟨g0, hF⟩ := need_some hF
 obtain rfl := Option.some.inj hF
 obtain rfl := strs_eq_ hr
 intro M2 hM w0 H w hp
 refine (compactRow (P := Try.prog) (f := 76) (e := 9) (enc := S) (zs := d) [] (fun blk off cap w hH hc => Try.slices_Compact_string blk off cap d w hH (by omega) hc) (fun a cap w => Try.slices_Compact_string_empty a cap w) (comp_le d) M A cap M2 hM w0 H w hp).mono fun _ w' ⟨v, he, M', E', h1, h2, h3, h4⟩ => ⟨v, he, M', E', h1, h2, _, h3, h4, strs_rep _⟩
end Go.Proofs.Ytfdmlionhbeebaa
end

section
namespace Go.Proofs.Ytfdmlionhbeebaa
open Go Go.Vc Go.RowKit
theorem E_endr {P : Program} {fn : Func} {n : Nat} {L : Fr} {a : Act} {w : World} {R : Ending → World → Prop} (hf : Frm n L a) (hr : fn.results = #[]) (h : R (.returned (.tuple #[])) w) : bodyPost P fn R .ret a w :=
 ⟨hf.defers, _, results_none hr _ P w, h⟩
set_option maxRecDepth 100000 in
theorem backC_iter (xs : List TD0) (hlen : xs.length ≤ 9223372036854775806) (M : Mem) (A : Option Addr) (cap bv : Nat) (hsl : Sli M 8 emb_TD0 A cap xs) (hbv : M.cell? ⟨bv, 0, none⟩ = some (.slice A xs.length cap)) :
  IterOk Try.prog 70 [.pointer (some ⟨bv, 0, none⟩)] (vals2 (vstr emb_TD0)) (backI xs) M := by
 refine ⟨Go.Proofs.enters_of Try.func70 (by kernel_rfl) rfl, fun σ β Y s0 r hr l J Jx hJ hJx hY w0 M1 E H w hM0 hj p0 => ?_⟩
 replace hsl := hsl.mono hM0
 replace hbv := hM0.cell hbv
 refine R_enter 19 Try.func70 rfl rfl (by simp) (fun a0 f0 => ?_)
 replace f0 : Frm 19 [(0, .func (.yield l) #[] #[]), (1, .pointer (some ⟨bv, 0, none⟩))] a0 := f0
 refine R_seq ?_
 refine R_reg ?_
 refine W_eq (v := .slice A xs.length cap) f0 (by kernel_rfl) (by kernel_rfl) rfl rfl (X_load1 (v := .slice A xs.length cap) rfl (ad := ⟨bv, 0, none⟩) (by kernel_rfl) (by kernel_rfl) (p0.cell hbv)) (fun a_1 f_1 => ?_)
 refine W_run (L' := [(0, .func (.yield l) #[] #[]), (1, .pointer (some ⟨bv, 0, none⟩)), (6, .int .i64 (IntKind.wrap .i64 (((xs.length : Nat) : Int) - 1)))]) (w' := w) f_1 2 [0, 1, 6] (by kernel_rfl) (fun a_2 f_2 => ?_)
 have hin0 : inR .i64 (((xs.length : Nat) : Int) - 1) := inR_mk.2 ⟨by omega, by omega⟩
 have f_3 := Frm.set f_2 6 (v := .int .i64 (IntKind.wrap .i64 (((xs.length : Nat) : Int) - 1))) (v' := .int .i64 (((xs.length : Nat) : Int) - 1)) (by kernel_rfl) (congrArg (Value.int .i64) (inR_wrap hin0))
 have f_4 : Frm 19 [(0, .func (.yield l) #[] #[]), (1, .pointer (some ⟨bv, 0, none⟩)), (6, .int .i64 (((xs.length : Nat) : Int) - 1))] a_2 := f_3.keep (ks := [0, 1, 6]) (by kernel_rfl)
 refine W_run (L' := [(0, .func (.yield l) #[] #[]), (1, .pointer (some ⟨bv, 0, none⟩)), (3, .int .i64 (((xs.length : Nat) : Int) - 1))]) (w' := w) f_4 1 [0, 1, 3] (by kernel_rfl) (fun a_5 f_5 => ?_)
 refine W_end rfl ?_
 refine T_n ?_
 refine wp_block ?_
 have hr0 : foldY Y (backI (xs.take xs.length)) s0 = some r := by rw [List.take_length]; exact hr
 refine wp_mono (Q := fun e a w => (e = .exit 0 ∧ ∃ s' M' E', r = .nx s' ∧ M1.le M' ∧ J s' M' E' ∧ Frm 19 [(0, .func (.yield l) #[] #[])] a ∧ Hp w0 M' (E' ++ H) w) ∨ (e = .ret ∧ ∃ b M' E', r = .br b ∧ M1.le M' ∧ Jx b M' E' ∧ Frm 19 [] a ∧ Hp w0 M' (E' ++ H) w))
  (R_loop (n := 19) (w0 := w0) (M := M1) (fun (x : Nat × σ × List Ent) => [(0, .func (.yield l) #[] #[]), (1, .pointer (some ⟨bv, 0, none⟩)), (3, .int .i64 ((x.1 : Int) - 1))]) (fun x => x.2.2 ++ H)
   (fun x (MM : Mem) => J x.2.1 MM x.2.2 ∧ foldY Y (backI (xs.take x.1)) x.2.1 = some r ∧ x.1 ≤ xs.length) (fun x => x.1) (xs.length, s0, E) f_5 p0 ⟨hj, hr0, Nat.le_refl _⟩ ?_) ?_
 ·rintro ⟨k, s, Es⟩ M_3 a_11 w_2 hM3 ⟨hjs, hfs, hk⟩ f_11 p_2
  dsimp only at hjs hfs hk
  replace f_11 : Frm 19 [(0, .func (.yield l) #[] #[]), (1, .pointer (some ⟨bv, 0, none⟩)), (3, .int .i64 ((k : Int) - 1))] a_11 := f_11
  replace p_2 : Hp w0 M_3 (Es ++ H) w_2 := p_2
  refine R_seq ?_
  refine R_seq ?_
  refine R_reg ?_
  refine W_run (L' := [(0, .func (.yield l) #[] #[]), (1, .pointer (some ⟨bv, 0, none⟩)), (3, .int .i64 ((k : Int) - 1)), (8, .bool (decide (0 ≤ ((k : Int) - 1))))]) (w' := w_2) f_11 2 [0, 1, 3, 8] (by kernel_rfl) (fun a_12 f_12 => ?_)
  refine W_end rfl ?_
  refine T_n ?_
  refine R_cond f_12 (b := decide (0 ≤ ((k : Int) - 1))) (by kernel_rfl) (by kernel_rfl) (fun h_3 => ?_) (fun h_3 => ?_)
  ·have k_1 : 0 ≤ ((k : Int) - 1) := of_decide_eq_true h_3
   obtain ⟨q, rfl⟩ : ∃ q, k = q + 1 := ⟨k - 1, by omega⟩
   have hq : q < xs.length := by omega
   rw [back_take hq] at hfs
   have e1 : ((q + 1 : Nat) : Int) - 1 = (q : Int) := by omega
   rw [e1] at f_12
   refine wp_skip ?_
   refine T_n ?_
   refine R_seq ?_
   refine wp_block ?_
   refine R_seq ?_
   obtain ⟨r1, hy1, hfold⟩ := Option.bind_eq_some_iff.1 hfs
   have hx : xs[q]? = some xs[q] := List.getElem?_eq_getElem hq
   have hgx : getI xs (q : Int) = some xs[q] := by unfold getI; rw [if_pos (by omega)]; exact hx
   obtain ⟨ad_1, c_1, e_1, hl_1, hr_1, hc_1⟩ := Sli.at_ (hsl.mono hM3) hgx
   refine WI_reg ?_
   refine WI_pre 6 (by kernel_rfl) ?_
   refine W_eq (w' := w_2) (v := .func (.yield l) #[] #[]) f_12 (by kernel_rfl) (by kernel_rfl) rfl rfl (by kernel_rfl) (fun a_13 f_13 => ?_)
   refine W_eq (w' := w_2) (v := .int .i64 (q : Int)) f_13 (by kernel_rfl) (by kernel_rfl) rfl rfl (by kernel_rfl) (fun a_14 f_14 => ?_)
   refine W_eq (w' := w_2) (v := .slice A xs.length cap) f_14 (by kernel_rfl) (by kernel_rfl) rfl rfl (X_load1 (v := .slice A xs.length cap) rfl (ad := ⟨bv, 0, none⟩) (by kernel_rfl) (by kernel_rfl) (p_2.cell (hM3.cell hbv))) (fun a_15 f_15 => ?_)
   refine W_eq (w' := w_2) (v := .int .i64 (q : Int)) f_15 (by kernel_rfl) (by kernel_rfl) rfl rfl (by kernel_rfl) (fun a_16 f_16 => ?_)
   refine W_eq (w' := w_2) (v := .pointer (some (ad_1.add ((q : Int).toNat * 8)))) f_16 (by kernel_rfl) (by kernel_rfl) rfl rfl (X_indexAddrA e_1 rfl (len := xs.length) (cap := cap) (k := .i64) (i := (q : Int)) (by kernel_rfl) (by kernel_rfl) (e := 77) (by kernel_rfl) (sz := 8) (by kernel_rfl) (getI_nn hgx) (getI_lt hgx)) (fun a_17 f_17 => ?_)
   refine W_eq (w' := w_2) (v := (.agg c_1.toArray)) f_17 (by kernel_rfl) (by kernel_rfl) rfl rfl (X_loadN (cs := c_1) rfl (ad := ad_1.add ((q : Int).toNat * 8)) (by kernel_rfl) (by rw [hl_1]; kernel_rfl) (fun j u h => p_2.cell (hc_1 j u h))) (fun a_18 f_18 => ?_)
   refine W_end rfl ⟨rfl, ?_⟩
   obtain ⟨fn, tmps, asg, bd, hrun, hR⟩ := hY s _ r1 hy1 w0 M_3 Es H w_2 [.int .i64 (q : Int), (.agg c_1.toArray)] hjs ⟨_, rfl, ⟨c_1, rfl, hr_1⟩⟩ p_2
   refine WI_round f_18 (by kernel_rfl) (by kernel_rfl) rfl rfl (fun c e => by cases e) (hx := Eq.trans (by kernel_rfl) hrun) hR ?_
   rintro e w_3 ⟨M2, E2, hM2, p_3, hr3⟩
   cases r1 with
   | br b =>
    obtain ⟨rfl, hjx⟩ := hr3
    obtain rfl := Option.some.inj hfold
    refine ⟨_, rfl, fun a_19 f_19 => ?_⟩
    refine list_in (ro := none) (by rintro ⟨_, _, h⟩; rcases h with h | h <;> cases h.1) _ (by kernel_rfl) _ _ ?_
    refine W_run (L' := [(18, .bool true)]) (w' := w_3) f_19 1 [18] (by kernel_rfl) (fun a_20 f_20 => ?_)
    refine W_end rfl ?_
    refine T_n ?_
    refine R_cond_t f_20 (by kernel_rfl) (by kernel_rfl) ?_
    refine wp_ret ?_
    refine B_r ?_
    refine T_r ?_
    refine T_r ?_
    exact .inr ⟨rfl, b, M2, E2, rfl, hM3.trans hM2, hjx, f_20.keep (ks := []) (by kernel_rfl), p_3⟩
   | nx s1 =>
    obtain ⟨rfl, hj1⟩ := hr3
    replace hfold : foldY Y (backI (xs.take q)) s1 = some r := hfold
    refine ⟨_, rfl, fun a_19 f_19 => ?_⟩
    refine list_in (ro := none) (by rintro ⟨_, _, h⟩; rcases h with h | h <;> cases h.1) _ (by kernel_rfl) _ _ ?_
    refine W_run (L' := [(0, .func (.yield l) #[] #[]), (1, .pointer (some ⟨bv, 0, none⟩)), (3, .int .i64 (q : Int)), (18, .bool false)]) (w' := w_3) f_19 1 [0, 1, 3, 18] (by kernel_rfl) (fun a_20 f_20 => ?_)
    refine W_end rfl ?_
    refine T_n ?_
    refine R_cond_f f_20 (by kernel_rfl) (by kernel_rfl) ?_
    refine wp_skip ?_
    refine B_n ?_
    refine T_n ?_
    refine R_reg ?_
    have hin : inR .i64 ((q : Int) - 1) := inR_mk.2 ⟨by omega, by omega⟩
    refine W_run (L' := [(0, .func (.yield l) #[] #[]), (1, .pointer (some ⟨bv, 0, none⟩)), (10, .int .i64 (IntKind.wrap .i64 ((q : Int) - 1)))]) (w' := w_3) f_20 2 [0, 1, 10] (by kernel_rfl) (fun a_23 f_23 => ?_)
    have f_24 := Frm.set f_23 10 (v := .int .i64 (IntKind.wrap .i64 ((q : Int) - 1))) (v' := .int .i64 ((q : Int) - 1)) (by kernel_rfl) (congrArg (Value.int .i64) (inR_wrap hin))
    have f_25 : Frm 19 [(0, .func (.yield l) #[] #[]), (1, .pointer (some ⟨bv, 0, none⟩)), (10, .int .i64 ((q : Int) - 1))] a_23 := f_24.keep (ks := [0, 1, 10]) (by kernel_rfl)
    refine W_run (L' := [(0, .func (.yield l) #[] #[]), (1, .pointer (some ⟨bv, 0, none⟩)), (3, .int .i64 ((q : Int) - 1))]) (w' := w_3) f_25 1 [0, 1, 3] (by kernel_rfl) (fun a_26 f_26 => ?_)
    refine W_end rfl ?_
    refine T_n ?_
    exact ⟨(q, s1, E2), by dsimp only; omega, M2, hM3.trans hM2, ⟨hj1, hfold, by dsimp only; omega⟩, f_26, p_3⟩
  ·have k_1 : ¬ (0 ≤ ((k : Int) - 1)) := of_decide_eq_false h_3
   obtain rfl : k = 0 := by omega
   refine wp_exit ?_
   refine T_x ?_
   refine T_x ?_
   obtain rfl := Option.some.inj hfs
   exact .inl ⟨rfl, s, M_3, Es, rfl, hM3, hjs, f_12.keep (ks := [0]) (by kernel_rfl), p_2⟩
 ·rintro _ a_24 w_4 (⟨rfl, s', M', E', rfl, g1, g2, f_29, p_3⟩ | ⟨rfl, b, M', E', rfl, g1, g2, f_29, p_3⟩)
  ·refine B_x ?_
   refine E_end0 f_29 rfl ?_
   exact ⟨_, rfl, M', E', g1, p_3, g2⟩
  ·refine B_r ?_
   refine E_endr f_29 rfl ?_
   exact ⟨_, rfl, M', E', g1, p_3, g2⟩
theorem backC_ok (xs : List TD0) (hlen : xs.length ≤ 9223372036854775806) (M : Mem) (A : Option Addr) (cap : Nat) (h0 : Sli M 8 emb_TD0 A cap xs) :
  Ok Try.prog M 56 [.slice A xs.length cap] (fun M' u => ∃ f caps, u = .func (.func f) #[] caps.toArray ∧ IterOk Try.prog f caps (vals2 (vstr emb_TD0)) (backI xs) M') := by
 intro M1 hM0 w0 H w p0
 replace h0 := h0.mono hM0
 refine R_enter 4 Try.func56 rfl rfl (by simp) (fun a0 f0 => ?_)
 replace f0 : Frm 4 [(0, .slice A xs.length cap)] a0 := f0
 refine R_seq ?_
 refine R_reg ?_
 refine W_box (cs := #[.slice A xs.length cap]) (T := 52) f0 p0 1 [1] (fun b => [(1, .pointer (some ⟨b, 0, none⟩))]) (fun _ => by kernel_rfl) (fun bv M2 w hM1 hc p1 a_1 f_1 => ?_)
 replace f_1 : Frm 4 [(1, .pointer (some ⟨bv, 0, none⟩))] a_1 := f_1
 refine W_run (L' := [(1, .pointer (some ⟨bv, 0, none⟩))]) (w' := w) f_1 1 [1] (by kernel_rfl) (fun a_2 f_2 => ?_)
 refine W_end rfl ?_
 refine T_n ?_
 refine R_seq ?_
 refine R_reg ?_
 refine W_run (L' := [(2, .func (.func 70) #[] #[.pointer (some ⟨bv, 0, none⟩)])]) (w' := w) f_2 2 [2] (by kernel_rfl) (fun a_3 f_3 => ?_)
 refine W_end rfl ?_
 refine T_n ?_
 refine wp_ret ?_
 refine E_ret1 f_3 rfl (by kernel_rfl : Vc.look _ 2 = some (.func (.func 70) #[] #[.pointer (some ⟨bv, 0, none⟩)])) ?_
 exact ⟨_, rfl, M2, hM1, p1, 70, [.pointer (some ⟨bv, 0, none⟩)], rfl, backC_iter xs hlen M2 A cap bv (h0.mono hM1) (hc 0 _ rfl)⟩
set_option maxRecDepth 100000 in
theorem backB_iter (xs : List Int) (hlen : xs.length ≤ 9223372036854775806) (M : Mem) (A : Option Addr) (cap bv : Nat) (hsl : Sli M 1 (Dat.int .i8) A cap xs) (hbv : M.cell? ⟨bv, 0, none⟩ = some (.slice A xs.length cap)) :
  IterOk Try.prog 59 [.pointer (some ⟨bv, 0, none⟩)] (vals2 (vint .i8)) (backI xs) M := by
 refine ⟨Go.Proofs.enters_of Try.func59 (by kernel_rfl) rfl, fun σ β Y s0 r hr l J Jx hJ hJx hY w0 M1 E H w hM0 hj p0 => ?_⟩
 replace hsl := hsl.mono hM0
 replace hbv := hM0.cell hbv
 refine R_enter 19 Try.func59 rfl rfl (by simp) (fun a0 f0 => ?_)
 replace f0 : Frm 19 [(0, .func (.yield l) #[] #[]), (1, .pointer (some ⟨bv, 0, none⟩))] a0 := f0
 refine R_seq ?_
 refine R_reg ?_
 refine W_eq (v := .slice A xs.length cap) f0 (by kernel_rfl) (by kernel_rfl) rfl rfl (X_load1 (v := .slice A xs.length cap) rfl (ad := ⟨bv, 0, none⟩) (by kernel_rfl) (by kernel_rfl) (p0.cell hbv)) (fun a_1 f_1 => ?_)
 refine W_run (L' := [(0, .func (.yield l) #[] #[]), (1, .pointer (some ⟨bv, 0, none⟩)), (6, .int .i64 (IntKind.wrap .i64 (((xs.length : Nat) : Int) - 1)))]) (w' := w) f_1 2 [0, 1, 6] (by kernel_rfl) (fun a_2 f_2 => ?_)
 have hin0 : inR .i64 (((xs.length : Nat) : Int) - 1) := inR_mk.2 ⟨by omega, by omega⟩
 have f_3 := Frm.set f_2 6 (v := .int .i64 (IntKind.wrap .i64 (((xs.length : Nat) : Int) - 1))) (v' := .int .i64 (((xs.length : Nat) : Int) - 1)) (by kernel_rfl) (congrArg (Value.int .i64) (inR_wrap hin0))
 have f_4 : Frm 19 [(0, .func (.yield l) #[] #[]), (1, .pointer (some ⟨bv, 0, none⟩)), (6, .int .i64 (((xs.length : Nat) : Int) - 1))] a_2 := f_3.keep (ks := [0, 1, 6]) (by kernel_rfl)
 refine W_run (L' := [(0, .func (.yield l) #[] #[]), (1, .pointer (some ⟨bv, 0, none⟩)), (3, .int .i64 (((xs.length : Nat) : Int) - 1))]) (w' := w) f_4 1 [0, 1, 3] (by kernel_rfl) (fun a_5 f_5 => ?_)
 refine W_end rfl ?_
 refine T_n ?_
 refine wp_block ?_
 have hr0 : foldY Y (backI (xs.take xs.length)) s0 = some r := by rw [List.take_length]; exact hr
 refine wp_mono (Q := fun e a w => (e = .exit 0 ∧ ∃ s' M' E', r = .nx s' ∧ M1.le M' ∧ J s' M' E' ∧ Frm 19 [(0, .func (.yield l) #[] #[])] a ∧ Hp w0 M' (E' ++ H) w) ∨ (e = .ret ∧ ∃ b M' E', r = .br b ∧ M1.le M' ∧ Jx b M' E' ∧ Frm 19 [] a ∧ Hp w0 M' (E' ++ H) w))
  (R_loop (n := 19) (w0 := w0) (M := M1) (fun (x : Nat × σ × List Ent) => [(0, .func (.yield l) #[] #[]), (1, .pointer (some ⟨bv, 0, none⟩)), (3, .int .i64 ((x.1 : Int) - 1))]) (fun x => x.2.2 ++ H)
   (fun x (MM : Mem) => J x.2.1 MM x.2.2 ∧ foldY Y (backI (xs.take x.1)) x.2.1 = some r ∧ x.1 ≤ xs.length) (fun x => x.1) (xs.length, s0, E) f_5 p0 ⟨hj, hr0, Nat.le_refl _⟩ ?_) ?_
 ·rintro ⟨k, s, Es⟩ M_3 a_11 w_2 hM3 ⟨hjs, hfs, hk⟩ f_11 p_2
  dsimp only at hjs hfs hk
  replace f_11 : Frm 19 [(0, .func (.yield l) #[] #[]), (1, .pointer (some ⟨bv, 0, none⟩)), (3, .int .i64 ((k : Int) - 1))] a_11 := f_11
  replace p_2 : Hp w0 M_3 (Es ++ H) w_2 := p_2
  refine R_seq ?_
  refine R_seq ?_
  refine R_reg ?_
  refine W_run (L' := [(0, .func (.yield l) #[] #[]), (1, .pointer (some ⟨bv, 0, none⟩)), (3, .int .i64 ((k : Int) - 1)), (8, .bool (decide (0 ≤ ((k : Int) - 1))))]) (w' := w_2) f_11 2 [0, 1, 3, 8] (by kernel_rfl) (fun a_12 f_12 => ?_)
  refine W_end rfl ?_
  refine T_n ?_
  refine R_cond f_12 (b := decide (0 ≤ ((k : Int) - 1))) (by kernel_rfl) (by kernel_rfl) (fun h_3 => ?_) (fun h_3 => ?_)
  ·have k_1 : 0 ≤ ((k : Int) - 1) := of_decide_eq_true h_3
   obtain ⟨q, rfl⟩ : ∃ q, k = q + 1 := ⟨k - 1, by omega⟩
   have hq : q < xs.length := by omega
   rw [back_take hq] at hfs
   have e1 : ((q + 1 : Nat) : Int) - 1 = (q : Int) := by omega
   rw [e1] at f_12
   refine wp_skip ?_
   refine T_n ?_
   refine R_seq ?_
   refine wp_block ?_
   refine R_seq ?_
   obtain ⟨r1, hy1, hfold⟩ := Option.bind_eq_some_iff.1 hfs
   have hx : xs[q]? = some xs[q] := List.getElem?_eq_getElem hq
   have hgx : getI xs (q : Int) = some xs[q] := by unfold getI; rw [if_pos (by omega)]; exact hx
   obtain ⟨ad_1, c_1, e_1, hl_1, hr_1, hc_1⟩ := Sli.at_ (hsl.mono hM3) hgx
   have y_1 : c_1 = [.int .i8 xs[q]] := hr_1
   subst y_1
   refine WI_reg ?_
   refine WI_pre 6 (by kernel_rfl) ?_
   refine W_eq (w' := w_2) (v := .func (.yield l) #[] #[]) f_12 (by kernel_rfl) (by kernel_rfl) rfl rfl (by kernel_rfl) (fun a_13 f_13 => ?_)
   refine W_eq (w' := w_2) (v := .int .i64 (q : Int)) f_13 (by kernel_rfl) (by kernel_rfl) rfl rfl (by kernel_rfl) (fun a_14 f_14 => ?_)
   refine W_eq (w' := w_2) (v := .slice A xs.length cap) f_14 (by kernel_rfl) (by kernel_rfl) rfl rfl (X_load1 (v := .slice A xs.length cap) rfl (ad := ⟨bv, 0, none⟩) (by kernel_rfl) (by kernel_rfl) (p_2.cell (hM3.cell hbv))) (fun a_15 f_15 => ?_)
   refine W_eq (w' := w_2) (v := .int .i64 (q : Int)) f_15 (by kernel_rfl) (by kernel_rfl) rfl rfl (by kernel_rfl) (fun a_16 f_16 => ?_)
   refine W_eq (w' := w_2) (v := .pointer (some (ad_1.add ((q : Int).toNat * 1)))) f_16 (by kernel_rfl) (by kernel_rfl) rfl rfl (X_indexAddrA e_1 rfl (len := xs.length) (cap := cap) (k := .i64) (i := (q : Int)) (by kernel_rfl) (by kernel_rfl) (e := 24) (by kernel_rfl) (sz := 1) (by kernel_rfl) (getI_nn hgx) (getI_lt hgx)) (fun a_17 f_17 => ?_)
   refine W_eq (w' := w_2) (v := (.int .i8 xs[q])) f_17 (by kernel_rfl) (by kernel_rfl) rfl rfl (X_load1 (v := .int .i8 xs[q]) rfl (ad := ad_1.add ((q : Int).toNat * 1)) (by kernel_rfl) (by kernel_rfl) (p_2.cell (hc_1 0 _ rfl))) (fun a_18 f_18 => ?_)
   refine W_end rfl ⟨rfl, ?_⟩
   obtain ⟨fn, tmps, asg, bd, hrun, hR⟩ := hY s _ r1 hy1 w0 M_3 Es H w_2 [.int .i64 (q : Int), (.int .i8 xs[q])] hjs ⟨_, rfl, rfl⟩ p_2
   refine WI_round f_18 (by kernel_rfl) (by kernel_rfl) rfl rfl (fun c e => by cases e) (hx := Eq.trans (by kernel_rfl) hrun) hR ?_
   rintro e w_3 ⟨M2, E2, hM2, p_3, hr3⟩
   cases r1 with
   | br b =>
    obtain ⟨rfl, hjx⟩ := hr3
    obtain rfl := Option.some.inj hfold
    refine ⟨_, rfl, fun a_19 f_19 => ?_⟩
    refine list_in (ro := none) (by rintro ⟨_, _, h⟩; rcases h with h | h <;> cases h.1) _ (by kernel_rfl) _ _ ?_
    refine W_run (L' := [(18, .bool true)]) (w' := w_3) f_19 1 [18] (by kernel_rfl) (fun a_20 f_20 => ?_)
    refine W_end rfl ?_
    refine T_n ?_
    refine R_cond_t f_20 (by kernel_rfl) (by kernel_rfl) ?_
    refine wp_ret ?_
    refine B_r ?_
    refine T_r ?_
    refine T_r ?_
    exact .inr ⟨rfl, b, M2, E2, rfl, hM3.trans hM2, hjx, f_20.keep (ks := []) (by kernel_rfl), p_3⟩
   | nx s1 =>
    obtain ⟨rfl, hj1⟩ := hr3
    replace hfold : foldY Y (backI (xs.take q)) s1 = some r := hfold
    refine ⟨_, rfl, fun a_19 f_19 => ?_⟩
    refine list_in (ro := none) (by rintro ⟨_, _, h⟩; rcases h with h | h <;> cases h.1) _ (by kernel_rfl) _ _ ?_
    refine W_run (L' := [(0, .func (.yield l) #[] #[]), (1, .pointer (some ⟨bv, 0, none⟩)), (3, .int .i64 (q : Int)), (18, .bool false)]) (w' := w_3) f_19 1 [0, 1, 3, 18] (by kernel_rfl) (fun a_20 f_20 => ?_)
    refine W_end rfl ?_
    refine T_n ?_
    refine R_cond_f f_20 (by kernel_rfl) (by kernel_rfl) ?_
    refine wp_skip ?_
    refine B_n ?_
    refine T_n ?_
    refine R_reg ?_
    have hin : inR .i64 ((q : Int) - 1) := inR_mk.2 ⟨by omega, by omega⟩
    refine W_run (L' := [(0, .func (.yield l) #[] #[]), (1, .pointer (some ⟨bv, 0, none⟩)), (10, .int .i64 (IntKind.wrap .i64 ((q : Int) - 1)))]) (w' := w_3) f_20 2 [0, 1, 10] (by kernel_rfl) (fun a_23 f_23 => ?_)
    have f_24 := Frm.set f_23 10 (v := .int .i64 (IntKind.wrap .i64 ((q : Int) - 1))) (v' := .int .i64 ((q : Int) - 1)) (by kernel_rfl) (congrArg (Value.int .i64) (inR_wrap hin))
    have f_25 : Frm 19 [(0, .func (.yield l) #[] #[]), (1, .pointer (some ⟨bv, 0, none⟩)), (10, .int .i64 ((q : Int) - 1))] a_23 := f_24.keep (ks := [0, 1, 10]) (by kernel_rfl)
    refine W_run (L' := [(0, .func (.yield l) #[] #[]), (1, .pointer (some ⟨bv, 0, none⟩)), (3, .int .i64 ((q : Int) - 1))]) (w' := w_3) f_25 1 [0, 1, 3] (by kernel_rfl) (fun a_26 f_26 => ?_)
    refine W_end rfl ?_
    refine T_n ?_
    exact ⟨(q, s1, E2), by dsimp only; omega, M2, hM3.trans hM2, ⟨hj1, hfold, by dsimp only; omega⟩, f_26, p_3⟩
  ·have k_1 : ¬ (0 ≤ ((k : Int) - 1)) := of_decide_eq_false h_3
   obtain rfl : k = 0 := by omega
   refine wp_exit ?_
   refine T_x ?_
   refine T_x ?_
   obtain rfl := Option.some.inj hfs
   exact .inl ⟨rfl, s, M_3, Es, rfl, hM3, hjs, f_12.keep (ks := [0]) (by kernel_rfl), p_2⟩
 ·rintro _ a_24 w_4 (⟨rfl, s', M', E', rfl, g1, g2, f_29, p_3⟩ | ⟨rfl, b, M', E', rfl, g1, g2, f_29, p_3⟩)
  ·refine B_x ?_
   refine E_end0 f_29 rfl ?_
   exact ⟨_, rfl, M', E', g1, p_3, g2⟩
  ·refine B_r ?_
   refine E_endr f_29 rfl ?_
   exact ⟨_, rfl, M', E', g1, p_3, g2⟩
theorem backB_ok (xs : List Int) (hlen : xs.length ≤ 9223372036854775806) (M : Mem) (A : Option Addr) (cap : Nat) (h0 : Sli M 1 (Dat.int .i8) A cap xs) :
  Ok Try.prog M 41 [.slice A xs.length cap] (fun M' u => ∃ f caps, u = .func (.func f) #[] caps.toArray ∧ IterOk Try.prog f caps (vals2 (vint .i8)) (backI xs) M') := by
 intro M1 hM0 w0 H w p0
 replace h0 := h0.mono hM0
 refine R_enter 4 Try.func41 rfl rfl (by simp) (fun a0 f0 => ?_)
 replace f0 : Frm 4 [(0, .slice A xs.length cap)] a0 := f0
 refine R_seq ?_
 refine R_reg ?_
 refine W_box (cs := #[.slice A xs.length cap]) (T := 23) f0 p0 1 [1] (fun b => [(1, .pointer (some ⟨b, 0, none⟩))]) (fun _ => by kernel_rfl) (fun bv M2 w hM1 hc p1 a_1 f_1 => ?_)
 replace f_1 : Frm 4 [(1, .pointer (some ⟨bv, 0, none⟩))] a_1 := f_1
 refine W_run (L' := [(1, .pointer (some ⟨bv, 0, none⟩))]) (w' := w) f_1 1 [1] (by kernel_rfl) (fun a_2 f_2 => ?_)
 refine W_end rfl ?_
 refine T_n ?_
 refine R_seq ?_
 refine R_reg ?_
 refine W_run (L' := [(2, .func (.func 59) #[] #[.pointer (some ⟨bv, 0, none⟩)])]) (w' := w) f_2 2 [2] (by kernel_rfl) (fun a_3 f_3 => ?_)
 refine W_end rfl ?_
 refine T_n ?_
 refine wp_ret ?_
 refine E_ret1 f_3 rfl (by kernel_rfl : Vc.look _ 2 = some (.func (.func 59) #[] #[.pointer (some ⟨bv, 0, none⟩)])) ?_
 exact ⟨_, rfl, M2, hM1, p1, 59, [.pointer (some ⟨bv, 0, none⟩)], rfl, backB_iter xs hlen M2 A cap bv (h0.mono hM1) (hc 0 _ rfl)⟩
def state_Own_1 (n : Nat) (d0 : TU0) (d1 : List UInt8) : Option Bool :=
  some ((decide (d0.fId = d1)))
theorem state_Own_1_ok (n : Nat) (M : Mem) (c0 : List Value) (d0 : TU0) (h0 : Rep M (emb_TU0 d0) c0) (ad1 : Addr) (c1 : List Value) (d1 : List UInt8) (h1 : Rep M (Dat.str d1) c1) (q1 : ∀ j v, c1[j]? = some v → M.cell? (ad1.add j) = some v) (r : Bool) (hF : state_Own_1 n d0 d1 = some r) : Ok Try.prog M 65 [.agg c0.toArray, .pointer (some ad1)] (fun _ v => v = .bool r) := by
 unfold state_Own_1 at hF
 intro M1 hM0 w0 H w p0
 replace h0 := Rep.mono hM0 _ _ h0
 replace h1 := Rep.mono hM0 _ _ h1
 replace q1 := fun j v h => hM0.cell (q1 j v h)
 obtain ⟨A_1, cap_1, A_2, cap_2, rfl, h_1, h_2⟩ := TU0.opn h0
 obtain rfl : c1 = [S d1] := h1
 refine R_enter 8 Try.func65 rfl rfl (by simp) fun a0 f0 => RR (Y13 (cs := #[S d0.fId, S d0.fType, S d0.fPhys, .slice A_1 d0.fProps.length cap_1, .bool d0.fRetain, .slice A_2 d0.fLeans.length cap_2]) (T := 43) f0 p0 fun b_1 M_1 w_1 hM_1 hc_1 p_1 _ f => ?_)
 have hc_2 := fz_box hc_1
 refine Y f 1 fun _ f => eT (RR (Y f 1 fun _ f => Y15 f p_1 hc_2 0 rfl fun _ f => Y15 f p_1 (fzu hM_1 q1) 0 rfl fun _ f => Z f (Y36 rfl (l := d0.fId) (m := d1)) fun _ f => Y f 1 fun _ f => eT (wp_ret (E_ret1 f rfl (by kernel_rfl : Vc.look _ 3 = some (.bool (decide (d0.fId = d1)))) ?_))))
 obtain rfl := sI hF
 exact ⟨_, rfl, M_1, hM_1, p_1, rfl⟩
def slices_IndexFuncapi_Own_api_Own_s1 (n : Nat) (d0 : List TU0) (d1_0 : List UInt8) (s_1 : Int) : Option (Lp Int (Sum Int Unit)) :=
    bif (decide (s_1 < ((d0.length : Nat) : Int))) then
      ((getI d0 s_1).bind fun x_1 =>
      (state_Own_1 n x_1 d1_0).bind fun x_2 =>
      bif x_2 then
        (some (.br (.inl s_1)))
      else
        need (inR .i64 (s_1 + 1)) <|
        some (.nx (s_1 + 1)))
    else
      some (.br (.inr ()))
def slices_IndexFuncapi_Own_api_Own (n : Nat) (d0 : List TU0) (d1_0 : List UInt8) : Option Int :=
  (loopF (slices_IndexFuncapi_Own_api_Own_s1 n d0 d1_0) n (0 : Int)).bind fun b_1 =>
  (match b_1 with 
  | .inl y_1 => some (y_1) 
  | .inr y_2 => some ((-1 : Int)))
theorem slices_IndexFuncapi_Own_api_Own_ok (n : Nat) (M : Mem) (A0 : Option Addr) (cap0 : Nat) (d0 : List TU0) (h0 : Sli M 6 emb_TU0 A0 cap0 d0) (ad1_0 : Addr) (c1_0 : List Value) (d1_0 : List UInt8) (h1_0 : Rep M (Dat.str d1_0) c1_0) (q1_0 : ∀ j v, c1_0[j]? = some v → M.cell? (ad1_0.add j) = some v) (r : Int) (hF : slices_IndexFuncapi_Own_api_Own n d0 d1_0 = some r) : Ok Try.prog M 64 [.slice A0 d0.length cap0, .func (.func 65) #[] #[.pointer (some ad1_0)]] (fun _ v => v = .int .i64 r) := by
 unfold slices_IndexFuncapi_Own_api_Own at hF
 intro M1 hM0 w0 H w p0
 replace h0 := h0.mono hM0
 replace h1_0 := Rep.mono hM0 _ _ h1_0
 replace q1_0 := fun j v h => hM0.cell (q1_0 j v h)
 obtain rfl : c1_0 = [S d1_0] := h1_0
 refine R_enter 19 Try.func64 rfl rfl (by simp) fun a0 f0 => RR (Y f0 1 fun _ f => eT (R_seq (RR (Y f 3 fun _ f => eT (wp_block ?_)))))
 obtain ⟨b_1, hL_1, hF_1⟩ := bS hF
 refine wp_mono (Q := fun e a w => (e = .ret ∧ (∃ y_1 : Int, b_1 = .inl y_1 ∧ ∃ M_2 : Mem, M1.le M_2 ∧ Frm 19 [(4, .int .i64 y_1)] a ∧ Hp w0 M_2 (H) w)) ∨ (e = .exit 0 ∧ (∃ y_2 : Unit, b_1 = .inr y_2 ∧ ∃ M_3 : Mem, M1.le M_3 ∧ Frm 19 [] a ∧ Hp w0 M_3 (H) w))) (R_loop (n := 19) (w0 := w0) (M := M1) (fun (x : Nat × Int) => match x with | (m_1, s_1) => [(0, .slice A0 d0.length cap0), (1, .func (.func 65) #[] #[.pointer (some ad1_0)]), (7, .int .i64 ((d0.length : Nat) : Int)), (8, .int .i64 s_1)]) (fun (x : Nat × Int) => match x with | (m_1, s_1) => (H)) (fun (x : Nat × Int) (MM : Mem) => match x with | (m_1, s_1) => loopF (slices_IndexFuncapi_Own_api_Own_s1 n d0 d1_0) m_1 s_1 = some b_1) (fun (x : Nat × Int) => match x with | (m_1, s_1) => m_1) (n, (0 : Int)) (f.kp) p0 hL_1 ?_) ?_
 ·rintro ⟨m_1, s_1⟩ M_1 _ w_1 hM_1 I_1 f p_1
  have I_1L := I_1
  obtain ⟨m_2, r_1, rfl, hs_1, hn_1⟩ := loop_step I_1L
  unfold slices_IndexFuncapi_Own_api_Own_s1 at hs_1
  refine RR (Y f 1 fun _ f => eT (R_seq (RcF f hs_1 (fun h_1 hF_2 => ?_) fun h_1 hF_8 => ?_)))
  ·have k_1 := dI.1 h_1
   refine wp_skip (T_n (R_seq (wp_block (RR (Y f 2 fun _ f => eT (RR (Y f 3 fun _ f => ?_)))))))
   obtain ⟨x_1, hx_1, hF_3⟩ := bS hF_2
   obtain ⟨ad_1, c_1, e_1, -, hr_1, hc_1⟩ := Sli.at_ (h0.mono hM_1) hx_1
   obtain ⟨A_1, cap_1, A_2, cap_2, rfl, h_2, h_3⟩ := TU0.opn hr_1
   refine Z f (Y30 e_1 rfl (len := d0.length) (cap := cap0) (k := .i64) (i := s_1) (e := 43) (sz := 6) (getI_nn hx_1) (getI_lt hx_1)) fun _ f => Z (v := .agg #[S x_1.fId, S x_1.fType, S x_1.fPhys, .slice A_1 x_1.fProps.length cap_1, .bool x_1.fRetain, .slice A_2 x_1.fLeans.length cap_2]) f (Y32 (cs := [S x_1.fId, S x_1.fType, S x_1.fPhys, .slice A_1 x_1.fProps.length cap_1, .bool x_1.fRetain, .slice A_2 x_1.fLeans.length cap_2]) rfl (ad := ad_1.add (s_1.toNat * 6)) (fun j v h => p_1.cell (hc_1 j v h))) fun _ f => ?_
   obtain ⟨x_2, hx_2, hF_4⟩ := bS hF_3
   refine Y18 f p_1 (state_Own_1_ok n _ _ x_1 (TU0.shutx (x := x_1) h_2 h_3) ad1_0 [S d1_0] d1_0 (rfl) (fz_at ((fzu hM_1 q1_0)) 0 rfl) x_2 hx_2) fun w_2 p_2 _ f => eT (RcF f hF_4 (fun h_4 hF_5 => ?_) fun h_4 hF_6 => ?_)
   ·refine RR (Y f 2 fun _ f => eT (wp_ret (B_r (T_r (T_r ?_)))))
    obtain rfl := sI hF_5
    exact .inl ⟨rfl, s_1, (sI hn_1).symm, M_1, hM_1, f.kp, p_2⟩
   ·refine wp_skip (B_n (T_n (R_reg ?_)))
    obtain ⟨g_1, hF_7⟩ := nS hF_6
    refine Y f 1 fun _ f => ?_
    have f := f.st 18 (congrArg (Value.int .i64) (inR_wrap g_1))
    refine Y f 1 fun _ f => eT ?_
    obtain rfl := sI hF_7
    exact ⟨⟨m_2, s_1 + 1⟩, Nat.lt_succ_self _, M_1, hM_1, hn_1, f.kp, p_2⟩
  ·have k_4 := iff_f dI h_1
   refine wp_exit (T_x (T_x ?_))
   obtain rfl := sI hF_8
   exact .inr ⟨rfl, (), (sI hn_1).symm, M_1, hM_1, f.kp, p_1⟩
 ·rintro _ _ w_5 (⟨rfl, y_1, rfl, M_2, hM_2, f, p_3⟩ | ⟨rfl, y_2, rfl, M_3, hM_3, f, p_4⟩)
  ·refine B_r (T_r (E_ret1 f rfl (by kernel_rfl : Vc.look _ 4 = some (.int .i64 y_1)) ?_))
   obtain rfl := sI hF_1
   exact ⟨_, rfl, M_2, hM_2, p_3, rfl⟩
  ·refine B_x (T_n (RR (Y f 1 fun _ f => eT (wp_ret (E_ret1 f rfl (by kernel_rfl : Vc.look _ 4 = some (.int .i64 (-1))) ?_)))))
   obtain rfl := sI hF_1
   exact ⟨_, rfl, M_3, hM_3, p_4, rfl⟩
def state_Own (n : Nat) (d0 : TG0) (d1 : List UInt8) : Option (TU0 × Bool) :=
  (slices_IndexFuncapi_Own_api_Own n d0.fOwned d1).bind fun x_1 =>
  bif (decide ((0 : Int) ≤ x_1)) then
    ((getI d0.fOwned x_1).bind fun x_2 =>
    some ((x_2, (true))))
  else
    some ((z_TU0, (false)))
theorem state_Own_ok (n : Nat) (M : Mem) (c0 : List Value) (d0 : TG0) (h0 : Rep M (emb_TG0 d0) c0) (d1 : List UInt8) (r : TU0 × Bool) (hF : state_Own n d0 d1 = some r) : Ok Try.prog M 44 [.agg c0.toArray, S d1] (fun M' v => ∃ (c0 : List Value), v = .tuple #[.agg c0.toArray, .bool r.2] ∧ Rep M' (emb_TU0 r.1) c0) := by
 unfold state_Own at hF
 intro M1 hM0 w0 H w p0
 replace h0 := Rep.mono hM0 _ _ h0
 obtain ⟨A_1, cap_1, A_2, cap_2, A_3, cap_3, A_4, cap_4, A_5, cap_5, rfl, h_1, h_2, h_3, h_4, h_5⟩ := TG0.opn h0
 refine R_enter 19 Try.func44 rfl rfl (by simp) fun a0 f0 => RR (Y13 (cs := #[.slice A_1 d0.fOwned.length cap_1, .slice A_2 d0.fPending.length cap_2, .slice A_3 d0.fRetained.length cap_3, .slice A_4 d0.fOuts.length cap_4, S d0.fText, .slice A_5 d0.fArgs.length cap_5, .int .i64 d0.fCalls, .int .i8 d0.fStatus]) (T := 47) f0 p0 fun b_1 M_1 w_1 hM_1 hc_1 p_1 _ f => ?_)
 have hc_2 := fz_box hc_1
 refine Y13 (cs := #[S d1]) (T := 9) f p_1 fun b_2 M_2 w_2 hM_2 hc_3 p_2 _ f => ?_
 have hc_4 := fz_box hc_3
 refine Y12 f p_2 (.cells #[S [], S [], S [], .slice none 0 0, .bool false, .slice none 0 0] 43 (0, 0)) fun b_3 w_3 p_3 _ f => Y f 1 fun _ f => eT (R_seq (RR (Y f 1 fun _ f => Y15 f p_3 (fzu hM_2 hc_2) 0 rfl fun _ f => Y f 1 fun _ f => ?_)))
 obtain ⟨x_1, hx_1, hF_1⟩ := bS hF
 refine Y18 f p_3 (slices_IndexFuncapi_Own_api_Own_ok n _ A_1 cap_1 d0.fOwned (h_1.mono (hM_1.trans hM_2)) (⟨b_2, 0, none⟩) [S d1] d1 (rfl) (fz_at (hc_4) 0 rfl) x_1 hx_1) fun w_4 p_4 _ f => Y f 1 fun _ f => eT (RR (Y f 2 fun _ f => eT (RcF f hF_1 (fun h_6 hF_2 => ?_) fun h_6 hF_4 => ?_)))
 ·have k_1 := dI.1 h_6
  refine RR (Y f 1 fun _ f => Y15 f p_4 (fzu hM_2 hc_2) 0 rfl fun _ f => Y f 1 fun _ f => ?_)
  obtain ⟨x_2, hx_2, hF_3⟩ := bS hF_2
  obtain ⟨ad_1, c_1, e_1, -, hr_1, hc_5⟩ := Sli.at_ (h_1.mono (hM_1.trans hM_2)) hx_2
  obtain ⟨A_6, cap_6, A_7, cap_7, rfl, h_7, h_8⟩ := TU0.opn hr_1
  refine Z f (Y30 e_1 rfl (len := d0.fOwned.length) (cap := cap_1) (k := .i64) (i := x_1) (e := 43) (sz := 6) (getI_nn hx_2) (getI_lt hx_2)) fun _ f => Z (v := .agg #[S x_2.fId, S x_2.fType, S x_2.fPhys, .slice A_6 x_2.fProps.length cap_6, .bool x_2.fRetain, .slice A_7 x_2.fLeans.length cap_7]) f (Y32 (cs := [S x_2.fId, S x_2.fType, S x_2.fPhys, .slice A_6 x_2.fProps.length cap_6, .bool x_2.fRetain, .slice A_7 x_2.fLeans.length cap_7]) rfl (ad := ad_1.add (x_1.toNat * 6)) (fun j v h => p_4.cell (hc_5 j v h))) fun _ f => Y27 (vs := [S x_2.fId, S x_2.fType, S x_2.fPhys, .slice A_6 x_2.fProps.length cap_6, .bool x_2.fRetain, .slice A_7 x_2.fLeans.length cap_7]) (j := 0) f p_4 rfl rfl (by simp [Value.oneCell', S]) (by simp) (by decide) (cs' := #[S x_2.fId, S x_2.fType, S x_2.fPhys, .slice A_6 x_2.fProps.length cap_6, .bool x_2.fRetain, .slice A_7 x_2.fLeans.length cap_7]) fun w_5 p_5 _ f => Y f 1 fun _ f => eT (wp_ret (T_r (E_rv2 f rfl (Y10 (cs := [S x_2.fId, S x_2.fType, S x_2.fPhys, .slice A_6 x_2.fProps.length cap_6, .bool x_2.fRetain, .slice A_7 x_2.fLeans.length cap_7]) (ad := ⟨b_3, 0, none⟩) f (own_cells (p_5.ownCell 0 rfl) 0 rfl)) (Y11 (v := .bool true) f) ?_)))
  obtain rfl := sI hF_3
  exact ⟨_, rfl, M_2, (hM_1.trans hM_2), (p_5.dropN 1), ⟨[S x_2.fId, S x_2.fType, S x_2.fPhys, .slice A_6 x_2.fProps.length cap_6, .bool x_2.fRetain, .slice A_7 x_2.fLeans.length cap_7], rfl, (TU0.shutx (x := x_2) h_7 h_8)⟩⟩
 ·have k_2 := iff_f dI h_6
  refine wp_skip (T_n (RR (Z (v := .agg #[S [], S [], S [], .slice none 0 0, .bool false, .slice none 0 0]) f (Y32 (cs := [S [], S [], S [], .slice none 0 0, .bool false, .slice none 0 0]) rfl (ad := ⟨b_3, 0, none⟩) (own_cells (p_4.ownCell 0 rfl) 0 rfl)) fun _ f => Y27 (vs := [S [], S [], S [], .slice none 0 0, .bool false, .slice none 0 0]) (j := 0) f p_4 rfl rfl (by simp [Value.oneCell', S]) (by simp) (by decide) (cs' := #[S [], S [], S [], .slice none 0 0, .bool false, .slice none 0 0]) fun w_6 p_6 _ f => Y f 1 fun _ f => eT (wp_ret (E_rv2 f rfl (Y10 (cs := [S [], S [], S [], .slice none 0 0, .bool false, .slice none 0 0]) (ad := ⟨b_3, 0, none⟩) f (own_cells (p_6.ownCell 0 rfl) 0 rfl)) (Y11 (v := .bool false) f) ?_)))))
  obtain rfl := sI hF_4
  exact ⟨_, rfl, M_2, (hM_1.trans hM_2), (p_6.dropN 1), ⟨[S [], S [], S [], .slice none 0 0, .bool false, .slice none 0 0], rfl, (TU0.shut Sli.nil Sli.nil)⟩⟩
def law27_name (n : Nat) (d0 : Int) : Option (List UInt8) :=
  need (inR .i64 ((65 : Int) + d0)) <|
  need (0 ≤ (IntKind.wrap .u8 ((65 : Int) + d0)) ∧ (IntKind.wrap .u8 ((65 : Int) + d0)) < 256) <|
  some ([UInt8.ofNat (IntKind.wrap .u8 ((65 : Int) + d0)).toNat])
theorem law27_name_ok (n : Nat) (M : Mem) (d0 : Int) (r : List UInt8) (hF : law27_name n d0 = some r) : Ok Try.prog M 20 [.int .i64 d0] (fun _ v => v = S r) := by
 unfold law27_name at hF
 intro M1 hM0 w0 H w p0
 refine R_enter 8 Try.func20 rfl rfl (by simp) fun a0 f0 => RR (Y f0 1 fun _ f => eT (RR (Y f 1 fun _ f => ?_)))
 obtain ⟨g_1, hF_1⟩ := nS hF
 refine Y f 1 fun _ f => ?_
 have f := f.st 4 (congrArg (Value.int .i64) (inR_wrap g_1))
 refine Y f 1 fun _ f => V_allocS (k := 1) (c := 1) f p0 (.cells #[.int .u8 (IntKind.wrap .u8 ((65 : Int) + d0))] 5 (0, 0)) (by kernel_rfl) (fun _ => by kernel_rfl) fun b_1 w_1 p_1 _ f => ?_
 obtain ⟨g_2, hF_2⟩ := nS hF_1
 have hr_1 : RepSeq M1 ([UInt8.ofNat (IntKind.wrap .u8 ((65 : Int) + d0)).toNat].map embB) [.int .u8 (IntKind.wrap .u8 ((65 : Int) + d0))] := ⟨_, _, rfl, (embB_of (by omega)), rfl⟩
 have p_2 : Hp w0 M1 ((Ent.row 5 1 (.slice (some ⟨b_1, 0, none⟩) 1 1) [UInt8.ofNat (IntKind.wrap .u8 ((65 : Int) + d0)).toNat].length [.int .u8 (IntKind.wrap .u8 ((65 : Int) + d0))]) :: H) w_1 := p_1.objRow (n := 1) (cap := 1) (size := 1) (by decide) (by decide) (blk_eq (by decide) rfl) rfl rfl
 have he_1 := RepSeq.bytes_eq hr_1
 refine Z (v := S [UInt8.ofNat (IntKind.wrap .u8 ((65 : Int) + d0)).toNat]) f (X_string_row rfl (l := [UInt8.ofNat (IntKind.wrap .u8 ((65 : Int) + d0)).toNat]) (v := .slice (some ⟨b_1, 0, none⟩) 1 1) (by kernel_rfl) (e := 5) (by kernel_rfl) (by kernel_rfl) (by kernel_rfl) (by have h0 := p_2.rowAt 0 rfl; rw [he_1] at h0; exact h0)) fun _ f => Y f 1 fun _ f => eT (wp_ret (E_ret1 f rfl (by kernel_rfl : Vc.look _ 2 = some (S [UInt8.ofNat (IntKind.wrap .u8 ((65 : Int) + d0)).toNat])) ?_))
 obtain rfl := sI hF_2
 exact ⟨_, rfl, M1, (mR _), (p_2.dropN 1), rfl⟩
def law27_own (n : Nat) (d0 : List UInt8) (d1 : List UInt8) (d2 : List (List UInt8)) : Option TU0 :=
  some ((⟨d0, [68, 105, 115, 107], d1, ([] : List TF0), (false), d2⟩ : TU0))
theorem law27_own_ok (n : Nat) (M : Mem) (d0 : List UInt8) (d1 : List UInt8) (A2 : Option Addr) (cap2 : Nat) (d2 : List (List UInt8)) (h2 : Sli M 1 Dat.str A2 cap2 d2) (r : TU0) (hF : law27_own n d0 d1 d2 = some r) : Ok Try.prog M 19 [S d0, S d1, .slice A2 d2.length cap2] (fun M' v => ∃ (c0 : List Value), v = .agg c0.toArray ∧ Rep M' (emb_TU0 r) c0) := by
 unfold law27_own at hF
 intro M1 hM0 w0 H w p0
 replace h2 := h2.mono hM0
 refine R_enter 11 Try.func19 rfl rfl (by simp) fun a0 f0 => RR (Y12 f0 p0 (.cells #[S [], S [], S [], .slice none 0 0, .bool false, .slice none 0 0] 43 (0, 0)) fun b_1 w_1 p_1 _ f => eT (RR (Y f 4 fun _ f => Y27 (vs := [S d0, S [68, 105, 115, 107], S d1, .slice none 0 0, .bool false, .slice A2 d2.length cap2]) (j := 0) f p_1 rfl rfl (by simp [Value.oneCell', S]) (by simp) (by decide) (cs' := #[S d0, S [68, 105, 115, 107], S d1, .slice none 0 0, .bool false, .slice A2 d2.length cap2]) fun w_2 p_2 _ f => eT (wp_ret (E_rv1 f rfl (Y10 (cs := [S d0, S [68, 105, 115, 107], S d1, .slice none 0 0, .bool false, .slice A2 d2.length cap2]) (ad := ⟨b_1, 0, none⟩) f (own_cells (p_2.ownCell 0 rfl) 0 rfl)) ?_)))))
 obtain rfl := sI hF
 exact ⟨_, rfl, M1, (mR _), (p_2.dropN 1), ⟨[S d0, S [68, 105, 115, 107], S d1, .slice none 0 0, .bool false, .slice A2 d2.length cap2], rfl, (TU0.shut Sli.nil h2)⟩⟩
def forward_Flight_s1 (n : Nat) (d0 : TL0) (s_1 : List Int × Int) : Option (Lp (List Int × Int) (List Int)) :=
    bif (decide (s_1.2 < ((d0.fTasks.length : Nat) : Int))) then
      ((getI d0.fTasks s_1.2).bind fun x_1 =>
      bif (decide (x_1.fState = 0)) then
        (need ((s_1.1.length + 1) * 8 ≤ 140737488355328) <|
        need (inR .i64 (s_1.2 + 1)) <|
        some (.nx (s_1.1 ++ [x_1.fCall.fToken], s_1.2 + 1)))
      else
        need (inR .i64 (s_1.2 + 1)) <|
        some (.nx (s_1.1, s_1.2 + 1)))
    else
      some (.br s_1.1)
def forward_Flight (n : Nat) (d0 : TL0) : Option (List Int) :=
  (loopF (forward_Flight_s1 n d0) n (([] : List Int), (0 : Int))).bind fun y_1 =>
  some (y_1)
set_option maxRecDepth 20000 in
theorem forward_Flight_ok (n : Nat) (M : Mem) (c0 : List Value) (d0 : TL0) (h0 : Rep M (emb_TL0 d0) c0) (r : List Int) (hF : forward_Flight n d0 = some r) : OkH Try.prog M [] 23 [.agg c0.toArray] (fun M' E' v => ∃ (A0 : Option Addr) (k0 : Nat) (s0 : List Value), v = .slice A0 r.length k0 ∧ E' = [.row 3 1 (.slice A0 r.length k0) r.length s0] ∧ RepSeq M' (r.map (Dat.int .i64)) s0) := by
 unfold forward_Flight at hF
 intro M1 hM0 w0 H w p0
 replace h0 := Rep.mono hM0 _ _ h0
 obtain ⟨A_1, cap_1, A_2, cap_2, A_3, cap_3, A_4, cap_4, A_5, cap_5, A_6, cap_6, A_7, cap_7, A_8, cap_8, A_9, cap_9, A_10, cap_10, rfl, h_1, h_2, h_3, h_4, h_5, h_6, h_7, h_8, h_9, h_10⟩ := TL0.opn h0
 refine R_enter 23 Try.func23 rfl rfl (by simp) fun a0 f0 => RR (Y13 (cs := #[.int .i8 d0.fKind, .int .i64 d0.fWidth, .slice A_1 d0.fOld.fOwned.length cap_1, .slice A_2 d0.fOld.fPending.length cap_2, .slice A_3 d0.fOld.fRetained.length cap_3, .slice A_4 d0.fOld.fOuts.length cap_4, S d0.fOld.fText, .slice A_5 d0.fOld.fArgs.length cap_5, .int .i64 d0.fOld.fCalls, .int .i8 d0.fOld.fStatus, .slice A_6 d0.fNew.fScopes.length cap_6, .slice A_7 d0.fNew.fNodes.length cap_7, S d0.fText, .slice A_8 d0.fArgs.length cap_8, .slice A_9 d0.fChanges.length cap_9, .slice A_10 d0.fTasks.length cap_10, .int .i8 d0.fPhase, .int .i8 d0.fStatus]) (T := 55) f0 p0 fun b_1 M_1 w_1 hM_1 hc_1 p_1 _ f => ?_)
 have hc_2 := fz_box hc_1
 refine Y f 1 fun _ f => eT (R_seq (RR (Y f 1 fun _ f => Y15 f p_1 hc_2 15 rfl fun _ f => Y f 2 fun _ f => eT (wp_block ?_))))
 obtain ⟨A_11, cap_11, hv_1⟩ : ∃ A cap, Value.slice none 0 0 = .slice A ([] : List Int).length cap := ⟨none, 0, rfl⟩
 have p_2 : Hp w0 M_1 ((Ent.row 3 1 (.slice A_11 ([] : List Int).length cap_11) ([] : List Int).length []) :: H) w_1 := by rw [← hv_1]; exact p_1.nilRow 3 1
 have f := f.st 2 (hv_1)
 have hr_1 : RepSeq M_1 (([] : List Int).map (Dat.int .i64)) [] := rfl
 obtain ⟨b_2, hL_1, hF_1⟩ := bS hF
 refine wp_mono (Q := fun e a w => (e = .exit 0 ∧ (∃ y_1 : List Int, b_2 = y_1 ∧ ∃ M_3 : Mem, M_1.le M_3 ∧ ∃ (A_15 : Option Addr), ∃ (cap_15 : Nat), ∃ (cs_3 : List Value), RepSeq M_3 (y_1.map (Dat.int .i64)) cs_3 ∧ Frm 23 [(2, .slice A_15 y_1.length cap_15)] a ∧ Hp w0 M_3 ((Ent.row 3 1 (.slice A_15 y_1.length cap_15) y_1.length cs_3) :: H) w))) (R_loop (n := 23) (w0 := w0) (M := M_1) (fun (x : Nat × (List Int × Int) × (Option Addr) × Nat × (List Value)) => match x with | (m_1, s_1, A_12, cap_12, cs_1) => [(2, .slice A_12 s_1.1.length cap_12), (6, .slice A_10 d0.fTasks.length cap_10), (7, .int .i64 ((d0.fTasks.length : Nat) : Int)), (8, .int .i64 s_1.2)]) (fun (x : Nat × (List Int × Int) × (Option Addr) × Nat × (List Value)) => match x with | (m_1, s_1, A_12, cap_12, cs_1) => ((Ent.row 3 1 (.slice A_12 s_1.1.length cap_12) s_1.1.length cs_1) :: H)) (fun (x : Nat × (List Int × Int) × (Option Addr) × Nat × (List Value)) (MM : Mem) => match x with | (m_1, s_1, A_12, cap_12, cs_1) => loopF (forward_Flight_s1 n d0) m_1 s_1 = some b_2 ∧ RepSeq MM (s_1.1.map (Dat.int .i64)) cs_1) (fun (x : Nat × (List Int × Int) × (Option Addr) × Nat × (List Value)) => match x with | (m_1, s_1, A_12, cap_12, cs_1) => m_1) (n, (([] : List Int), (0 : Int)), A_11, cap_11, []) (f.kp) p_2 ⟨hL_1, hr_1⟩ ?_) ?_
 ·rintro ⟨m_1, s_1, A_12, cap_12, cs_1⟩ M_2 _ w_2 hM_2 I_1 f p_3
  obtain ⟨I_1L, hr_2⟩ := I_1
  obtain ⟨m_2, r_1, rfl, hs_1, hn_1⟩ := loop_step I_1L
  unfold forward_Flight_s1 at hs_1
  refine RR (Y f 1 fun _ f => eT (R_seq (RcF f hs_1 (fun h_11 hF_2 => ?_) fun h_11 hF_9 => ?_)))
  ·have k_1 := dI.1 h_11
   refine wp_skip (T_n (R_seq (wp_block (RR ?_))))
   obtain ⟨x_1, hx_1, hF_3⟩ := bS hF_2
   obtain ⟨ad_1, c_1, e_1, -, hr_3, hc_3⟩ := Sli.at_ (h_10.mono (hM_1.trans hM_2)) hx_1
   obtain ⟨A_13, cap_13, rfl, h_12⟩ := TR0.opn hr_3
   refine Z f (Y30 e_1 rfl (len := d0.fTasks.length) (cap := cap_10) (k := .i64) (i := s_1.2) (e := 84) (sz := 9) (getI_nn hx_1) (getI_lt hx_1)) fun _ f => Z (v := .agg #[.int .i64 x_1.fChange, .int .i8 x_1.fPhase, .int .i64 x_1.fCall.fToken, .int .i8 x_1.fCall.fKind, S x_1.fCall.fPhys, S x_1.fCall.fType, .slice A_13 x_1.fCall.fProps.length cap_13, .int .i8 x_1.fState, S x_1.fPhys]) f (Y32 (cs := [.int .i64 x_1.fChange, .int .i8 x_1.fPhase, .int .i64 x_1.fCall.fToken, .int .i8 x_1.fCall.fKind, S x_1.fCall.fPhys, S x_1.fCall.fType, .slice A_13 x_1.fCall.fProps.length cap_13, .int .i8 x_1.fState, S x_1.fPhys]) rfl (ad := ad_1.add (s_1.2.toNat * 9)) (fun j v h => p_3.cell (hc_3 j v h))) fun _ f => Y12 f p_3 (.cells #[.int .i64 0, .int .i8 0, .int .i64 0, .int .i8 0, S [], S [], .slice none 0 0, .int .i8 0, S []] 84 (0, 0)) fun b_3 w_3 p_4 _ f => Y27 (vs := [.int .i64 x_1.fChange, .int .i8 x_1.fPhase, .int .i64 x_1.fCall.fToken, .int .i8 x_1.fCall.fKind, S x_1.fCall.fPhys, S x_1.fCall.fType, .slice A_13 x_1.fCall.fProps.length cap_13, .int .i8 x_1.fState, S x_1.fPhys]) (j := 0) f p_4 rfl rfl (by simp [Value.oneCell', S]) (by simp) (by decide) (cs' := #[.int .i64 x_1.fChange, .int .i8 x_1.fPhase, .int .i64 x_1.fCall.fToken, .int .i8 x_1.fCall.fKind, S x_1.fCall.fPhys, S x_1.fCall.fType, .slice A_13 x_1.fCall.fProps.length cap_13, .int .i8 x_1.fState, S x_1.fPhys]) fun w_4 p_5 _ f => eT (RR (Y f 1 fun _ f => Z f (Y31 (v := .int .i8 x_1.fState) rfl (ad := ⟨b_3, 7, none⟩) (p_5.ownCell 0 rfl 7)) fun _ f => Y f 1 fun _ f => eT (RcF f hF_3 (fun h_13 hF_4 => ?_) fun h_13 hF_7 => ?_)))
   ·have k_2 := dI.1 h_13
    refine R_reg (Y f 3 fun _ f => Z f (Y31 (v := .int .i64 x_1.fCall.fToken) rfl (ad := ⟨b_3, 2, none⟩) (p_5.ownCell 0 rfl 2)) fun _ f => V_allocS (k := 1) (c := 1) f p_5 (.cells #[.int .i64 x_1.fCall.fToken] 3 (0, 0)) (by kernel_rfl) (fun _ => by kernel_rfl) fun b_4 w_5 p_6 _ f => ?_)
    have p_7 := p_6.pl [2]
    obtain ⟨g_1, hF_5⟩ := nS hF_4
    refine Y21 (z := .int .i64 0) (f := (Dat.int .i64)) (xs := s_1.1) (ys := [x_1.fCall.fToken]) (news := [.int .i64 x_1.fCall.fToken]) (ad := ⟨b_4, 0, none⟩) (m := 1) (c := 1) f p_7 hr_2 (by exact ⟨_, _, rfl, rfl, rfl⟩) rfl rfl rfl rfl (own_cells (p_7.ownCell 1 rfl) 0 rfl) (by exact g_1) (by have hg_ := g_1; first | omega | (simp only [List.length_cons, List.length_nil] at *; omega)) fun A_14 cap_14 cs_2 w_6 p_8 hr_4 _ f => ?_
    have p_9 := p_8.pl [1]
    have p_10 := p_9.drop
    refine Y f 1 fun _ f => W_end rfl (B_n (T_n (R_reg ?_)))
    obtain ⟨g_2, hF_6⟩ := nS hF_5
    refine Y f 1 fun _ f => ?_
    have f := f.st 21 (congrArg (Value.int .i64) (inR_wrap g_2))
    refine Y f 1 fun _ f => W_end rfl ?_
    have p_12 := p_10.pl [1]
    refine T_n ?_
    obtain rfl := sI hF_6
    exact ⟨⟨m_2, (s_1.1 ++ [x_1.fCall.fToken], s_1.2 + 1), A_14, cap_14, cs_2⟩, Nat.lt_succ_self _, M_2, hM_2, ⟨hn_1, hr_4⟩, f.kp, (p_12.dropN 1)⟩
   ·have k_3 := iff_f dI h_13
    refine wp_skip (B_n (T_n (R_reg ?_)))
    obtain ⟨g_3, hF_8⟩ := nS hF_7
    refine Y f 1 fun _ f => ?_
    have f := f.st 21 (congrArg (Value.int .i64) (inR_wrap g_3))
    refine Y f 1 fun _ f => eT ?_
    obtain rfl := sI hF_8
    exact ⟨⟨m_2, (s_1.1, s_1.2 + 1), A_12, cap_12, cs_1⟩, Nat.lt_succ_self _, M_2, hM_2, ⟨hn_1, hr_2⟩, f.kp, (p_5.dropN 1)⟩
  ·have k_4 := iff_f dI h_11
   refine wp_exit (T_x (T_x ?_))
   obtain rfl := sI hF_9
   exact ⟨rfl, s_1.1, (sI hn_1).symm, M_2, hM_2, A_12, cap_12, cs_1, hr_2, f.kp, p_3⟩
 ·rintro _ _ w_8 ⟨rfl, y_1, hq_, M_3, hM_3, A_15, cap_15, cs_3, hr_5, f, p_11⟩
  subst b_2
  refine B_x (T_n (RR (Y f 2 fun _ f => eT (wp_ret (E_ret1 f rfl (by kernel_rfl : Vc.look _ 2 = some (.slice A_15 y_1.length cap_15)) ?_)))))
  obtain rfl := sI hF_1
  exact ⟨_, rfl, M_3, _, (hM_1.trans hM_3), p_11, ⟨A_15, cap_15, cs_3, rfl, rfl, hr_5⟩⟩
def forward_Task_1 (n : Nat) (d0 : TR0) (d1 : Int) (d2 : Int) : Option Bool :=
  bif (decide (d0.fChange = d1)) then
    (some ((decide (d0.fPhase = d2))))
  else
    some ((false))
theorem forward_Task_1_ok (n : Nat) (M : Mem) (ad0 : Addr) (c0 : List Value) (d0 : TR0) (h0 : Rep M (emb_TR0 d0) c0) (q0 : ∀ j v, c0[j]? = some v → M.cell? (ad0.add j) = some v) (ad1 : Addr) (c1 : List Value) (d1 : Int) (h1 : Rep M ((Dat.int .i64) d1) c1) (q1 : ∀ j v, c1[j]? = some v → M.cell? (ad1.add j) = some v) (ad2 : Addr) (c2 : List Value) (d2 : Int) (h2 : Rep M ((Dat.int .i8) d2) c2) (q2 : ∀ j v, c2[j]? = some v → M.cell? (ad2.add j) = some v) (r : Bool) (hF : forward_Task_1 n d0 d1 d2 = some r) : Ok Try.prog M 69 [.pointer (some ad0), .pointer (some ad1), .pointer (some ad2)] (fun _ v => v = .bool r) := by
 unfold forward_Task_1 at hF
 intro M1 hM0 w0 H w p0
 replace h0 := Rep.mono hM0 _ _ h0
 replace q0 := fun j v h => hM0.cell (q0 j v h)
 replace h1 := Rep.mono hM0 _ _ h1
 replace q1 := fun j v h => hM0.cell (q1 j v h)
 replace h2 := Rep.mono hM0 _ _ h2
 replace q2 := fun j v h => hM0.cell (q2 j v h)
 obtain ⟨A_1, cap_1, rfl, h_1⟩ := TR0.opn h0
 obtain rfl : c1 = [.int .i64 d1] := h1
 obtain rfl : c2 = [.int .i8 d2] := h2
 refine R_enter 19 Try.func69 rfl rfl (by simp) fun a0 f0 => RR (Y f0 1 fun _ f => eT (R_seq (R_draw p0 (by kernel_rfl) (by kernel_rfl) (Y5 default f 3 fun _ f => Y4 f q0 0 rfl fun _ f => Y4 f q1 0 rfl fun _ f => Y5 default f 2 fun _ f => ?_))))
 rcases cE hF with ⟨h_2, hF_1⟩ | ⟨h_2, hF_2⟩
 ·have k_1 := dI.1 h_2
  have f := f.st 11 (cB h_2)
  refine Y5 default f 3 fun _ f => Y4 f q0 1 rfl fun _ f => Y4 f q2 0 rfl fun _ f => Y5 default f 3 fun _ f => Q_end rfl ?_
  intro w_1 p_1
  refine T_n (wp_ret (E_ret1 f rfl (by kernel_rfl : Vc.look _ 4 = some (.bool (decide (d0.fPhase = d2)))) ?_))
  obtain rfl := sI hF_1
  exact ⟨_, rfl, M1, (mR _), p_1, rfl⟩
 ·have k_2 := iff_f dI h_2
  have f := f.st 11 (cB h_2)
  refine Y5 default f 8 fun _ f => Q_end rfl ?_
  intro w_2 p_2
  refine T_n (wp_ret (E_ret1 f rfl (by kernel_rfl : Vc.look _ 4 = some (.bool false)) ?_))
  obtain rfl := sI hF_2
  exact ⟨_, rfl, M1, (mR _), p_2, rfl⟩
def forward_first_s1 (n : Nat) (d0 : List TR0) (d1_0 : Int) (d1_1 : Int) (s_1 : Int × Int × Int × Int × Int × List UInt8 × List UInt8 × List TF0 × Int × List UInt8) : Option (Lp (Int × Int × Int × Int × Int × List UInt8 × List UInt8 × List TF0 × Int × List UInt8) (Sum (Int × Int × Int × Int × List UInt8 × List UInt8 × List TF0 × Int × List UInt8) (Int × Int × Int × Int × List UInt8 × List UInt8 × List TF0 × Int × List UInt8))) :=
    bif (decide (s_1.1 < ((d0.length : Nat) : Int))) then
      ((getI d0 s_1.1).bind fun x_1 =>
      (forward_Task_1 n x_1 d1_0 d1_1).bind fun x_2 =>
      bif x_2 then
        ((getI d0 s_1.1).bind fun x_3 =>
        some (.br (.inl (x_3.fChange, x_3.fPhase, x_3.fCall.fToken, x_3.fCall.fKind, x_3.fCall.fPhys, x_3.fCall.fType, x_3.fCall.fProps, x_3.fState, x_3.fPhys))))
      else
        need (inR .i64 (s_1.1 + 1)) <|
        some (.nx (s_1.1 + 1, s_1.2.1, s_1.2.2.1, s_1.2.2.2.1, s_1.2.2.2.2.1, s_1.2.2.2.2.2.1, s_1.2.2.2.2.2.2.1, s_1.2.2.2.2.2.2.2.1, s_1.2.2.2.2.2.2.2.2.1, s_1.2.2.2.2.2.2.2.2.2)))
    else
      some (.br (.inr (s_1.2.1, s_1.2.2.1, s_1.2.2.2.1, s_1.2.2.2.2.1, s_1.2.2.2.2.2.1, s_1.2.2.2.2.2.2.1, s_1.2.2.2.2.2.2.2.1, s_1.2.2.2.2.2.2.2.2.1, s_1.2.2.2.2.2.2.2.2.2)))
def forward_first (n : Nat) (d0 : List TR0) (d1_0 : Int) (d1_1 : Int) : Option (TR0 × Bool) :=
  (loopF (forward_first_s1 n d0 d1_0 d1_1) n ((0 : Int), (0 : Int), (0 : Int), (0 : Int), (0 : Int), ([] : List UInt8), ([] : List UInt8), ([] : List TF0), (0 : Int), ([] : List UInt8))).bind fun b_2 =>
  (match b_2 with 
  | .inl y_1 => some (((⟨y_1.1, y_1.2.1, (⟨y_1.2.2.1, y_1.2.2.2.1, y_1.2.2.2.2.1, y_1.2.2.2.2.2.1, y_1.2.2.2.2.2.2.1⟩ : TP0), y_1.2.2.2.2.2.2.2.1, y_1.2.2.2.2.2.2.2.2⟩ : TR0), (true))) 
  | .inr y_2 => some (((⟨y_2.1, y_2.2.1, (⟨y_2.2.2.1, y_2.2.2.2.1, y_2.2.2.2.2.1, y_2.2.2.2.2.2.1, y_2.2.2.2.2.2.2.1⟩ : TP0), y_2.2.2.2.2.2.2.2.1, y_2.2.2.2.2.2.2.2.2⟩ : TR0), (false))))
theorem forward_first_ok (n : Nat) (M : Mem) (A0 : Option Addr) (cap0 : Nat) (d0 : List TR0) (h0 : Sli M 9 emb_TR0 A0 cap0 d0) (ad1_0 : Addr) (c1_0 : List Value) (d1_0 : Int) (h1_0 : Rep M ((Dat.int .i64) d1_0) c1_0) (q1_0 : ∀ j v, c1_0[j]? = some v → M.cell? (ad1_0.add j) = some v) (ad1_1 : Addr) (c1_1 : List Value) (d1_1 : Int) (h1_1 : Rep M ((Dat.int .i8) d1_1) c1_1) (q1_1 : ∀ j v, c1_1[j]? = some v → M.cell? (ad1_1.add j) = some v) (r : TR0 × Bool) (hF : forward_first n d0 d1_0 d1_1 = some r) : Ok Try.prog M 68 [.slice A0 d0.length cap0, .func (.func 69) #[] #[.pointer (some ad1_0), .pointer (some ad1_1)]] (fun M' v => ∃ (c0 : List Value), v = .tuple #[.agg c0.toArray, .bool r.2] ∧ Rep M' (emb_TR0 r.1) c0) := by
 unfold forward_first at hF
 intro M1 hM0 w0 H w p0
 replace h0 := h0.mono hM0
 replace h1_0 := Rep.mono hM0 _ _ h1_0
 replace q1_0 := fun j v h => hM0.cell (q1_0 j v h)
 replace h1_1 := Rep.mono hM0 _ _ h1_1
 replace q1_1 := fun j v h => hM0.cell (q1_1 j v h)
 obtain rfl : c1_0 = [.int .i64 d1_0] := h1_0
 obtain rfl : c1_1 = [.int .i8 d1_1] := h1_1
 refine R_enter 23 Try.func68 rfl rfl (by simp) fun a0 f0 => RR (Y12 f0 p0 (.cells #[.int .i64 0, .int .i8 0, .int .i64 0, .int .i8 0, S [], S [], .slice none 0 0, .int .i8 0, S []] 84 (0, 0)) fun b_1 w_1 p_1 _ f => Y f 1 fun _ f => eT (R_seq (RR (Y f 3 fun _ f => eT (wp_block ?_)))))
 obtain ⟨b_2, hL_1, hF_1⟩ := bS hF
 refine wp_mono (Q := fun e a w => (e = .ret ∧ (∃ y_1 : Int × Int × Int × Int × List UInt8 × List UInt8 × List TF0 × Int × List UInt8, b_2 = .inl y_1 ∧ ∃ M_2 : Mem, M1.le M_2 ∧ ∃ (A_4 : Option Addr), ∃ (cap_4 : Nat), Sli M_2 8 emb_TF0 A_4 cap_4 y_1.2.2.2.2.2.2.1 ∧ Frm 23 [(4, .pointer (some (⟨b_1, 0, none⟩))), (5, .bool true)] a ∧ Hp w0 M_2 ((Ent.obj b_1 (.cells #[.int .i64 y_1.1, .int .i8 y_1.2.1, .int .i64 y_1.2.2.1, .int .i8 y_1.2.2.2.1, S y_1.2.2.2.2.1, S y_1.2.2.2.2.2.1, .slice A_4 y_1.2.2.2.2.2.2.1.length cap_4, .int .i8 y_1.2.2.2.2.2.2.2.1, S y_1.2.2.2.2.2.2.2.2] 84 (0, 0))) :: H) w)) ∨ (e = .exit 0 ∧ (∃ y_2 : Int × Int × Int × Int × List UInt8 × List UInt8 × List TF0 × Int × List UInt8, b_2 = .inr y_2 ∧ ∃ M_3 : Mem, M1.le M_3 ∧ ∃ (A_5 : Option Addr), ∃ (cap_5 : Nat), Sli M_3 8 emb_TF0 A_5 cap_5 y_2.2.2.2.2.2.2.1 ∧ Frm 23 [(4, .pointer (some (⟨b_1, 0, none⟩)))] a ∧ Hp w0 M_3 ((Ent.obj b_1 (.cells #[.int .i64 y_2.1, .int .i8 y_2.2.1, .int .i64 y_2.2.2.1, .int .i8 y_2.2.2.2.1, S y_2.2.2.2.2.1, S y_2.2.2.2.2.2.1, .slice A_5 y_2.2.2.2.2.2.2.1.length cap_5, .int .i8 y_2.2.2.2.2.2.2.2.1, S y_2.2.2.2.2.2.2.2.2] 84 (0, 0))) :: H) w))) (R_loop (n := 23) (w0 := w0) (M := M1) (fun (x : Nat × (Int × Int × Int × Int × Int × List UInt8 × List UInt8 × List TF0 × Int × List UInt8) × (Option Addr) × Nat) => match x with | (m_1, s_1, A_1, cap_1) => [(0, .slice A0 d0.length cap0), (1, .func (.func 69) #[] #[.pointer (some ad1_0), .pointer (some ad1_1)]), (4, .pointer (some (⟨b_1, 0, none⟩))), (8, .int .i64 ((d0.length : Nat) : Int)), (9, .int .i64 s_1.1)]) (fun (x : Nat × (Int × Int × Int × Int × Int × List UInt8 × List UInt8 × List TF0 × Int × List UInt8) × (Option Addr) × Nat) => match x with | (m_1, s_1, A_1, cap_1) => ((Ent.obj b_1 (.cells #[.int .i64 s_1.2.1, .int .i8 s_1.2.2.1, .int .i64 s_1.2.2.2.1, .int .i8 s_1.2.2.2.2.1, S s_1.2.2.2.2.2.1, S s_1.2.2.2.2.2.2.1, .slice A_1 s_1.2.2.2.2.2.2.2.1.length cap_1, .int .i8 s_1.2.2.2.2.2.2.2.2.1, S s_1.2.2.2.2.2.2.2.2.2] 84 (0, 0))) :: H)) (fun (x : Nat × (Int × Int × Int × Int × Int × List UInt8 × List UInt8 × List TF0 × Int × List UInt8) × (Option Addr) × Nat) (MM : Mem) => match x with | (m_1, s_1, A_1, cap_1) => loopF (forward_first_s1 n d0 d1_0 d1_1) m_1 s_1 = some b_2 ∧ Sli MM 8 emb_TF0 A_1 cap_1 s_1.2.2.2.2.2.2.2.1) (fun (x : Nat × (Int × Int × Int × Int × Int × List UInt8 × List UInt8 × List TF0 × Int × List UInt8) × (Option Addr) × Nat) => match x with | (m_1, s_1, A_1, cap_1) => m_1) (n, ((0 : Int), (0 : Int), (0 : Int), (0 : Int), (0 : Int), ([] : List UInt8), ([] : List UInt8), ([] : List TF0), (0 : Int), ([] : List UInt8)), none, 0) (f.kp) p_1 ⟨hL_1, Sli.nil⟩ ?_) ?_
 ·rintro ⟨m_1, s_1, A_1, cap_1⟩ M_1 _ w_2 hM_1 I_1 f p_2
  obtain ⟨I_1L, h_1⟩ := I_1
  obtain ⟨m_2, r_1, rfl, hs_1, hn_1⟩ := loop_step I_1L
  unfold forward_first_s1 at hs_1
  refine RR (Y f 1 fun _ f => eT (R_seq (RcF f hs_1 (fun h_2 hF_2 => ?_) fun h_2 hF_9 => ?_)))
  ·have k_1 := dI.1 h_2
   refine wp_skip (T_n (R_seq (wp_block (RR (Y f 2 fun _ f => eT (RR (Y f 3 fun _ f => ?_)))))))
   obtain ⟨x_1, hx_1, hF_3⟩ := bS hF_2
   obtain ⟨ad_1, c_1, e_1, -, hr_1, hc_1⟩ := Sli.at_ (h0.mono hM_1) hx_1
   obtain ⟨A_2, cap_2, rfl, h_3⟩ := TR0.opn hr_1
   refine Z f (Y30 e_1 rfl (len := d0.length) (cap := cap0) (k := .i64) (i := s_1.1) (e := 84) (sz := 9) (getI_nn hx_1) (getI_lt hx_1)) fun _ f => ?_
   obtain ⟨x_2, hx_2, hF_4⟩ := bS hF_3
   refine Y18 f p_2 (forward_Task_1_ok n _ (ad_1.add (s_1.1.toNat * 9)) [.int .i64 x_1.fChange, .int .i8 x_1.fPhase, .int .i64 x_1.fCall.fToken, .int .i8 x_1.fCall.fKind, S x_1.fCall.fPhys, S x_1.fCall.fType, .slice A_2 x_1.fCall.fProps.length cap_2, .int .i8 x_1.fState, S x_1.fPhys] x_1 (TR0.shutx (x := x_1) h_3) (fz_at (hc_1) 0 rfl) ad1_0 [.int .i64 d1_0] d1_0 (rfl) (fz_at ((fzu hM_1 q1_0)) 0 rfl) ad1_1 [.int .i8 d1_1] d1_1 (rfl) (fz_at ((fzu hM_1 q1_1)) 0 rfl) x_2 hx_2) fun w_3 p_3 _ f => eT (RcF f hF_4 (fun h_4 hF_5 => ?_) fun h_4 hF_7 => ?_)
   ·refine RR (Y f 2 fun _ f => ?_)
    obtain ⟨x_3, hx_3, hF_6⟩ := bS hF_5
    obtain ⟨ad_2, c_2, e_2, -, hr_2, hc_2⟩ := Sli.at_ (h0.mono hM_1) hx_3
    obtain ⟨A_3, cap_3, rfl, h_5⟩ := TR0.opn hr_2
    refine Z f (Y30 e_2 rfl (len := d0.length) (cap := cap0) (k := .i64) (i := s_1.1) (e := 84) (sz := 9) (getI_nn hx_3) (getI_lt hx_3)) fun _ f => Z (v := .agg #[.int .i64 x_3.fChange, .int .i8 x_3.fPhase, .int .i64 x_3.fCall.fToken, .int .i8 x_3.fCall.fKind, S x_3.fCall.fPhys, S x_3.fCall.fType, .slice A_3 x_3.fCall.fProps.length cap_3, .int .i8 x_3.fState, S x_3.fPhys]) f (Y32 (cs := [.int .i64 x_3.fChange, .int .i8 x_3.fPhase, .int .i64 x_3.fCall.fToken, .int .i8 x_3.fCall.fKind, S x_3.fCall.fPhys, S x_3.fCall.fType, .slice A_3 x_3.fCall.fProps.length cap_3, .int .i8 x_3.fState, S x_3.fPhys]) rfl (ad := ad_2.add (s_1.1.toNat * 9)) (fun j v h => p_3.cell (hc_2 j v h))) fun _ f => Y27 (vs := [.int .i64 x_3.fChange, .int .i8 x_3.fPhase, .int .i64 x_3.fCall.fToken, .int .i8 x_3.fCall.fKind, S x_3.fCall.fPhys, S x_3.fCall.fType, .slice A_3 x_3.fCall.fProps.length cap_3, .int .i8 x_3.fState, S x_3.fPhys]) (j := 0) f p_3 rfl rfl (by simp [Value.oneCell', S]) (by simp) (by decide) (cs' := #[.int .i64 x_3.fChange, .int .i8 x_3.fPhase, .int .i64 x_3.fCall.fToken, .int .i8 x_3.fCall.fKind, S x_3.fCall.fPhys, S x_3.fCall.fType, .slice A_3 x_3.fCall.fProps.length cap_3, .int .i8 x_3.fState, S x_3.fPhys]) fun w_4 p_4 _ f => Y f 1 fun _ f => eT (wp_ret (B_r (T_r (T_r ?_))))
    obtain rfl := sI hF_6
    exact .inl ⟨rfl, (x_3.fChange, x_3.fPhase, x_3.fCall.fToken, x_3.fCall.fKind, x_3.fCall.fPhys, x_3.fCall.fType, x_3.fCall.fProps, x_3.fState, x_3.fPhys), (sI hn_1).symm, M_1, hM_1, A_3, cap_3, h_5, f.kp, p_4⟩
   ·refine wp_skip (B_n (T_n (R_reg ?_)))
    obtain ⟨g_1, hF_8⟩ := nS hF_7
    refine Y f 1 fun _ f => ?_
    have f := f.st 21 (congrArg (Value.int .i64) (inR_wrap g_1))
    refine Y f 1 fun _ f => eT ?_
    obtain rfl := sI hF_8
    exact ⟨⟨m_2, (s_1.1 + 1, s_1.2.1, s_1.2.2.1, s_1.2.2.2.1, s_1.2.2.2.2.1, s_1.2.2.2.2.2.1, s_1.2.2.2.2.2.2.1, s_1.2.2.2.2.2.2.2.1, s_1.2.2.2.2.2.2.2.2.1, s_1.2.2.2.2.2.2.2.2.2), A_1, cap_1⟩, Nat.lt_succ_self _, M_1, hM_1, ⟨hn_1, h_1⟩, f.kp, p_3⟩
  ·have k_4 := iff_f dI h_2
   refine wp_exit (T_x (T_x ?_))
   obtain rfl := sI hF_9
   exact .inr ⟨rfl, (s_1.2.1, s_1.2.2.1, s_1.2.2.2.1, s_1.2.2.2.2.1, s_1.2.2.2.2.2.1, s_1.2.2.2.2.2.2.1, s_1.2.2.2.2.2.2.2.1, s_1.2.2.2.2.2.2.2.2.1, s_1.2.2.2.2.2.2.2.2.2), (sI hn_1).symm, M_1, hM_1, A_1, cap_1, h_1, f.kp, p_2⟩
 ·rintro _ _ w_7 (⟨rfl, y_1, rfl, M_2, hM_2, A_4, cap_4, h_6, f, p_5⟩ | ⟨rfl, y_2, rfl, M_3, hM_3, A_5, cap_5, h_7, f, p_6⟩)
  ·refine B_r (T_r (E_rv2 f rfl (Y10 (cs := [.int .i64 y_1.1, .int .i8 y_1.2.1, .int .i64 y_1.2.2.1, .int .i8 y_1.2.2.2.1, S y_1.2.2.2.2.1, S y_1.2.2.2.2.2.1, .slice A_4 y_1.2.2.2.2.2.2.1.length cap_4, .int .i8 y_1.2.2.2.2.2.2.2.1, S y_1.2.2.2.2.2.2.2.2]) (ad := ⟨b_1, 0, none⟩) f (own_cells (p_5.ownCell 0 rfl) 0 rfl)) (Y11 (v := .bool true) f) ?_))
   obtain rfl := sI hF_1
   exact ⟨_, rfl, M_2, hM_2, (p_5.dropN 1), ⟨[.int .i64 y_1.1, .int .i8 y_1.2.1, .int .i64 y_1.2.2.1, .int .i8 y_1.2.2.2.1, S y_1.2.2.2.2.1, S y_1.2.2.2.2.2.1, .slice A_4 y_1.2.2.2.2.2.2.1.length cap_4, .int .i8 y_1.2.2.2.2.2.2.2.1, S y_1.2.2.2.2.2.2.2.2], rfl, (TR0.shut h_6)⟩⟩
  ·refine B_x (T_n (RR (Z (v := .agg #[.int .i64 y_2.1, .int .i8 y_2.2.1, .int .i64 y_2.2.2.1, .int .i8 y_2.2.2.2.1, S y_2.2.2.2.2.1, S y_2.2.2.2.2.2.1, .slice A_5 y_2.2.2.2.2.2.2.1.length cap_5, .int .i8 y_2.2.2.2.2.2.2.2.1, S y_2.2.2.2.2.2.2.2.2]) f (Y32 (cs := [.int .i64 y_2.1, .int .i8 y_2.2.1, .int .i64 y_2.2.2.1, .int .i8 y_2.2.2.2.1, S y_2.2.2.2.2.1, S y_2.2.2.2.2.2.1, .slice A_5 y_2.2.2.2.2.2.2.1.length cap_5, .int .i8 y_2.2.2.2.2.2.2.2.1, S y_2.2.2.2.2.2.2.2.2]) rfl (ad := ⟨b_1, 0, none⟩) (own_cells (p_6.ownCell 0 rfl) 0 rfl)) fun _ f => Y27 (vs := [.int .i64 y_2.1, .int .i8 y_2.2.1, .int .i64 y_2.2.2.1, .int .i8 y_2.2.2.2.1, S y_2.2.2.2.2.1, S y_2.2.2.2.2.2.1, .slice A_5 y_2.2.2.2.2.2.2.1.length cap_5, .int .i8 y_2.2.2.2.2.2.2.2.1, S y_2.2.2.2.2.2.2.2.2]) (j := 0) f p_6 rfl rfl (by simp [Value.oneCell', S]) (by simp) (by decide) (cs' := #[.int .i64 y_2.1, .int .i8 y_2.2.1, .int .i64 y_2.2.2.1, .int .i8 y_2.2.2.2.1, S y_2.2.2.2.2.1, S y_2.2.2.2.2.2.1, .slice A_5 y_2.2.2.2.2.2.2.1.length cap_5, .int .i8 y_2.2.2.2.2.2.2.2.1, S y_2.2.2.2.2.2.2.2.2]) fun w_8 p_7 _ f => Y f 1 fun _ f => eT (wp_ret (E_rv2 f rfl (Y10 (cs := [.int .i64 y_2.1, .int .i8 y_2.2.1, .int .i64 y_2.2.2.1, .int .i8 y_2.2.2.2.1, S y_2.2.2.2.2.1, S y_2.2.2.2.2.2.1, .slice A_5 y_2.2.2.2.2.2.2.1.length cap_5, .int .i8 y_2.2.2.2.2.2.2.2.1, S y_2.2.2.2.2.2.2.2.2]) (ad := ⟨b_1, 0, none⟩) f (own_cells (p_7.ownCell 0 rfl) 0 rfl)) (Y11 (v := .bool false) f) ?_)))))
   obtain rfl := sI hF_1
   exact ⟨_, rfl, M_3, hM_3, (p_7.dropN 1), ⟨[.int .i64 y_2.1, .int .i8 y_2.2.1, .int .i64 y_2.2.2.1, .int .i8 y_2.2.2.2.1, S y_2.2.2.2.2.1, S y_2.2.2.2.2.2.1, .slice A_5 y_2.2.2.2.2.2.2.1.length cap_5, .int .i8 y_2.2.2.2.2.2.2.2.1, S y_2.2.2.2.2.2.2.2.2], rfl, (TR0.shut h_7)⟩⟩
def forward_Task (n : Nat) (d0 : TL0) (d1 : Int) (d2 : Int) : Option (TR0 × Bool) :=
  (forward_first n d0.fTasks d1 d2).bind fun x_1 =>
  some ((x_1.1, (x_1.2)))
theorem forward_Task_ok (n : Nat) (M : Mem) (c0 : List Value) (d0 : TL0) (h0 : Rep M (emb_TL0 d0) c0) (d1 : Int) (d2 : Int) (r : TR0 × Bool) (hF : forward_Task n d0 d1 d2 = some r) : Ok Try.prog M 55 [.agg c0.toArray, .int .i64 d1, .int .i8 d2] (fun M' v => ∃ (c0 : List Value), v = .tuple #[.agg c0.toArray, .bool r.2] ∧ Rep M' (emb_TR0 r.1) c0) := by
 unfold forward_Task at hF
 intro M1 hM0 w0 H w p0
 replace h0 := Rep.mono hM0 _ _ h0
 obtain ⟨A_1, cap_1, A_2, cap_2, A_3, cap_3, A_4, cap_4, A_5, cap_5, A_6, cap_6, A_7, cap_7, A_8, cap_8, A_9, cap_9, A_10, cap_10, rfl, h_1, h_2, h_3, h_4, h_5, h_6, h_7, h_8, h_9, h_10⟩ := TL0.opn h0
 refine R_enter 14 Try.func55 rfl rfl (by simp) fun a0 f0 => RR (Y13 (cs := #[.int .i8 d0.fKind, .int .i64 d0.fWidth, .slice A_1 d0.fOld.fOwned.length cap_1, .slice A_2 d0.fOld.fPending.length cap_2, .slice A_3 d0.fOld.fRetained.length cap_3, .slice A_4 d0.fOld.fOuts.length cap_4, S d0.fOld.fText, .slice A_5 d0.fOld.fArgs.length cap_5, .int .i64 d0.fOld.fCalls, .int .i8 d0.fOld.fStatus, .slice A_6 d0.fNew.fScopes.length cap_6, .slice A_7 d0.fNew.fNodes.length cap_7, S d0.fText, .slice A_8 d0.fArgs.length cap_8, .slice A_9 d0.fChanges.length cap_9, .slice A_10 d0.fTasks.length cap_10, .int .i8 d0.fPhase, .int .i8 d0.fStatus]) (T := 55) f0 p0 fun b_1 M_1 w_1 hM_1 hc_1 p_1 _ f => ?_)
 have hc_2 := fz_box hc_1
 refine Y13 (cs := #[.int .i64 d1]) (T := 3) f p_1 fun b_2 M_2 w_2 hM_2 hc_3 p_2 _ f => ?_
 have hc_4 := fz_box hc_3
 refine Y13 (cs := #[.int .i8 d2]) (T := 24) f p_2 fun b_3 M_3 w_3 hM_3 hc_5 p_3 _ f => ?_
 have hc_6 := fz_box hc_5
 refine Y12 f p_3 (.cells #[.int .i64 0, .int .i8 0, .int .i64 0, .int .i8 0, S [], S [], .slice none 0 0, .int .i8 0, S []] 84 (0, 0)) fun b_4 w_4 p_4 _ f => Y f 1 fun _ f => eT (RR (Y f 1 fun _ f => Y15 f p_4 (fzu (hM_2.trans hM_3) hc_2) 15 rfl fun _ f => Y f 1 fun _ f => ?_))
 obtain ⟨x_1, hx_1, hF_1⟩ := bS hF
 refine Y16 f p_4 (forward_first_ok n _ A_10 cap_10 d0.fTasks (h_10.mono ((hM_1.trans hM_2).trans hM_3)) (⟨b_2, 0, none⟩) [.int .i64 d1] d1 (rfl) (fz_at ((fzu hM_3 hc_4)) 0 rfl) (⟨b_3, 0, none⟩) [.int .i8 d2] d2 (rfl) (fz_at (hc_6) 0 rfl) x_1 hx_1) fun _ M_4 w_5 hM_4 p_5 q_1 _ f => ?_
 obtain ⟨c_1, rfl, hr_1⟩ := q_1
 obtain ⟨A_11, cap_11, rfl, h_11⟩ := TR0.opn hr_1
 refine Y f 2 fun _ f => Y27 (vs := [.int .i64 x_1.1.fChange, .int .i8 x_1.1.fPhase, .int .i64 x_1.1.fCall.fToken, .int .i8 x_1.1.fCall.fKind, S x_1.1.fCall.fPhys, S x_1.1.fCall.fType, .slice A_11 x_1.1.fCall.fProps.length cap_11, .int .i8 x_1.1.fState, S x_1.1.fPhys]) (j := 0) f p_5 rfl rfl (by simp [Value.oneCell', S]) (by simp) (by decide) (cs' := #[.int .i64 x_1.1.fChange, .int .i8 x_1.1.fPhase, .int .i64 x_1.1.fCall.fToken, .int .i8 x_1.1.fCall.fKind, S x_1.1.fCall.fPhys, S x_1.1.fCall.fType, .slice A_11 x_1.1.fCall.fProps.length cap_11, .int .i8 x_1.1.fState, S x_1.1.fPhys]) fun w_6 p_6 _ f => Y f 1 fun _ f => eT (wp_ret (E_rv2 f rfl (Y10 (cs := [.int .i64 x_1.1.fChange, .int .i8 x_1.1.fPhase, .int .i64 x_1.1.fCall.fToken, .int .i8 x_1.1.fCall.fKind, S x_1.1.fCall.fPhys, S x_1.1.fCall.fType, .slice A_11 x_1.1.fCall.fProps.length cap_11, .int .i8 x_1.1.fState, S x_1.1.fPhys]) (ad := ⟨b_4, 0, none⟩) f (own_cells (p_6.ownCell 0 rfl) 0 rfl)) (Y11 (v := .bool x_1.2) f) ?_))
 obtain rfl := sI hF_1
 exact ⟨_, rfl, M_4, (((hM_1.trans hM_2).trans hM_3).trans hM_4), (p_6.dropN 1), ⟨[.int .i64 x_1.1.fChange, .int .i8 x_1.1.fPhase, .int .i64 x_1.1.fCall.fToken, .int .i8 x_1.1.fCall.fKind, S x_1.1.fCall.fPhys, S x_1.1.fCall.fType, .slice A_11 x_1.1.fCall.fProps.length cap_11, .int .i8 x_1.1.fState, S x_1.1.fPhys], rfl, (TR0.shutx (x := x_1.1) h_11)⟩⟩
def forward_within (n : Nat) (d0 : Int) (d1 : Int) (d2 : Int) : Option Bool :=
  bif (decide (d1 ≤ d0)) then
    (some ((decide (d0 ≤ d2))))
  else
    some ((false))
theorem forward_within_ok (n : Nat) (M : Mem) (d0 : Int) (d1 : Int) (d2 : Int) (r : Bool) (hF : forward_within n d0 d1 d2 = some r) : Ok Try.prog M 45 [.int .i64 d0, .int .i64 d1, .int .i64 d2] (fun _ v => v = .bool r) := by
 unfold forward_within at hF
 intro M1 hM0 w0 H w p0
 refine R_enter 15 Try.func45 rfl rfl (by simp) fun a0 f0 => RR (Y f0 1 fun _ f => eT (RR (Y f 4 fun _ f => ?_)))
 rcases cE hF with ⟨h_1, hF_1⟩ | ⟨h_1, hF_2⟩
 ·have k_1 := dI.1 h_1
  have f := f.st 10 (cB h_1)
  refine Y f 5 fun _ f => eT (wp_ret (E_ret1 f rfl (by kernel_rfl : Vc.look _ 6 = some (.bool (decide (d0 ≤ d2)))) ?_))
  obtain rfl := sI hF_1
  exact ⟨_, rfl, M1, (mR _), p0, rfl⟩
 ·have k_2 := iff_f dI h_1
  have f := f.st 10 (cB h_1)
  refine Y f 5 fun _ f => eT (wp_ret (E_ret1 f rfl (by kernel_rfl : Vc.look _ 6 = some (.bool false)) ?_))
  obtain rfl := sI hF_2
  exact ⟨_, rfl, M1, (mR _), p0, rfl⟩
def forward_within_2 (n : Nat) (d0 : Int) (d1 : Int) (d2 : Int) : Option Bool :=
  bif (decide (d1 ≤ d0)) then
    (some ((decide (d0 ≤ d2))))
  else
    some ((false))
theorem forward_within_2_ok (n : Nat) (M : Mem) (d0 : Int) (d1 : Int) (d2 : Int) (r : Bool) (hF : forward_within_2 n d0 d1 d2 = some r) : Ok Try.prog M 60 [.int .i8 d0, .int .i8 d1, .int .i8 d2] (fun _ v => v = .bool r) := by
 unfold forward_within_2 at hF
 intro M1 hM0 w0 H w p0
 refine R_enter 15 Try.func60 rfl rfl (by simp) fun a0 f0 => RR (Y f0 1 fun _ f => eT (RR (Y f 4 fun _ f => ?_)))
 rcases cE hF with ⟨h_1, hF_1⟩ | ⟨h_1, hF_2⟩
 ·have k_1 := dI.1 h_1
  have f := f.st 10 (cB h_1)
  refine Y f 5 fun _ f => eT (wp_ret (E_ret1 f rfl (by kernel_rfl : Vc.look _ 6 = some (.bool (decide (d0 ≤ d2)))) ?_))
  obtain rfl := sI hF_1
  exact ⟨_, rfl, M1, (mR _), p0, rfl⟩
 ·have k_2 := iff_f dI h_1
  have f := f.st 10 (cB h_1)
  refine Y f 5 fun _ f => eT (wp_ret (E_ret1 f rfl (by kernel_rfl : Vc.look _ 6 = some (.bool false)) ?_))
  obtain rfl := sI hF_2
  exact ⟨_, rfl, M1, (mR _), p0, rfl⟩
def change_Leans_s1 (n : Nat) (s_1 : (List ((List UInt8) × Int))) (x_1 : Int × TD0) : Option (Lp (List ((List UInt8) × Int)) Empty) :=
    some (.nx (mput s_1 x_1.2.fId x_1.1))
def change_Leans_s3 (n : Nat) (s_2 : (List ((List UInt8) × Int))) (s_3 : Int × List (List Int)) (y_1 : List (List UInt8)) (s_4 : Int × List (List Int)) : Option (Lp (Int × List (List Int)) (List (List Int))) :=
    bif (decide (s_4.1 < ((y_1.length : Nat) : Int))) then
      ((getI y_1 s_4.1).bind fun x_4 =>
      bif (mget s_2 x_4).isSome then
        ((getI s_4.2 s_3.1).bind fun x_5 =>
        need ((x_5.length + 1) * 8 ≤ 140737488355328) <|
        need (inR .i64 (s_4.1 + 1)) <|
        some (.nx (s_4.1 + 1, s_4.2.set s_3.1.toNat (x_5 ++ [(mget s_2 x_4).getD (0 : Int)]))))
      else
        need (inR .i64 (s_4.1 + 1)) <|
        some (.nx (s_4.1 + 1, s_4.2)))
    else
      some (.br s_4.2)
def change_Leans_s2 (n : Nat) (d0 : TL0) (d1 : Bool) (s_2 : (List ((List UInt8) × Int))) (s_3 : Int × List (List Int)) : Option (Lp (Int × List (List Int)) (List (List Int))) :=
    bif (decide (s_3.1 < ((d0.fChanges.length : Nat) : Int))) then
      ((getI d0.fChanges s_3.1).bind fun x_2 =>
      ((bif d1 then
          ((state_Own n (⟨d0.fOld.fOwned, d0.fOld.fPending, d0.fOld.fRetained, d0.fOld.fOuts, d0.fOld.fText, d0.fOld.fArgs, d0.fOld.fCalls, d0.fOld.fStatus⟩ : TG0) x_2.fId).bind fun x_3 =>
          some (x_3.1.fLeans))
        else
          some (x_2.fLeans) : Option (List (List UInt8)))).bind fun y_1 =>
      (loopF (change_Leans_s3 n s_2 s_3 y_1) n ((0 : Int), s_3.2)).bind fun y_2 =>
      (getI y_2 s_3.1).bind fun x_6 =>
      (h_SortI n x_6).bind fun x_7 =>
      (getI (y_2.set s_3.1.toNat x_7) s_3.1).bind fun x_8 =>
      (h_CompactI n x_8).bind fun x_9 =>
      need (0 ≤ ((x_9.length : Nat) : Int) ∧ ((x_9.length : Nat) : Int) ≤ (x_9.length : Int)) <|
      need (inR .i64 (s_3.1 + 1)) <|
      some (.nx (s_3.1 + 1, (y_2.set s_3.1.toNat x_7).set s_3.1.toNat (x_9.take ((x_9.length : Nat) : Int).toNat))))
    else
      some (.br s_3.2)
def change_Leans (n : Nat) (d0 : TL0) (d1 : Bool) : Option (List (List Int)) :=
  need (d0.fChanges.length ≤ 9223372036854775806) <|
  (foldY (change_Leans_s1 n) (backI d0.fChanges) ([] : List ((List UInt8) × Int))).bind fun j_1 =>
  (match j_1 with 
  | .nx s_2 => need (0 ≤ ((d0.fChanges.length : Nat) : Int) ∧ ((d0.fChanges.length : Nat) : Int) * 24 ≤ 140737488355328 ∧ ((d0.fChanges.length : Nat) : Int) ≤ 140737488355328) <|
    (loopF (change_Leans_s2 n d0 d1 s_2) n ((0 : Int), List.replicate ((d0.fChanges.length : Nat) : Int).toNat ([] : List Int))).bind fun y_3 =>
    some (y_3) 
  | .br _ => none)
set_option maxRecDepth 20000 in
theorem change_Leans_ok (n : Nat) (M : Mem) (c0 : List Value) (d0 : TL0) (h0 : Rep M (emb_TL0 d0) c0) (d1 : Bool) (r : List (List Int)) (hF : change_Leans n d0 d1 = some r) : Ok Try.prog M 40 [.agg c0.toArray, .bool d1] (fun M' v => ∃ (A0 : Option Addr) (k0 : Nat), v = .slice A0 r.length k0 ∧ Sli M' 1 (eL 1 (Dat.int .i64)) A0 k0 r) := by
 unfold change_Leans at hF
 intro M1 hM0 w0 H w p0
 replace h0 := Rep.mono hM0 _ _ h0
 obtain ⟨A_1, cap_1, A_2, cap_2, A_3, cap_3, A_4, cap_4, A_5, cap_5, A_6, cap_6, A_7, cap_7, A_8, cap_8, A_9, cap_9, A_10, cap_10, rfl, h_1, h_2, h_3, h_4, h_5, h_6, h_7, h_8, h_9, h_10⟩ := TL0.opn h0
 refine R_enterM 99 Try.func40 rfl rfl (by simp) fun a0 f0 => RR (Y13 (cs := #[.int .i8 d0.fKind, .int .i64 d0.fWidth, .slice A_1 d0.fOld.fOwned.length cap_1, .slice A_2 d0.fOld.fPending.length cap_2, .slice A_3 d0.fOld.fRetained.length cap_3, .slice A_4 d0.fOld.fOuts.length cap_4, S d0.fOld.fText, .slice A_5 d0.fOld.fArgs.length cap_5, .int .i64 d0.fOld.fCalls, .int .i8 d0.fOld.fStatus, .slice A_6 d0.fNew.fScopes.length cap_6, .slice A_7 d0.fNew.fNodes.length cap_7, S d0.fText, .slice A_8 d0.fArgs.length cap_8, .slice A_9 d0.fChanges.length cap_9, .slice A_10 d0.fTasks.length cap_10, .int .i8 d0.fPhase, .int .i8 d0.fStatus]) (T := 55) f0 p0 fun b_1 M_1 w_1 hM_1 hc_1 p_1 _ f => ?_)
 have hc_2 := fz_box hc_1
 refine Y f 1 fun _ f => eT (RR (W_newmap S (Value.int .i64) f p_1 (by kernel_rfl) (by kernel_rfl) rfl rfl rfl fun bm_1 w_2 p_2 _ f => Y12 f p_2 (.cells #[.map none] 99 (0, 0)) fun b_2 w_3 p_3 _ f => Y26 f p_3 0 rfl rfl (b := b_2) (j := 0) (v := .map (some bm_1)) rfl (by exact rfl) (by simp) (by simp) ((Ent.obj b_2 (.cells #[.map (some bm_1)] 99 (0, 0))) :: (Ent.obj bm_1 (mapO S (Value.int .i64) ([] : List ((List UInt8) × Int)))) :: H) rfl fun w_4 p_4 _ f => eT (R_seq (RR (Y f 1 fun _ f => Y15 f p_4 hc_2 14 rfl fun _ f => ?_)))))
 obtain ⟨g_1, hF_1⟩ := nS hF
 refine Y16 f p_4 (backC_ok d0.fChanges g_1 _ A_9 cap_9 (h_9.mono hM_1)) fun _ M_2 w_5 hM_2 p_5 q_1 a_8 f => ?_
 obtain ⟨fv_1, cp_1, rfl, hit_1⟩ := q_1
 refine eT (wp_block ?_)
 have p_6 := p_5.pl [1]
 have f : Frm 99 [(1, .bool d1), (2, .pointer (some (⟨b_1, 0, none⟩))), (5, .pointer (some (⟨b_2, 0, none⟩))), (22, .func (.func fv_1) #[] cp_1.toArray)] a_8 := f.kp
 obtain ⟨j_1, hL_1, hF_2⟩ := bS hF_1
 refine R_range2 (σ := (List ((List UInt8) × Int))) (β := Empty) (vals := (vals2 (vstr emb_TD0))) (Y := (change_Leans_s1 n)) (E0 := [Ent.obj bm_1 (mapO S (Value.int .i64) ([] : List ((List UInt8) × Int))), Ent.obj b_2 (.cells #[.map (some bm_1)] 99 (0, 0))]) (H := H) (w0 := w0) (M := M_2) (f := fv_1) (caps := cp_1) f p_6 (by kernel_rfl) (by kernel_rfl) (by kernel_rfl) (by kernel_rfl) hit_1.1 (fun (s_1 : (List ((List UInt8) × Int))) M' E1 => E1 = [Ent.obj bm_1 (mapO S (Value.int .i64) s_1), Ent.obj b_2 (.cells #[.map (some bm_1)] 99 (0, 0))]) (fun (b : Empty) _ _ => b.elim) (fun (b : Empty) => b.elim) ([] : List ((List UInt8) × Int)) j_1 rfl (fun s_ M_ M2_ E_ hM h => h) (fun b => b.elim) (fun M_ x_ vs_ h => by obtain ⟨c_, h, _⟩ := h; exact ⟨_, _, h⟩) (hit_1.2 _ _ _ _ _ hL_1) ?_ ?_ ?_
 ·rintro s_1 x_1 r_1 hs_1 l_1 w0 M_3 E_1 H w_6 _ v_1 u_2 hM_3 rfl ⟨u_3, hv_1, cc_1, hu_1, hr_1⟩ p_7 f
  obtain ⟨rfl, rfl⟩ : v_1 = .int .i64 x_1.1 ∧ u_2 = u_3 := by simpa using hv_1
  subst hu_1
  unfold change_Leans_s1 at hs_1
  obtain ⟨A_11, cap_11, A_12, cap_12, rfl, h_11, h_12⟩ := TD0.opn hr_1
  refine RI_seq (RI_reg (then_out (then_out F_out)) (by kernel_rfl) (Y f 1 fun _ f => eT (RI_reg (then_out F_out) (by kernel_rfl) (Y12 f p_7 (.cells #[S [], .int .i8 0, S [], .slice none 0 0, .bool false, .int .i64 0, .bool false, .slice none 0 0] 77 (0, 0)) fun b_3 w_7 p_8 _ f => Y27 (vs := [S x_1.2.fId, .int .i8 x_1.2.fKind, S x_1.2.fType, .slice A_11 x_1.2.fProps.length cap_11, .bool x_1.2.fRetain, .int .i64 x_1.2.fNode, .bool x_1.2.fOld, .slice A_12 x_1.2.fLeans.length cap_12]) (j := 0) f p_8 rfl rfl (by simp [Value.oneCell', S]) (by simp) (by decide) (cs' := #[S x_1.2.fId, .int .i8 x_1.2.fKind, S x_1.2.fType, .slice A_11 x_1.2.fProps.length cap_11, .bool x_1.2.fRetain, .int .i64 x_1.2.fNode, .bool x_1.2.fOld, .slice A_12 x_1.2.fLeans.length cap_12]) fun w_8 p_9 _ f => eT (⟨M_3, [Ent.obj b_3 (.cells #[S x_1.2.fId, .int .i8 x_1.2.fKind, S x_1.2.fType, .slice A_11 x_1.2.fProps.length cap_11, .bool x_1.2.fRetain, .int .i64 x_1.2.fNode, .bool x_1.2.fOld, .slice A_12 x_1.2.fLeans.length cap_12] 77 (0, 0)), Ent.obj bm_1 (mapO S (Value.int .i64) s_1), Ent.obj b_2 (.cells #[.map (some bm_1)] 99 (0, 0))], (mR _), p_9, fun H w_9 p_10 => ?_⟩)))))
  refine RI_block (RI_reg (block_out (RB_out)) (by kernel_rfl) (Z f (Y31 (v := .map (some bm_1)) rfl (ad := ⟨b_2, 0, none⟩) (p_10.ownCell 2 rfl 0)) fun _ f => Y f 1 fun _ f => Z f (Y31 (v := S x_1.2.fId) rfl (ad := ⟨b_3, 0, none⟩) (p_10.ownCell 0 rfl 0)) fun _ f => Y f 1 fun _ f => ?_))
  have p_11 := p_10.pl [1]
  refine Y24 (ek := S) (ev := (Value.int .i64)) (m := s_1) (k := x_1.2.fId) (v := x_1.1) (kt := 9) (et := 3) f p_11 rfl (.inl rfl) (strKey (by kernel_rfl)) fun w_10 p_12 _ f => W_end rfl (B_n ?_)
  have p_15 := p_12.pl [2, 1, 2]
  obtain rfl := sI hs_1
  exact RB_n ⟨M_3, [Ent.obj bm_1 (mapO S (Value.int .i64) (mput s_1 x_1.2.fId x_1.1)), Ent.obj b_2 (.cells #[.map (some bm_1)] 99 (0, 0))], (mR _), (p_15.dropN 1), rfl⟩
 ·rintro s_2 rfl l_2 D_1 rr_1 M_4 E_2 w_11 _ hM_4 rfl p_16 f
  replace p_16 : Hp w0 M_4 ((Ent.obj D_1 (.deferred (some []))) :: (Ent.obj bm_1 (mapO S (Value.int .i64) s_2)) :: (Ent.obj b_2 (.cells #[.map (some bm_1)] 99 (0, 0))) :: H) w_11 := p_16.drop
  replace hF_2 : (_ : Option _) = some _ := hF_2
  refine B_n (T_n (RR (Y f 1 fun _ f => Y15 f p_16 (fzu (hM_2.trans hM_4) hc_2) 14 rfl fun _ f => Y f 1 fun _ f => ?_)))
  obtain ⟨g_2, hF_3⟩ := nS hF_2
  refine W_makeRR (e := 27) (e2 := 3) (k := .i64) (m := ((d0.fChanges.length : Nat) : Int)) (bytes := 24) [Ent.obj D_1 (.deferred (some [])), Ent.obj bm_1 (mapO S (Value.int .i64) s_2), Ent.obj b_2 (.cells #[.map (some bm_1)] 99 (0, 0))] f p_16 (by kernel_rfl) (by kernel_rfl) rfl rfl rfl (by kernel_rfl) (by kernel_rfl) (by kernel_rfl) (by kernel_rfl) g_2 fun b_4 w_12 p_17 _ f => ?_
  have hl_1 : (List.replicate ((d0.fChanges.length : Nat) : Int).toNat (Value.slice none 0 0)).length = (List.replicate ((d0.fChanges.length : Nat) : Int).toNat ([] : List Int)).length ∧ (List.replicate ((d0.fChanges.length : Nat) : Int).toNat ([] : List Int)).length = ((d0.fChanges.length : Nat) : Int).toNat := rr_new _
  refine Y f 1 fun _ f => eT (R_seq (RR (Y f 1 fun _ f => Y15 f p_17 (fzu (hM_2.trans hM_4) hc_2) 14 rfl fun _ f => Y f 2 fun _ f => eT (wp_block ?_))))
  obtain ⟨b_5, hL_2, hF_4⟩ := bS hF_3
  refine wp_mono (Q := fun e a w => (e = .exit 2 ∧ (∃ y_3 : List (List Int), b_5 = y_3 ∧ ∃ M_12 : Mem, M_4.le M_12 ∧ ∃ (hs_7 : List Value), (hs_7.length = y_3.length ∧ y_3.length = ((d0.fChanges.length : Nat) : Int).toNat) ∧ Frm 99 [(8, .slice (some ⟨b_4, 0, none⟩) ((d0.fChanges.length : Nat) : Int).toNat ((d0.fChanges.length : Nat) : Int).toNat)] a (Go.Vc.mark D_1) ∧ Hp w0 M_12 ((Ent.obj b_4 (.cells hs_7.toArray 27 (0, 0))) :: ((Ent.obj D_1 (.deferred (some []))) :: ((Ent.obj bm_1 (mapO S (Value.int .i64) s_2)) :: ((Ent.obj b_2 (.cells #[.map (some bm_1)] 99 (0, 0))) :: (rbag 3 .i64 y_3 hs_7 ++ H))))) w))) (R_loop (n := 99) (w0 := w0) (M := M_4) (fun (x : Nat × (Int × List (List Int)) × (List Value)) => match x with | (m_1, s_3, hs_2) => [(1, .bool d1), (2, .pointer (some (⟨b_1, 0, none⟩))), (5, .pointer (some (⟨b_2, 0, none⟩))), (8, .slice (some ⟨b_4, 0, none⟩) ((d0.fChanges.length : Nat) : Int).toNat ((d0.fChanges.length : Nat) : Int).toNat), (34, .slice A_9 d0.fChanges.length cap_9), (35, .int .i64 ((d0.fChanges.length : Nat) : Int)), (36, .int .i64 s_3.1)]) (fun (x : Nat × (Int × List (List Int)) × (List Value)) => match x with | (m_1, s_3, hs_2) => ((Ent.obj b_4 (.cells hs_2.toArray 27 (0, 0))) :: ((Ent.obj D_1 (.deferred (some []))) :: ((Ent.obj bm_1 (mapO S (Value.int .i64) s_2)) :: ((Ent.obj b_2 (.cells #[.map (some bm_1)] 99 (0, 0))) :: (rbag 3 .i64 s_3.2 hs_2 ++ H)))))) (fun (x : Nat × (Int × List (List Int)) × (List Value)) (MM : Mem) => match x with | (m_1, s_3, hs_2) => loopF (change_Leans_s2 n d0 d1 s_2) m_1 s_3 = some b_5 ∧ (hs_2.length = s_3.2.length ∧ s_3.2.length = ((d0.fChanges.length : Nat) : Int).toNat)) (fun (x : Nat × (Int × List (List Int)) × (List Value)) => match x with | (m_1, s_3, hs_2) => m_1) (n, ((0 : Int), List.replicate ((d0.fChanges.length : Nat) : Int).toNat ([] : List Int)), (List.replicate ((d0.fChanges.length : Nat) : Int).toNat (Value.slice none 0 0))) (f.kp) p_17 ⟨hL_2, hl_1⟩ ?_) ?_
  ·rintro ⟨m_1, s_3, hs_2⟩ M_5 _ w_13 hM_5 I_1 f p_18
   obtain ⟨I_1L, hl_2⟩ := I_1
   obtain ⟨m_2, r_2, rfl, hs_3, hn_1⟩ := loop_step I_1L
   unfold change_Leans_s2 at hs_3
   refine RR (Y f 1 fun _ f => eT (R_seq (RcF f hs_3 (fun h_13 hF_5 => ?_) fun h_13 hF_27 => ?_)))
   ·have k_1 := dI.1 h_13
    refine wp_skip (T_n (R_seq (wp_block (RR (Y f 1 fun _ f => ?_)))))
    obtain ⟨x_2, hx_1, hF_6⟩ := bS hF_5
    obtain ⟨ad_1, c_1, e_1, -, hr_2, hc_3⟩ := Sli.at_ (h_9.mono (((hM_1.trans hM_2).trans hM_4).trans hM_5)) hx_1
    obtain ⟨A_13, cap_13, A_14, cap_14, rfl, h_14, h_15⟩ := TD0.opn hr_2
    refine Z f (Y30 e_1 rfl (len := d0.fChanges.length) (cap := cap_9) (k := .i64) (i := s_3.1) (e := 77) (sz := 8) (getI_nn hx_1) (getI_lt hx_1)) fun _ f => Z (v := .agg #[S x_2.fId, .int .i8 x_2.fKind, S x_2.fType, .slice A_13 x_2.fProps.length cap_13, .bool x_2.fRetain, .int .i64 x_2.fNode, .bool x_2.fOld, .slice A_14 x_2.fLeans.length cap_14]) f (Y32 (cs := [S x_2.fId, .int .i8 x_2.fKind, S x_2.fType, .slice A_13 x_2.fProps.length cap_13, .bool x_2.fRetain, .int .i64 x_2.fNode, .bool x_2.fOld, .slice A_14 x_2.fLeans.length cap_14]) rfl (ad := ad_1.add (s_3.1.toNat * 8)) (fun j v h => p_18.cell (hc_3 j v h))) fun _ f => Y12 f p_18 (.cells #[S [], .int .i8 0, S [], .slice none 0 0, .bool false, .int .i64 0, .bool false, .slice none 0 0] 77 (0, 0)) fun b_6 w_14 p_19 _ f => Y f 1 fun _ f => Y27 (vs := [S x_2.fId, .int .i8 x_2.fKind, S x_2.fType, .slice A_13 x_2.fProps.length cap_13, .bool x_2.fRetain, .int .i64 x_2.fNode, .bool x_2.fOld, .slice A_14 x_2.fLeans.length cap_14]) (j := 0) f p_19 rfl rfl (by simp [Value.oneCell', S]) (by simp) (by decide) (cs' := #[S x_2.fId, .int .i8 x_2.fKind, S x_2.fType, .slice A_13 x_2.fProps.length cap_13, .bool x_2.fRetain, .int .i64 x_2.fNode, .bool x_2.fOld, .slice A_14 x_2.fLeans.length cap_14]) fun w_15 p_20 _ f => eT (RR (Y f 1 fun _ f => Z f (Y31 (v := .slice A_14 x_2.fLeans.length cap_14) rfl (ad := ⟨b_6, 7, none⟩) (p_20.ownCell 0 rfl 7)) fun _ f => Y f 1 fun _ f => eT (R_seq (RR (Y f 1 fun _ f => ?_)))))
    refine eT ?_
    obtain ⟨j_2, hj_1, hF_7⟩ := bS hF_6
    refine R_mid (fun a_51 w_19 => ∃ y_1 : List (List UInt8), j_2 = y_1 ∧ ∃ M_7 : Mem, M_5.le M_7 ∧ ∃ (A_17 : Option Addr), ∃ (cap_17 : Nat), Sli M_7 1 Dat.str A_17 cap_17 y_1 ∧ Frm 99 [(1, .bool d1), (2, .pointer (some (⟨b_1, 0, none⟩))), (5, .pointer (some (⟨b_2, 0, none⟩))), (8, .slice (some ⟨b_4, 0, none⟩) ((d0.fChanges.length : Nat) : Int).toNat ((d0.fChanges.length : Nat) : Int).toNat), (9, .int .i64 s_3.1), (11, .slice A_17 y_1.length cap_17), (34, .slice A_9 d0.fChanges.length cap_9), (35, .int .i64 ((d0.fChanges.length : Nat) : Int)), (36, .int .i64 s_3.1)] a_51 (Go.Vc.mark D_1) ∧ Hp w0 M_7 ((Ent.obj b_6 (.cells #[S x_2.fId, .int .i8 x_2.fKind, S x_2.fType, .slice A_13 x_2.fProps.length cap_13, .bool x_2.fRetain, .int .i64 x_2.fNode, .bool x_2.fOld, .slice A_14 x_2.fLeans.length cap_14] 77 (0, 0))) :: ((Ent.obj b_4 (.cells hs_2.toArray 27 (0, 0))) :: ((Ent.obj D_1 (.deferred (some []))) :: ((Ent.obj bm_1 (mapO S (Value.int .i64) s_2)) :: ((Ent.obj b_2 (.cells #[.map (some bm_1)] 99 (0, 0))) :: (rbag 3 .i64 s_3.2 hs_2 ++ H)))))) w_19) ?_ ?_
    ·refine RcF f hj_1 (fun h_16 hF_8 => ?_) fun h_16 hF_10 => ?_
     ·refine RR (Y f 1 fun _ f => Z (v := .agg #[.slice A_1 d0.fOld.fOwned.length cap_1, .slice A_2 d0.fOld.fPending.length cap_2, .slice A_3 d0.fOld.fRetained.length cap_3, .slice A_4 d0.fOld.fOuts.length cap_4, S d0.fOld.fText, .slice A_5 d0.fOld.fArgs.length cap_5, .int .i64 d0.fOld.fCalls, .int .i8 d0.fOld.fStatus]) f (Y32 (cs := [.slice A_1 d0.fOld.fOwned.length cap_1, .slice A_2 d0.fOld.fPending.length cap_2, .slice A_3 d0.fOld.fRetained.length cap_3, .slice A_4 d0.fOld.fOuts.length cap_4, S d0.fOld.fText, .slice A_5 d0.fOld.fArgs.length cap_5, .int .i64 d0.fOld.fCalls, .int .i8 d0.fOld.fStatus]) rfl (ad := (⟨b_1, 0, none⟩ : Addr).add 2) (fz_part (base := (⟨b_1, 0, none⟩ : Addr)) (fun j v h => p_20.cell ((fzu ((hM_2.trans hM_4).trans hM_5) hc_2) j v h)) 2 rfl)) fun _ f => Y f 1 fun _ f => Z f (Y31 (v := S x_2.fId) rfl (ad := ⟨b_6, 0, none⟩) (p_20.ownCell 0 rfl 0)) fun _ f => ?_)
      obtain ⟨x_3, hx_2, hF_9⟩ := bS hF_8
      refine Y16 f p_20 (state_Own_ok n _ _ (⟨d0.fOld.fOwned, d0.fOld.fPending, d0.fOld.fRetained, d0.fOld.fOuts, d0.fOld.fText, d0.fOld.fArgs, d0.fOld.fCalls, d0.fOld.fStatus⟩ : TG0) (TG0.shut (h_1.mono (((hM_1.trans hM_2).trans hM_4).trans hM_5)) (h_2.mono (((hM_1.trans hM_2).trans hM_4).trans hM_5)) (h_3.mono (((hM_1.trans hM_2).trans hM_4).trans hM_5)) (h_4.mono (((hM_1.trans hM_2).trans hM_4).trans hM_5)) (h_5.mono (((hM_1.trans hM_2).trans hM_4).trans hM_5))) x_2.fId x_3 hx_2) fun _ M_6 w_16 hM_6 p_21 q_2 _ f => ?_
      obtain ⟨c_2, rfl, hr_3⟩ := q_2
      obtain ⟨A_15, cap_15, A_16, cap_16, rfl, h_17, h_18⟩ := TU0.opn hr_3
      refine Y f 3 fun _ f => Y12 f p_21 (.cells #[S [], S [], S [], .slice none 0 0, .bool false, .slice none 0 0] 43 (0, 0)) fun b_7 w_17 p_22 _ f => Y27 (vs := [S x_3.1.fId, S x_3.1.fType, S x_3.1.fPhys, .slice A_15 x_3.1.fProps.length cap_15, .bool x_3.1.fRetain, .slice A_16 x_3.1.fLeans.length cap_16]) (j := 0) f p_22 rfl rfl (by simp [Value.oneCell', S]) (by simp) (by decide) (cs' := #[S x_3.1.fId, S x_3.1.fType, S x_3.1.fPhys, .slice A_15 x_3.1.fProps.length cap_15, .bool x_3.1.fRetain, .slice A_16 x_3.1.fLeans.length cap_16]) fun w_18 p_23 _ f => Y f 1 fun _ f => eT (R_reg (Y f 1 fun _ f => Z f (Y31 (v := .slice A_16 x_3.1.fLeans.length cap_16) rfl (ad := ⟨b_7, 5, none⟩) (p_23.ownCell 0 rfl 5)) fun _ f => Y f 1 fun _ f => eT ?_))
      exact ⟨x_3.1.fLeans, (sI hF_9).symm, M_6, hM_6, A_16, cap_16, h_18, f.kp, (p_23.dropN 1)⟩
     ·refine wp_skip (T_n ?_)
      exact ⟨x_2.fLeans, (sI hF_10).symm, M_5, (mR _), A_14, cap_14, h_15, f.kp, p_20⟩
    ·rintro a_51 w_19 ⟨y_1, hq_1, M_7, hM_7, A_17, cap_17, h_19, f, p_24⟩
     subst j_2
     refine T_n (R_seq (RR (Y f 3 fun _ f => eT (wp_block ?_))))
     have p_29 := p_24.pl [4, 4, 4, 3, 4]
     obtain ⟨b_8, hL_3, hF_11⟩ := bS hF_7
     refine wp_mono (Q := fun e a w => (e = .exit 4 ∧ (∃ y_2 : List (List Int), b_8 = y_2 ∧ ∃ M_9 : Mem, M_7.le M_9 ∧ ∃ (hs_6 : List Value), (hs_6.length = y_2.length ∧ y_2.length = ((d0.fChanges.length : Nat) : Int).toNat) ∧ Frm 99 [(1, .bool d1), (2, .pointer (some (⟨b_1, 0, none⟩))), (5, .pointer (some (⟨b_2, 0, none⟩))), (8, .slice (some ⟨b_4, 0, none⟩) ((d0.fChanges.length : Nat) : Int).toNat ((d0.fChanges.length : Nat) : Int).toNat), (9, .int .i64 s_3.1), (34, .slice A_9 d0.fChanges.length cap_9), (35, .int .i64 ((d0.fChanges.length : Nat) : Int)), (36, .int .i64 s_3.1)] a (Go.Vc.mark D_1) ∧ Hp w0 M_9 ((Ent.obj b_4 (.cells hs_6.toArray 27 (0, 0))) :: ((Ent.obj b_6 (.cells #[S x_2.fId, .int .i8 x_2.fKind, S x_2.fType, .slice A_13 x_2.fProps.length cap_13, .bool x_2.fRetain, .int .i64 x_2.fNode, .bool x_2.fOld, .slice A_14 x_2.fLeans.length cap_14] 77 (0, 0))) :: ((Ent.obj D_1 (.deferred (some []))) :: ((Ent.obj bm_1 (mapO S (Value.int .i64) s_2)) :: ((Ent.obj b_2 (.cells #[.map (some bm_1)] 99 (0, 0))) :: (rbag 3 .i64 y_2 hs_6 ++ H)))))) w))) (R_loop (n := 99) (w0 := w0) (M := M_7) (fun (x : Nat × (Int × List (List Int)) × (List Value)) => match x with | (m_3, s_4, hs_4) => [(1, .bool d1), (2, .pointer (some (⟨b_1, 0, none⟩))), (5, .pointer (some (⟨b_2, 0, none⟩))), (8, .slice (some ⟨b_4, 0, none⟩) ((d0.fChanges.length : Nat) : Int).toNat ((d0.fChanges.length : Nat) : Int).toNat), (9, .int .i64 s_3.1), (34, .slice A_9 d0.fChanges.length cap_9), (35, .int .i64 ((d0.fChanges.length : Nat) : Int)), (36, .int .i64 s_3.1), (54, .slice A_17 y_1.length cap_17), (55, .int .i64 ((y_1.length : Nat) : Int)), (56, .int .i64 s_4.1)]) (fun (x : Nat × (Int × List (List Int)) × (List Value)) => match x with | (m_3, s_4, hs_4) => ((Ent.obj b_4 (.cells hs_4.toArray 27 (0, 0))) :: ((Ent.obj b_6 (.cells #[S x_2.fId, .int .i8 x_2.fKind, S x_2.fType, .slice A_13 x_2.fProps.length cap_13, .bool x_2.fRetain, .int .i64 x_2.fNode, .bool x_2.fOld, .slice A_14 x_2.fLeans.length cap_14] 77 (0, 0))) :: ((Ent.obj D_1 (.deferred (some []))) :: ((Ent.obj bm_1 (mapO S (Value.int .i64) s_2)) :: ((Ent.obj b_2 (.cells #[.map (some bm_1)] 99 (0, 0))) :: (rbag 3 .i64 s_4.2 hs_4 ++ H))))))) (fun (x : Nat × (Int × List (List Int)) × (List Value)) (MM : Mem) => match x with | (m_3, s_4, hs_4) => loopF (change_Leans_s3 n s_2 s_3 y_1) m_3 s_4 = some b_8 ∧ (hs_4.length = s_4.2.length ∧ s_4.2.length = ((d0.fChanges.length : Nat) : Int).toNat)) (fun (x : Nat × (Int × List (List Int)) × (List Value)) => match x with | (m_3, s_4, hs_4) => m_3) (n, ((0 : Int), s_3.2), hs_2) (f.kp) p_29 ⟨hL_3, hl_2⟩ ?_) ?_
     ·rintro ⟨m_3, s_4, hs_4⟩ M_8 _ w_20 hM_8 I_2 f p_30
      obtain ⟨I_2L, hl_4⟩ := I_2
      obtain ⟨m_4, r_3, rfl, hs_5, hn_2⟩ := loop_step I_2L
      unfold change_Leans_s3 at hs_5
      refine RR (Y f 1 fun _ f => eT (R_seq (RcF f hs_5 (fun h_20 hF_12 => ?_) fun h_20 hF_20 => ?_)))
      ·have k_4 := dI.1 h_20
       refine wp_skip (T_n (R_seq (wp_block (RR ?_))))
       obtain ⟨x_4, hx_3, hF_13⟩ := bS hF_12
       obtain ⟨ad_2, c_3, e_2, -, hr_4, hc_4⟩ := Sli.at_ (h_19.mono hM_8) hx_3
       obtain rfl : c_3 = [S x_4] := hr_4
       refine Z f (Y30 e_2 rfl (len := y_1.length) (cap := cap_17) (k := .i64) (i := s_4.1) (e := 9) (sz := 1) (getI_nn hx_3) (getI_lt hx_3)) fun _ f => Y15 f p_30 hc_4 0 rfl fun _ f => Y f 1 fun _ f => eT (RR (Z f (Y31 (v := .map (some bm_1)) rfl (ad := ⟨b_2, 0, none⟩) (p_30.ownCell 4 rfl 0)) fun _ f => Y f 1 fun _ f => Z (v := .tuple #[.int .i64 ((mget s_2 x_4).getD (0 : Int)), .bool (mget s_2 x_4).isSome]) f (Y34 (ek := S) (ev := (Value.int .i64)) (m := s_2) (k := x_4) (z := (0 : Int)) (kt := 9) (et := 3) rfl (strKey (by kernel_rfl)) (p_30.ownObj 3 rfl)) fun _ f => Y f 5 fun _ f => eT (RR (Y f 1 fun _ f => eT ?_))))
       refine RcF f hF_13 (fun h_21 hF_14 => ?_) fun h_21 hF_18 => ?_
       ·refine R_reg (Y f 4 fun _ f => ?_)
        obtain ⟨x_5, hx_4, hF_15⟩ := bS hF_14
        refine Z f (Y29 rfl (ad := ⟨b_4, 0, none⟩) (len := ((d0.fChanges.length : Nat) : Int).toNat) (cap := ((d0.fChanges.length : Nat) : Int).toNat) (k := .i64) (i := s_3.1) (e := 27) (sz := 1) (getI_nn hx_4) (rr_lt hl_4 hx_4)) fun _ f => ?_
        obtain ⟨A_18, cap_18, hv_2⟩ := Hp.rbagHead [Ent.obj b_4 (.cells hs_4.toArray 27 (0, 0)), Ent.obj b_6 (.cells #[S x_2.fId, .int .i8 x_2.fKind, S x_2.fType, .slice A_13 x_2.fProps.length cap_13, .bool x_2.fRetain, .int .i64 x_2.fNode, .bool x_2.fOld, .slice A_14 x_2.fLeans.length cap_14] 77 (0, 0)), Ent.obj D_1 (.deferred (some [])), Ent.obj bm_1 (mapO S (Value.int .i64) s_2), Ent.obj b_2 (.cells #[.map (some bm_1)] 99 (0, 0))] p_30 hl_4.1 hx_4
        have p_31 := Hp.rbagTake [Ent.obj b_4 (.cells hs_4.toArray 27 (0, 0)), Ent.obj b_6 (.cells #[S x_2.fId, .int .i8 x_2.fKind, S x_2.fType, .slice A_13 x_2.fProps.length cap_13, .bool x_2.fRetain, .int .i64 x_2.fNode, .bool x_2.fOld, .slice A_14 x_2.fLeans.length cap_14] 77 (0, 0)), Ent.obj D_1 (.deferred (some [])), Ent.obj bm_1 (mapO S (Value.int .i64) s_2), Ent.obj b_2 (.cells #[.map (some bm_1)] 99 (0, 0))] p_30 hx_4 hv_2
        have hr_5 : RepSeq M_8 (x_5.map (Dat.int .i64)) (x_5.map (Value.int .i64)) := ints_rep x_5
        refine Z f (Y31 (v := .slice A_18 x_5.length cap_18) rfl (ad := (⟨b_4, 0, none⟩ : Addr).add (s_3.1.toNat * 1)) (rr_cell p_31 (i := 1) rfl hv_2)) fun _ f => Y f 1 fun _ f => V_allocS (k := 1) (c := 1) f p_31 (.cells #[.int .i64 ((mget s_2 x_4).getD (0 : Int))] 3 (0, 0)) (by kernel_rfl) (fun _ => by kernel_rfl) fun b_9 w_21 p_32 _ f => ?_
        have p_33 := p_32.pl [1]
        obtain ⟨g_3, hF_16⟩ := nS hF_15
        refine Y21 (z := .int .i64 0) (f := (Dat.int .i64)) (xs := x_5) (ys := [(mget s_2 x_4).getD (0 : Int)]) (news := [.int .i64 ((mget s_2 x_4).getD (0 : Int))]) (ad := ⟨b_9, 0, none⟩) (m := 1) (c := 1) f p_33 hr_5 (by exact ⟨_, _, rfl, rfl, rfl⟩) rfl rfl rfl rfl (own_cells (p_33.ownCell 1 rfl) 0 rfl) (by exact g_3) (by have hg_ := g_3; first | omega | (simp only [List.length_cons, List.length_nil] at *; omega)) fun A_19 cap_19 cs_1 w_22 p_34 hr_6 _ f => ?_
        have p_35 := p_34.pl [1]
        have p_36 := p_35.drop
        refine Z f (Y29 rfl (ad := ⟨b_4, 0, none⟩) (len := ((d0.fChanges.length : Nat) : Int).toNat) (cap := ((d0.fChanges.length : Nat) : Int).toNat) (k := .i64) (i := s_3.1) (e := 27) (sz := 1) (getI_nn hx_4) (rr_lt hl_4 hx_4)) fun _ f => W_storeRR (b := b_4) (j := s_3.1.toNat) (v := .slice A_19 (x_5 ++ [(mget s_2 x_4).getD (0 : Int)]).length cap_19) (hs := hs_4) f p_36 1 (by kernel_rfl) (by kernel_rfl) rfl rfl (by kernel_rfl) (by kernel_rfl) rfl (by kernel_rfl) rfl (rr_ltN hl_4 hx_4) fun w_23 p_37 _ f => ?_
        have p_38 := Hp.rbagPut [Ent.obj b_4 (.cells (hs_4.set s_3.1.toNat (.slice A_19 (x_5 ++ [(mget s_2 x_4).getD (0 : Int)]).length cap_19)).toArray 27 (0, 0)), Ent.obj b_6 (.cells #[S x_2.fId, .int .i8 x_2.fKind, S x_2.fType, .slice A_13 x_2.fProps.length cap_13, .bool x_2.fRetain, .int .i64 x_2.fNode, .bool x_2.fOld, .slice A_14 x_2.fLeans.length cap_14] 77 (0, 0)), Ent.obj D_1 (.deferred (some [])), Ent.obj bm_1 (mapO S (Value.int .i64) s_2), Ent.obj b_2 (.cells #[.map (some bm_1)] 99 (0, 0))] p_37 hr_6 hl_4.1 (rr_ltD hx_4)
        have hl_6 : (hs_4.set s_3.1.toNat (.slice A_19 (x_5 ++ [(mget s_2 x_4).getD (0 : Int)]).length cap_19)).length = (s_4.2.set s_3.1.toNat (x_5 ++ [(mget s_2 x_4).getD (0 : Int)])).length ∧ (s_4.2.set s_3.1.toNat (x_5 ++ [(mget s_2 x_4).getD (0 : Int)])).length = ((d0.fChanges.length : Nat) : Int).toNat := rr_set hl_4 _ _
        refine W_end rfl (B_n (T_n (R_reg ?_)))
        obtain ⟨g_4, hF_17⟩ := nS hF_16
        refine Y f 1 fun _ f => ?_
        have f := f.st 77 (congrArg (Value.int .i64) (inR_wrap g_4))
        refine Y f 1 fun _ f => eT ?_
        obtain rfl := sI hF_17
        exact ⟨⟨m_4, (s_4.1 + 1, s_4.2.set s_3.1.toNat (x_5 ++ [(mget s_2 x_4).getD (0 : Int)])), (hs_4.set s_3.1.toNat (.slice A_19 (x_5 ++ [(mget s_2 x_4).getD (0 : Int)]).length cap_19))⟩, Nat.lt_succ_self _, M_8, hM_8, ⟨hn_2, hl_6⟩, f.kp, p_38⟩
       ·refine wp_skip (B_n (T_n (R_reg ?_)))
        obtain ⟨g_5, hF_19⟩ := nS hF_18
        refine Y f 1 fun _ f => ?_
        have f := f.st 77 (congrArg (Value.int .i64) (inR_wrap g_5))
        refine Y f 1 fun _ f => eT ?_
        obtain rfl := sI hF_19
        exact ⟨⟨m_4, (s_4.1 + 1, s_4.2), hs_4⟩, Nat.lt_succ_self _, M_8, hM_8, ⟨hn_2, hl_4⟩, f.kp, p_30⟩
      ·have k_7 := iff_f dI h_20
       refine wp_exit (T_x (T_x ?_))
       obtain rfl := sI hF_20
       exact ⟨rfl, s_4.2, (sI hn_2).symm, M_8, hM_8, hs_4, hl_4, f.kp, p_30⟩
     ·rintro _ _ w_25 ⟨rfl, y_2, hq_, M_9, hM_9, hs_6, hl_7, f, p_39⟩
      subst b_8
      refine B_x (T_n (RR (Y f 2 fun _ f => ?_)))
      obtain ⟨x_6, hx_5, hF_21⟩ := bS hF_11
      refine Z f (Y29 rfl (ad := ⟨b_4, 0, none⟩) (len := ((d0.fChanges.length : Nat) : Int).toNat) (cap := ((d0.fChanges.length : Nat) : Int).toNat) (k := .i64) (i := s_3.1) (e := 27) (sz := 1) (getI_nn hx_5) (rr_lt hl_7 hx_5)) fun _ f => ?_
      obtain ⟨A_20, cap_20, hv_3⟩ := Hp.rbagHead [Ent.obj b_4 (.cells hs_6.toArray 27 (0, 0)), Ent.obj b_6 (.cells #[S x_2.fId, .int .i8 x_2.fKind, S x_2.fType, .slice A_13 x_2.fProps.length cap_13, .bool x_2.fRetain, .int .i64 x_2.fNode, .bool x_2.fOld, .slice A_14 x_2.fLeans.length cap_14] 77 (0, 0)), Ent.obj D_1 (.deferred (some [])), Ent.obj bm_1 (mapO S (Value.int .i64) s_2), Ent.obj b_2 (.cells #[.map (some bm_1)] 99 (0, 0))] p_39 hl_7.1 hx_5
      have p_40 := Hp.rbagTake [Ent.obj b_4 (.cells hs_6.toArray 27 (0, 0)), Ent.obj b_6 (.cells #[S x_2.fId, .int .i8 x_2.fKind, S x_2.fType, .slice A_13 x_2.fProps.length cap_13, .bool x_2.fRetain, .int .i64 x_2.fNode, .bool x_2.fOld, .slice A_14 x_2.fLeans.length cap_14] 77 (0, 0)), Ent.obj D_1 (.deferred (some [])), Ent.obj bm_1 (mapO S (Value.int .i64) s_2), Ent.obj b_2 (.cells #[.map (some bm_1)] 99 (0, 0))] p_39 hx_5 hv_3
      have hr_7 : RepSeq M_9 (x_6.map (Dat.int .i64)) (x_6.map (Value.int .i64)) := ints_rep x_6
      refine Z f (Y31 (v := .slice A_20 x_6.length cap_20) rfl (ad := (⟨b_4, 0, none⟩ : Addr).add (s_3.1.toNat * 1)) (rr_cell p_40 (i := 1) rfl hv_3)) fun _ f => ?_
      obtain ⟨x_7, hx_6, hF_22⟩ := bS hF_21
      refine Y17 (E := [Ent.row 3 1 (.slice A_20 x_6.length cap_20) x_6.length (x_6.map (Value.int .i64))]) (H := ((Ent.obj b_4 (.cells hs_6.toArray 27 (0, 0))) :: ((Ent.obj b_6 (.cells #[S x_2.fId, .int .i8 x_2.fKind, S x_2.fType, .slice A_13 x_2.fProps.length cap_13, .bool x_2.fRetain, .int .i64 x_2.fNode, .bool x_2.fOld, .slice A_14 x_2.fLeans.length cap_14] 77 (0, 0))) :: ((Ent.obj D_1 (.deferred (some []))) :: ((Ent.obj bm_1 (mapO S (Value.int .i64) s_2)) :: ((Ent.obj b_2 (.cells #[.map (some bm_1)] 99 (0, 0))) :: (rbag 3 .i64 (y_2.eraseIdx s_3.1.toNat) (hs_6.eraseIdx s_3.1.toNat) ++ H))))))) f p_40 (h_SortI_ok n _ A_20 cap_20 x_6 (x_6.map (Value.int .i64)) hr_7 x_7 hx_6) fun _ M_10 E_3 w_26 hM_10 p_41 q_3 _ f => ?_
      obtain ⟨cs_2, rfl, rfl, hr_8, hl_8⟩ := q_3
      refine W_end rfl ?_
      have p_43 := Hp.rbagBack [Ent.obj b_4 (.cells hs_6.toArray 27 (0, 0)), Ent.obj b_6 (.cells #[S x_2.fId, .int .i8 x_2.fKind, S x_2.fType, .slice A_13 x_2.fProps.length cap_13, .bool x_2.fRetain, .int .i64 x_2.fNode, .bool x_2.fOld, .slice A_14 x_2.fLeans.length cap_14] 77 (0, 0)), Ent.obj D_1 (.deferred (some [])), Ent.obj bm_1 (mapO S (Value.int .i64) s_2), Ent.obj b_2 (.cells #[.map (some bm_1)] 99 (0, 0))] p_41 hr_8 hl_7.1 hx_5 hv_3
      have hl_9 : hs_6.length = (y_2.set s_3.1.toNat x_7).length ∧ (y_2.set s_3.1.toNat x_7).length = ((d0.fChanges.length : Nat) : Int).toNat := rr_set1 hl_7 _
      refine T_n (RR (Y f 2 fun _ f => ?_))
      obtain ⟨x_8, hx_7, hF_23⟩ := bS hF_22
      refine Z f (Y29 rfl (ad := ⟨b_4, 0, none⟩) (len := ((d0.fChanges.length : Nat) : Int).toNat) (cap := ((d0.fChanges.length : Nat) : Int).toNat) (k := .i64) (i := s_3.1) (e := 27) (sz := 1) (getI_nn hx_7) (rr_lt hl_9 hx_7)) fun _ f => ?_
      obtain ⟨A_21, cap_21, hv_5⟩ := Hp.rbagHead [Ent.obj b_4 (.cells hs_6.toArray 27 (0, 0)), Ent.obj b_6 (.cells #[S x_2.fId, .int .i8 x_2.fKind, S x_2.fType, .slice A_13 x_2.fProps.length cap_13, .bool x_2.fRetain, .int .i64 x_2.fNode, .bool x_2.fOld, .slice A_14 x_2.fLeans.length cap_14] 77 (0, 0)), Ent.obj D_1 (.deferred (some [])), Ent.obj bm_1 (mapO S (Value.int .i64) s_2), Ent.obj b_2 (.cells #[.map (some bm_1)] 99 (0, 0))] p_43 hl_9.1 hx_7
      have p_44 := Hp.rbagTake [Ent.obj b_4 (.cells hs_6.toArray 27 (0, 0)), Ent.obj b_6 (.cells #[S x_2.fId, .int .i8 x_2.fKind, S x_2.fType, .slice A_13 x_2.fProps.length cap_13, .bool x_2.fRetain, .int .i64 x_2.fNode, .bool x_2.fOld, .slice A_14 x_2.fLeans.length cap_14] 77 (0, 0)), Ent.obj D_1 (.deferred (some [])), Ent.obj bm_1 (mapO S (Value.int .i64) s_2), Ent.obj b_2 (.cells #[.map (some bm_1)] 99 (0, 0))] p_43 hx_7 hv_5
      have hr_9 : RepSeq M_10 (x_8.map (Dat.int .i64)) (x_8.map (Value.int .i64)) := ints_rep x_8
      refine Z f (Y31 (v := .slice A_21 x_8.length cap_21) rfl (ad := (⟨b_4, 0, none⟩ : Addr).add (s_3.1.toNat * 1)) (rr_cell p_44 (i := 1) rfl hv_5)) fun _ f => ?_
      obtain ⟨x_9, hx_8, hF_24⟩ := bS hF_23
      refine Y17 (E := [Ent.row 3 1 (.slice A_21 x_8.length cap_21) x_8.length (x_8.map (Value.int .i64))]) (H := ((Ent.obj b_4 (.cells hs_6.toArray 27 (0, 0))) :: ((Ent.obj b_6 (.cells #[S x_2.fId, .int .i8 x_2.fKind, S x_2.fType, .slice A_13 x_2.fProps.length cap_13, .bool x_2.fRetain, .int .i64 x_2.fNode, .bool x_2.fOld, .slice A_14 x_2.fLeans.length cap_14] 77 (0, 0))) :: ((Ent.obj D_1 (.deferred (some []))) :: ((Ent.obj bm_1 (mapO S (Value.int .i64) s_2)) :: ((Ent.obj b_2 (.cells #[.map (some bm_1)] 99 (0, 0))) :: (rbag 3 .i64 ((y_2.set s_3.1.toNat x_7).eraseIdx s_3.1.toNat) (hs_6.eraseIdx s_3.1.toNat) ++ H))))))) f p_44 (h_CompactI_ok n _ A_21 cap_21 x_8 (x_8.map (Value.int .i64)) hr_9 x_9 hx_8) fun _ M_11 E_4 w_27 hM_11 p_45 q_4 _ f => ?_
      obtain ⟨cs_3, rfl, rfl, hr_10⟩ := q_4
      refine Y f 1 fun _ f => eT (R_reg (Y f 7 fun _ f => ?_))
      obtain ⟨g_6, hF_25⟩ := nS hF_24
      obtain ⟨A_22, cap_22, hv_6, hcap_1, hcn_1⟩ := p_45.rowShape 0 rfl
      have f := f.st 90 (hv_6)
      refine Z (v := .slice (cutA A_22 1 0 ((x_9.length : Nat) : Int).toNat) ((x_9.length : Nat) : Int).toNat ((x_9.length : Nat) : Int).toNat) f (Y35 rfl (A := A_22) (len := x_9.length) (cap := cap_22) (k := .i64) (k' := .i64) (b := ((x_9.length : Nat) : Int)) (e := 3) (sz := 1) g_6.1 (by omega)) fun _ f => ?_
      have f := f.st 90 (hv_6.symm)
      refine Z f (Y29 rfl (ad := ⟨b_4, 0, none⟩) (len := ((d0.fChanges.length : Nat) : Int).toNat) (cap := ((d0.fChanges.length : Nat) : Int).toNat) (k := .i64) (i := s_3.1) (e := 27) (sz := 1) (getI_nn hx_7) (rr_lt hl_9 hx_7)) fun _ f => ?_
      have hr_11 : RepSeq M_11 ((x_9.take ((x_9.length : Nat) : Int).toNat).map (Dat.int .i64)) (cs_3.take (((x_9.length : Nat) : Int).toNat * 1)) := by rw [List.map_take]; exact RepSeq.takeD _ (szd_all (szd_int .i64)) hr_10
      have hl_10 : (x_9.take ((x_9.length : Nat) : Int).toNat).length = ((x_9.length : Nat) : Int).toNat := by rw [List.length_take]; omega
      have p_46 : Hp w0 M_11 ((Ent.row 3 1 (.slice (cutA A_22 1 0 ((x_9.length : Nat) : Int).toNat) (x_9.take ((x_9.length : Nat) : Int).toNat).length (x_9.take ((x_9.length : Nat) : Int).toNat).length) (x_9.take ((x_9.length : Nat) : Int).toNat).length (cs_3.take (((x_9.length : Nat) : Int).toNat * 1))) :: ((Ent.obj b_4 (.cells hs_6.toArray 27 (0, 0))) :: ((Ent.obj b_6 (.cells #[S x_2.fId, .int .i8 x_2.fKind, S x_2.fType, .slice A_13 x_2.fProps.length cap_13, .bool x_2.fRetain, .int .i64 x_2.fNode, .bool x_2.fOld, .slice A_14 x_2.fLeans.length cap_14] 77 (0, 0))) :: ((Ent.obj D_1 (.deferred (some []))) :: ((Ent.obj bm_1 (mapO S (Value.int .i64) s_2)) :: ((Ent.obj b_2 (.cells #[.map (some bm_1)] 99 (0, 0))) :: (rbag 3 .i64 ((y_2.set s_3.1.toNat x_7).eraseIdx s_3.1.toNat) (hs_6.eraseIdx s_3.1.toNat) ++ H))))))) w_27 := by rw [hl_10]; exact p_45.rowFull hv_6 (by omega)
      have f := Frm.set f 95 (v := .slice (cutA A_22 1 0 ((x_9.length : Nat) : Int).toNat) ((x_9.length : Nat) : Int).toNat ((x_9.length : Nat) : Int).toNat) (v' := .slice (cutA A_22 1 0 ((x_9.length : Nat) : Int).toNat) (x_9.take ((x_9.length : Nat) : Int).toNat).length (x_9.take ((x_9.length : Nat) : Int).toNat).length) (by kernel_rfl) (by rw [hl_10])
      refine W_storeRR (b := b_4) (j := s_3.1.toNat) (v := .slice (cutA A_22 1 0 ((x_9.length : Nat) : Int).toNat) (x_9.take ((x_9.length : Nat) : Int).toNat).length (x_9.take ((x_9.length : Nat) : Int).toNat).length) (hs := hs_6) f p_46 1 (by kernel_rfl) (by kernel_rfl) rfl rfl (by kernel_rfl) (by kernel_rfl) rfl (by kernel_rfl) rfl (rr_ltN hl_9 hx_7) fun w_28 p_47 _ f => ?_
      have p_48 := Hp.rbagPut [Ent.obj b_4 (.cells (hs_6.set s_3.1.toNat (.slice (cutA A_22 1 0 ((x_9.length : Nat) : Int).toNat) (x_9.take ((x_9.length : Nat) : Int).toNat).length (x_9.take ((x_9.length : Nat) : Int).toNat).length)).toArray 27 (0, 0)), Ent.obj b_6 (.cells #[S x_2.fId, .int .i8 x_2.fKind, S x_2.fType, .slice A_13 x_2.fProps.length cap_13, .bool x_2.fRetain, .int .i64 x_2.fNode, .bool x_2.fOld, .slice A_14 x_2.fLeans.length cap_14] 77 (0, 0)), Ent.obj D_1 (.deferred (some [])), Ent.obj bm_1 (mapO S (Value.int .i64) s_2), Ent.obj b_2 (.cells #[.map (some bm_1)] 99 (0, 0))] p_47 hr_11 hl_9.1 (rr_ltD hx_7)
      have hl_11 : (hs_6.set s_3.1.toNat (.slice (cutA A_22 1 0 ((x_9.length : Nat) : Int).toNat) (x_9.take ((x_9.length : Nat) : Int).toNat).length (x_9.take ((x_9.length : Nat) : Int).toNat).length)).length = ((y_2.set s_3.1.toNat x_7).set s_3.1.toNat (x_9.take ((x_9.length : Nat) : Int).toNat)).length ∧ ((y_2.set s_3.1.toNat x_7).set s_3.1.toNat (x_9.take ((x_9.length : Nat) : Int).toNat)).length = ((d0.fChanges.length : Nat) : Int).toNat := rr_set hl_9 _ _
      refine W_end rfl (B_n (T_n (R_reg ?_)))
      obtain ⟨g_7, hF_26⟩ := nS hF_25
      refine Y f 1 fun _ f => ?_
      have f := f.st 97 (congrArg (Value.int .i64) (inR_wrap g_7))
      refine Y f 1 fun _ f => W_end rfl ?_
      have p_54 := p_48.pl [4, 4, 4, 3, 4]
      refine T_n ?_
      obtain rfl := sI hF_26
      exact ⟨⟨m_2, (s_3.1 + 1, (y_2.set s_3.1.toNat x_7).set s_3.1.toNat (x_9.take ((x_9.length : Nat) : Int).toNat)), (hs_6.set s_3.1.toNat (.slice (cutA A_22 1 0 ((x_9.length : Nat) : Int).toNat) (x_9.take ((x_9.length : Nat) : Int).toNat).length (x_9.take ((x_9.length : Nat) : Int).toNat).length))⟩, Nat.lt_succ_self _, M_11, ((((hM_5.trans hM_7).trans hM_9).trans hM_10).trans hM_11), ⟨hn_1, hl_11⟩, f.kp, (p_54.dropN 1)⟩
   ·have k_8 := iff_f dI h_13
    refine wp_exit (T_x (T_x ?_))
    obtain rfl := sI hF_27
    exact ⟨rfl, s_3.2, (sI hn_1).symm, M_5, hM_5, hs_2, hl_2, f.kp, p_18⟩
  ·rintro _ _ w_30 ⟨rfl, y_3, hq_, M_12, hM_12, hs_7, hl_12, f, p_49⟩
   subst b_5
   refine B_x (T_n (RR (Y f 2 fun _ f => eT (wp_ret ?_))))
   obtain ⟨M_13, hM_13, p_55, h_22⟩ := Hp.rrKnown [Ent.obj D_1 (.deferred (some [])), Ent.obj bm_1 (mapO S (Value.int .i64) s_2), Ent.obj b_2 (.cells #[.map (some bm_1)] 99 (0, 0))] p_49 hl_12
   have f := Frm.set f 4 (v := .slice (some ⟨b_4, 0, none⟩) ((d0.fChanges.length : Nat) : Int).toNat ((d0.fChanges.length : Nat) : Int).toNat) (v' := .slice (some ⟨b_4, 0, none⟩) y_3.length ((d0.fChanges.length : Nat) : Int).toNat) (by kernel_rfl) (congrArg (fun q => Value.slice _ q _) hl_12.2.symm)
   refine E_M1 f p_55 fun w_31 p_56 => V_rv1 rfl (Y11 (v := .slice (some ⟨b_4, 0, none⟩) y_3.length ((d0.fChanges.length : Nat) : Int).toNat) f) ?_
   obtain rfl := sI hF_4
   exact ⟨_, rfl, M_13, ((((hM_1.trans hM_2).trans hM_4).trans hM_12).trans hM_13), (p_56.dropN 2), ⟨(some ⟨b_4, 0, none⟩), ((d0.fChanges.length : Nat) : Int).toNat, rfl, h_22⟩⟩
 ·intro b; exact b.elim
def slices_Cloneapi_Change_api_Change_z (n : Nat) (d0 : List TD0) (z0 : Bool) : Option (List TD0) :=
  bif z0 then
    (some (([] : List TD0)))
  else
    need ((([] : List TD0).length + d0.length) * 112 ≤ 140737488355328) <|
    some (([] : List TD0) ++ d0)
theorem slices_Cloneapi_Change_api_Change_z_ok (n : Nat) (M : Mem) (A0 : Option Addr) (cap0 : Nat) (d0 : List TD0) (h0 : Sli M 8 emb_TD0 A0 cap0 d0) (z0 : Bool) (hz0 : A0.isNone = z0) (r : List TD0) (hF : slices_Cloneapi_Change_api_Change_z n d0 z0 = some r) : OkH Try.prog M [] 78 [.slice A0 d0.length cap0] (fun M' E' v => ∃ (A0 : Option Addr) (k0 : Nat) (s0 : List Value), v = .slice A0 r.length k0 ∧ E' = [.row 77 8 (.slice A0 r.length k0) r.length s0] ∧ RepSeq M' (r.map emb_TD0) s0) := by
 unfold slices_Cloneapi_Change_api_Change_z at hF
 intro M1 hM0 w0 H w p0
 replace h0 := h0.mono hM0
 refine R_enter 8 Try.func78 rfl rfl (by simp) fun a0 f0 => RR (Y f0 1 fun _ f => eT (R_seq (RR (Y f 1 fun _ f => Z (v := .bool A0.isNone) f (X_slicenil (A := A0) (n := d0.length) (c := cap0) (e := 77) rfl (by kernel_rfl) (by kernel_rfl) (by kernel_rfl) _) fun _ f => ?_))))
 have f := Frm.set f 4 (v := .bool A0.isNone) (v' := .bool z0) (by kernel_rfl) (cB hz0)
 refine eT (RcF f hF (fun h_1 hF_1 => ?_) fun h_1 hF_2 => ?_)
 ·refine RR (Y f 1 fun _ f => eT (wp_ret (T_r ?_)))
  obtain ⟨A_1, cap_1, hv_1⟩ : ∃ A cap, Value.slice none 0 0 = .slice A ([] : List TD0).length cap := ⟨none, 0, rfl⟩
  have p_1 : Hp w0 M1 ((Ent.row 77 8 (.slice A_1 ([] : List TD0).length cap_1) ([] : List TD0).length []) :: H) w := by rw [← hv_1]; exact p0.nilRow 77 8
  have f := f.st 2 (hv_1)
  have hr_1 : RepSeq M1 (([] : List TD0).map emb_TD0) [] := rfl
  refine E_ret1 f rfl (by kernel_rfl : Vc.look _ 2 = some (.slice A_1 ([] : List TD0).length cap_1)) ?_
  obtain rfl := sI hF_1
  exact ⟨_, rfl, M1, _, (mR _), p_1, ⟨A_1, cap_1, [], rfl, rfl, hr_1⟩⟩
 ·refine wp_skip (T_n (RR (V_allocS (k := 0) (c := 0) f p0 (.cells #[] 77 (0, 0)) (by kernel_rfl) (fun _ => by kernel_rfl) fun b_1 w_1 p_2 _ f => Y f 1 fun _ f => ?_)))
  have hr_2 : RepSeq M1 (([] : List TD0).map emb_TD0) [] := rfl
  have p_3 : Hp w0 M1 ((Ent.row 77 8 (.slice (some ⟨b_1, 0, none⟩) 0 0) ([] : List TD0).length []) :: H) w_1 := p_2.objRow (n := 0) (cap := 0) (size := 8) (by decide) (by decide) (blk_eq (by decide) rfl) rfl rfl
  obtain ⟨g_1, hF_3⟩ := nS hF_2
  refine Y22 (z := .agg #[S [], .int .i8 0, S [], .slice none 0 0, .bool false, .int .i64 0, .bool false, .slice none 0 0]) (f := emb_TD0) (xs := ([] : List TD0)) (ys := d0) (c := cap0) f p_3 hr_2 h0 rfl rfl rfl g_1 (by omega) fun A_2 cap_2 cs_1 w_2 p_4 hr_3 _ f => Y f 1 fun _ f => eT (wp_ret (E_ret1 f rfl (by kernel_rfl : Vc.look _ 2 = some (.slice A_2 (([] : List TD0) ++ d0).length cap_2)) ?_))
  obtain rfl := sI hF_3
  exact ⟨_, rfl, M1, _, (mR _), p_4, ⟨A_2, cap_2, cs_1, rfl, rfl, hr_3⟩⟩
def slices_Cloneapi_Change_api_Change (_ : Nat) (d0 : List TD0) : Option (List TD0) := need (d0.length * 112 ≤ 140737488355328) (some d0)
theorem slices_Cloneapi_Change_api_Change_ok (n : Nat) (M : Mem) (A0 : Option Addr) (cap0 : Nat) (d0 : List TD0) (h0 : Sli M 8 emb_TD0 A0 cap0 d0) (r : List TD0) (hF : slices_Cloneapi_Change_api_Change n d0 = some r) : OkH Try.prog M [] 78 [.slice A0 d0.length cap0] (fun M' E' v => ∃ (A0 : Option Addr) (k0 : Nat) (s0 : List Value), v = .slice A0 r.length k0 ∧ E' = [.row 77 8 (.slice A0 r.length k0) r.length s0] ∧ RepSeq M' (r.map emb_TD0) s0) := by
 unfold slices_Cloneapi_Change_api_Change at hF
 obtain ⟨g, hF⟩ := nS hF
 obtain rfl := sI hF
 refine slices_Cloneapi_Change_api_Change_z_ok n M A0 cap0 d0 h0 A0.isNone rfl d0 ?_
 unfold slices_Cloneapi_Change_api_Change_z
 cases A0 with
 | none =>
  obtain ⟨h1, h2, _⟩ := h0
  have h3 := h2 rfl
  obtain rfl : d0 = [] := List.eq_nil_of_length_eq_zero (by omega)
  rfl
 | some a => simp [need]; omega
def forward_leans_s1 (n : Nat) (x_1 : List TD0) (s_1 : Int × List TD0) : Option (Lp (Int × List TD0) (List TD0)) :=
    bif (decide (s_1.1 < ((x_1.length : Nat) : Int))) then
      ((getI s_1.2 s_1.1).bind fun x_2 =>
      bif (decide (x_2.fKind = 4)) then
        ((getI s_1.2 s_1.1).bind fun x_3 =>
        (some (⟨x_3.fId, x_3.fKind, x_3.fType, x_3.fProps, (x_3.fRetain), x_3.fNode, (x_3.fOld), ([] : List (List UInt8))⟩ : TD0)).bind fun x_4 =>
        (some (s_1.2.set s_1.1.toNat x_4)).bind fun x_5 =>
        need (inR .i64 (s_1.1 + 1)) <|
        some (.nx (s_1.1 + 1, x_5)))
      else
        need (inR .i64 (s_1.1 + 1)) <|
        some (.nx (s_1.1 + 1, s_1.2)))
    else
      some (.br s_1.2)
def forward_leans (n : Nat) (d0 : TL0) : Option (List (List Int)) :=
  (slices_Cloneapi_Change_api_Change n d0.fChanges).bind fun x_1 =>
  (loopF (forward_leans_s1 n x_1) n ((0 : Int), x_1)).bind fun y_1 =>
  (change_Leans n (⟨d0.fKind, d0.fWidth, (⟨d0.fOld.fOwned, d0.fOld.fPending, d0.fOld.fRetained, d0.fOld.fOuts, d0.fOld.fText, d0.fOld.fArgs, d0.fOld.fCalls, d0.fOld.fStatus⟩ : TG0), (⟨d0.fNew.fScopes, d0.fNew.fNodes⟩ : TN0), d0.fText, d0.fArgs, y_1, d0.fTasks, d0.fPhase, d0.fStatus⟩ : TL0) (false)).bind fun x_6 =>
  some (x_6)
set_option maxRecDepth 20000 in
theorem forward_leans_ok (n : Nat) (M : Mem) (c0 : List Value) (d0 : TL0) (h0 : Rep M (emb_TL0 d0) c0) (r : List (List Int)) (hF : forward_leans n d0 = some r) : Ok Try.prog M 62 [.agg c0.toArray] (fun M' v => ∃ (A0 : Option Addr) (k0 : Nat), v = .slice A0 r.length k0 ∧ Sli M' 1 (eL 1 (Dat.int .i64)) A0 k0 r) := by
 unfold forward_leans at hF
 intro M1 hM0 w0 H w p0
 replace h0 := Rep.mono hM0 _ _ h0
 obtain ⟨A_1, cap_1, A_2, cap_2, A_3, cap_3, A_4, cap_4, A_5, cap_5, A_6, cap_6, A_7, cap_7, A_8, cap_8, A_9, cap_9, A_10, cap_10, rfl, h_1, h_2, h_3, h_4, h_5, h_6, h_7, h_8, h_9, h_10⟩ := TL0.opn h0
 refine R_enter 29 Try.func62 rfl rfl (by simp) fun a0 f0 => RR (Y12 f0 p0 (.cells #[.int .i8 d0.fKind, .int .i64 d0.fWidth, .slice A_1 d0.fOld.fOwned.length cap_1, .slice A_2 d0.fOld.fPending.length cap_2, .slice A_3 d0.fOld.fRetained.length cap_3, .slice A_4 d0.fOld.fOuts.length cap_4, S d0.fOld.fText, .slice A_5 d0.fOld.fArgs.length cap_5, .int .i64 d0.fOld.fCalls, .int .i8 d0.fOld.fStatus, .slice A_6 d0.fNew.fScopes.length cap_6, .slice A_7 d0.fNew.fNodes.length cap_7, S d0.fText, .slice A_8 d0.fArgs.length cap_8, .slice A_9 d0.fChanges.length cap_9, .slice A_10 d0.fTasks.length cap_10, .int .i8 d0.fPhase, .int .i8 d0.fStatus] 55 (0, 0)) fun b_1 w_1 p_1 _ f => Y f 1 fun _ f => eT (RR (Y f 1 fun _ f => Z f (Y31 (v := .slice A_9 d0.fChanges.length cap_9) rfl (ad := ⟨b_1, 14, none⟩) (p_1.ownCell 0 rfl 14)) fun _ f => ?_)))
 obtain ⟨x_1, hx_1, hF_1⟩ := bS hF
 refine Y17 (E := []) (H := ((Ent.obj b_1 (.cells #[.int .i8 d0.fKind, .int .i64 d0.fWidth, .slice A_1 d0.fOld.fOwned.length cap_1, .slice A_2 d0.fOld.fPending.length cap_2, .slice A_3 d0.fOld.fRetained.length cap_3, .slice A_4 d0.fOld.fOuts.length cap_4, S d0.fOld.fText, .slice A_5 d0.fOld.fArgs.length cap_5, .int .i64 d0.fOld.fCalls, .int .i8 d0.fOld.fStatus, .slice A_6 d0.fNew.fScopes.length cap_6, .slice A_7 d0.fNew.fNodes.length cap_7, S d0.fText, .slice A_8 d0.fArgs.length cap_8, .slice A_9 d0.fChanges.length cap_9, .slice A_10 d0.fTasks.length cap_10, .int .i8 d0.fPhase, .int .i8 d0.fStatus] 55 (0, 0))) :: H)) f p_1 (slices_Cloneapi_Change_api_Change_ok n _ A_9 cap_9 d0.fChanges h_9 x_1 hx_1) fun _ M_1 E_1 w_2 hM_1 p_2 q_1 _ f => ?_
 obtain ⟨A_11, cap_11, cs_1, rfl, rfl, hr_1⟩ := q_1
 refine Y f 1 fun _ f => Y26 f p_2 1 rfl rfl (b := b_1) (j := 14) (v := .slice A_11 x_1.length cap_11) rfl (by exact rfl) (by simp) (by simp) ((Ent.row 77 8 (.slice A_11 x_1.length cap_11) x_1.length cs_1) :: (Ent.obj b_1 (.cells #[.int .i8 d0.fKind, .int .i64 d0.fWidth, .slice A_1 d0.fOld.fOwned.length cap_1, .slice A_2 d0.fOld.fPending.length cap_2, .slice A_3 d0.fOld.fRetained.length cap_3, .slice A_4 d0.fOld.fOuts.length cap_4, S d0.fOld.fText, .slice A_5 d0.fOld.fArgs.length cap_5, .int .i64 d0.fOld.fCalls, .int .i8 d0.fOld.fStatus, .slice A_6 d0.fNew.fScopes.length cap_6, .slice A_7 d0.fNew.fNodes.length cap_7, S d0.fText, .slice A_8 d0.fArgs.length cap_8, .slice A_11 x_1.length cap_11, .slice A_10 d0.fTasks.length cap_10, .int .i8 d0.fPhase, .int .i8 d0.fStatus] 55 (0, 0))) :: H) rfl fun w_3 p_3 _ f => eT (R_seq (RR (Y f 1 fun _ f => Z f (Y31 (v := .slice A_11 x_1.length cap_11) rfl (ad := ⟨b_1, 14, none⟩) (p_3.ownCell 1 rfl 14)) fun _ f => Y f 2 fun _ f => eT (wp_block ?_))))
 obtain ⟨b_2, hL_1, hF_2⟩ := bS hF_1
 refine wp_mono (Q := fun e a w => (e = .exit 0 ∧ (∃ y_1 : List TD0, b_2 = y_1 ∧ ∃ M_3 : Mem, M_1.le M_3 ∧ ∃ (A_17 : Option Addr), ∃ (cap_19 : Nat), ∃ (cs_3 : List Value), RepSeq M_3 (y_1.map emb_TD0) cs_3 ∧ Frm 29 [(1, .pointer (some (⟨b_1, 0, none⟩)))] a ∧ Hp w0 M_3 ((Ent.row 77 8 (.slice A_17 y_1.length cap_19) y_1.length cs_3) :: (Ent.obj b_1 (.cells #[.int .i8 d0.fKind, .int .i64 d0.fWidth, .slice A_1 d0.fOld.fOwned.length cap_1, .slice A_2 d0.fOld.fPending.length cap_2, .slice A_3 d0.fOld.fRetained.length cap_3, .slice A_4 d0.fOld.fOuts.length cap_4, S d0.fOld.fText, .slice A_5 d0.fOld.fArgs.length cap_5, .int .i64 d0.fOld.fCalls, .int .i8 d0.fOld.fStatus, .slice A_6 d0.fNew.fScopes.length cap_6, .slice A_7 d0.fNew.fNodes.length cap_7, S d0.fText, .slice A_8 d0.fArgs.length cap_8, .slice A_17 y_1.length cap_19, .slice A_10 d0.fTasks.length cap_10, .int .i8 d0.fPhase, .int .i8 d0.fStatus] 55 (0, 0))) :: H) w))) (R_loop (n := 29) (w0 := w0) (M := M_1) (fun (x : Nat × (Int × List TD0) × (Option Addr) × Nat × (List Value)) => match x with | (m_1, s_1, A_12, cap_12, cs_2) => [(1, .pointer (some (⟨b_1, 0, none⟩))), (10, .int .i64 ((x_1.length : Nat) : Int)), (11, .int .i64 s_1.1)]) (fun (x : Nat × (Int × List TD0) × (Option Addr) × Nat × (List Value)) => match x with | (m_1, s_1, A_12, cap_12, cs_2) => ((Ent.row 77 8 (.slice A_12 s_1.2.length cap_12) s_1.2.length cs_2) :: (Ent.obj b_1 (.cells #[.int .i8 d0.fKind, .int .i64 d0.fWidth, .slice A_1 d0.fOld.fOwned.length cap_1, .slice A_2 d0.fOld.fPending.length cap_2, .slice A_3 d0.fOld.fRetained.length cap_3, .slice A_4 d0.fOld.fOuts.length cap_4, S d0.fOld.fText, .slice A_5 d0.fOld.fArgs.length cap_5, .int .i64 d0.fOld.fCalls, .int .i8 d0.fOld.fStatus, .slice A_6 d0.fNew.fScopes.length cap_6, .slice A_7 d0.fNew.fNodes.length cap_7, S d0.fText, .slice A_8 d0.fArgs.length cap_8, .slice A_12 s_1.2.length cap_12, .slice A_10 d0.fTasks.length cap_10, .int .i8 d0.fPhase, .int .i8 d0.fStatus] 55 (0, 0))) :: H)) (fun (x : Nat × (Int × List TD0) × (Option Addr) × Nat × (List Value)) (MM : Mem) => match x with | (m_1, s_1, A_12, cap_12, cs_2) => loopF (forward_leans_s1 n x_1) m_1 s_1 = some b_2 ∧ RepSeq MM (s_1.2.map emb_TD0) cs_2) (fun (x : Nat × (Int × List TD0) × (Option Addr) × Nat × (List Value)) => match x with | (m_1, s_1, A_12, cap_12, cs_2) => m_1) (n, ((0 : Int), x_1), A_11, cap_11, cs_1) (f.kp) p_3 ⟨hL_1, hr_1⟩ ?_) ?_
 ·rintro ⟨m_1, s_1, A_12, cap_12, cs_2⟩ M_2 _ w_4 hM_2 I_1 f p_4
  obtain ⟨I_1L, hr_2⟩ := I_1
  obtain ⟨m_2, r_1, rfl, hs_1, hn_1⟩ := loop_step I_1L
  unfold forward_leans_s1 at hs_1
  refine RR (Y f 1 fun _ f => eT (R_seq (RcF f hs_1 (fun h_11 hF_3 => ?_) fun h_11 hF_12 => ?_)))
  ·have k_1 := dI.1 h_11
   refine wp_skip (T_n (R_seq (wp_block (RR (Y f 2 fun _ f => eT (RR (Y f 1 fun _ f => Z f (Y31 (v := .slice A_12 s_1.2.length cap_12) rfl (ad := ⟨b_1, 14, none⟩) (p_4.ownCell 1 rfl 14)) fun _ f => Y f 1 fun _ f => ?_)))))))
   obtain ⟨x_2, hx_2, hF_4⟩ := bS hF_3
   obtain ⟨b_3, cap_13, hv_1, hcap_1⟩ := p_4.rowAddr 0 rfl (getI_pos hx_2)
   have f := f.st 15 (hv_1)
   refine Z f (Y29 rfl (ad := ⟨b_3, 0, none⟩) (len := s_1.2.length) (cap := cap_13) (k := .i64) (i := s_1.1) (e := 77) (sz := 8) (getI_nn hx_2) (getI_lt hx_2)) fun _ f => ?_
   have f := f.st 15 (hv_1.symm)
   refine Y f 1 fun _ f => ?_
   obtain ⟨c_1, -, hr_3, hc_1⟩ := RepSeq.get s_1.1.toNat (szd_all szd_TD0) hr_2 (getI_map hx_2)
   obtain ⟨A_13, cap_14, A_14, cap_15, rfl, h_12, h_13⟩ := TD0.opn hr_3
   refine Z f (Y31 (v := .int .i8 x_2.fKind) rfl (ad := ((⟨b_3, 0, none⟩ : Addr).add (s_1.1.toNat * 8)).add 1) ((fun j v h => row_at (p_4.rowCell 0 rfl hv_1) hc_1 j v h) 1 _ rfl)) fun _ f => Y f 1 fun _ f => eT (RcF f hF_4 (fun h_14 hF_5 => ?_) fun h_14 hF_10 => ?_)
   ·have k_2 := dI.1 h_14
    refine R_reg (Y f 1 fun _ f => Z f (Y31 (v := .slice A_12 s_1.2.length cap_12) rfl (ad := ⟨b_1, 14, none⟩) (p_4.ownCell 1 rfl 14)) fun _ f => Y f 1 fun _ f => ?_)
    obtain ⟨x_3, hx_3, hF_6⟩ := bS hF_5
    obtain ⟨b_4, cap_16, hv_2, hcap_2⟩ := p_4.rowAddr 0 rfl (getI_pos hx_3)
    have f := f.st 22 (hv_2)
    refine Z f (Y29 rfl (ad := ⟨b_4, 0, none⟩) (len := s_1.2.length) (cap := cap_16) (k := .i64) (i := s_1.1) (e := 77) (sz := 8) (getI_nn hx_3) (getI_lt hx_3)) fun _ f => ?_
    have f := f.st 22 (hv_2.symm)
    refine Y f 1 fun _ f => ?_
    obtain ⟨c_2, hl_2, hr_4, hc_2⟩ := RepSeq.get s_1.1.toNat (szd_all szd_TD0) hr_2 (getI_map hx_3)
    obtain ⟨A_15, cap_17, A_16, cap_18, rfl, h_15, h_16⟩ := TD0.opn hr_4
    obtain ⟨x_4, hx_4, hF_7⟩ := bS hF_6
    replace hx_4 : (⟨x_3.fId, x_3.fKind, x_3.fType, x_3.fProps, (x_3.fRetain), x_3.fNode, (x_3.fOld), ([] : List (List UInt8))⟩ : TD0) = x_4 := sI hx_4
    obtain ⟨x_5, hx_5, hF_8⟩ := bS hF_7
    replace hx_5 : s_1.2.set s_1.1.toNat x_4 = x_5 := sI hx_5
    refine W_rowstoreF (it := s_1.1) (off := 7) (d := s_1.2) (f := emb_TD0) (xv := x_4) (u := .slice none 0 0) (c0 := [S x_3.fId, .int .i8 x_3.fKind, S x_3.fType, .slice A_15 x_3.fProps.length cap_17, .bool x_3.fRetain, .int .i64 x_3.fNode, .bool x_3.fOld, .slice A_16 x_3.fLeans.length cap_18]) (c1 := [S x_3.fId, .int .i8 x_3.fKind, S x_3.fType, .slice A_15 x_3.fProps.length cap_17, .bool x_3.fRetain, .int .i64 x_3.fNode, .bool x_3.fOld, .slice none 0 0]) f p_4 hv_2 (by kernel_rfl) (by kernel_rfl) rfl rfl (by kernel_rfl) (by kernel_rfl) rfl (by kernel_rfl) szd_TD0 hx_3 hr_2 rfl hc_2 (Nat.le_of_ble_eq_true rfl) rfl (by rw [← hx_4]; exact TD0.shut h_15 Sli.nil) fun w_5 p_5 hr_5 _ f => ?_
    rw [hx_5] at hr_5
    have p_6 : Hp w0 M_2 ((Ent.row 77 8 (.slice A_12 (x_5).length cap_12) x_5.length (cs_2.set (s_1.1.toNat * 8 + 7) (.slice none 0 0))) :: (Ent.obj b_1 (.cells #[.int .i8 d0.fKind, .int .i64 d0.fWidth, .slice A_1 d0.fOld.fOwned.length cap_1, .slice A_2 d0.fOld.fPending.length cap_2, .slice A_3 d0.fOld.fRetained.length cap_3, .slice A_4 d0.fOld.fOuts.length cap_4, S d0.fOld.fText, .slice A_5 d0.fOld.fArgs.length cap_5, .int .i64 d0.fOld.fCalls, .int .i8 d0.fOld.fStatus, .slice A_6 d0.fNew.fScopes.length cap_6, .slice A_7 d0.fNew.fNodes.length cap_7, S d0.fText, .slice A_8 d0.fArgs.length cap_8, .slice A_12 s_1.2.length cap_12, .slice A_10 d0.fTasks.length cap_10, .int .i8 d0.fPhase, .int .i8 d0.fStatus] 55 (0, 0))) :: H) w_5 := by rw [← hx_5]; exact p_5.rowVal (by simp only [List.length_set])
    have hv_3 := hv_set hv_2 s_1.1.toNat x_4
    have hx_6 := getI_set (y := x_4) hx_3
    rw [hx_5] at hv_3 hx_6
    have p_7 : Hp w0 M_2 ((Ent.row 77 8 (.slice A_12 (x_5).length cap_12) x_5.length (cs_2.set (s_1.1.toNat * 8 + 7) (.slice none 0 0))) :: (Ent.obj b_1 (.cells #[.int .i8 d0.fKind, .int .i64 d0.fWidth, .slice A_1 d0.fOld.fOwned.length cap_1, .slice A_2 d0.fOld.fPending.length cap_2, .slice A_3 d0.fOld.fRetained.length cap_3, .slice A_4 d0.fOld.fOuts.length cap_4, S d0.fOld.fText, .slice A_5 d0.fOld.fArgs.length cap_5, .int .i64 d0.fOld.fCalls, .int .i8 d0.fOld.fStatus, .slice A_6 d0.fNew.fScopes.length cap_6, .slice A_7 d0.fNew.fNodes.length cap_7, S d0.fText, .slice A_8 d0.fArgs.length cap_8, .slice A_12 (x_5).length cap_12, .slice A_10 d0.fTasks.length cap_10, .int .i8 d0.fPhase, .int .i8 d0.fStatus] 55 (0, 0))) :: H) w_5 := by rw [← hx_5, List.length_set]; rw [← hx_5, List.length_set] at p_6; exact p_6
    refine W_end rfl (B_n (T_n (R_reg ?_)))
    obtain ⟨g_1, hF_9⟩ := nS hF_8
    refine Y f 1 fun _ f => ?_
    have f := f.st 26 (congrArg (Value.int .i64) (inR_wrap g_1))
    refine Y f 1 fun _ f => eT ?_
    obtain rfl := sI hF_9
    exact ⟨⟨m_2, (s_1.1 + 1, x_5), A_12, cap_12, cs_2.set (s_1.1.toNat * 8 + 7) (.slice none 0 0)⟩, Nat.lt_succ_self _, M_2, hM_2, ⟨hn_1, hr_5⟩, f.kp, p_7⟩
   ·have k_3 := iff_f dI h_14
    refine wp_skip (B_n (T_n (R_reg ?_)))
    obtain ⟨g_2, hF_11⟩ := nS hF_10
    refine Y f 1 fun _ f => ?_
    have f := f.st 26 (congrArg (Value.int .i64) (inR_wrap g_2))
    refine Y f 1 fun _ f => eT ?_
    obtain rfl := sI hF_11
    exact ⟨⟨m_2, (s_1.1 + 1, s_1.2), A_12, cap_12, cs_2⟩, Nat.lt_succ_self _, M_2, hM_2, ⟨hn_1, hr_2⟩, f.kp, p_4⟩
  ·have k_4 := iff_f dI h_11
   refine wp_exit (T_x (T_x ?_))
   obtain rfl := sI hF_12
   exact ⟨rfl, s_1.2, (sI hn_1).symm, M_2, hM_2, A_12, cap_12, cs_2, hr_2, f.kp, p_4⟩
 ·rintro _ _ w_7 ⟨rfl, y_1, hq_, M_3, hM_3, A_17, cap_19, cs_3, hr_6, f, p_8⟩
  subst b_2
  refine B_x (T_n (RR (Z (v := .agg #[.int .i8 d0.fKind, .int .i64 d0.fWidth, .slice A_1 d0.fOld.fOwned.length cap_1, .slice A_2 d0.fOld.fPending.length cap_2, .slice A_3 d0.fOld.fRetained.length cap_3, .slice A_4 d0.fOld.fOuts.length cap_4, S d0.fOld.fText, .slice A_5 d0.fOld.fArgs.length cap_5, .int .i64 d0.fOld.fCalls, .int .i8 d0.fOld.fStatus, .slice A_6 d0.fNew.fScopes.length cap_6, .slice A_7 d0.fNew.fNodes.length cap_7, S d0.fText, .slice A_8 d0.fArgs.length cap_8, .slice A_17 y_1.length cap_19, .slice A_10 d0.fTasks.length cap_10, .int .i8 d0.fPhase, .int .i8 d0.fStatus]) f (Y32 (cs := [.int .i8 d0.fKind, .int .i64 d0.fWidth, .slice A_1 d0.fOld.fOwned.length cap_1, .slice A_2 d0.fOld.fPending.length cap_2, .slice A_3 d0.fOld.fRetained.length cap_3, .slice A_4 d0.fOld.fOuts.length cap_4, S d0.fOld.fText, .slice A_5 d0.fOld.fArgs.length cap_5, .int .i64 d0.fOld.fCalls, .int .i8 d0.fOld.fStatus, .slice A_6 d0.fNew.fScopes.length cap_6, .slice A_7 d0.fNew.fNodes.length cap_7, S d0.fText, .slice A_8 d0.fArgs.length cap_8, .slice A_17 y_1.length cap_19, .slice A_10 d0.fTasks.length cap_10, .int .i8 d0.fPhase, .int .i8 d0.fStatus]) rfl (ad := ⟨b_1, 0, none⟩) (own_cells (p_8.ownCell 1 rfl) 0 rfl)) fun _ f => ?_)))
  obtain ⟨A_18, cap_20, M_4, hv_4, hM_4, p_9, h_17⟩ := p_8.rowSli (f := emb_TD0) (xs := y_1) szd_TD0 hr_6
  have f := Frm.set f 27 (v := .agg #[.int .i8 d0.fKind, .int .i64 d0.fWidth, .slice A_1 d0.fOld.fOwned.length cap_1, .slice A_2 d0.fOld.fPending.length cap_2, .slice A_3 d0.fOld.fRetained.length cap_3, .slice A_4 d0.fOld.fOuts.length cap_4, S d0.fOld.fText, .slice A_5 d0.fOld.fArgs.length cap_5, .int .i64 d0.fOld.fCalls, .int .i8 d0.fOld.fStatus, .slice A_6 d0.fNew.fScopes.length cap_6, .slice A_7 d0.fNew.fNodes.length cap_7, S d0.fText, .slice A_8 d0.fArgs.length cap_8, .slice A_17 y_1.length cap_19, .slice A_10 d0.fTasks.length cap_10, .int .i8 d0.fPhase, .int .i8 d0.fStatus]) (v' := .agg #[.int .i8 d0.fKind, .int .i64 d0.fWidth, .slice A_1 d0.fOld.fOwned.length cap_1, .slice A_2 d0.fOld.fPending.length cap_2, .slice A_3 d0.fOld.fRetained.length cap_3, .slice A_4 d0.fOld.fOuts.length cap_4, S d0.fOld.fText, .slice A_5 d0.fOld.fArgs.length cap_5, .int .i64 d0.fOld.fCalls, .int .i8 d0.fOld.fStatus, .slice A_6 d0.fNew.fScopes.length cap_6, .slice A_7 d0.fNew.fNodes.length cap_7, S d0.fText, .slice A_8 d0.fArgs.length cap_8, .slice A_18 y_1.length cap_20, .slice A_10 d0.fTasks.length cap_10, .int .i8 d0.fPhase, .int .i8 d0.fStatus]) (by kernel_rfl) (by rw [hv_4])
  have p_10 : Hp w0 M_4 ((Ent.obj b_1 (.cells #[.int .i8 d0.fKind, .int .i64 d0.fWidth, .slice A_1 d0.fOld.fOwned.length cap_1, .slice A_2 d0.fOld.fPending.length cap_2, .slice A_3 d0.fOld.fRetained.length cap_3, .slice A_4 d0.fOld.fOuts.length cap_4, S d0.fOld.fText, .slice A_5 d0.fOld.fArgs.length cap_5, .int .i64 d0.fOld.fCalls, .int .i8 d0.fOld.fStatus, .slice A_6 d0.fNew.fScopes.length cap_6, .slice A_7 d0.fNew.fNodes.length cap_7, S d0.fText, .slice A_8 d0.fArgs.length cap_8, .slice A_18 y_1.length cap_20, .slice A_10 d0.fTasks.length cap_10, .int .i8 d0.fPhase, .int .i8 d0.fStatus] 55 (0, 0))) :: H) w_7 := by rw [hv_4] at p_9; exact p_9
  obtain ⟨x_6, hx_7, hF_13⟩ := bS hF_2
  refine Y16 f p_10 (change_Leans_ok n _ _ (⟨d0.fKind, d0.fWidth, (⟨d0.fOld.fOwned, d0.fOld.fPending, d0.fOld.fRetained, d0.fOld.fOuts, d0.fOld.fText, d0.fOld.fArgs, d0.fOld.fCalls, d0.fOld.fStatus⟩ : TG0), (⟨d0.fNew.fScopes, d0.fNew.fNodes⟩ : TN0), d0.fText, d0.fArgs, y_1, d0.fTasks, d0.fPhase, d0.fStatus⟩ : TL0) (TL0.shut (h_1.mono ((hM_1.trans hM_3).trans hM_4)) (h_2.mono ((hM_1.trans hM_3).trans hM_4)) (h_3.mono ((hM_1.trans hM_3).trans hM_4)) (h_4.mono ((hM_1.trans hM_3).trans hM_4)) (h_5.mono ((hM_1.trans hM_3).trans hM_4)) (h_6.mono ((hM_1.trans hM_3).trans hM_4)) (h_7.mono ((hM_1.trans hM_3).trans hM_4)) (h_8.mono ((hM_1.trans hM_3).trans hM_4)) h_17 (h_10.mono ((hM_1.trans hM_3).trans hM_4))) (false) x_6 hx_7) fun _ M_5 w_8 hM_5 p_11 q_2 _ f => ?_
  obtain ⟨A_19, cap_21, rfl, h_18⟩ := q_2
  refine Y f 1 fun _ f => eT (wp_ret (E_ret1 f rfl (by kernel_rfl : Vc.look _ 2 = some (.slice A_19 x_6.length cap_21)) ?_))
  obtain rfl := sI hF_13
  exact ⟨_, rfl, M_5, (((hM_1.trans hM_3).trans hM_4).trans hM_5), (p_11.dropN 1), ⟨A_19, cap_21, rfl, h_18⟩⟩
def state_Live_s2 (n : Nat) (y_1 : List TU0 × Int) (s_2 : List (List UInt8) × Int) : Option (Lp (List (List UInt8) × Int) (List (List UInt8))) :=
    bif (decide (s_2.2 < ((y_1.1.length : Nat) : Int))) then
      ((getI y_1.1 s_2.2).bind fun x_1 =>
      need ((s_2.1.length + 1) * 16 ≤ 140737488355328) <|
      need (inR .i64 (s_2.2 + 1)) <|
      some (.nx (s_2.1 ++ [x_1.fPhys], s_2.2 + 1)))
    else
      some (.br s_2.1)
def state_Live_s1 (n : Nat) (d0 : TG0) (s_1 : List (List UInt8) × Int) : Option (Lp (List (List UInt8) × Int) (List (List UInt8))) :=
    bif (decide (s_1.2 < 3)) then
      (((need (0 ≤ s_1.2 ∧ s_1.2 < 3) <|
        bif (decide (s_1.2 = 0)) then
          (some ((d0.fOwned, (0 : Int))))
        else
          bif (decide (s_1.2 = 1)) then
            (some ((d0.fPending, (1 : Int))))
          else
            some ((d0.fRetained, (2 : Int))) : Option (List TU0 × Int))).bind fun y_1 =>
      (loopF (state_Live_s2 n y_1) n (s_1.1, (0 : Int))).bind fun y_2 =>
      need (inR .i64 (y_1.2 + 1)) <|
      some (.nx (y_2, y_1.2 + 1)))
    else
      some (.br s_1.1)
def state_Live (n : Nat) (d0 : TG0) : Option (List (List UInt8)) :=
  (loopF (state_Live_s1 n d0) n (([] : List (List UInt8)), (0 : Int))).bind fun y_3 =>
  some (y_3)
set_option maxRecDepth 20000 in
theorem state_Live_ok (n : Nat) (M : Mem) (c0 : List Value) (d0 : TG0) (h0 : Rep M (emb_TG0 d0) c0) (r : List (List UInt8)) (hF : state_Live n d0 = some r) : OkH Try.prog M [] 73 [.agg c0.toArray] (fun M' E' v => ∃ (A0 : Option Addr) (k0 : Nat) (s0 : List Value), v = .slice A0 r.length k0 ∧ E' = [.row 9 1 (.slice A0 r.length k0) r.length s0] ∧ RepSeq M' (r.map Dat.str) s0) := by
 unfold state_Live at hF
 intro M1 hM0 w0 H w p0
 replace h0 := Rep.mono hM0 _ _ h0
 obtain ⟨A_1, cap_1, A_2, cap_2, A_3, cap_3, A_4, cap_4, A_5, cap_5, rfl, h_1, h_2, h_3, h_4, h_5⟩ := TG0.opn h0
 refine R_enter 31 Try.func73 rfl rfl (by simp) fun a0 f0 => RR (Y13 (cs := #[.slice A_1 d0.fOwned.length cap_1, .slice A_2 d0.fPending.length cap_2, .slice A_3 d0.fRetained.length cap_3, .slice A_4 d0.fOuts.length cap_4, S d0.fText, .slice A_5 d0.fArgs.length cap_5, .int .i64 d0.fCalls, .int .i8 d0.fStatus]) (T := 47) f0 p0 fun b_1 M_1 w_1 hM_1 hc_1 p_1 _ f => ?_)
 have hc_2 := fz_box hc_1
 refine Y f 1 fun _ f => eT (R_seq (RR (Y f 1 fun _ f => Y15 f p_1 hc_2 0 rfl fun _ f => Y f 1 fun _ f => Y15 f p_1 hc_2 1 rfl fun _ f => Y f 1 fun _ f => Y15 f p_1 hc_2 2 rfl fun _ f => Y f 2 fun _ f => eT (wp_block ?_))))
 obtain ⟨A_6, cap_6, hv_1⟩ : ∃ A cap, Value.slice none 0 0 = .slice A ([] : List (List UInt8)).length cap := ⟨none, 0, rfl⟩
 have p_2 : Hp w0 M_1 ((Ent.row 9 1 (.slice A_6 ([] : List (List UInt8)).length cap_6) ([] : List (List UInt8)).length []) :: H) w_1 := by rw [← hv_1]; exact p_1.nilRow 9 1
 have f := f.st 2 (hv_1)
 have hr_1 : RepSeq M_1 (([] : List (List UInt8)).map Dat.str) [] := rfl
 obtain ⟨b_2, hL_1, hF_1⟩ := bS hF
 refine wp_mono (Q := fun e a w => (e = .exit 0 ∧ (∃ y_3 : List (List UInt8), b_2 = y_3 ∧ ∃ M_6 : Mem, M_1.le M_6 ∧ ∃ (A_14 : Option Addr), ∃ (cap_14 : Nat), ∃ (cs_5 : List Value), RepSeq M_6 (y_3.map Dat.str) cs_5 ∧ Frm 31 [(2, .slice A_14 y_3.length cap_14)] a ∧ Hp w0 M_6 ((Ent.row 9 1 (.slice A_14 y_3.length cap_14) y_3.length cs_5) :: H) w))) (R_loop (n := 31) (w0 := w0) (M := M_1) (fun (x : Nat × (List (List UInt8) × Int) × (Option Addr) × Nat × (List Value)) => match x with | (m_1, s_1, A_7, cap_7, cs_1) => [(2, .slice A_7 s_1.1.length cap_7), (13, .agg #[.slice A_1 d0.fOwned.length cap_1, .slice A_2 d0.fPending.length cap_2, .slice A_3 d0.fRetained.length cap_3]), (14, .int .i64 s_1.2)]) (fun (x : Nat × (List (List UInt8) × Int) × (Option Addr) × Nat × (List Value)) => match x with | (m_1, s_1, A_7, cap_7, cs_1) => ((Ent.row 9 1 (.slice A_7 s_1.1.length cap_7) s_1.1.length cs_1) :: H)) (fun (x : Nat × (List (List UInt8) × Int) × (Option Addr) × Nat × (List Value)) (MM : Mem) => match x with | (m_1, s_1, A_7, cap_7, cs_1) => loopF (state_Live_s1 n d0) m_1 s_1 = some b_2 ∧ RepSeq MM (s_1.1.map Dat.str) cs_1) (fun (x : Nat × (List (List UInt8) × Int) × (Option Addr) × Nat × (List Value)) => match x with | (m_1, s_1, A_7, cap_7, cs_1) => m_1) (n, (([] : List (List UInt8)), (0 : Int)), A_6, cap_6, []) (f.kp) p_2 ⟨hL_1, hr_1⟩ ?_) ?_
 ·rintro ⟨m_1, s_1, A_7, cap_7, cs_1⟩ M_2 _ w_2 hM_2 I_1 f p_3
  obtain ⟨I_1L, hr_2⟩ := I_1
  obtain ⟨m_2, r_1, rfl, hs_1, hn_1⟩ := loop_step I_1L
  unfold state_Live_s1 at hs_1
  refine RR (Y f 1 fun _ f => eT (R_seq (RcF f hs_1 (fun h_6 hF_2 => ?_) fun h_6 hF_16 => ?_)))
  ·have k_1 := dI.1 h_6
   refine wp_skip (T_n (R_seq (wp_block (R_seq ?_))))
   obtain ⟨j_1, hj_1, hF_3⟩ := bS hF_2
   refine R_mid (fun a_18 w_3 => ∃ y_1 : List TU0 × Int, j_1 = y_1 ∧ ∃ M_3 : Mem, M_2.le M_3 ∧ ∃ (A_8 : Option Addr), ∃ (cap_8 : Nat), Sli M_3 6 emb_TU0 A_8 cap_8 y_1.1 ∧ Frm 31 [(2, .slice A_7 s_1.1.length cap_7), (4, .slice A_8 y_1.1.length cap_8), (13, .agg #[.slice A_1 d0.fOwned.length cap_1, .slice A_2 d0.fPending.length cap_2, .slice A_3 d0.fRetained.length cap_3]), (14, .int .i64 y_1.2)] a_18 ∧ Hp w0 M_3 ((Ent.row 9 1 (.slice A_7 s_1.1.length cap_7) s_1.1.length cs_1) :: H) w_3) ?_ ?_
   ·refine R_reg ?_
    obtain ⟨g_1, hF_4⟩ := nS hj_1
    rcases cE hF_4 with ⟨h_7, hF_5⟩ | ⟨h_7, hF_6⟩
    ·have e_1 : s_1.2 = 0 := of_decide_eq_true h_7
     have f := Frm.set f 14 (v := .int .i64 s_1.2) (v' := .int .i64 0) (by kernel_rfl) (congrArg (Value.int .i64) e_1)
     refine Y f 1 fun _ f => Y f 1 fun _ f => eT ?_
     exact ⟨(d0.fOwned, (0 : Int)), (sI hF_5).symm, M_2, (mR _), A_1, cap_1, (h_1.mono (hM_1.trans hM_2)), f.kp, p_3⟩
    ·have e_2 : ¬ (s_1.2 = 0) := of_decide_eq_false h_7
     rcases cE hF_6 with ⟨h_8, hF_7⟩ | ⟨h_8, hF_8⟩
     ·have e_3 : s_1.2 = 1 := of_decide_eq_true h_8
      have f := Frm.set f 14 (v := .int .i64 s_1.2) (v' := .int .i64 1) (by kernel_rfl) (congrArg (Value.int .i64) e_3)
      refine Y f 1 fun _ f => Y f 1 fun _ f => eT ?_
      exact ⟨(d0.fPending, (1 : Int)), (sI hF_7).symm, M_2, (mR _), A_2, cap_2, (h_2.mono (hM_1.trans hM_2)), f.kp, p_3⟩
     ·have e_4 : ¬ (s_1.2 = 1) := of_decide_eq_false h_8
      have e_5 : s_1.2 = 2 := by omega
      have f := Frm.set f 14 (v := .int .i64 s_1.2) (v' := .int .i64 2) (by kernel_rfl) (congrArg (Value.int .i64) e_5)
      refine Y f 1 fun _ f => Y f 1 fun _ f => eT ?_
      exact ⟨(d0.fRetained, (2 : Int)), (sI hF_8).symm, M_2, (mR _), A_3, cap_3, (h_3.mono (hM_1.trans hM_2)), f.kp, p_3⟩
   ·rintro a_18 w_3 ⟨y_1, hq_1, M_3, hM_3, A_8, cap_8, h_9, f, p_4⟩
    subst j_1
    refine T_n (RR (Y f 3 fun _ f => eT (wp_block ?_)))
    obtain ⟨b_3, hL_2, hF_9⟩ := bS hF_3
    refine wp_mono (Q := fun e a w => (e = .exit 2 ∧ (∃ y_2 : List (List UInt8), b_3 = y_2 ∧ ∃ M_5 : Mem, M_3.le M_5 ∧ ∃ (A_13 : Option Addr), ∃ (cap_13 : Nat), ∃ (cs_4 : List Value), RepSeq M_5 (y_2.map Dat.str) cs_4 ∧ Frm 31 [(2, .slice A_13 y_2.length cap_13), (13, .agg #[.slice A_1 d0.fOwned.length cap_1, .slice A_2 d0.fPending.length cap_2, .slice A_3 d0.fRetained.length cap_3]), (14, .int .i64 y_1.2)] a ∧ Hp w0 M_5 ((Ent.row 9 1 (.slice A_13 y_2.length cap_13) y_2.length cs_4) :: H) w))) (R_loop (n := 31) (w0 := w0) (M := M_3) (fun (x : Nat × (List (List UInt8) × Int) × (Option Addr) × Nat × (List Value)) => match x with | (m_3, s_2, A_9, cap_9, cs_2) => [(2, .slice A_9 s_2.1.length cap_9), (13, .agg #[.slice A_1 d0.fOwned.length cap_1, .slice A_2 d0.fPending.length cap_2, .slice A_3 d0.fRetained.length cap_3]), (14, .int .i64 y_1.2), (17, .slice A_8 y_1.1.length cap_8), (18, .int .i64 ((y_1.1.length : Nat) : Int)), (19, .int .i64 s_2.2)]) (fun (x : Nat × (List (List UInt8) × Int) × (Option Addr) × Nat × (List Value)) => match x with | (m_3, s_2, A_9, cap_9, cs_2) => ((Ent.row 9 1 (.slice A_9 s_2.1.length cap_9) s_2.1.length cs_2) :: H)) (fun (x : Nat × (List (List UInt8) × Int) × (Option Addr) × Nat × (List Value)) (MM : Mem) => match x with | (m_3, s_2, A_9, cap_9, cs_2) => loopF (state_Live_s2 n y_1) m_3 s_2 = some b_3 ∧ RepSeq MM (s_2.1.map Dat.str) cs_2) (fun (x : Nat × (List (List UInt8) × Int) × (Option Addr) × Nat × (List Value)) => match x with | (m_3, s_2, A_9, cap_9, cs_2) => m_3) (n, (s_1.1, (0 : Int)), A_7, cap_7, cs_1) (f.kp) p_4 ⟨hL_2, (RepSeq.mono hM_3 _ _ hr_2)⟩ ?_) ?_
    ·rintro ⟨m_3, s_2, A_9, cap_9, cs_2⟩ M_4 _ w_4 hM_4 I_2 f p_5
     obtain ⟨I_2L, hr_3⟩ := I_2
     obtain ⟨m_4, r_2, rfl, hs_2, hn_2⟩ := loop_step I_2L
     unfold state_Live_s2 at hs_2
     refine RR (Y f 1 fun _ f => eT (R_seq (RcF f hs_2 (fun h_10 hF_10 => ?_) fun h_10 hF_14 => ?_)))
     ·have k_2 := dI.1 h_10
      refine wp_skip (T_n (R_seq (wp_block (RR ?_))))
      obtain ⟨x_1, hx_1, hF_11⟩ := bS hF_10
      obtain ⟨ad_1, c_1, e_6, -, hr_4, hc_3⟩ := Sli.at_ (h_9.mono hM_4) hx_1
      obtain ⟨A_10, cap_10, A_11, cap_11, rfl, h_11, h_12⟩ := TU0.opn hr_4
      refine Z f (Y30 e_6 rfl (len := y_1.1.length) (cap := cap_8) (k := .i64) (i := s_2.2) (e := 43) (sz := 6) (getI_nn hx_1) (getI_lt hx_1)) fun _ f => Z (v := .agg #[S x_1.fId, S x_1.fType, S x_1.fPhys, .slice A_10 x_1.fProps.length cap_10, .bool x_1.fRetain, .slice A_11 x_1.fLeans.length cap_11]) f (Y32 (cs := [S x_1.fId, S x_1.fType, S x_1.fPhys, .slice A_10 x_1.fProps.length cap_10, .bool x_1.fRetain, .slice A_11 x_1.fLeans.length cap_11]) rfl (ad := ad_1.add (s_2.2.toNat * 6)) (fun j v h => p_5.cell (hc_3 j v h))) fun _ f => Y12 f p_5 (.cells #[S [], S [], S [], .slice none 0 0, .bool false, .slice none 0 0] 43 (0, 0)) fun b_4 w_5 p_6 _ f => Y27 (vs := [S x_1.fId, S x_1.fType, S x_1.fPhys, .slice A_10 x_1.fProps.length cap_10, .bool x_1.fRetain, .slice A_11 x_1.fLeans.length cap_11]) (j := 0) f p_6 rfl rfl (by simp [Value.oneCell', S]) (by simp) (by decide) (cs' := #[S x_1.fId, S x_1.fType, S x_1.fPhys, .slice A_10 x_1.fProps.length cap_10, .bool x_1.fRetain, .slice A_11 x_1.fLeans.length cap_11]) fun w_6 p_7 _ f => eT (R_reg (Y f 2 fun _ f => Z f (Y31 (v := S x_1.fPhys) rfl (ad := ⟨b_4, 2, none⟩) (p_7.ownCell 0 rfl 2)) fun _ f => V_allocS (k := 1) (c := 1) f p_7 (.cells #[S x_1.fPhys] 9 (0, 0)) (by kernel_rfl) (fun _ => by kernel_rfl) fun b_5 w_7 p_8 _ f => ?_))
      have p_9 := p_8.pl [2]
      obtain ⟨g_2, hF_12⟩ := nS hF_11
      refine Y21 (z := S []) (f := Dat.str) (xs := s_2.1) (ys := [x_1.fPhys]) (news := [S x_1.fPhys]) (ad := ⟨b_5, 0, none⟩) (m := 1) (c := 1) f p_9 hr_3 (by exact ⟨_, _, rfl, rfl, rfl⟩) rfl rfl rfl rfl (own_cells (p_9.ownCell 1 rfl) 0 rfl) (by exact g_2) (by have hg_ := g_2; first | omega | (simp only [List.length_cons, List.length_nil] at *; omega)) fun A_12 cap_12 cs_3 w_8 p_10 hr_5 _ f => ?_
      have p_11 := p_10.pl [1]
      have p_12 := p_11.drop
      refine Y f 1 fun _ f => W_end rfl (B_n (T_n (R_reg ?_)))
      obtain ⟨g_3, hF_13⟩ := nS hF_12
      refine Y f 1 fun _ f => ?_
      have f := f.st 28 (congrArg (Value.int .i64) (inR_wrap g_3))
      refine Y f 1 fun _ f => W_end rfl ?_
      have p_14 := p_12.pl [1]
      refine T_n ?_
      obtain rfl := sI hF_13
      exact ⟨⟨m_4, (s_2.1 ++ [x_1.fPhys], s_2.2 + 1), A_12, cap_12, cs_3⟩, Nat.lt_succ_self _, M_4, hM_4, ⟨hn_2, hr_5⟩, f.kp, (p_14.dropN 1)⟩
     ·have k_3 := iff_f dI h_10
      refine wp_exit (T_x (T_x ?_))
      obtain rfl := sI hF_14
      exact ⟨rfl, s_2.1, (sI hn_2).symm, M_4, hM_4, A_9, cap_9, cs_2, hr_3, f.kp, p_5⟩
    ·rintro _ _ w_10 ⟨rfl, y_2, hq_, M_5, hM_5, A_13, cap_13, cs_4, hr_6, f, p_13⟩
     subst b_3
     refine B_x (B_n (T_n (R_reg ?_)))
     obtain ⟨g_4, hF_15⟩ := nS hF_9
     refine Y f 1 fun _ f => ?_
     have f := f.st 29 (congrArg (Value.int .i64) (inR_wrap g_4))
     refine Y f 1 fun _ f => eT ?_
     obtain rfl := sI hF_15
     exact ⟨⟨m_2, (y_2, y_1.2 + 1), A_13, cap_13, cs_4⟩, Nat.lt_succ_self _, M_5, ((hM_2.trans hM_3).trans hM_5), ⟨hn_1, hr_6⟩, f.kp, p_13⟩
  ·have k_4 := iff_f dI h_6
   refine wp_exit (T_x (T_x ?_))
   obtain rfl := sI hF_16
   exact ⟨rfl, s_1.1, (sI hn_1).symm, M_2, hM_2, A_7, cap_7, cs_1, hr_2, f.kp, p_3⟩
 ·rintro _ _ w_12 ⟨rfl, y_3, hq_, M_6, hM_6, A_14, cap_14, cs_5, hr_7, f, p_15⟩
  subst b_2
  refine B_x (T_n (RR (Y f 2 fun _ f => eT (wp_ret (E_ret1 f rfl (by kernel_rfl : Vc.look _ 2 = some (.slice A_14 y_3.length cap_14)) ?_)))))
  obtain rfl := sI hF_1
  exact ⟨_, rfl, M_6, _, (hM_1.trans hM_6), p_15, ⟨A_14, cap_14, cs_5, rfl, rfl, hr_7⟩⟩
def slices_Clonestring_string_z (n : Nat) (d0 : List (List UInt8)) (z0 : Bool) : Option (List (List UInt8)) :=
  bif z0 then
    (some (([] : List (List UInt8))))
  else
    need ((([] : List (List UInt8)).length + d0.length) * 16 ≤ 140737488355328) <|
    some (([] : List (List UInt8)) ++ d0)
theorem slices_Clonestring_string_z_ok (n : Nat) (M : Mem) (A0 : Option Addr) (cap0 : Nat) (d0 : List (List UInt8)) (h0 : Sli M 1 Dat.str A0 cap0 d0) (z0 : Bool) (hz0 : A0.isNone = z0) (r : List (List UInt8)) (hF : slices_Clonestring_string_z n d0 z0 = some r) : OkH Try.prog M [] 77 [.slice A0 d0.length cap0] (fun M' E' v => ∃ (A0 : Option Addr) (k0 : Nat) (s0 : List Value), v = .slice A0 r.length k0 ∧ E' = [.row 9 1 (.slice A0 r.length k0) r.length s0] ∧ RepSeq M' (r.map Dat.str) s0) := by
 unfold slices_Clonestring_string_z at hF
 intro M1 hM0 w0 H w p0
 replace h0 := h0.mono hM0
 refine R_enter 8 Try.func77 rfl rfl (by simp) fun a0 f0 => RR (Y f0 1 fun _ f => eT (R_seq (RR (Y f 1 fun _ f => Z (v := .bool A0.isNone) f (X_slicenil (A := A0) (n := d0.length) (c := cap0) (e := 9) rfl (by kernel_rfl) (by kernel_rfl) (by kernel_rfl) _) fun _ f => ?_))))
 have f := Frm.set f 4 (v := .bool A0.isNone) (v' := .bool z0) (by kernel_rfl) (cB hz0)
 refine eT (RcF f hF (fun h_1 hF_1 => ?_) fun h_1 hF_2 => ?_)
 ·refine RR (Y f 1 fun _ f => eT (wp_ret (T_r ?_)))
  obtain ⟨A_1, cap_1, hv_1⟩ : ∃ A cap, Value.slice none 0 0 = .slice A ([] : List (List UInt8)).length cap := ⟨none, 0, rfl⟩
  have p_1 : Hp w0 M1 ((Ent.row 9 1 (.slice A_1 ([] : List (List UInt8)).length cap_1) ([] : List (List UInt8)).length []) :: H) w := by rw [← hv_1]; exact p0.nilRow 9 1
  have f := f.st 2 (hv_1)
  have hr_1 : RepSeq M1 (([] : List (List UInt8)).map Dat.str) [] := rfl
  refine E_ret1 f rfl (by kernel_rfl : Vc.look _ 2 = some (.slice A_1 ([] : List (List UInt8)).length cap_1)) ?_
  obtain rfl := sI hF_1
  exact ⟨_, rfl, M1, _, (mR _), p_1, ⟨A_1, cap_1, [], rfl, rfl, hr_1⟩⟩
 ·refine wp_skip (T_n (RR (V_allocS (k := 0) (c := 0) f p0 (.cells #[] 9 (0, 0)) (by kernel_rfl) (fun _ => by kernel_rfl) fun b_1 w_1 p_2 _ f => Y f 1 fun _ f => ?_)))
  have hr_2 : RepSeq M1 (([] : List (List UInt8)).map Dat.str) [] := rfl
  have p_3 : Hp w0 M1 ((Ent.row 9 1 (.slice (some ⟨b_1, 0, none⟩) 0 0) ([] : List (List UInt8)).length []) :: H) w_1 := p_2.objRow (n := 0) (cap := 0) (size := 1) (by decide) (by decide) (blk_eq (by decide) rfl) rfl rfl
  obtain ⟨g_1, hF_3⟩ := nS hF_2
  refine Y22 (z := S []) (f := Dat.str) (xs := ([] : List (List UInt8))) (ys := d0) (c := cap0) f p_3 hr_2 h0 rfl rfl rfl g_1 (by omega) fun A_2 cap_2 cs_1 w_2 p_4 hr_3 _ f => Y f 1 fun _ f => eT (wp_ret (E_ret1 f rfl (by kernel_rfl : Vc.look _ 2 = some (.slice A_2 (([] : List (List UInt8)) ++ d0).length cap_2)) ?_))
  obtain rfl := sI hF_3
  exact ⟨_, rfl, M1, _, (mR _), p_4, ⟨A_2, cap_2, cs_1, rfl, rfl, hr_3⟩⟩
def slices_Clonestring_string (_ : Nat) (d0 : List (List UInt8)) : Option (List (List UInt8)) := need (d0.length * 16 ≤ 140737488355328) (some d0)
theorem slices_Clonestring_string_ok (n : Nat) (M : Mem) (A0 : Option Addr) (cap0 : Nat) (d0 : List (List UInt8)) (h0 : Sli M 1 Dat.str A0 cap0 d0) (r : List (List UInt8)) (hF : slices_Clonestring_string n d0 = some r) : OkH Try.prog M [] 77 [.slice A0 d0.length cap0] (fun M' E' v => ∃ (A0 : Option Addr) (k0 : Nat) (s0 : List Value), v = .slice A0 r.length k0 ∧ E' = [.row 9 1 (.slice A0 r.length k0) r.length s0] ∧ RepSeq M' (r.map Dat.str) s0) := by
 unfold slices_Clonestring_string at hF
 obtain ⟨g, hF⟩ := nS hF
 obtain rfl := sI hF
 refine slices_Clonestring_string_z_ok n M A0 cap0 d0 h0 A0.isNone rfl d0 ?_
 unfold slices_Clonestring_string_z
 cases A0 with
 | none =>
  obtain ⟨h1, h2, _⟩ := h0
  have h3 := h2 rfl
  obtain rfl : d0 = [] := List.eq_nil_of_length_eq_zero (by omega)
  rfl
 | some a => simp [need]; omega
def state_Check_1 (n : Nat) (d0 : TU0) (d1 : TU0) : Option Int :=
  bif (Op.bytesLess d0.fId d1.fId) then
    (some ((-1 : Int)))
  else
    some ((1 : Int))
theorem state_Check_1_ok (n : Nat) (M : Mem) (c0 : List Value) (d0 : TU0) (h0 : Rep M (emb_TU0 d0) c0) (c1 : List Value) (d1 : TU0) (h1 : Rep M (emb_TU0 d1) c1) (r : Int) (hF : state_Check_1 n d0 d1 = some r) : Ok Try.prog M 75 [.agg c0.toArray, .agg c1.toArray] (fun _ v => v = .int .i64 r) := by
 unfold state_Check_1 at hF
 intro M1 hM0 w0 H w p0
 replace h0 := Rep.mono hM0 _ _ h0
 replace h1 := Rep.mono hM0 _ _ h1
 obtain ⟨A_1, cap_1, A_2, cap_2, rfl, h_1, h_2⟩ := TU0.opn h0
 obtain ⟨A_3, cap_3, A_4, cap_4, rfl, h_3, h_4⟩ := TU0.opn h1
 refine R_enter 10 Try.func75 rfl rfl (by simp) fun a0 f0 => RR (Y13 (cs := #[S d0.fId, S d0.fType, S d0.fPhys, .slice A_1 d0.fProps.length cap_1, .bool d0.fRetain, .slice A_2 d0.fLeans.length cap_2]) (T := 43) f0 p0 fun b_1 M_1 w_1 hM_1 hc_1 p_1 _ f => ?_)
 have hc_2 := fz_box hc_1
 refine Y13 (cs := #[S d1.fId, S d1.fType, S d1.fPhys, .slice A_3 d1.fProps.length cap_3, .bool d1.fRetain, .slice A_4 d1.fLeans.length cap_4]) (T := 43) f p_1 fun b_2 M_2 w_2 hM_2 hc_3 p_2 _ f => ?_
 have hc_4 := fz_box hc_3
 refine Y f 1 fun _ f => eT (R_seq (RR (Y f 1 fun _ f => Y15 f p_2 (fzu hM_2 hc_2) 0 rfl fun _ f => Y f 1 fun _ f => Y15 f p_2 hc_4 0 rfl fun _ f => Z (v := .bool (Op.bytesLess d0.fId d1.fId)) f (X_strlt rfl (l := d0.fId) (m := d1.fId) (by kernel_rfl) (by kernel_rfl)) fun _ f => eT (RcF f hF (fun h_5 hF_1 => ?_) fun h_5 hF_2 => ?_))))
 ·refine RR (Y f 1 fun _ f => eT (wp_ret (T_r (E_ret1 f rfl (by kernel_rfl : Vc.look _ 4 = some (.int .i64 (-1))) ?_))))
  obtain rfl := sI hF_1
  exact ⟨_, rfl, M_2, (hM_1.trans hM_2), p_2, rfl⟩
 ·refine wp_skip (T_n (RR (Y f 1 fun _ f => eT (wp_ret (E_ret1 f rfl (by kernel_rfl : Vc.look _ 4 = some (.int .i64 1)) ?_)))))
  obtain rfl := sI hF_2
  exact ⟨_, rfl, M_2, (hM_1.trans hM_2), p_2, rfl⟩
def state_Check_s1 (n : Nat) (d0 : TG0) (s_1 : Int) : Option (Lp Int (Sum Unit Unit)) :=
    bif (decide (s_1 < ((d0.fOwned.length : Nat) : Int))) then
      (need (inR .i64 (s_1 - 1)) <|
      (getI d0.fOwned (s_1 - 1)).bind fun x_5 =>
      (getI d0.fOwned s_1).bind fun x_6 =>
      (state_Check_1 n x_5 x_6).bind fun x_7 =>
      bif (decide ((0 : Int) < x_7)) then
        (some (.br (.inl ())))
      else
        need (inR .i64 (s_1 + 1)) <|
        some (.nx (s_1 + 1)))
    else
      some (.br (.inr ()))
def state_Check (n : Nat) (d0 : TG0) : Option Int :=
  (state_Live n d0).bind fun x_1 =>
  (h_SortS n x_1).bind fun x_2 =>
  (slices_Clonestring_string n x_2).bind fun x_3 =>
  (h_CompactS n x_3).bind fun x_4 =>
  ((bif (!(decide (((x_4.length : Nat) : Int) = ((x_2.length : Nat) : Int)))) then
      (some ((true)))
    else
      bif (decide (d0.fCalls < 0)) then
        (some ((true)))
      else
        bif (decide ((1099511627776 : Int) < d0.fCalls)) then
          (some ((true)))
        else
          bif (decide (d0.fStatus < 0)) then
            (some ((true)))
          else
            some ((decide ((6 : Int) < d0.fStatus))) : Option Bool)).bind fun y_1 =>
  bif y_1 then
    (some ((2 : Int)))
  else
    (loopF (state_Check_s1 n d0) n (1 : Int)).bind fun b_2 =>
    (match b_2 with 
    | .inl y_2 => some ((2 : Int)) 
    | .inr y_3 => some ((0 : Int)))
set_option maxRecDepth 20000 in
theorem state_Check_ok (n : Nat) (M : Mem) (c0 : List Value) (d0 : TG0) (h0 : Rep M (emb_TG0 d0) c0) (r : Int) (hF : state_Check n d0 = some r) : Ok Try.prog M 61 [.agg c0.toArray] (fun _ v => v = .int .i64 r) := by
 unfold state_Check at hF
 intro M1 hM0 w0 H w p0
 replace h0 := Rep.mono hM0 _ _ h0
 obtain ⟨A_1, cap_1, A_2, cap_2, A_3, cap_3, A_4, cap_4, A_5, cap_5, rfl, h_1, h_2, h_3, h_4, h_5⟩ := TG0.opn h0
 refine R_enter 60 Try.func61 rfl rfl (by simp) fun a0 f0 => RR (Y13 (cs := #[.slice A_1 d0.fOwned.length cap_1, .slice A_2 d0.fPending.length cap_2, .slice A_3 d0.fRetained.length cap_3, .slice A_4 d0.fOuts.length cap_4, S d0.fText, .slice A_5 d0.fArgs.length cap_5, .int .i64 d0.fCalls, .int .i8 d0.fStatus]) (T := 47) f0 p0 fun b_1 M_1 w_1 hM_1 hc_1 p_1 _ f => ?_)
 have hc_2 := fz_box hc_1
 refine Y f 1 fun _ f => eT (RR (Z (v := .agg #[.slice A_1 d0.fOwned.length cap_1, .slice A_2 d0.fPending.length cap_2, .slice A_3 d0.fRetained.length cap_3, .slice A_4 d0.fOuts.length cap_4, S d0.fText, .slice A_5 d0.fArgs.length cap_5, .int .i64 d0.fCalls, .int .i8 d0.fStatus]) f (Y32 (cs := [.slice A_1 d0.fOwned.length cap_1, .slice A_2 d0.fPending.length cap_2, .slice A_3 d0.fRetained.length cap_3, .slice A_4 d0.fOuts.length cap_4, S d0.fText, .slice A_5 d0.fArgs.length cap_5, .int .i64 d0.fCalls, .int .i8 d0.fStatus]) rfl (ad := ⟨b_1, 0, none⟩) (fun j v h => p_1.cell (hc_2 j v h))) fun _ f => ?_))
 obtain ⟨x_1, hx_1, hF_1⟩ := bS hF
 refine Y17 (E := []) (H := (H)) f p_1 (state_Live_ok n _ _ d0 (TG0.shutx (x := d0) (h_1.mono hM_1) (h_2.mono hM_1) (h_3.mono hM_1) (h_4.mono hM_1) (h_5.mono hM_1)) x_1 hx_1) fun _ M_2 E_1 w_2 hM_2 p_2 q_1 _ f => ?_
 obtain ⟨A_6, cap_6, cs_1, rfl, rfl, hr_1⟩ := q_1
 refine Y f 1 fun _ f => eT (RR (Y f 1 fun _ f => ?_))
 obtain ⟨x_2, hx_2, hF_2⟩ := bS hF_1
 refine Y17 (E := [Ent.row 9 1 (.slice A_6 x_1.length cap_6) x_1.length cs_1]) (H := (H)) f p_2 (h_SortS_ok n _ A_6 cap_6 x_1 cs_1 hr_1 x_2 hx_2) fun _ M_3 E_2 w_3 hM_3 p_3 q_2 _ f => ?_
 obtain ⟨cs_2, rfl, rfl, hr_2, hl_1⟩ := q_2
 have hv_1 : (.slice A_6 x_1.length cap_6 : Value) = .slice A_6 x_2.length cap_6 := by rw [hl_1]
 have p_4 : Hp w0 M_3 ((Ent.row 9 1 (.slice A_6 x_2.length cap_6) x_2.length cs_2) :: H) w_3 := by rw [← hv_1]; exact p_3
 have f := f.st 3 (hv_1)
 have f := f.st 9 (hv_1)
 refine eT (RR (Y f 1 fun _ f => eT (RR (Y f 1 fun _ f => ?_))))
 obtain ⟨M_4, A_7, cap_7, hM_4, hv_2, p_5, h_6, hb_1⟩ := p_4.lend (f := Dat.str) (xs := x_2) szd_str hr_2
 have f := f.st 3 (hv_2)
 have f := f.st 11 (hv_2)
 obtain ⟨x_3, hx_3, hF_3⟩ := bS hF_2
 refine Y17 (E := []) (H := (H)) f p_5 (slices_Clonestring_string_ok n _ A_7 cap_7 x_2 h_6 x_3 hx_3) fun _ M_5 E_3 w_4 hM_5 p_6 q_3 _ f => ?_
 obtain ⟨A_8, cap_8, cs_3, rfl, rfl, hr_3⟩ := q_3
 have hr_4 : ∀ M, RepSeq M (x_3.map Dat.str) cs_3 := fun M => RepSeq.flat flat_str _ hr_3
 obtain ⟨M_6, hM_6, p_7⟩ := hb_1 _ _ _ hM_5 p_6
 have f := f.st 3 (hv_2.symm)
 have f := f.st 11 (hv_2.symm)
 have hr_5 := hr_4 M_6
 have p_8 := p_7.pl [1]
 obtain ⟨x_4, hx_4, hF_4⟩ := bS hF_3
 refine Y17 (E := [Ent.row 9 1 (.slice A_8 x_3.length cap_8) x_3.length cs_3]) (H := ((Ent.row 9 1 (.slice A_6 x_2.length cap_6) x_2.length cs_2) :: H)) f p_8 (h_CompactS_ok n _ A_8 cap_8 x_3 cs_3 hr_5 x_4 hx_4) fun _ M_7 E_4 w_5 hM_7 p_9 q_4 _ f => ?_
 obtain ⟨cs_4, rfl, rfl, hr_6⟩ := q_4
 refine Y f 5 fun _ f => eT (R_seq (R_seq ?_))
 obtain ⟨j_1, hj_1, hF_5⟩ := bS hF_4
 refine R_mid (fun a_30 w_6 => ∃ y_1 : Bool, j_1 = y_1 ∧ ∃ M_8 : Mem, M_7.le M_8 ∧ Frm 60 [(1, .pointer (some (⟨b_1, 0, none⟩))), (4, .func (.func 75) #[] #[]), (38, .bool y_1)] a_30 ∧ Hp w0 M_8 ((Ent.row 9 1 (.slice A_8 x_4.length cap_8) x_4.length cs_4) :: (Ent.row 9 1 (.slice A_6 x_2.length cap_6) x_2.length cs_2) :: H) w_6) ?_ ?_
 ·refine R_reg (Y f 2 fun _ f => ?_)
  rcases cE hj_1 with ⟨h_7, hF_6⟩ | ⟨h_7, hF_7⟩
  ·have k_1 : ¬ (((x_4.length : Nat) : Int) = ((x_2.length : Nat) : Int)) := (not_iff dI).1 h_7
   have f := f.st 19 (cB h_7)
   refine Y f 19 fun _ f => eT ?_
   exact ⟨(true), (sI hF_6).symm, M_7, (mR _), f.kp, p_9⟩
  ·have k_2 : ¬ (¬ (((x_4.length : Nat) : Int) = ((x_2.length : Nat) : Int))) := iff_f (not_iff dI) h_7
   have f := f.st 19 (cB h_7)
   refine Y f 1 fun _ f => Y15 f p_9 (fzu (((hM_2.trans hM_3).trans hM_6).trans hM_7) hc_2) 6 rfl fun _ f => Y f 3 fun _ f => ?_
   rcases cE hF_7 with ⟨h_8, hF_8⟩ | ⟨h_8, hF_9⟩
   ·have k_3 := dI.1 h_8
    have f := f.st 24 (cB h_8)
    refine Y f 14 fun _ f => eT ?_
    exact ⟨(true), (sI hF_8).symm, M_7, (mR _), f.kp, p_9⟩
   ·have k_4 := iff_f dI h_8
    have f := f.st 24 (cB h_8)
    refine Y f 1 fun _ f => Y15 f p_9 (fzu (((hM_2.trans hM_3).trans hM_6).trans hM_7) hc_2) 6 rfl fun _ f => Y f 3 fun _ f => ?_
    rcases cE hF_9 with ⟨h_9, hF_10⟩ | ⟨h_9, hF_11⟩
    ·have k_5 := dI.1 h_9
     have f := f.st 29 (cB h_9)
     refine Y f 9 fun _ f => eT ?_
     exact ⟨(true), (sI hF_10).symm, M_7, (mR _), f.kp, p_9⟩
    ·have k_6 := iff_f dI h_9
     have f := f.st 29 (cB h_9)
     refine Y f 1 fun _ f => Y15 f p_9 (fzu (((hM_2.trans hM_3).trans hM_6).trans hM_7) hc_2) 7 rfl fun _ f => Y f 3 fun _ f => ?_
     rcases cE hF_11 with ⟨h_10, hF_12⟩ | ⟨h_10, hF_13⟩
     ·have k_7 := dI.1 h_10
      have f := f.st 34 (cB h_10)
      refine Y f 4 fun _ f => eT ?_
      exact ⟨(true), (sI hF_12).symm, M_7, (mR _), f.kp, p_9⟩
     ·have k_8 := iff_f dI h_10
      have f := f.st 34 (cB h_10)
      refine Y f 1 fun _ f => Y15 f p_9 (fzu (((hM_2.trans hM_3).trans hM_6).trans hM_7) hc_2) 7 rfl fun _ f => Y f 2 fun _ f => eT ?_
      exact ⟨(decide ((6 : Int) < d0.fStatus)), (sI hF_13).symm, M_7, (mR _), f.kp, p_9⟩
 ·rintro a_30 w_6 ⟨y_1, hq_1, M_8, hM_8, f, p_10⟩
  subst j_1
  refine T_n (RcF f hF_5 (fun h_11 hF_14 => ?_) fun h_11 hF_15 => ?_)
  ·refine RR (Y f 1 fun _ f => eT (wp_ret (T_r (E_ret1 f rfl (by kernel_rfl : Vc.look _ 2 = some (.int .i64 2)) ?_))))
   obtain rfl := sI hF_14
   exact ⟨_, rfl, M_8, (((((hM_1.trans hM_2).trans hM_3).trans hM_6).trans hM_7).trans hM_8), (p_10.dropN 2), rfl⟩
  ·refine wp_skip (T_n (R_seq (RR (Y f 1 fun _ f => eT (wp_block ?_)))))
   obtain ⟨b_2, hL_1, hF_16⟩ := bS hF_15
   refine wp_mono (Q := fun e a w => (e = .ret ∧ (∃ y_2 : Unit, b_2 = .inl y_2 ∧ ∃ M_10 : Mem, M_8.le M_10 ∧ Frm 60 [(2, .int .i64 2)] a ∧ Hp w0 M_10 ((Ent.row 9 1 (.slice A_8 x_4.length cap_8) x_4.length cs_4) :: (Ent.row 9 1 (.slice A_6 x_2.length cap_6) x_2.length cs_2) :: H) w)) ∨ (e = .exit 0 ∧ (∃ y_3 : Unit, b_2 = .inr y_3 ∧ ∃ M_11 : Mem, M_8.le M_11 ∧ Frm 60 [] a ∧ Hp w0 M_11 ((Ent.row 9 1 (.slice A_8 x_4.length cap_8) x_4.length cs_4) :: (Ent.row 9 1 (.slice A_6 x_2.length cap_6) x_2.length cs_2) :: H) w))) (R_loop (n := 60) (w0 := w0) (M := M_8) (fun (x : Nat × Int) => match x with | (m_1, s_1) => [(1, .pointer (some (⟨b_1, 0, none⟩))), (4, .func (.func 75) #[] #[]), (6, .int .i64 s_1)]) (fun (x : Nat × Int) => match x with | (m_1, s_1) => ((Ent.row 9 1 (.slice A_8 x_4.length cap_8) x_4.length cs_4) :: (Ent.row 9 1 (.slice A_6 x_2.length cap_6) x_2.length cs_2) :: H)) (fun (x : Nat × Int) (MM : Mem) => match x with | (m_1, s_1) => loopF (state_Check_s1 n d0) m_1 s_1 = some b_2) (fun (x : Nat × Int) => match x with | (m_1, s_1) => m_1) (n, (1 : Int)) (f.kp) p_10 hL_1 ?_) ?_
   ·rintro ⟨m_1, s_1⟩ M_9 _ w_7 hM_9 I_1 f p_11
    have I_1L := I_1
    obtain ⟨m_2, r_1, rfl, hs_1, hn_1⟩ := loop_step I_1L
    unfold state_Check_s1 at hs_1
    refine R_seq (RR (Y f 2 fun _ f => Y15 f p_11 (fzu (((((hM_2.trans hM_3).trans hM_6).trans hM_7).trans hM_8).trans hM_9) hc_2) 0 rfl fun _ f => Y f 2 fun _ f => eT (RcF f hs_1 (fun h_12 hF_17 => ?_) fun h_12 hF_25 => ?_)))
    ·have k_11 := dI.1 h_12
     refine wp_skip (T_n (R_seq (wp_block (R_seq (R_draw p_11 (by kernel_rfl) (by kernel_rfl) (Y5 default f 2 fun _ f => Y4 f (fzu (((((hM_2.trans hM_3).trans hM_6).trans hM_7).trans hM_8).trans hM_9) hc_2) 0 rfl fun _ f => Y5 default f 1 fun _ f => ?_))))))
     obtain ⟨g_1, hF_18⟩ := nS hF_17
     refine Y2 (v := .int .i64 (IntKind.wrap .i64 (s_1 - 1))) f (fun _ pq => by kernel_rfl) fun _ f => ?_
     have f := f.st 50 (congrArg (Value.int .i64) (inR_wrap g_1))
     obtain ⟨x_5, hx_5, hF_19⟩ := bS hF_18
     obtain ⟨ad_1, c_1, e_1, -, hr_7, hc_3⟩ := Sli.at_ (h_1.mono ((((((hM_1.trans hM_2).trans hM_3).trans hM_6).trans hM_7).trans hM_8).trans hM_9)) hx_5
     obtain ⟨A_9, cap_9, A_10, cap_10, rfl, h_13, h_14⟩ := TU0.opn hr_7
     refine Y2 (v := .pointer (some (ad_1.add ((s_1 - 1).toNat * 6)))) f (fun _ pq => Y30 e_1 rfl (len := d0.fOwned.length) (cap := cap_1) (k := .i64) (i := s_1 - 1) (e := 43) (sz := 6) (getI_nn hx_5) (getI_lt hx_5)) fun _ f => Y2 (v := .agg #[S x_5.fId, S x_5.fType, S x_5.fPhys, .slice A_9 x_5.fProps.length cap_9, .bool x_5.fRetain, .slice A_10 x_5.fLeans.length cap_10]) f (fun _ pq => Y32 (cs := [S x_5.fId, S x_5.fType, S x_5.fPhys, .slice A_9 x_5.fProps.length cap_9, .bool x_5.fRetain, .slice A_10 x_5.fLeans.length cap_10]) rfl (ad := ad_1.add ((s_1 - 1).toNat * 6)) (fun j v h => pq.cell (hc_3 j v h))) fun _ f => Y5 default f 1 fun _ f => Y4 f (fzu (((((hM_2.trans hM_3).trans hM_6).trans hM_7).trans hM_8).trans hM_9) hc_2) 0 rfl fun _ f => Y5 default f 1 fun _ f => ?_
     obtain ⟨x_6, hx_6, hF_20⟩ := bS hF_19
     obtain ⟨ad_2, c_2, e_2, -, hr_8, hc_4⟩ := Sli.at_ (h_1.mono ((((((hM_1.trans hM_2).trans hM_3).trans hM_6).trans hM_7).trans hM_8).trans hM_9)) hx_6
     obtain ⟨A_11, cap_11, A_12, cap_12, rfl, h_15, h_16⟩ := TU0.opn hr_8
     refine Y2 (v := .pointer (some (ad_2.add (s_1.toNat * 6)))) f (fun _ pq => Y30 e_2 rfl (len := d0.fOwned.length) (cap := cap_1) (k := .i64) (i := s_1) (e := 43) (sz := 6) (getI_nn hx_6) (getI_lt hx_6)) fun _ f => Y2 (v := .agg #[S x_6.fId, S x_6.fType, S x_6.fPhys, .slice A_11 x_6.fProps.length cap_11, .bool x_6.fRetain, .slice A_12 x_6.fLeans.length cap_12]) f (fun _ pq => Y32 (cs := [S x_6.fId, S x_6.fType, S x_6.fPhys, .slice A_11 x_6.fProps.length cap_11, .bool x_6.fRetain, .slice A_12 x_6.fLeans.length cap_12]) rfl (ad := ad_2.add (s_1.toNat * 6)) (fun j v h => pq.cell (hc_4 j v h))) fun _ f => ?_
     obtain ⟨x_7, hx_7, hF_21⟩ := bS hF_20
     refine Y3 f (state_Check_1_ok n _ _ x_5 (TU0.shutx (x := x_5) h_13 h_14) _ x_6 (TU0.shutx (x := x_6) h_15 h_16) x_7 hx_7) fun _ f => Y5 default f 1 fun _ f => Q_end rfl ?_
     intro w_9 p_13
     refine T_n (RcF f hF_21 (fun h_17 hF_22 => ?_) fun h_17 hF_23 => ?_)
     ·have k_12 := dI.1 h_17
      refine RR (Y f 1 fun _ f => eT (wp_ret (B_r (T_r (T_r ?_)))))
      obtain rfl := sI hF_22
      exact .inl ⟨rfl, (), (sI hn_1).symm, M_9, hM_9, f.kp, p_13⟩
     ·have k_13 := iff_f dI h_17
      refine wp_skip (B_n (T_n (R_reg (Y f 1 fun _ f => ?_))))
      obtain ⟨g_2, hF_24⟩ := nS hF_23
      refine Y f 1 fun _ f => ?_
      have f := f.st 45 (congrArg (Value.int .i64) (inR_wrap g_2))
      refine Y f 1 fun _ f => eT ?_
      obtain rfl := sI hF_24
      exact ⟨⟨m_2, s_1 + 1⟩, Nat.lt_succ_self _, M_9, hM_9, hn_1, f.kp, p_13⟩
    ·have k_14 := iff_f dI h_12
     refine wp_exit (T_x (T_x ?_))
     obtain rfl := sI hF_25
     exact .inr ⟨rfl, (), (sI hn_1).symm, M_9, hM_9, f.kp, p_11⟩
   ·rintro _ _ w_12 (⟨rfl, y_2, rfl, M_10, hM_10, f, p_14⟩ | ⟨rfl, y_3, rfl, M_11, hM_11, f, p_15⟩)
    ·refine B_r (T_r (E_ret1 f rfl (by kernel_rfl : Vc.look _ 2 = some (.int .i64 2)) ?_))
     obtain rfl := sI hF_16
     exact ⟨_, rfl, M_10, ((((((hM_1.trans hM_2).trans hM_3).trans hM_6).trans hM_7).trans hM_8).trans hM_10), (p_14.dropN 2), rfl⟩
    ·refine B_x (T_n (RR (Y f 1 fun _ f => eT (wp_ret (E_ret1 f rfl (by kernel_rfl : Vc.look _ 2 = some (.int .i64 0)) ?_)))))
     obtain rfl := sI hF_16
     exact ⟨_, rfl, M_11, ((((((hM_1.trans hM_2).trans hM_3).trans hM_6).trans hM_7).trans hM_8).trans hM_11), (p_15.dropN 2), rfl⟩
def forward_May_s1 (n : Nat) (d0 : TL0) (s_1 : Int × (List (T_forward_key × Bool))) : Option (Lp (Int × (List (T_forward_key × Bool))) (Sum (List (T_forward_key × Bool)) (List (T_forward_key × Bool)))) :=
    bif (decide (s_1.1 < ((d0.fTasks.length : Nat) : Int))) then
      ((getI d0.fTasks s_1.1).bind fun x_4 =>
      ((need (inR .i64 (s_1.1 + 1)) <|
        bif (!(decide (x_4.fCall.fToken = (s_1.1 + 1)))) then
          (some ((true)))
        else
          need (inR .i64 (((d0.fChanges.length : Nat) : Int) - 1)) <|
          (forward_within n x_4.fChange (0 : Int) (((d0.fChanges.length : Nat) : Int) - 1)).bind fun x_5 =>
          bif !x_5 then
            (some ((true)))
          else
            (forward_within_2 n x_4.fState (0 : Int) (2 : Int)).bind fun x_6 =>
            bif !x_6 then
              (some ((true)))
            else
              (forward_within_2 n x_4.fPhase (0 : Int) (2 : Int)).bind fun x_7 =>
              bif !x_7 then
                (some ((true)))
              else
                some (((mget s_1.2 (⟨x_4.fChange, x_4.fPhase⟩ : T_forward_key)).getD false)) : Option Bool)).bind fun y_2 =>
      bif y_2 then
        (some (.br (.inl s_1.2)))
      else
        need (inR .i64 (s_1.1 + 1)) <|
        some (.nx (s_1.1 + 1, mput s_1.2 (⟨x_4.fChange, x_4.fPhase⟩ : T_forward_key) (true))))
    else
      some (.br (.inr s_1.2))
def forward_May_s2 (n : Nat) (x_8 : List (List Int)) (s_2 : Int) : Option (Lp Int (Sum Unit Unit)) :=
    bif (decide (s_2 < ((x_8.length : Nat) : Int))) then
      ((getI x_8 s_2).bind fun x_9 =>
      bif (decide ((0 : Int) < ((x_9.length : Nat) : Int))) then
        (need (inR .i64 (((x_9.length : Nat) : Int) - 1)) <|
        (getI x_9 (((x_9.length : Nat) : Int) - 1)).bind fun x_10 =>
        bif (decide (s_2 ≤ x_10)) then
          (some (.br (.inl ())))
        else
          need (inR .i64 (s_2 + 1)) <|
          some (.nx (s_2 + 1)))
      else
        need (inR .i64 (s_2 + 1)) <|
        some (.nx (s_2 + 1)))
    else
      some (.br (.inr ()))
def forward_May (n : Nat) (d0 : TL0) : Option Bool :=
  (((forward_within n d0.fWidth (1 : Int) (4 : Int)).bind fun x_1 =>
    bif !x_1 then
      (some ((true)))
    else
      (forward_within_2 n d0.fPhase (0 : Int) (3 : Int)).bind fun x_2 =>
      bif !x_2 then
        (some ((true)))
      else
        (state_Check n (⟨d0.fOld.fOwned, d0.fOld.fPending, d0.fOld.fRetained, d0.fOld.fOuts, d0.fOld.fText, d0.fOld.fArgs, d0.fOld.fCalls, d0.fOld.fStatus⟩ : TG0)).bind fun x_3 =>
        some ((!(decide (x_3 = 0)))) : Option Bool)).bind fun y_1 =>
  bif y_1 then
    (some ((false)))
  else
    (loopF (forward_May_s1 n d0) n ((0 : Int), ([] : List (T_forward_key × Bool)))).bind fun b_2 =>
    (match b_2 with 
    | .inl y_3 => some ((false)) 
    | .inr y_4 => (forward_leans n d0).bind fun x_8 =>
      (loopF (forward_May_s2 n x_8) n (0 : Int)).bind fun b_5 =>
      (match b_5 with 
      | .inl y_5 => some ((false)) 
      | .inr y_6 => some ((true))))
set_option maxRecDepth 20000 in
theorem forward_May_ok (n : Nat) (M : Mem) (c0 : List Value) (d0 : TL0) (h0 : Rep M (emb_TL0 d0) c0) (r : Bool) (hF : forward_May n d0 = some r) : Ok Try.prog M 42 [.agg c0.toArray] (fun _ v => v = .bool r) := by
 unfold forward_May at hF
 intro M1 hM0 w0 H w p0
 replace h0 := Rep.mono hM0 _ _ h0
 obtain ⟨A_1, cap_1, A_2, cap_2, A_3, cap_3, A_4, cap_4, A_5, cap_5, A_6, cap_6, A_7, cap_7, A_8, cap_8, A_9, cap_9, A_10, cap_10, rfl, h_1, h_2, h_3, h_4, h_5, h_6, h_7, h_8, h_9, h_10⟩ := TL0.opn h0
 refine R_enter 97 Try.func42 rfl rfl (by simp) fun a0 f0 => RR (Y13 (cs := #[.int .i8 d0.fKind, .int .i64 d0.fWidth, .slice A_1 d0.fOld.fOwned.length cap_1, .slice A_2 d0.fOld.fPending.length cap_2, .slice A_3 d0.fOld.fRetained.length cap_3, .slice A_4 d0.fOld.fOuts.length cap_4, S d0.fOld.fText, .slice A_5 d0.fOld.fArgs.length cap_5, .int .i64 d0.fOld.fCalls, .int .i8 d0.fOld.fStatus, .slice A_6 d0.fNew.fScopes.length cap_6, .slice A_7 d0.fNew.fNodes.length cap_7, S d0.fText, .slice A_8 d0.fArgs.length cap_8, .slice A_9 d0.fChanges.length cap_9, .slice A_10 d0.fTasks.length cap_10, .int .i8 d0.fPhase, .int .i8 d0.fStatus]) (T := 55) f0 p0 fun b_1 M_1 w_1 hM_1 hc_1 p_1 _ f => ?_)
 have hc_2 := fz_box hc_1
 refine Y f 1 fun _ f => eT (R_seq (R_seq ?_))
 obtain ⟨j_1, hj_1, hF_1⟩ := bS hF
 refine R_mid (fun a_17 w_5 => ∃ y_1 : Bool, j_1 = y_1 ∧ ∃ M_2 : Mem, M_1.le M_2 ∧ Frm 97 [(1, .pointer (some (⟨b_1, 0, none⟩))), (24, .bool y_1)] a_17 ∧ Hp w0 M_2 (H) w_5) ?_ ?_
 ·refine R_reg (Y f 1 fun _ f => Y15 f p_1 hc_2 1 rfl fun _ f => ?_)
  obtain ⟨x_1, hx_1, hF_2⟩ := bS hj_1
  refine Y18 f p_1 (forward_within_ok n _ d0.fWidth (1 : Int) (4 : Int) x_1 hx_1) fun w_2 p_2 _ f => Y f 2 fun _ f => ?_
  rcases cE hF_2 with ⟨h_11, hF_3⟩ | ⟨h_11, hF_4⟩
  ·have k_1 : (x_1) = false := by simpa using h_11
   have f := f.st 13 (cB h_11)
   refine Y f 11 fun _ f => eT ?_
   exact ⟨(true), (sI hF_3).symm, M_1, (mR _), f.kp, p_2⟩
  ·have k_2 : (x_1) = true := by simpa using h_11
   have f := f.st 13 (cB h_11)
   refine Y f 1 fun _ f => Y15 f p_2 hc_2 16 rfl fun _ f => ?_
   obtain ⟨x_2, hx_2, hF_5⟩ := bS hF_4
   refine Y18 f p_2 (forward_within_2_ok n _ d0.fPhase (0 : Int) (3 : Int) x_2 hx_2) fun w_3 p_3 _ f => Y f 3 fun _ f => ?_
   rcases cE hF_5 with ⟨h_12, hF_6⟩ | ⟨h_12, hF_7⟩
   ·have k_3 : (x_2) = false := by simpa using h_12
    have f := f.st 19 (cB h_12)
    refine Y f 5 fun _ f => eT ?_
    exact ⟨(true), (sI hF_6).symm, M_1, (mR _), f.kp, p_3⟩
   ·have k_4 : (x_2) = true := by simpa using h_12
    have f := f.st 19 (cB h_12)
    refine Y f 1 fun _ f => Z (v := .agg #[.slice A_1 d0.fOld.fOwned.length cap_1, .slice A_2 d0.fOld.fPending.length cap_2, .slice A_3 d0.fOld.fRetained.length cap_3, .slice A_4 d0.fOld.fOuts.length cap_4, S d0.fOld.fText, .slice A_5 d0.fOld.fArgs.length cap_5, .int .i64 d0.fOld.fCalls, .int .i8 d0.fOld.fStatus]) f (Y32 (cs := [.slice A_1 d0.fOld.fOwned.length cap_1, .slice A_2 d0.fOld.fPending.length cap_2, .slice A_3 d0.fOld.fRetained.length cap_3, .slice A_4 d0.fOld.fOuts.length cap_4, S d0.fOld.fText, .slice A_5 d0.fOld.fArgs.length cap_5, .int .i64 d0.fOld.fCalls, .int .i8 d0.fOld.fStatus]) rfl (ad := (⟨b_1, 0, none⟩ : Addr).add 2) (fz_part (base := (⟨b_1, 0, none⟩ : Addr)) (fun j v h => p_3.cell (hc_2 j v h)) 2 rfl)) fun _ f => ?_
    obtain ⟨x_3, hx_3, hF_8⟩ := bS hF_7
    refine Y18 f p_3 (state_Check_ok n _ _ (⟨d0.fOld.fOwned, d0.fOld.fPending, d0.fOld.fRetained, d0.fOld.fOuts, d0.fOld.fText, d0.fOld.fArgs, d0.fOld.fCalls, d0.fOld.fStatus⟩ : TG0) (TG0.shut (h_1.mono hM_1) (h_2.mono hM_1) (h_3.mono hM_1) (h_4.mono hM_1) (h_5.mono hM_1)) x_3 hx_3) fun w_4 p_4 _ f => Y f 2 fun _ f => eT ?_
    exact ⟨(!(decide (x_3 = 0))), (sI hF_8).symm, M_1, (mR _), f.kp, p_4⟩
 ·rintro a_17 w_5 ⟨y_1, hq_1, M_2, hM_2, f, p_5⟩
  subst j_1
  refine T_n (RcF f hF_1 (fun h_13 hF_9 => ?_) fun h_13 hF_10 => ?_)
  ·refine RR (Y f 1 fun _ f => eT (wp_ret (T_r (E_ret1 f rfl (by kernel_rfl : Vc.look _ 2 = some (.bool false)) ?_))))
   obtain rfl := sI hF_9
   exact ⟨_, rfl, M_2, (hM_1.trans hM_2), p_5, rfl⟩
  ·refine wp_skip (T_n (RR (W_newmap (fun x : T_forward_key => Value.agg #[.int .i64 x.change, .int .i8 x.phase]) Value.bool f p_5 (by kernel_rfl) (by kernel_rfl) rfl rfl rfl fun bm_1 w_6 p_6 _ f => Y f 1 fun _ f => eT (R_seq (RR (Y f 1 fun _ f => Y15 f p_6 (fzu hM_2 hc_2) 15 rfl fun _ f => Y f 2 fun _ f => eT (wp_block ?_)))))))
   obtain ⟨b_2, hL_1, hF_11⟩ := bS hF_10
   refine wp_mono (Q := fun e a w => (e = .ret ∧ (∃ y_3 : (List (T_forward_key × Bool)), b_2 = .inl y_3 ∧ ∃ M_5 : Mem, M_2.le M_5 ∧ Frm 97 [(2, .bool false)] a ∧ Hp w0 M_5 ((Ent.obj bm_1 (mapO (fun x : T_forward_key => Value.agg #[.int .i64 x.change, .int .i8 x.phase]) Value.bool y_3)) :: H) w)) ∨ (e = .exit 0 ∧ (∃ y_4 : (List (T_forward_key × Bool)), b_2 = .inr y_4 ∧ ∃ M_6 : Mem, M_2.le M_6 ∧ Frm 97 [(1, .pointer (some (⟨b_1, 0, none⟩)))] a ∧ Hp w0 M_6 ((Ent.obj bm_1 (mapO (fun x : T_forward_key => Value.agg #[.int .i64 x.change, .int .i8 x.phase]) Value.bool y_4)) :: H) w))) (R_loop (n := 97) (w0 := w0) (M := M_2) (fun (x : Nat × (Int × (List (T_forward_key × Bool)))) => match x with | (m_1, s_1) => [(1, .pointer (some (⟨b_1, 0, none⟩))), (3, .map (some bm_1)), (27, .slice A_10 d0.fTasks.length cap_10), (28, .int .i64 ((d0.fTasks.length : Nat) : Int)), (29, .int .i64 s_1.1)]) (fun (x : Nat × (Int × (List (T_forward_key × Bool)))) => match x with | (m_1, s_1) => ((Ent.obj bm_1 (mapO (fun x : T_forward_key => Value.agg #[.int .i64 x.change, .int .i8 x.phase]) Value.bool s_1.2)) :: H)) (fun (x : Nat × (Int × (List (T_forward_key × Bool)))) (MM : Mem) => match x with | (m_1, s_1) => loopF (forward_May_s1 n d0) m_1 s_1 = some b_2) (fun (x : Nat × (Int × (List (T_forward_key × Bool)))) => match x with | (m_1, s_1) => m_1) (n, ((0 : Int), ([] : List (T_forward_key × Bool)))) (f.kp) p_6 hL_1 ?_) ?_
   ·rintro ⟨m_1, s_1⟩ M_3 _ w_7 hM_3 I_1 f p_7
    have I_1L := I_1
    obtain ⟨m_2, r_1, rfl, hs_1, hn_1⟩ := loop_step I_1L
    unfold forward_May_s1 at hs_1
    refine RR (Y f 1 fun _ f => eT (R_seq (RcF f hs_1 (fun h_14 hF_12 => ?_) fun h_14 hF_31 => ?_)))
    ·have k_7 := dI.1 h_14
     refine wp_skip (T_n (R_seq (wp_block (RR (Y f 1 fun _ f => ?_)))))
     obtain ⟨x_4, hx_4, hF_13⟩ := bS hF_12
     obtain ⟨ad_1, c_1, e_1, -, hr_1, hc_3⟩ := Sli.at_ (h_10.mono ((hM_1.trans hM_2).trans hM_3)) hx_4
     obtain ⟨A_11, cap_11, rfl, h_15⟩ := TR0.opn hr_1
     refine Z f (Y30 e_1 rfl (len := d0.fTasks.length) (cap := cap_10) (k := .i64) (i := s_1.1) (e := 84) (sz := 9) (getI_nn hx_4) (getI_lt hx_4)) fun _ f => Z (v := .agg #[.int .i64 x_4.fChange, .int .i8 x_4.fPhase, .int .i64 x_4.fCall.fToken, .int .i8 x_4.fCall.fKind, S x_4.fCall.fPhys, S x_4.fCall.fType, .slice A_11 x_4.fCall.fProps.length cap_11, .int .i8 x_4.fState, S x_4.fPhys]) f (Y32 (cs := [.int .i64 x_4.fChange, .int .i8 x_4.fPhase, .int .i64 x_4.fCall.fToken, .int .i8 x_4.fCall.fKind, S x_4.fCall.fPhys, S x_4.fCall.fType, .slice A_11 x_4.fCall.fProps.length cap_11, .int .i8 x_4.fState, S x_4.fPhys]) rfl (ad := ad_1.add (s_1.1.toNat * 9)) (fun j v h => p_7.cell (hc_3 j v h))) fun _ f => Y12 f p_7 (.cells #[.int .i64 0, .int .i8 0, .int .i64 0, .int .i8 0, S [], S [], .slice none 0 0, .int .i8 0, S []] 84 (0, 0)) fun b_3 w_8 p_8 _ f => Y f 1 fun _ f => Y27 (vs := [.int .i64 x_4.fChange, .int .i8 x_4.fPhase, .int .i64 x_4.fCall.fToken, .int .i8 x_4.fCall.fKind, S x_4.fCall.fPhys, S x_4.fCall.fType, .slice A_11 x_4.fCall.fProps.length cap_11, .int .i8 x_4.fState, S x_4.fPhys]) (j := 0) f p_8 rfl rfl (by simp [Value.oneCell', S]) (by simp) (by decide) (cs' := #[.int .i64 x_4.fChange, .int .i8 x_4.fPhase, .int .i64 x_4.fCall.fToken, .int .i8 x_4.fCall.fKind, S x_4.fCall.fPhys, S x_4.fCall.fType, .slice A_11 x_4.fCall.fProps.length cap_11, .int .i8 x_4.fState, S x_4.fPhys]) fun w_9 p_9 _ f => eT (RR (Y f 1 fun _ f => Z f (Y31 (v := .int .i64 x_4.fChange) rfl (ad := ⟨b_3, 0, none⟩) (p_9.ownCell 0 rfl 0)) fun _ f => Y f 1 fun _ f => Z f (Y31 (v := .int .i8 x_4.fPhase) rfl (ad := ⟨b_3, 1, none⟩) (p_9.ownCell 0 rfl 1)) fun _ f => Y f 1 fun _ f => ?_))
     refine Y12 f p_9 (.cells #[.int .i64 0, .int .i8 0] 111 (0, 0)) fun b_4 w_10 p_10 _ f => Y27 (vs := [.int .i64 x_4.fChange, .int .i8 x_4.fPhase]) (j := 0) f p_10 rfl rfl (by simp [Value.oneCell', S]) (by simp) (by decide) (cs' := #[.int .i64 x_4.fChange, .int .i8 x_4.fPhase]) fun w_11 p_11 _ f => eT (R_seq (R_seq ?_))
     obtain ⟨j_2, hj_2, hF_14⟩ := bS hF_13
     refine R_mid (fun a_68 w_15 => ∃ y_2 : Bool, j_2 = y_2 ∧ ∃ M_4 : Mem, M_3.le M_4 ∧ Frm 97 [(1, .pointer (some (⟨b_1, 0, none⟩))), (3, .map (some bm_1)), (6, .pointer (some (⟨b_4, 0, none⟩))), (27, .slice A_10 d0.fTasks.length cap_10), (28, .int .i64 ((d0.fTasks.length : Nat) : Int)), (29, .int .i64 s_1.1), (71, .bool y_2)] a_68 ∧ Hp w0 M_4 ((Ent.obj b_4 (.cells #[.int .i64 x_4.fChange, .int .i8 x_4.fPhase] 111 (0, 0))) :: (Ent.obj b_3 (.cells #[.int .i64 x_4.fChange, .int .i8 x_4.fPhase, .int .i64 x_4.fCall.fToken, .int .i8 x_4.fCall.fKind, S x_4.fCall.fPhys, S x_4.fCall.fType, .slice A_11 x_4.fCall.fProps.length cap_11, .int .i8 x_4.fState, S x_4.fPhys] 84 (0, 0))) :: (Ent.obj bm_1 (mapO (fun x : T_forward_key => Value.agg #[.int .i64 x.change, .int .i8 x.phase]) Value.bool s_1.2)) :: H) w_15) ?_ ?_
     ·refine R_reg (Y f 2 fun _ f => Z f (Y31 (v := .int .i64 x_4.fCall.fToken) rfl (ad := ⟨b_3, 2, none⟩) (p_11.ownCell 1 rfl 2)) fun _ f => Y f 1 fun _ f => ?_)
      obtain ⟨g_1, hF_15⟩ := nS hj_2
      refine Y f 1 fun _ f => ?_
      have f := f.st 43 (congrArg (Value.int .i64) (inR_wrap g_1))
      refine Y f 2 fun _ f => ?_
      rcases cE hF_15 with ⟨h_16, hF_16⟩ | ⟨h_16, hF_17⟩
      ·have k_8 : ¬ (x_4.fCall.fToken = (s_1.1 + 1)) := (not_iff dI).1 h_16
       have f := f.st 45 (cB h_16)
       refine Y f 26 fun _ f => eT ?_
       exact ⟨(true), (sI hF_16).symm, M_3, (mR _), f.kp, p_11⟩
      ·have k_9 : ¬ (¬ (x_4.fCall.fToken = (s_1.1 + 1))) := iff_f (not_iff dI) h_16
       have f := f.st 45 (cB h_16)
       refine Y f 1 fun _ f => Z f (Y31 (v := .int .i64 x_4.fChange) rfl (ad := ⟨b_3, 0, none⟩) (p_11.ownCell 1 rfl 0)) fun _ f => Y f 1 fun _ f => Y15 f p_11 (fzu (hM_2.trans hM_3) hc_2) 14 rfl fun _ f => Y f 1 fun _ f => ?_
       obtain ⟨g_2, hF_18⟩ := nS hF_17
       refine Y f 1 fun _ f => ?_
       have f := f.st 51 (congrArg (Value.int .i64) (inR_wrap g_2))
       obtain ⟨x_5, hx_5, hF_19⟩ := bS hF_18
       refine Y18 f p_11 (forward_within_ok n _ x_4.fChange (0 : Int) (((d0.fChanges.length : Nat) : Int) - 1) x_5 hx_5) fun w_12 p_12 _ f => Y f 3 fun _ f => ?_
       rcases cE hF_19 with ⟨h_17, hF_20⟩ | ⟨h_17, hF_21⟩
       ·have k_10 : (x_5) = false := by simpa using h_17
        have f := f.st 55 (cB h_17)
        refine Y f 16 fun _ f => eT ?_
        exact ⟨(true), (sI hF_20).symm, M_3, (mR _), f.kp, p_12⟩
       ·have k_11 : (x_5) = true := by simpa using h_17
        have f := f.st 55 (cB h_17)
        refine Y f 1 fun _ f => Z f (Y31 (v := .int .i8 x_4.fState) rfl (ad := ⟨b_3, 7, none⟩) (p_12.ownCell 1 rfl 7)) fun _ f => ?_
        obtain ⟨x_6, hx_6, hF_22⟩ := bS hF_21
        refine Y18 f p_12 (forward_within_2_ok n _ x_4.fState (0 : Int) (2 : Int) x_6 hx_6) fun w_13 p_13 _ f => Y f 3 fun _ f => ?_
        rcases cE hF_22 with ⟨h_18, hF_23⟩ | ⟨h_18, hF_24⟩
        ·have k_12 : (x_6) = false := by simpa using h_18
         have f := f.st 61 (cB h_18)
         refine Y f 10 fun _ f => eT ?_
         exact ⟨(true), (sI hF_23).symm, M_3, (mR _), f.kp, p_13⟩
        ·have k_13 : (x_6) = true := by simpa using h_18
         have f := f.st 61 (cB h_18)
         refine Y f 1 fun _ f => Z f (Y31 (v := .int .i8 x_4.fPhase) rfl (ad := ⟨b_3, 1, none⟩) (p_13.ownCell 1 rfl 1)) fun _ f => ?_
         obtain ⟨x_7, hx_7, hF_25⟩ := bS hF_24
         refine Y18 f p_13 (forward_within_2_ok n _ x_4.fPhase (0 : Int) (2 : Int) x_7 hx_7) fun w_14 p_14 _ f => Y f 3 fun _ f => ?_
         rcases cE hF_25 with ⟨h_19, hF_26⟩ | ⟨h_19, hF_27⟩
         ·have k_14 : (x_7) = false := by simpa using h_19
          have f := f.st 67 (cB h_19)
          refine Y f 4 fun _ f => eT ?_
          exact ⟨(true), (sI hF_26).symm, M_3, (mR _), f.kp, p_14⟩
         ·have k_15 : (x_7) = true := by simpa using h_19
          have f := f.st 67 (cB h_19)
          refine Y f 1 fun _ f => Z (v := .agg #[.int .i64 x_4.fChange, .int .i8 x_4.fPhase]) f (Y32 (cs := [.int .i64 x_4.fChange, .int .i8 x_4.fPhase]) rfl (ad := ⟨b_4, 0, none⟩) (own_cells (p_14.ownCell 0 rfl) 0 rfl)) fun _ f => Z (v := .bool ((mget s_1.2 (⟨x_4.fChange, x_4.fPhase⟩ : T_forward_key)).getD false)) f (X_lookup1S (enc := (fun x : T_forward_key => Value.agg #[.int .i64 x.change, .int .i8 x.phase])) (ev := Value.bool) (m := s_1.2) (k := (⟨x_4.fChange, x_4.fPhase⟩ : T_forward_key)) (z := false) (kt := 111) (et := 4) rfl (by kernel_rfl) (by kernel_rfl) (by kernel_rfl) (key2 (f := T_forward_key.change) (g := T_forward_key.phase) (t1 := 3) (t2 := 24) (by kernel_rfl) (by kernel_rfl) (by kernel_rfl) (by kernel_rfl) (by kernel_rfl) (fun x y => by cases x; cases y; simp)) (by kernel_rfl) (p_14.ownObj 2 rfl)) fun _ f => Y f 1 fun _ f => eT ?_
          exact ⟨((mget s_1.2 (⟨x_4.fChange, x_4.fPhase⟩ : T_forward_key)).getD false), (sI hF_27).symm, M_3, (mR _), f.kp, p_14⟩
     ·rintro a_68 w_15 ⟨y_2, hq_2, M_4, hM_4, f, p_15⟩
      subst j_2
      refine T_n (RcF f hF_14 (fun h_20 hF_28 => ?_) fun h_20 hF_29 => ?_)
      ·refine RR (Y f 1 fun _ f => eT (wp_ret (T_r (B_r (T_r (T_r ?_))))))
       obtain rfl := sI hF_28
       exact .inl ⟨rfl, s_1.2, (sI hn_1).symm, M_4, (hM_3.trans hM_4), f.kp, (p_15.dropN 2)⟩
      ·refine wp_skip (T_n (R_reg (Y f 1 fun _ f => Z (v := .agg #[.int .i64 x_4.fChange, .int .i8 x_4.fPhase]) f (Y32 (cs := [.int .i64 x_4.fChange, .int .i8 x_4.fPhase]) rfl (ad := ⟨b_4, 0, none⟩) (own_cells (p_15.ownCell 0 rfl) 0 rfl)) fun _ f => ?_)))
       have p_16 := p_15.pl [2]
       refine W_mapputS (enc := (fun x : T_forward_key => Value.agg #[.int .i64 x.change, .int .i8 x.phase])) (ev := Value.bool) (m := s_1.2) (k := (⟨x_4.fChange, x_4.fPhase⟩ : T_forward_key)) (v := (true)) (kt := 111) (et := 4) f p_16 (by kernel_rfl) (by kernel_rfl) rfl (.inl rfl) (by kernel_rfl) (by kernel_rfl) (by kernel_rfl) (by kernel_rfl) (key2 (f := T_forward_key.change) (g := T_forward_key.phase) (t1 := 3) (t2 := 24) (by kernel_rfl) (by kernel_rfl) (by kernel_rfl) (by kernel_rfl) (by kernel_rfl) (fun x y => by cases x; cases y; simp)) fun w_16 p_17 _ f => W_end rfl (B_n (T_n (R_reg ?_)))
       obtain ⟨g_3, hF_30⟩ := nS hF_29
       refine Y f 1 fun _ f => ?_
       have f := f.st 74 (congrArg (Value.int .i64) (inR_wrap g_3))
       refine Y f 1 fun _ f => W_end rfl ?_
       have p_21 := p_17.pl [2, 2]
       refine T_n ?_
       obtain rfl := sI hF_30
       exact ⟨⟨m_2, (s_1.1 + 1, mput s_1.2 (⟨x_4.fChange, x_4.fPhase⟩ : T_forward_key) (true))⟩, Nat.lt_succ_self _, M_4, (hM_3.trans hM_4), hn_1, f.kp, (p_21.dropN 2)⟩
    ·have k_18 := iff_f dI h_14
     refine wp_exit (T_x (T_x ?_))
     obtain rfl := sI hF_31
     exact .inr ⟨rfl, s_1.2, (sI hn_1).symm, M_3, hM_3, f.kp, p_7⟩
   ·rintro _ _ w_19 (⟨rfl, y_3, rfl, M_5, hM_5, f, p_18⟩ | ⟨rfl, y_4, rfl, M_6, hM_6, f, p_19⟩)
    ·refine B_r (T_r (E_ret1 f rfl (by kernel_rfl : Vc.look _ 2 = some (.bool false)) ?_))
     obtain rfl := sI hF_11
     exact ⟨_, rfl, M_5, ((hM_1.trans hM_2).trans hM_5), (p_18.dropN 1), rfl⟩
    ·refine B_x (T_n (R_seq (RR (Z (v := .agg #[.int .i8 d0.fKind, .int .i64 d0.fWidth, .slice A_1 d0.fOld.fOwned.length cap_1, .slice A_2 d0.fOld.fPending.length cap_2, .slice A_3 d0.fOld.fRetained.length cap_3, .slice A_4 d0.fOld.fOuts.length cap_4, S d0.fOld.fText, .slice A_5 d0.fOld.fArgs.length cap_5, .int .i64 d0.fOld.fCalls, .int .i8 d0.fOld.fStatus, .slice A_6 d0.fNew.fScopes.length cap_6, .slice A_7 d0.fNew.fNodes.length cap_7, S d0.fText, .slice A_8 d0.fArgs.length cap_8, .slice A_9 d0.fChanges.length cap_9, .slice A_10 d0.fTasks.length cap_10, .int .i8 d0.fPhase, .int .i8 d0.fStatus]) f (Y32 (cs := [.int .i8 d0.fKind, .int .i64 d0.fWidth, .slice A_1 d0.fOld.fOwned.length cap_1, .slice A_2 d0.fOld.fPending.length cap_2, .slice A_3 d0.fOld.fRetained.length cap_3, .slice A_4 d0.fOld.fOuts.length cap_4, S d0.fOld.fText, .slice A_5 d0.fOld.fArgs.length cap_5, .int .i64 d0.fOld.fCalls, .int .i8 d0.fOld.fStatus, .slice A_6 d0.fNew.fScopes.length cap_6, .slice A_7 d0.fNew.fNodes.length cap_7, S d0.fText, .slice A_8 d0.fArgs.length cap_8, .slice A_9 d0.fChanges.length cap_9, .slice A_10 d0.fTasks.length cap_10, .int .i8 d0.fPhase, .int .i8 d0.fStatus]) rfl (ad := ⟨b_1, 0, none⟩) (fun j v h => p_19.cell ((fzu (hM_2.trans hM_6) hc_2) j v h))) fun _ f => ?_))))
     obtain ⟨x_8, hx_8, hF_32⟩ := bS hF_11
     refine Y16 f p_19 (forward_leans_ok n _ _ d0 (TL0.shutx (x := d0) (h_1.mono ((hM_1.trans hM_2).trans hM_6)) (h_2.mono ((hM_1.trans hM_2).trans hM_6)) (h_3.mono ((hM_1.trans hM_2).trans hM_6)) (h_4.mono ((hM_1.trans hM_2).trans hM_6)) (h_5.mono ((hM_1.trans hM_2).trans hM_6)) (h_6.mono ((hM_1.trans hM_2).trans hM_6)) (h_7.mono ((hM_1.trans hM_2).trans hM_6)) (h_8.mono ((hM_1.trans hM_2).trans hM_6)) (h_9.mono ((hM_1.trans hM_2).trans hM_6)) (h_10.mono ((hM_1.trans hM_2).trans hM_6))) x_8 hx_8) fun _ M_7 w_20 hM_7 p_22 q_1 _ f => ?_
     obtain ⟨A_12, cap_12, rfl, h_21⟩ := q_1
     refine Y f 2 fun _ f => eT (wp_block ?_)
     obtain ⟨b_5, hL_2, hF_33⟩ := bS hF_32
     refine wp_mono (Q := fun e a w => (e = .ret ∧ (∃ y_5 : Unit, b_5 = .inl y_5 ∧ ∃ M_9 : Mem, M_7.le M_9 ∧ Frm 97 [(2, .bool false)] a ∧ Hp w0 M_9 ((Ent.obj bm_1 (mapO (fun x : T_forward_key => Value.agg #[.int .i64 x.change, .int .i8 x.phase]) Value.bool y_4)) :: H) w)) ∨ (e = .exit 2 ∧ (∃ y_6 : Unit, b_5 = .inr y_6 ∧ ∃ M_10 : Mem, M_7.le M_10 ∧ Frm 97 [] a ∧ Hp w0 M_10 ((Ent.obj bm_1 (mapO (fun x : T_forward_key => Value.agg #[.int .i64 x.change, .int .i8 x.phase]) Value.bool y_4)) :: H) w))) (R_loop (n := 97) (w0 := w0) (M := M_7) (fun (x : Nat × Int) => match x with | (m_3, s_2) => [(76, .slice A_12 x_8.length cap_12), (77, .int .i64 ((x_8.length : Nat) : Int)), (78, .int .i64 s_2)]) (fun (x : Nat × Int) => match x with | (m_3, s_2) => ((Ent.obj bm_1 (mapO (fun x : T_forward_key => Value.agg #[.int .i64 x.change, .int .i8 x.phase]) Value.bool y_4)) :: H)) (fun (x : Nat × Int) (MM : Mem) => match x with | (m_3, s_2) => loopF (forward_May_s2 n x_8) m_3 s_2 = some b_5) (fun (x : Nat × Int) => match x with | (m_3, s_2) => m_3) (n, (0 : Int)) (f.kp) p_22 hL_2 ?_) ?_
     ·rintro ⟨m_3, s_2⟩ M_8 _ w_21 hM_8 I_2 f p_23
      have I_2L := I_2
      obtain ⟨m_4, r_2, rfl, hs_2, hn_2⟩ := loop_step I_2L
      unfold forward_May_s2 at hs_2
      refine RR (Y f 1 fun _ f => eT (R_seq (RcF f hs_2 (fun h_22 hF_34 => ?_) fun h_22 hF_44 => ?_)))
      ·have k_19 := dI.1 h_22
       refine wp_skip (T_n (R_seq (wp_block (RR (Y f 1 fun _ f => ?_)))))
       obtain ⟨x_9, hx_9, hF_35⟩ := bS hF_34
       obtain ⟨ad_2, c_2, e_2, -, hr_2, hc_4⟩ := Sli.at_ (h_21.mono hM_8) hx_9
       obtain ⟨A_13, cap_13, rfl, h_23⟩ := Rep.sli hr_2
       refine Z f (Y30 e_2 rfl (len := x_8.length) (cap := cap_12) (k := .i64) (i := s_2) (e := 27) (sz := 1) (getI_nn hx_9) (getI_lt hx_9)) fun _ f => Y15 f p_23 hc_4 0 rfl fun _ f => Y f 2 fun _ f => eT (RR (Y f 4 fun _ f => ?_))
       rcases cE hF_35 with ⟨h_24, hF_36⟩ | ⟨h_24, hF_42⟩
       ·have k_20 := dI.1 h_24
        have f := f.st 86 (cB h_24)
        refine Y f 3 fun _ f => ?_
        obtain ⟨g_4, hF_37⟩ := nS hF_36
        refine Y f 1 fun _ f => ?_
        have f := f.st 90 (congrArg (Value.int .i64) (inR_wrap g_4))
        obtain ⟨x_10, hx_10, hF_38⟩ := bS hF_37
        obtain ⟨ad_3, c_3, e_3, -, hr_3, hc_5⟩ := Sli.at_ h_23 hx_10
        obtain rfl : c_3 = [.int .i64 x_10] := hr_3
        refine Z f (Y30 e_3 rfl (len := x_9.length) (cap := cap_13) (k := .i64) (i := ((x_9.length : Nat) : Int) - 1) (e := 3) (sz := 1) (getI_nn hx_10) (getI_lt hx_10)) fun _ f => Y15 f p_23 hc_5 0 rfl fun _ f => Y f 3 fun _ f => eT (RcF f hF_38 (fun h_25 hF_39 => ?_) fun h_25 hF_40 => ?_)
        ·have k_21 := dI.1 h_25
         refine RR (Y f 1 fun _ f => eT (wp_ret (B_r (T_r (T_r ?_)))))
         obtain rfl := sI hF_39
         exact .inl ⟨rfl, (), (sI hn_2).symm, M_8, hM_8, f.kp, p_23⟩
        ·have k_22 := iff_f dI h_25
         refine wp_skip (B_n (T_n (R_reg ?_)))
         obtain ⟨g_5, hF_41⟩ := nS hF_40
         refine Y f 1 fun _ f => ?_
         have f := f.st 96 (congrArg (Value.int .i64) (inR_wrap g_5))
         refine Y f 1 fun _ f => eT ?_
         obtain rfl := sI hF_41
         exact ⟨⟨m_4, s_2 + 1⟩, Nat.lt_succ_self _, M_8, hM_8, hn_2, f.kp, p_23⟩
       ·have k_23 := iff_f dI h_24
        have f := f.st 86 (cB h_24)
        refine Y f 9 fun _ f => eT (Y7 f (wp_skip (B_n (T_n (R_reg ?_)))))
        obtain ⟨g_6, hF_43⟩ := nS hF_42
        refine Y f 1 fun _ f => ?_
        have f := f.st 96 (congrArg (Value.int .i64) (inR_wrap g_6))
        refine Y f 1 fun _ f => eT ?_
        obtain rfl := sI hF_43
        exact ⟨⟨m_4, s_2 + 1⟩, Nat.lt_succ_self _, M_8, hM_8, hn_2, f.kp, p_23⟩
      ·have k_24 := iff_f dI h_22
       refine wp_exit (T_x (T_x ?_))
       obtain rfl := sI hF_44
       exact .inr ⟨rfl, (), (sI hn_2).symm, M_8, hM_8, f.kp, p_23⟩
     ·rintro _ _ w_24 (⟨rfl, y_5, rfl, M_9, hM_9, f, p_24⟩ | ⟨rfl, y_6, rfl, M_10, hM_10, f, p_25⟩)
      ·refine B_r (T_r (E_ret1 f rfl (by kernel_rfl : Vc.look _ 2 = some (.bool false)) ?_))
       obtain rfl := sI hF_33
       exact ⟨_, rfl, M_9, ((((hM_1.trans hM_2).trans hM_6).trans hM_7).trans hM_9), (p_24.dropN 1), rfl⟩
      ·refine B_x (T_n (RR (Y f 1 fun _ f => eT (wp_ret (E_ret1 f rfl (by kernel_rfl : Vc.look _ 2 = some (.bool true)) ?_)))))
       obtain rfl := sI hF_33
       exact ⟨_, rfl, M_10, ((((hM_1.trans hM_2).trans hM_6).trans hM_7).trans hM_10), (p_25.dropN 1), rfl⟩
end Go.Proofs.Ytfdmlionhbeebaa
end
