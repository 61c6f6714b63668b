/-
  VC, part 10: maps that the text itself made (no entry is ever deleted): what they hold, in the order of their making. Own work.
-/
import Derived.Test.YtoonlehffohpaaaVc9
namespace Go.Vc
open Go Go.RowKit

structure KeyLaw (P : Program) (t : TypeId) {κ : Type} [DecidableEq κ] (enc : κ → Value) : Prop where
  desc : ∃ d, P.underlying t = some d ∧ (∀ a b, Instr.sameNow d (enc a) (enc b) = some (decide (a = b))) ∧ (∀ w n e k, (Instr.checkKey e (n + 1) t (enc k)).run P w = .ok () w)
  same : ∀ a, Instr.sameBits 10000 (enc a) (enc a) = true

theorem intKey {P : Program} {t : TypeId} {k : IntKind} (h : P.underlying t = some (.int k)) : KeyLaw P t (Value.int k) := by
  refine ⟨⟨_, h, fun a b => by simp [Instr.sameNow]; rfl, fun w n e x => ?_⟩, fun a => by simp [Instr.sameBits]⟩
  unfold Instr.checkKey
  rw [Sem.run_bind, run_underlying h]
  rfl
theorem byteArray_beq (s t : ByteArray) : (s == t) = (s.data == t.data) := rfl
theorem mkS_beq (a b : List UInt8) : (mkS a == mkS b) = decide (a = b) := by
  rw [byteArray_beq, Bool.eq_iff_iff]; simp
theorem strKey {P : Program} {t : TypeId} (h : P.underlying t = some .string) : KeyLaw P t S := by
  refine ⟨⟨_, h, fun a b => ?_, fun w n e x => ?_⟩, fun a => by simp only [Instr.sameBits]; rw [mkS_beq]; simp⟩
  · simp only [Instr.sameNow, Option.some.injEq]; exact mkS_beq a b
  · unfold Instr.checkKey
    rw [Sem.run_bind, run_underlying h]
    rfl

section
variable {κ : Type} [DecidableEq κ] {enc : κ → Value}
def mEnt (enc : κ → Value) (p : (κ × Value) × Nat) : MapEntry := { key := enc p.1.1, val := p.1.2, born := p.2 }
/-- The object of a map that holds m, in the order of making. -/
def mObj (enc : κ → Value) (m : List (κ × Value)) : Obj := .map (m.zipIdx.map (mEnt enc)).toArray m.length
def lkAt (k : κ) : List (κ × Value) → Nat → Option (Nat × Value)
  | [], _ => none
  | p :: r, i => if p.1 = k then some (i, p.2) else lkAt k r (i + 1)
theorem findNow_eq {d : TypeDesc} (h : ∀ a b, Instr.sameNow d (enc a) (enc b) = some (decide (a = b))) (k : κ) : ∀ (m : List (κ × Value)) (n j : Nat),
    Instr.findNow d (enc k) ((m.zipIdx n).map (mEnt enc)) j = some (lkAt k m j)
  | [], n, j => rfl
  | p :: r, n, j => by
    simp only [List.zipIdx_cons, List.map_cons, Instr.findNow, mEnt, h, lkAt]
    by_cases e : p.1 = k
    · simp [e]
    · have e' : ¬ k = p.1 := fun x => e x.symm
      simp only [e', decide_false, e, if_false]
      exact findNow_eq h k r (n + 1) (j + 1)
theorem lkAt_some {k : κ} : ∀ {m : List (κ × Value)} {j i : Nat} {v : Value}, lkAt k m j = some (i, v) → j ≤ i ∧ m[i - j]? = some (k, v)
  | [], j, i, v, h => by simp [lkAt] at h
  | p :: r, j, i, v, h => by
    simp only [lkAt] at h
    split at h
    · rename_i e
      simp only [Option.some.injEq, Prod.mk.injEq] at h
      obtain ⟨rfl, rfl⟩ := h
      exact ⟨Nat.le_refl _, by simp [← e]⟩
    · obtain ⟨h1, h2⟩ := lkAt_some h
      refine ⟨by omega, ?_⟩
      rw [show i - j = (i - (j + 1)) + 1 by omega]
      simpa using h2
theorem lkAt_none {k : κ} : ∀ {m : List (κ × Value)} {j : Nat}, lkAt k m j = none ↔ k ∉ m.map (·.1)
  | [], j => by simp [lkAt]
  | p :: r, j => by
    simp only [lkAt, List.map_cons, List.mem_cons]
    by_cases e : p.1 = k
    · simp [e]
    · have e' : ¬ k = p.1 := fun x => e x.symm
      simp only [e, e', if_false, false_or]
      exact lkAt_none
def updM (m : List (κ × Value)) (k : κ) (v : Value) : List (κ × Value) :=
  match lkAt k m 0 with
  | some (i, _) => m.set i (k, v)
  | none => m ++ [(k, v)]

variable {P : Program} {w : World} {ρ : Operand → Value} {o : Oper}
theorem run_getObj {b : Nat} {x : Obj} (h : w.heap[b]? = some x) (hn : ∀ c t f, x ≠ .cells c t f) : (getObj b).run P w = .ok x w := by
  simp only [getObj, Sem.run, h]
theorem mObj_ne {κ : Type} {enc : κ → Value} (m : List (κ × Value)) : ∀ c t f, mObj enc m ≠ .cells c t f := fun _ _ _ h => by simp [mObj] at h

theorem X_lookup {t kt et : TypeId} {x ix : Operand} {ok : Bool} {b : Nat} {m : List (κ × Value)} {k : κ} {z : Value} (ho : o.op = .lookup t x ix ok) (hx : ρ x = .map (some b)) (hk : ρ ix = enc k) (ht : P.underlying t = some (.map kt et)) (K : KeyLaw P kt enc)
    (hz : (P.info? et).bind (·.zero) = some z) (hb : w.heap[b]? = some (mObj enc m)) :
    (execOp ρ o).run P w = .ok (.value (if ok then .tuple #[((lkAt k m 0).map (·.2)).getD z, .bool (lkAt k m 0).isSome] else ((lkAt k m 0).map (·.2)).getD z)) w := by
  obtain ⟨d, h1, h2, h3⟩ := K.desc
  have hzero : (zeroValue et).run P w = .ok z w := by
    cases hi : P.info? et with
    | none => simp [hi] at hz
    | some i => simp only [hi, Option.bind_some] at hz; simp [zeroValue, typeInfo, hi, hz]
  have hg : (getObj b).run P w = .ok (mObj enc m) w := run_getObj hb (mObj_ne m)
  unfold execOp
  simp only [ho, hx, hk, Instr.lookup, Sem.run_bind, run_underlying ht, Result.andThen_ok, hg]
  simp only [mObj, Sem.run_bind, Sem.run_pure, Result.andThen_ok, h3 w 9999, Instr.findKey, run_underlying h1, findNow_eq h2 k m 0 0]
  cases lkAt k m 0 with
  | none => simp [hzero]
  | some p => simp

theorem X_lookup_nil {t kt et : TypeId} {x ix : Operand} {ok : Bool} {k : κ} {z : Value} (ho : o.op = .lookup t x ix ok) (hx : ρ x = .map none) (hk : ρ ix = enc k) (ht : P.underlying t = some (.map kt et)) (K : KeyLaw P kt enc)
    (hz : (P.info? et).bind (·.zero) = some z) : (execOp ρ o).run P w = .ok (.value (if ok then .tuple #[z, .bool false] else z)) w := by
  obtain ⟨d, h1, h2, h3⟩ := K.desc
  have hzero : (zeroValue et).run P w = .ok z w := by
    cases hi : P.info? et with
    | none => simp [hi] at hz
    | some i => simp only [hi, Option.bind_some] at hz; simp [zeroValue, typeInfo, hi, hz]
  unfold execOp
  simp only [ho, hx, hk, Instr.lookup, Sem.run_bind, run_underlying ht, Result.andThen_ok]
  simp [h3 w 9999, Instr.findKey, run_underlying h1, Instr.findNow, hzero]

theorem setObj_run {b : Nat} {x y : Obj} (h : w.heap[b]? = some x) (hn : ∀ c t f, x ≠ .cells c t f) : (setObj b y).run P w = .ok () { w with heap := w.heap.setIfInBounds b y } := by
  simp only [setObj, Sem.run, h]

theorem set_ent {κ : Type} {enc : κ → Value} (m : List (κ × Value)) (i : Nat) (k : κ) (v u : Value) (h : m[i]? = some (k, u)) :
    (m.zipIdx.map (mEnt enc)).toArray.modify i (fun e => { e with key := enc k, val := v }) = ((m.set i (k, v)).zipIdx.map (mEnt enc)).toArray := by
  apply Array.ext'
  apply List.ext_getElem?
  intro j
  rw [Array.getElem?_toList, Array.getElem?_modify]
  simp only [List.getElem?_toArray, List.getElem?_map, List.getElem?_zipIdx, List.getElem?_set, Option.map_map]
  by_cases e : i = j
  · subst e
    have hlt : i < m.length := (List.getElem?_eq_some_iff.1 h).1
    simp [hlt, mEnt]
  · simp [e]

theorem X_mapUpdate {t kt et : TypeId} {x ix y : Operand} {b : Nat} {m : List (κ × Value)} {k : κ} {v : Value} (ho : o.op = .mapUpdate t x ix y ∨ o.op = .insert t x ix y) (hx : ρ x = .map (some b)) (hk : ρ ix = enc k) (hv : ρ y = v) (ht : P.underlying t = some (.map kt et)) (K : KeyLaw P kt enc)
    (hb : w.heap[b]? = some (mObj enc m)) : (execOp ρ o).run P w = .ok .skip { w with heap := w.heap.setIfInBounds b (mObj enc (updM m k v)) } := by
  obtain ⟨d, h1, h2, h3⟩ := K.desc
  have hg : (getObj b).run P w = .ok (mObj enc m) w := run_getObj hb (mObj_ne m)
  have hs : ∀ y : Obj, (setObj b y).run P w = .ok () { w with heap := w.heap.setIfInBounds b y } := fun y => setObj_run hb (mObj_ne m)
  have main : (Instr.mapUpdate t (.map (some b)) (enc k) v).run P w = .ok () { w with heap := w.heap.setIfInBounds b (mObj enc (updM m k v)) } := by
    simp only [Instr.mapUpdate, Sem.run_bind, run_underlying ht, Result.andThen_ok, hg]
    simp only [mObj, Sem.run_bind, Result.andThen_ok, h3 w 9999, Instr.findKey, run_underlying h1, findNow_eq h2 k m 0 0, Sem.run_pure]
    cases hl : lkAt k m 0 with
    | none =>
      simp only [hs, updM, hl]
      congr 4
      · apply Array.ext'; simp [List.zipIdx_append, mEnt]
      · simp
    | some p =>
      obtain ⟨i, u⟩ := p
      have hm := (lkAt_some hl).2
      simp only [Nat.sub_zero] at hm
      have hkey : ((m.zipIdx.map (mEnt enc)).toArray[i]?.map (·.key)).getD (enc k) = enc k := by
        simp [List.getElem?_zipIdx, hm, mEnt]
      simp only [hkey, Instr.keyThatStays, K.same, if_true, Sem.run_bind, Sem.run_pure, Result.andThen_ok, hs, updM, hl]
      rw [set_ent m i k v u hm]
      simp
  unfold execOp
  rcases ho with ho | ho <;> simp only [ho, hx, hk, hv, Sem.run_bind, main] <;> rfl
end
end Go.Vc
