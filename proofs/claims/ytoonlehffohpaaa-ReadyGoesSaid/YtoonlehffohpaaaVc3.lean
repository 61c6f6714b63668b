/-
  VC, part 3: the equations of single operations. Own work.
-/
import Derived.Test.YtoonlehffohpaaaVc1
import Derived.Test.YtoonlehffohpaaaVc2
import Derived.Laws.IdiomStrings
import Derived.Laws.BytesString
import Derived.Laws.BytesArg
import Derived.Lib.Strings
namespace Go.Vc
open Go Go.RowKit

/-- A text by its bytes. -/
abbrev mkS (l : List UInt8) : ByteArray := ⟨l.toArray⟩
abbrev S (l : List UInt8) : Value := .string ⟨l.toArray⟩
theorem mkS_toList (l : List UInt8) : (mkS l).toList = l := by rw [Lib.toList_data]
theorem S_eta (s : ByteArray) : Value.string s = S s.data.toList := by simp [S]

def isAggD : TypeDesc → Bool
  | .struct _ | .array _ _ => true
  | _ => false
def one1 (P : Program) (t : TypeId) : Bool := match P.underlying t with | some d => !isAggD d | none => false
def aggN (P : Program) (t : TypeId) (n : Nat) : Bool := match P.underlying t, P.info? t with | some d, some i => isAggD d && Nat.beq i.size n | _, _ => false
def szIs (P : Program) (t : TypeId) (n : Nat) : Bool := match P.info? t with | some i => Nat.beq i.size n | none => false

section
variable {P : Program} {w : World} {ρ : Operand → Value} {o : Oper}

theorem run_sizeOf {t n : Nat} (h : szIs P t n = true) : (sizeOf t).run P w = .ok n w := by
  unfold szIs at h
  cases hi : P.info? t with
  | none => simp [hi] at h
  | some i => simp only [hi] at h; have := Nat.eq_of_beq_eq_true h; simp [sizeOf, typeInfo, hi, this]

theorem run_isAgg1 {t : TypeId} (h : one1 P t = true) : (isAgg t).run P w = .ok false w := by
  unfold one1 at h
  cases hu : P.underlying t with
  | none => simp [hu] at h
  | some d =>
    unfold isAgg
    rw [Sem.run_bind, run_underlying hu w]
    cases d <;> simp_all [isAggD]

theorem run_isAggN {t n : Nat} (h : aggN P t n = true) : (isAgg t).run P w = .ok true w ∧ szIs P t n = true := by
  unfold aggN at h
  cases hu : P.underlying t with
  | none => simp [hu] at h
  | some d =>
    cases hi : P.info? t with
    | none => simp [hu, hi] at h
    | some i =>
      simp only [hu, hi, Bool.and_eq_true] at h
      refine ⟨?_, by simp [szIs, hi, h.2]⟩
      unfold isAgg
      rw [Sem.run_bind, run_underlying hu w]
      cases d <;> simp_all [isAggD]

theorem X_load1 {t : TypeId} {x : Operand} {ad : Addr} {v : Value} (ho : o.op = .load t x) (hx : ρ x = .pointer (some ad)) (ht : one1 P t = true) (hc : w.cell? ad = some v) : (execOp ρ o).run P w = .ok (.value v) w := by
  unfold execOp
  simp only [ho, hx, Instr.loadAt, Instr.sureAddr, Sem.run_bind, Sem.run_pure, Result.andThen_ok, loadVar, run_isAgg1 ht]
  simp [hc]

theorem X_loadN {t : TypeId} {x : Operand} {ad : Addr} {cs : List Value} (ho : o.op = .load t x) (hx : ρ x = .pointer (some ad)) (ht : aggN P t cs.length = true) (hc : ∀ j v, cs[j]? = some v → w.cell? (ad.add j) = some v) :
    (execOp ρ o).run P w = .ok (.value (.agg cs.toArray)) w := by
  obtain ⟨h1, h2⟩ := run_isAggN (w := w) ht
  unfold execOp
  simp only [ho, hx, Instr.loadAt, Instr.sureAddr, Sem.run_bind, Sem.run_pure, Result.andThen_ok, loadVar, h1, if_true, run_sizeOf h2, run_loadCells_list w ad cs hc]

theorem X_store1 {t : TypeId} {x y : Operand} {ad : Addr} {v u : Value} (ho : o.op = .store t x y) (hx : ρ x = .pointer (some ad)) (hy : ρ y = v) (hv : v.oneCell' = true) (hs : szIs P t 1 = true) (hc : w.cell? ad = some u) (hf : w.frozen? ad = false) :
    (execOp ρ o).run P w = .ok .skip (w.setCell ad v) := by
  have hcells : v.cells = #[v] := by cases v <;> simp_all [Value.cells, Value.oneCell']
  unfold execOp
  simp only [ho, hx, hy, Instr.storeAt, Instr.sureAddr, Sem.run_bind, Sem.run_pure, Result.andThen_ok, storeVar, hcells, run_sizeOf hs]
  cases v <;> simp_all [storeCells, store, Sem.run, Addr.add, Value.oneCell']

theorem X_indexAddr {t e sz : Nat} {x ix : Operand} {ad : Addr} {len cap : Nat} {k : IntKind} {i : Int} (ho : o.op = .indexAddr t x ix) (hx : ρ x = .slice (some ad) len cap) (hi : ρ ix = .int k i) (ht : P.underlying t = some (.slice e))
    (hs : szIs P e sz = true) (h0 : 0 ≤ i) (h1 : i < len) : (execOp ρ o).run P w = .ok (.value (.pointer (some (ad.add (i.toNat * sz))))) w := by
  unfold execOp
  simp only [ho, hx, hi, Instr.indexAt, asIntOf, Sem.run_bind, Sem.run_pure, Result.andThen_ok, run_underlying ht]
  simp [h0, h1, run_sizeOf hs]

theorem X_strIndex {t : Nat} {x ix : Operand} {l : List UInt8} {k : IntKind} {i : Int} (ho : o.op = .index t x ix) (hx : ρ x = S l) (hi : ρ ix = .int k i) (ht : P.underlying t = some .string)
    (h0 : 0 ≤ i) (h1 : i < l.length) : (execOp ρ o).run P w = .ok (.value (.int .u8 (l.getD i.toNat 0).toNat)) w := by
  have hlt : i.toNat < l.length := by omega
  have hg : (mkS l)[i.toNat]? = some (l.getD i.toNat 0) := by
    have : (mkS l).size = l.length := rfl
    rw [getElem?_pos (mkS l) i.toNat (by omega)]
    simp [List.getD, hlt]
    rfl
  unfold execOp
  simp only [ho, hx, hi, Instr.index, asIntOf, Sem.run_bind, Sem.run_pure, Result.andThen_ok, run_underlying ht]
  simp only [h0, if_true, hg]
  rfl

theorem extract_mkS (l : List UInt8) (a b : Nat) : (mkS l).extract a b = mkS ((l.take b).drop a) := by
  have h := Lib.extract_data (mkS l) a b
  have e : ∀ s : ByteArray, s = ⟨s.data.toList.toArray⟩ := fun s => by simp
  rw [e ((mkS l).extract a b), h]
  simp [List.drop_take]

/-- 's[lo:hi]' of a text. -/
theorem X_strSlice {t : Nat} {x lo hi : Operand} {l : List UInt8} {k k' : IntKind} {a b : Int} (ho : o.op = .slice t x (some lo) (some hi) none) (hx : ρ x = S l) (hlo : ρ lo = .int k a) (hhi : ρ hi = .int k' b) (ht : P.underlying t = some .string)
    (h0 : 0 ≤ a) (h1 : a ≤ b) (h2 : b ≤ l.length) : (execOp ρ o).run P w = .ok (.value (S ((l.take b.toNat).drop a.toNat))) w := by
  have hb0 : 0 ≤ b := by omega
  have hsz : ((mkS l).size : Int) = l.length := rfl
  obtain ⟨a, rfl⟩ := Int.eq_ofNat_of_zero_le h0
  obtain ⟨b, rfl⟩ := Int.eq_ofNat_of_zero_le hb0
  have hn : a ≤ b := by omega
  unfold execOp
  simp only [ho, hx, hlo, hhi, Option.map, Instr.sliceAt, Sem.run_bind, Sem.run_pure, Result.andThen_ok, run_underlying ht, Instr.slice, Instr.sliceBounds, Instr.sliceBound, asIntOf]
  simp only [Int.toNat_natCast]
  have hm' : ¬ (({ data := l.toArray } : ByteArray).size < b) := by show ¬ (l.length < b); omega
  simp [hsz, hm', hn, extract_mkS]
theorem X_strFrom {t : Nat} {x lo : Operand} {l : List UInt8} {k : IntKind} {a : Int} (ho : o.op = .slice t x (some lo) none none) (hx : ρ x = S l) (hlo : ρ lo = .int k a) (ht : P.underlying t = some .string)
    (h0 : 0 ≤ a) (h1 : a ≤ l.length) : (execOp ρ o).run P w = .ok (.value (S (l.drop a.toNat))) w := by
  have hsz : (mkS l).size = l.length := rfl
  unfold execOp
  simp only [ho, hx, hlo, Option.map, Instr.sliceAt, Sem.run_bind, Sem.run_pure, Result.andThen_ok, run_underlying ht, Instr.slice, Instr.sliceBounds, Instr.sliceBound, asIntOf]
  simp [h0, hsz, h1, extract_mkS]
theorem X_strTo {t : Nat} {x hi : Operand} {l : List UInt8} {k' : IntKind} {b : Int} (ho : o.op = .slice t x none (some hi) none) (hx : ρ x = S l) (hhi : ρ hi = .int k' b) (ht : P.underlying t = some .string)
    (h0 : 0 ≤ b) (h2 : b ≤ l.length) : (execOp ρ o).run P w = .ok (.value (S (l.take b.toNat))) w := by
  have hsz : ((mkS l).size : Int) = l.length := rfl
  unfold execOp
  simp only [ho, hx, hhi, Option.map, Instr.sliceAt, Sem.run_bind, Sem.run_pure, Result.andThen_ok, run_underlying ht, Instr.slice, Instr.sliceBounds, Instr.sliceBound, asIntOf]
  simp [h0, hsz, h2, extract_mkS]

theorem beq_dec (l m : List UInt8) : (l == m) = decide (l = m) := by rw [Bool.eq_iff_iff]; simp
theorem append_mkS (l m : List UInt8) : mkS l ++ mkS m = mkS (l ++ m) := by
  apply ByteArray.ext
  simp [ByteArray.data_append]

theorem X_concat {t t' : Nat} {x y : Operand} {l m : List UInt8} (ho : o.op = .binOp .add t x y t') (hx : ρ x = S l) (hy : ρ y = S m) (h : l.length + m.length ≤ 9223372036854775807) : (execOp ρ o).run P w = .ok (.value (S (l ++ m))) w := by
  have h1 : (mkS l).size = l.length := rfl
  have h2 : (mkS m).size = m.length := rfl
  have hs : ¬ ((((mkS l).size + (mkS m).size : Nat) : Int) > IntKind.i64.max) := by
    rw [h1, h2]; simp only [IntKind.max, IntKind.signed, IntKind.bits]; omega
  unfold execOp
  simp only [ho, hx, hy, eqGuard, binOp, Op.stringOp, Sem.run_bind]
  simp only [if_neg hs, append_mkS]
  rfl

/-- '==' of two texts, as a question on their bytes. -/
theorem X_streq {t t' : Nat} {x y : Operand} {l m : List UInt8} (ho : o.op = .binOp .eql t x y t') (hx : ρ x = S l) (hy : ρ y = S m) : (execOp ρ o).run P w = .ok (.value (.bool (decide (l = m)))) w := by
  unfold execOp
  simp only [ho, hx, hy, eqGuard, binOp, Op.stringOp, mkS_toList, beq_dec]
  rfl
theorem X_strne {t t' : Nat} {x y : Operand} {l m : List UInt8} (ho : o.op = .binOp .neq t x y t') (hx : ρ x = S l) (hy : ρ y = S m) : (execOp ρ o).run P w = .ok (.value (.bool (!decide (l = m)))) w := by
  unfold execOp
  simp only [ho, hx, hy, eqGuard, binOp, Op.stringOp, mkS_toList, beq_dec]
  rfl
theorem X_strlt {t t' : Nat} {x y : Operand} {l m : List UInt8} (ho : o.op = .binOp .lss t x y t') (hx : ρ x = S l) (hy : ρ y = S m) : (execOp ρ o).run P w = .ok (.value (.bool (Op.bytesLess l m))) w := by
  unfold execOp
  simp only [ho, hx, hy, eqGuard, binOp, Op.stringOp, mkS_toList]
  rfl

/-- 'x[lo:hi]' of a slice, the address as the model has it. -/
def cutA (A : Option Addr) (sz l m : Nat) : Option Addr := if m = l then A else A.map (·.add (l * sz))
theorem X_slice {t e sz : Nat} {x lo hi : Operand} {A : Option Addr} {len cap : Nat} {k k' : IntKind} {a b : Int} (ho : o.op = .slice t x (some lo) (some hi) none) (hx : ρ x = .slice A len cap) (hlo : ρ lo = .int k a) (hhi : ρ hi = .int k' b) (ht : P.underlying t = some (.slice e))
    (hs : szIs P e sz = true) (h0 : 0 ≤ a) (h1 : a ≤ b) (h2 : b ≤ cap) : (execOp ρ o).run P w = .ok (.value (.slice (cutA A sz a.toNat cap) (b.toNat - a.toNat) (cap - a.toNat))) w := by
  have hb0 : 0 ≤ b := by omega
  obtain ⟨a, rfl⟩ := Int.eq_ofNat_of_zero_le h0
  obtain ⟨b, rfl⟩ := Int.eq_ofNat_of_zero_le hb0
  have hn : a ≤ b := by omega
  unfold execOp
  simp only [ho, hx, hlo, hhi, Option.map, Instr.sliceAt, Sem.run_bind, Sem.run_pure, Result.andThen_ok, run_underlying ht, Instr.slice, Instr.sliceBounds, Instr.sliceBound, asIntOf]
  have hm : b ≤ cap := by omega
  simp only [Int.toNat_natCast]
  simp [hm, hn, run_sizeOf hs, cutA]
  cases A <;> rfl
theorem X_sliceFrom {t e sz : Nat} {x lo : Operand} {A : Option Addr} {len cap : Nat} {k : IntKind} {a : Int} (ho : o.op = .slice t x (some lo) none none) (hx : ρ x = .slice A len cap) (hlo : ρ lo = .int k a) (ht : P.underlying t = some (.slice e))
    (hs : szIs P e sz = true) (h0 : 0 ≤ a) (h1 : a ≤ len) : (execOp ρ o).run P w = .ok (.value (.slice (cutA A sz a.toNat cap) (len - a.toNat) (cap - a.toNat))) w := by
  unfold execOp
  simp only [ho, hx, hlo, Option.map, Instr.sliceAt, Sem.run_bind, Sem.run_pure, Result.andThen_ok, run_underlying ht, Instr.slice, Instr.sliceBounds, Instr.sliceBound, asIntOf]
  simp [h0, h1, run_sizeOf hs, cutA]
  rfl
theorem X_sliceTo {t e sz : Nat} {x hi : Operand} {A : Option Addr} {len cap : Nat} {k' : IntKind} {b : Int} (ho : o.op = .slice t x none (some hi) none) (hx : ρ x = .slice A len cap) (hhi : ρ hi = .int k' b) (ht : P.underlying t = some (.slice e))
    (hs : szIs P e sz = true) (h0 : 0 ≤ b) (h2 : b ≤ cap) : (execOp ρ o).run P w = .ok (.value (.slice (cutA A sz 0 cap) b.toNat cap)) w := by
  unfold execOp
  simp only [ho, hx, hhi, Option.map, Instr.sliceAt, Sem.run_bind, Sem.run_pure, Result.andThen_ok, run_underlying ht, Instr.slice, Instr.sliceBounds, Instr.sliceBound, asIntOf]
  simp [h0, h2, run_sizeOf hs, cutA]
  rfl

/-- '[]byte(s)'. -/
def byteCs (l : List UInt8) : List Value := l.map fun b => .int .u8 b.toNat
theorem X_bytes {t t' e : Nat} {x : Operand} {l : List UInt8} (ho : o.op = .convert t t' x) (hx : ρ x = S l) (ht : P.underlying t = some .string) (ht' : P.underlying t' = some (.slice e)) (he : P.underlying e = some (.int .u8)) :
    ∃ cap, l.length ≤ cap ∧ (execOp ρ o).run P w = .ok (.value (.slice (some ⟨w.heap.size, 0, none⟩) l.length cap))
      (w.drew.alloc (.cells (byteCs l ++ List.replicate (cap - l.length) (Value.int .u8 0)).toArray e (cap, cap + 1))) := by
  refine ⟨grownCap w l.length 0 e, grownCap_ge w _ _ _, ?_⟩
  have h := run_bytes_of_string (P := P) w t t' e (mkS l) ht ht' he
  have hz : (mkS l).size = l.length := rfl
  have hrow : bytesRow (mkS l) (grownCap w l.length 0 e) = (byteCs l ++ List.replicate (grownCap w l.length 0 e - l.length) (Value.int .u8 0)).toArray := by
    apply Array.ext'
    simp [bytesRow, byteCs, hz]
  have hsz : (bytesRow (mkS l) (grownCap w l.length 0 e)).size = grownCap w l.length 0 e := by
    rw [hrow]; simp [byteCs]; have := grownCap_ge w l.length 0 e; omega
  rw [hz] at h
  rw [hsz, hrow] at h
  unfold execOp
  simp only [ho, hx, Sem.run_bind]
  show ((convert t t' (.string (mkS l))).run P w).andThen _ = _
  rw [h]
  rfl
end
end Go.Vc
