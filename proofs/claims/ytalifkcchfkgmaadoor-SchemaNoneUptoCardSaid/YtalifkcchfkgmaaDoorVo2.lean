/-
  The opening kit, with the reading's bulk: what an argument's reading tells, as typed data no greater than the reading. Own work.
-/
import Derived.Test.YtalifkcchfkgmaaDoorVo
namespace Go.Vc
open Go

mutual
/-- How many values and letters. -/
def dsz : Dat → Nat
  | .int _ _ => 1
  | .bool _ => 1
  | .str l => l.length + 1
  | .list _ ds => dszs ds + 1
  | .struct ds => dszs ds + 1
def dszs : List Dat → Nat
  | [] => 0
  | d :: ds => dsz d + dszs ds
end
theorem dszs_app : ∀ (a b : List Dat), dszs (a ++ b) = dszs a + dszs b
  | [], b => by simp [dszs]
  | d :: a, b => by simp only [List.cons_append, dszs, dszs_app a b]; omega
theorem dszs_mem : ∀ {ds : List Dat} {d : Dat}, d ∈ ds → dsz d ≤ dszs ds
  | x :: ds, d, h => by
    rcases List.mem_cons.1 h with rfl | h
    · simp only [dszs]; omega
    · have := dszs_mem h; simp only [dszs]; omega
theorem dsz_pos : ∀ d : Dat, 1 ≤ dsz d
  | .int _ _ => by simp [dsz]
  | .bool _ => by simp [dsz]
  | .str l => by simp [dsz]
  | .list _ ds => by simp [dsz]
  | .struct ds => by simp [dsz]
theorem dszs_len : ∀ ds : List Dat, ds.length ≤ dszs ds
  | [] => by simp
  | d :: ds => by have := dsz_pos d; have := dszs_len ds; simp only [dszs, List.length_cons]; omega
theorem le_sum : ∀ {l : List Nat} {x : Nat}, x ∈ l → x ≤ l.sum
  | y :: l, x, h => by
    rcases List.mem_cons.1 h with rfl | h
    · simp
    · have := le_sum h; simp only [List.sum_cons]; omega
section
variable {H : Type}
structure BulkOk (B : DataW H → Nat) : Prop where
  one : ∀ d, 1 ≤ B d
  str : ∀ l, B (.lit (.string l)) = l.length + 1
  slice : ∀ e s, (e.map B).sum + 1 ≤ B (.slice e s)
  agg : ∀ e, (e.map B).sum + 1 ≤ B (.agg e)
variable {enc : TypeId × Value → H} {P : Program} {w : World} {t : TypeId} {α : Type} {f : α → Dat} {m : Nat} {B : DataW H → Nat}
def OpnAt (enc : TypeId × Value → H) (P : Program) (w : World) (t : TypeId) {α : Type} (f : α → Dat) (B : DataW H → Nat) (m : Nat) : Prop :=
  ∀ cs x, DataW.trod enc P w 0 (fun _ => true) true m t cs = some x → ∃ a, Rep (Mem.of w) (f a) cs ∧ Vld (f a) ∧ dsz (f a) ≤ B x.1
theorem OpnAt.zero : OpnAt enc P w t f B 0 := fun cs x h => by simp [DataW.trod] at h
theorem opa_int {k : IntKind} (hB : BulkOk B) (ht : P.underlying t = some (.int k)) : OpnAt enc P w t (Dat.int k) B m := fun cs x h => by
  obtain ⟨a, rfl, _, hw⟩ := DataW.trod_int ht h
  exact ⟨a, rfl, hw, hB.one _⟩
theorem opa_byte (hB : BulkOk B) (ht : P.underlying t = some (.int .u8)) : OpnAt enc P w t embB B m := fun cs x h => by
  obtain ⟨a, rfl, _, hw⟩ := DataW.trod_int ht h
  obtain ⟨c, rfl⟩ := byte_ex hw
  exact ⟨c, rfl, hw, hB.one _⟩
theorem opa_bool (hB : BulkOk B) (ht : P.underlying t = some .bool) : OpnAt enc P w t Dat.bool B m := fun cs x h => by
  obtain ⟨a, rfl, _⟩ := DataW.trod_bool ht h
  exact ⟨a, rfl, trivial, hB.one _⟩
theorem opa_str (hB : BulkOk B) (ht : P.underlying t = some .string) : OpnAt enc P w t Dat.str B m := fun cs x h => by
  obtain ⟨s, rfl, hx, hw⟩ := DataW.trod_string ht h
  refine ⟨s.data.toList, (by show [Value.string s] = _; rw [S_eta]), by show s.data.toList.length ≤ maxLen; simpa using hw, ?_⟩
  rw [hx]
  show s.data.toList.length + 1 ≤ B (.lit (.string s.data.toList))
  rw [hB.str]
  exact Nat.le_refl _
theorem opa_slice {e : TypeId} {sz : Nat} (hB : BulkOk B) (ht : P.underlying t = some (.slice e)) (hsz : P.cellsOf e = sz) (h : OpnAt enc P w e f B m) : OpnAt enc P w t (eL sz f) B (m + 1) := fun cs x hx => by
  rcases DataW.trod_slice ht hx with ⟨rfl, hx⟩ | ⟨ad, len, cap, elems, rest, n', hn', rfl, hxe, _, hlc, hcm, hel, hat, _⟩
  · refine ⟨[], Sli.rep (Sli.nil (sz := sz) (f := f)), by simp [Vld, eL, VldAll], ?_⟩
    have := hB.one x.1
    simpa [eL, dsz, dszs] using this
  · obtain rfl : n' = m := by omega
    have key : ∀ k, k ≤ len → ∃ xs : List α, xs.length = k ∧ RepArr (Mem.of w) sz (xs.map f) ad ∧ (∀ x ∈ xs, Vld (f x)) ∧ dszs (xs.map f) ≤ ((elems.take k).map fun x => B x.1).sum := by
      intro k
      induction k with
      | zero => intro _; exact ⟨[], rfl, trivial, fun x hx => (by cases hx), by simp [dszs]⟩
      | succ k ih =>
        intro hk
        obtain ⟨xs, h1, h2, h3, h3b⟩ := ih (by omega)
        have hk' : k < elems.length := by omega
        have := hat k (by omega)
        rw [List.getElem?_eq_getElem hk'] at this
        obtain ⟨cs', g1, g2⟩ := Option.bind_eq_some_iff.1 this
        obtain ⟨a, g3, g4, g4b⟩ := h cs' _ g2
        obtain ⟨g5, g6⟩ := cells_of g1
        rw [hsz] at g5 g6
        refine ⟨xs ++ [a], by simp [h1], ?_, fun x hx => ?_, ?_⟩
        · rw [List.map_append]
          have app : ∀ (ds : List Dat) (ad : Addr), RepArr (Mem.of w) sz ds ad → RepArr (Mem.of w) sz [f a] (ad.add (ds.length * sz)) → RepArr (Mem.of w) sz (ds ++ [f a]) ad := by
            intro ds
            induction ds with
            | nil => intro ad _ hh; simpa [Addr.add] using hh
            | cons d ds ih =>
              intro ad h1 h2
              refine ⟨h1.1, ih _ h1.2 ?_⟩
              rw [add_of_add]
              rw [List.length_cons, show (ds.length + 1) * sz = sz + ds.length * sz by rw [Nat.add_mul]; omega] at h2
              exact h2
          refine app _ _ h2 ⟨⟨cs', g5, g3, ?_⟩, trivial⟩
          rw [List.length_map, h1]
          exact g6
        · rcases List.mem_append.1 hx with hx | hx
          · exact h3 x hx
          · simp at hx; subst hx; exact g4
        · rw [List.map_append, dszs_app, List.take_add_one, List.getElem?_eq_getElem hk', List.map_append, List.sum_append]
          simp only [List.map_cons, List.map_nil, dszs, Option.toList_some, List.sum_cons, List.sum_nil]
          omega
    obtain ⟨xs, h1, h2, h3, h3b⟩ := key len (Nat.le_refl _)
    subst h1
    refine ⟨xs, Sli.rep ⟨hlc, fun e => (by cases e), .inr ⟨ad, rfl, h2⟩⟩, ?_, ?_⟩
    · refine ⟨by rw [List.length_map]; omega, VldAll.mk fun d hd => ?_⟩
      obtain ⟨x, hx, rfl⟩ := List.mem_map.1 hd
      exact h3 x hx
    · rw [hxe]
      show dszs (xs.map f) + 1 ≤ _
      have := hB.slice (elems.map (·.1)) (rest.map (·.1))
      rw [← hel, List.take_length] at h3b
      rw [List.map_map] at this
      have e : (elems.map (B ∘ fun x => x.1)) = elems.map fun x => B x.1 := rfl
      rw [e] at this
      show _ ≤ B (.slice (elems.map (·.1)) (rest.map (·.1)))
      omega
theorem opa_slice0 {e : TypeId} {sz : Nat} (hB : BulkOk B) (ht : P.underlying t = some (.slice e)) (hsz : P.cellsOf e = sz) (h : ∀ k, k < m → OpnAt enc P w e f B k) : OpnAt enc P w t (eL sz f) B m := by
  cases m with
  | zero => exact OpnAt.zero
  | succ m => exact opa_slice hB ht hsz (h m (Nat.lt_succ_self m))
/-- An argument. -/
theorem OpnAt.arg (h : ∀ n, OpnAt enc P w t f B n) {v : Value} {d : DataW H} {ps : List MemPlace} (ht : DataW.Trod enc P w 0 (fun _ => true) true t v d ps) : ∃ a, Rep (Mem.of w) (f a) v.cells.toList ∧ Vld (f a) ∧ dsz (f a) ≤ B d := by
  obtain ⟨fuel, hf⟩ := ht
  exact h fuel _ _ hf
theorem OpnAt.slice_arg {e : TypeId} {sz : Nat} (hB : BulkOk B) (hu : P.underlying t = some (.slice e)) (hsz : P.cellsOf e = sz) (h : ∀ n, OpnAt enc P w e f B n) {v : Value} {d : DataW H} {ps : List MemPlace} (hv : ∃ A len cap, v = .slice A len cap) (ht : DataW.Trod enc P w 0 (fun _ => true) true t v d ps) :
    ∃ A cap xs, v = .slice A xs.length cap ∧ Sli (Mem.of w) sz f A cap xs ∧ Vld (eL sz f xs) ∧ dsz (eL sz f xs) ≤ B d := by
  obtain ⟨A, len, cap, rfl⟩ := hv
  obtain ⟨xs, h1, h2⟩ := OpnAt.arg (f := eL sz f) (fun n => opa_slice0 hB hu hsz fun k _ => h k) ht
  obtain ⟨A', cap', e, hs⟩ := Rep.sli h1
  simp only [Value.cells] at e
  have e' : Value.slice A len cap = Value.slice A' xs.length cap' := by simpa using e
  cases e'
  exact ⟨A, cap, xs, rfl, hs, h2⟩
theorem OpnAt.struct_arg (h : ∀ n, OpnAt enc P w t f B n) {v : Value} {d : DataW H} {ps : List MemPlace} (hv : ∃ cs : Array Value, v = .agg cs) (ht : DataW.Trod enc P w 0 (fun _ => true) true t v d ps) :
    ∃ (c : List Value) (a : α), v = .agg c.toArray ∧ Rep (Mem.of w) (f a) c ∧ Vld (f a) ∧ dsz (f a) ≤ B d := by
  obtain ⟨cs, rfl⟩ := hv
  obtain ⟨a, h1, h2⟩ := OpnAt.arg h ht
  exact ⟨cs.toList, a, by simp, h1, h2⟩
end
end Go.Vc
