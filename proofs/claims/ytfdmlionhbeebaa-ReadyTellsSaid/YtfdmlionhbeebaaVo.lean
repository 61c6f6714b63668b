/-
  The opening kit: what an argument's reading tells, as typed data. Own work.
-/
import Derived.Test.YtfdmlionhbeebaaVkA
import Derived.ChangeArms
import Derived.Carry
namespace Go.Vc
open Go

mutual
/-- Within the bounds of any reading. -/
def Vld : Dat → Prop
  | .int k n => (Lit.int k n).wf = true
  | .bool _ => True
  | .str l => l.length ≤ maxLen
  | .list _ ds => ds.length ≤ maxLen ∧ VldAll ds
  | .struct ds => VldAll ds
def VldAll : List Dat → Prop
  | [] => True
  | d :: ds => Vld d ∧ VldAll ds
end
theorem VldAll.at_ : ∀ {ds : List Dat} {d : Dat}, VldAll ds → d ∈ ds → Vld d
  | [], _, _, h => by cases h
  | x :: ds, d, hv, h => by
    rcases List.mem_cons.1 h with rfl | h
    · exact hv.1
    · exact VldAll.at_ hv.2 h
theorem VldAll.mk : ∀ {ds : List Dat}, (∀ d ∈ ds, Vld d) → VldAll ds
  | [], _ => trivial
  | d :: _, h => ⟨h d List.mem_cons_self, VldAll.mk fun x hx => h x (List.mem_cons_of_mem _ hx)⟩

def Opn {H : Type} (enc : TypeId × Value → H) (P : Program) (w : World) (t : TypeId) {α : Type} (f : α → Dat) (n : Nat) : Prop :=
  ∀ m, m ≤ n → ∀ cs x, DataW.trod enc P w 0 (fun _ => true) true m t cs = some x → ∃ a, Rep (Mem.of w) (f a) cs ∧ Vld (f a)
section
variable {H : Type} {enc : TypeId × Value → H} {P : Program} {w : World} {t : TypeId} {α : Type} {f : α → Dat} {n : Nat}
theorem Opn.zero : Opn enc P w t f 0 := fun m hm cs x h => by
  obtain rfl : m = 0 := by omega
  simp [DataW.trod] at h
theorem Opn.le {n' : Nat} (h : Opn enc P w t f n) (hn : n' ≤ n) : Opn enc P w t f n' := fun m hm => h m (Nat.le_trans hm hn)
theorem opn_int {k : IntKind} (ht : P.underlying t = some (.int k)) : Opn enc P w t (Dat.int k) n := fun _ _ cs x h => by
  obtain ⟨a, rfl, _, hw⟩ := DataW.trod_int ht h
  exact ⟨a, rfl, hw⟩
theorem opn_byte (ht : P.underlying t = some (.int .u8)) : Opn enc P w t embB n := fun _ _ cs x h => by
  obtain ⟨a, rfl, _, hw⟩ := DataW.trod_int ht h
  obtain ⟨c, rfl⟩ := byte_ex hw
  exact ⟨c, rfl, hw⟩
theorem opn_bool (ht : P.underlying t = some .bool) : Opn enc P w t Dat.bool n := fun _ _ cs x h => by
  obtain ⟨a, rfl, _⟩ := DataW.trod_bool ht h
  exact ⟨a, rfl, trivial⟩
theorem opn_str (ht : P.underlying t = some .string) : Opn enc P w t Dat.str n := fun _ _ cs x h => by
  obtain ⟨s, rfl, _, hw⟩ := DataW.trod_string ht h
  exact ⟨s.data.toList, (by show [Value.string s] = _; rw [S_eta]), by show s.data.toList.length ≤ maxLen; simpa using hw⟩
theorem cells_of {a : Addr} {k : Nat} {cs : List Value} (h : w.cells? 0 a k = some cs) : cs.length = k ∧ ∀ j v, cs[j]? = some v → (Mem.of w).cell? (a.add j) = some v := by
  obtain ⟨_, h2, h3⟩ := World.cells?_some h
  refine ⟨h2, fun j v hv => ?_⟩
  have hj : j < k := h2 ▸ (List.getElem?_eq_some_iff.1 hv).1
  exact (h3 j hj).trans hv
theorem opn_slice {e : TypeId} {sz : Nat} (ht : P.underlying t = some (.slice e)) (hsz : P.cellsOf e = sz) (h : Opn enc P w e f n) : Opn enc P w t (eL sz f) (n + 1) := fun m hm cs x hx => by
  rcases DataW.trod_slice ht hx with ⟨rfl, _⟩ | ⟨ad, len, cap, elems, rest, n', rfl, rfl, _, _, hlc, hcm, hel, hat, _⟩
  · exact ⟨[], Sli.rep (Sli.nil (sz := sz) (f := f)), by simp [Vld, eL, VldAll]⟩
  · have key : ∀ k, k ≤ len → ∃ xs : List α, xs.length = k ∧ RepArr (Mem.of w) sz (xs.map f) ad ∧ ∀ x ∈ xs, Vld (f x) := by
      intro k
      induction k with
      | zero => intro _; exact ⟨[], rfl, trivial, fun x hx => by cases hx⟩
      | succ k ih =>
        intro hk
        obtain ⟨xs, h1, h2, h3⟩ := ih (by omega)
        have hk' : k < elems.length := by omega
        have := hat k (by omega)
        rw [List.getElem?_eq_getElem hk'] at this
        obtain ⟨cs', g1, g2⟩ := Option.bind_eq_some_iff.1 this
        obtain ⟨a, g3, g4⟩ := h n' (by omega) cs' _ g2
        obtain ⟨g5, g6⟩ := cells_of g1
        rw [hsz] at g5 g6
        refine ⟨xs ++ [a], by simp [h1], ?_, fun x hx => ?_⟩
        · rw [List.map_append]
          have app : ∀ (ds : List Dat) (ad : Addr), RepArr (Mem.of w) sz ds ad → RepArr (Mem.of w) sz [f a] (ad.add (ds.length * sz)) → RepArr (Mem.of w) sz (ds ++ [f a]) ad := by
            intro ds
            induction ds with
            | nil => intro ad _ hh; simpa [Addr.add] using hh
            | cons d ds ih =>
              intro ad h1 h2
              refine ⟨h1.1, ih _ h1.2 ?_⟩
              rw [add_of_add]
              rw [List.length_cons, show (ds.length + 1) * sz = sz + ds.length * sz by rw [Nat.add_mul]; omega] at h2
              exact h2
          refine app _ _ h2 ⟨⟨cs', g5, g3, ?_⟩, trivial⟩
          rw [List.length_map, h1]
          exact g6
        · rcases List.mem_append.1 hx with hx | hx
          · exact h3 x hx
          · simp at hx; subst hx; exact g4
    obtain ⟨xs, h1, h2, h3⟩ := key len (Nat.le_refl _)
    subst h1
    refine ⟨xs, Sli.rep ⟨hlc, fun e => (by cases e), .inr ⟨ad, rfl, h2⟩⟩, ?_, VldAll.mk fun d hd => ?_⟩
    · rw [List.length_map]; omega
    · obtain ⟨x, hx, rfl⟩ := List.mem_map.1 hd
      exact h3 x hx
theorem RepSeq.cut {M : Mem} {d : Dat} {ds : List Dat} {cs : List Value} {k : Nat} (h1 : Rep M d (cs.take k)) (h2 : RepSeq M ds (cs.drop k)) : RepSeq M (d :: ds) cs := ⟨cs.take k, cs.drop k, (List.take_append_drop k cs).symm, h1, h2⟩
/-- An argument. -/
theorem Opn.arg (h : ∀ n, Opn enc P w t f n) {v : Value} {d : DataW H} {ps : List MemPlace} (ht : DataW.Trod enc P w 0 (fun _ => true) true t v d ps) : ∃ a, Rep (Mem.of w) (f a) v.cells.toList ∧ Vld (f a) := by
  obtain ⟨fuel, hf⟩ := ht
  exact h fuel fuel (Nat.le_refl _) _ _ hf
theorem Opn.slice_arg {e : TypeId} {sz : Nat} (hu : P.underlying t = some (.slice e)) (hsz : P.cellsOf e = sz) (h : ∀ n, Opn enc P w e f n) {v : Value} {d : DataW H} {ps : List MemPlace} (hv : ∃ A len cap, v = .slice A len cap) (ht : DataW.Trod enc P w 0 (fun _ => true) true t v d ps) :
    ∃ A cap xs, v = .slice A xs.length cap ∧ Sli (Mem.of w) sz f A cap xs ∧ Vld (eL sz f xs) := by
  obtain ⟨A, len, cap, rfl⟩ := hv
  obtain ⟨xs, h1, h2⟩ := Opn.arg (f := eL sz f) (fun n => (opn_slice hu hsz (h n)).le (Nat.le_succ n)) ht
  obtain ⟨A', cap', e, hs⟩ := Rep.sli h1
  simp only [Value.cells] at e
  have e' : Value.slice A len cap = Value.slice A' xs.length cap' := by simpa using e
  cases e'
  exact ⟨A, cap, xs, rfl, hs, h2⟩
end
end Go.Vc
