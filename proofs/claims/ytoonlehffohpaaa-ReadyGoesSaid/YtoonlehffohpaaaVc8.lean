/-
  VC, part 8: slices of one-cell values that are known; boxes that never turn; borrowing an owned block. Own work.
-/
import Derived.Test.YtoonlehffohpaaaVc7
namespace Go.Vc
open Go Go.RowKit

/-- The cells from A on are known to be vs. -/
def Arr (M : Mem) (A : Option Addr) (vs : List Value) : Prop := vs = [] ∨ ∃ ad, A = some ad ∧ ∀ j v, vs[j]? = some v → M.cell? (ad.add j) = some v
theorem Arr.mono {M M' : Mem} {A : Option Addr} {vs : List Value} (h : Arr M A vs) (hM : M.le M') : Arr M' A vs := by
  rcases h with h | ⟨ad, h1, h2⟩
  · exact .inl h
  · exact .inr ⟨ad, h1, fun j v hv => hM.cell (h2 j v hv)⟩
theorem Arr.at_ {M : Mem} {A : Option Addr} {vs : List Value} (h : Arr M A vs) {i : Nat} (hi : i < vs.length) : ∃ ad, A = some ad ∧ M.cell? (ad.add i) = some (vs.getD i undef) := by
  rcases h with h | ⟨ad, h1, h2⟩
  · subst h; simp at hi
  · exact ⟨ad, h1, h2 i _ (by simp [List.getD, hi])⟩

/-- A slice of integers. -/
def Ints (M : Mem) (k : IntKind) (A : Option Addr) (xs : List Int) : Prop := Arr M A (xs.map (Value.int k))
theorem Ints.mono {M M' : Mem} {k : IntKind} {A : Option Addr} {xs : List Int} (h : Ints M k A xs) (hM : M.le M') : Ints M' k A xs := Arr.mono h hM
theorem Ints.at_ {M : Mem} {k : IntKind} {A : Option Addr} {xs : List Int} (h : Ints M k A xs) {i : Int} (h0 : 0 ≤ i) (h1 : i < xs.length) :
    ∃ ad, A = some ad ∧ M.cell? (ad.add (i.toNat * 1)) = some (.int k (xs.getD i.toNat 0)) := by
  obtain ⟨ad, e, hc⟩ := Arr.at_ h (i := i.toNat) (by simp; omega)
  refine ⟨ad, e, ?_⟩
  rw [Nat.mul_one, hc]
  have : i.toNat < xs.length := by omega
  simp [List.getD, this]
theorem Ints.nil (M : Mem) (k : IntKind) (A : Option Addr) : Ints M k A [] := .inl rfl

/-- A slice of slices of integers: the headers hs. -/
def IntRow (M : Mem) (k : IntKind) (h : Value) (xs : List Int) : Prop := ∃ A cap, h = .slice A xs.length cap ∧ (xs.length ≤ cap ∧ (A = none → cap = 0)) ∧ Ints M k A xs
theorem IntRow.mono {M M' : Mem} {k : IntKind} {h : Value} {xs : List Int} (hr : IntRow M k h xs) (hM : M.le M') : IntRow M' k h xs := by
  obtain ⟨A, cap, h1, h2, h3⟩ := hr; exact ⟨A, cap, h1, h2, h3.mono hM⟩
def Rows (M : Mem) (k : IntKind) (A : Option Addr) (xss : List (List Int)) : Prop :=
  ∃ hs : List Value, hs.length = xss.length ∧ Arr M A hs ∧ ∀ i, i < xss.length → IntRow M k (hs.getD i undef) (xss.getD i [])
theorem Rows.mono {M M' : Mem} {k : IntKind} {A : Option Addr} {xss : List (List Int)} (h : Rows M k A xss) (hM : M.le M') : Rows M' k A xss := by
  obtain ⟨hs, h1, h2, h3⟩ := h; exact ⟨hs, h1, h2.mono hM, fun i hi => (h3 i hi).mono hM⟩
theorem Rows.at_ {M : Mem} {k : IntKind} {A : Option Addr} {xss : List (List Int)} (h : Rows M k A xss) {i : Int} (h0 : 0 ≤ i) (h1 : i < xss.length) :
    ∃ ad, A = some ad ∧ ∃ B cap, M.cell? (ad.add (i.toNat * 1)) = some (.slice B (xss.getD i.toNat []).length cap) ∧ (xss.getD i.toNat []).length ≤ cap ∧ Ints M k B (xss.getD i.toNat []) := by
  obtain ⟨hs, e1, e2, e3⟩ := h
  obtain ⟨ad, e, hc⟩ := e2.at_ (i := i.toNat) (by omega)
  obtain ⟨B, cap, g1, g2, g3⟩ := e3 i.toNat (by omega)
  exact ⟨ad, e, B, cap, by rw [Nat.mul_one, hc, g1], g2.1, g3⟩

section
variable {P : Program} {w : World} {ρ : Operand → Value} {o : Oper}
theorem X_indexAddrA {t e sz : Nat} {x ix : Operand} {A : Option Addr} {ad : Addr} {len cap : Nat} {k : IntKind} {i : Int} (hA : A = some ad) (ho : o.op = .indexAddr t x ix) (hx : ρ x = .slice A len cap) (hi : ρ ix = .int k i) (ht : P.underlying t = some (.slice e))
    (hs : szIs P e sz = true) (h0 : 0 ≤ i) (h1 : i < len) : (execOp ρ o).run P w = .ok (.value (.pointer (some (ad.add (i.toNat * sz))))) w := X_indexAddr ho (by rw [hx, hA]) hi ht hs h0 h1
end

/-! ### Freezing at once; borrowing -/
section
variable {w0 w : World} {M M' : Mem} {H : List Ent} {b : Nat} {o : Obj}
def Mem.del (M : Mem) (b : Nat) : Mem := fun i => if i = b then none else M i
theorem Mem.le_del (h : M.le M') (hb : M b = none) : M.le (M'.del b) := fun i x hx => by
  unfold Mem.del
  split
  · rename_i e; subst e; rw [hb] at hx; cases hx
  · exact h i x hx
theorem Mem.add_get (M : Mem) (b : Nat) (o : Obj) : M.add b o b = some o := by simp [Mem.add]
theorem Hp.start_le (h : Hp w0 M (.obj b o :: H) w) : w0.heap.size ≤ b := (h.own _ List.mem_cons_self).1
theorem Hp.head_free (h : Hp w0 M (.obj b o :: H) w) : M b = none := h.free _ List.mem_cons_self b rfl
/-- A known block becomes an owned one. -/
theorem Hp.thaw (h : Hp w0 M' H w) (hM : M' b = some o) (hb : w0.heap.size ≤ b) : Hp w0 (M'.del b) (.obj b o :: H) w := by
  refine ⟨h.below, fun i x hx => ?_, fun e he => ?_, List.pairwise_cons.2 ⟨fun e he i hi hi' => ?_, h.apart⟩, fun e he i hi => ?_⟩
  · unfold Mem.del at hx
    split at hx
    · cases hx
    · exact h.mem i x hx
  · rcases List.mem_cons.1 he with rfl | he
    · exact ⟨hb, h.mem b o hM⟩
    · exact h.own e he
  · simp only [Ent.blk, Option.some.injEq] at hi
    subst hi
    have := h.free e he _ hi'
    rw [hM] at this; cases this
  · rcases List.mem_cons.1 he with rfl | he
    · simp only [Ent.blk, Option.some.injEq] at hi; subst hi; simp [Mem.del]
    · unfold Mem.del
      split
      · rfl
      · exact h.free e he i hi
theorem Arr.del {A : Option Addr} {vs : List Value} (h : Arr M' A vs) (hb : ∀ ad, A = some ad → ad.block ≠ b) : Arr (M'.del b) A vs := by
  rcases h with h | ⟨ad, h1, h2⟩
  · exact .inl h
  · refine .inr ⟨ad, h1, fun j v hv => ?_⟩
    have hne := hb ad h1
    have hbl : (ad.add j).block = ad.block := by unfold Addr.add; split <;> rfl
    rw [← h2 j v hv]
    unfold Mem.cell? Mem.del
    rw [hbl, if_neg hne]
/-- The block of an address that is there. -/
def newTo (M : Mem) (A : Option Addr) : Prop := ∀ ad, A = some ad → M ad.block = none
theorem newTo.ne {A : Option Addr} (h : newTo M A) (hM : M b = some o) : ∀ ad, A = some ad → ad.block ≠ b := fun ad e hb => by
  have := h ad e; rw [hb, hM] at this; cases this
theorem newTo.less {A : Option Addr} (h : newTo M' A) (hM : M.le M') : newTo M A := fun ad e => by
  have := h ad e
  cases hx : M ad.block with
  | none => rfl
  | some o => rw [hM _ _ hx] at this; cases this
end

section
variable {P : Program} {ops : Array Oper} {n : Nat} {Q : Exit → Act → World → Prop} {L : Fr} {a : Act} {w0 w : World} {M : Mem} {H : List Ent}
/-- A run that makes one block, which never turns: its cells are known at once. -/
theorem W_box {l : List Oper} {cs : Array Value} {T : TypeId} (hf : Frm n L a) (hp : Hp w0 M H w) (m : Nat) (ks : List Nat) (L' : Nat → Fr)
    (h : ∀ w, runK P ops n (l.take m) ks L w = some (L' w.heap.size, w.alloc (.cells cs T (0, 0))))
    (hk : ∀ b M' w', M.le M' → (∀ j v, cs[j]? = some v → M'.cell? ⟨b, j, none⟩ = some v) → Hp w0 M' H w' → ∀ a', Frm n (L' b) a' → wpList P ops Q (l.drop m) a' w') : wpList P ops Q l a w :=
  W_alloc hf hp m ks _ L' h fun b w' hp' => hk b _ w' hp'.freeze.1 (fun j v hv => by rw [add_cell, hv]) hp'.freeze.2

def Entr (P : Program) (c : FuncId) : Prop := ∀ args w, (callFunc c args).run P w = .ok (.enter c args) w
theorem X_callv {ρ : Operand → Value} {o : Oper} {x : Operand} {as : Array Operand} {ts : Array TypeId} {c : FuncId} {caps vs : List Value} (ho : o.op = .call { callee := .value x, args := as, argTypes := ts }) (hx : ρ x = .func (.func c) #[] caps.toArray)
    (ha : as.toList.map ρ = vs) (he : Entr P c) (w : World) : (execOp ρ o).run P w = .ok (.enter c (vs ++ caps).toArray) w := by
  have ha' : as.map ρ = vs.toArray := Array.ext' (by rw [Array.toList_map, ha])
  unfold execOp
  simp only [ho, resolve, hx, ha', Deferred.ofValue, Sem.run_bind, Sem.run_pure, Result.andThen_ok, invoke]
  have := he (#[] ++ vs.toArray ++ caps.toArray) w
  simpa using this
theorem add_one (M : Mem) (b : Nat) (cs : Array Value) (T : TypeId) (fr : Nat × Nat) (j : Nat) (v : Value) (h : cs[j]? = some v) : (M.add b (.cells cs T fr)).cell? ⟨b, j, none⟩ = some v := by rw [add_cell, h]

/-- What a function hands back that makes a slice of integers of its own. -/
def RetInts (M : Mem) (k : IntKind) (xs : List Int) (M' : Mem) (v : Value) : Prop := ∃ A cap, v = .slice A xs.length cap ∧ (xs.length ≤ cap ∧ (A = none → cap = 0)) ∧ Ints M' k A xs ∧ newTo M A
theorem Hp.rowInts {e : TypeId} {k : IntKind} {v : Value} {n : Nat} {xs : List Int} (h : Hp w0 M (.row e 1 v n (xs.map (Value.int k)) :: H) w) :
    ∃ M', M.le M' ∧ Hp w0 M' H w ∧ RetInts M k xs M' v := by
  rcases h.rowObj with ⟨h1, h2, h3, h4⟩ | ⟨g, cap, cur, h1, h2, h3, h4, h5, h6, h7⟩
  · have : xs = [] := by simpa using h3
    subst this
    exact ⟨M, Mem.le_refl M, h4, none, 0, h1, ⟨by simp, fun _ => rfl⟩, .inl rfl, fun _ e => by cases e⟩
  · obtain ⟨k1, k2⟩ := h7.freeze
    have hn : n = xs.length := by simpa using h6.symm
    subst hn
    refine ⟨_, k1, k2, some ⟨g, 0, none⟩, cap, h1, ⟨h2, fun e => by cases e⟩, .inr ⟨_, rfl, fun j u hu => ?_⟩, fun ad e => ?_⟩
    · rw [Addr.add_lit, add_cell, ← Array.getElem?_toList]
      have hj : j < xs.length * 1 := h6 ▸ (List.getElem?_eq_some_iff.1 hu).1
      rw [← h5, List.getElem?_take_of_lt hj] at hu
      simpa using hu
    · cases e; exact h7.head_free
theorem RetInts.more {k : IntKind} {xs : List Int} {M0 M1 M2 M3 : Mem} {v : Value} (h : RetInts M1 k xs M2 v) (h0 : M0.le M1) (h2 : M2.le M3) : RetInts M0 k xs M3 v := by
  obtain ⟨A, cap, e1, e2, e3, e4⟩ := h
  exact ⟨A, cap, e1, e2, e3.mono h2, e4.less h0⟩
end
end Go.Vc
