/-
  VC, part 2: memory. M: what is known and never turns; H: the blocks that the call made and may still write. Own work.
-/
import Derived.Below
import Derived.Deep.Draws
import Derived.Laws.OwnMore
import Derived.Laws.Rows
namespace Go.Vc
open Go Go.RowKit

def Mem := Nat → Option Obj
def Mem.le (M M' : Mem) : Prop := ∀ b o, M b = some o → M' b = some o
theorem Mem.le_refl (M : Mem) : M.le M := fun _ _ h => h
theorem Mem.le.trans {M M' M'' : Mem} (h : M.le M') (h' : M'.le M'') : M.le M'' := fun b o e => h' b o (h b o e)
def Mem.cell? (M : Mem) (a : Addr) : Option Value :=
  match M a.block with
  | some (.cells c _ _) => if a.spot.isSome then none else c[a.off]?
  | _ => none
theorem Mem.le.cell {M M' : Mem} (h : M.le M') {a : Addr} {v : Value} (hc : M.cell? a = some v) : M'.cell? a = some v := by
  unfold Mem.cell? at *
  cases hb : M a.block with
  | none => simp [hb] at hc
  | some o => rw [h _ _ hb]; rw [hb] at hc; exact hc
def Mem.add (M : Mem) (b : Nat) (o : Obj) : Mem := fun i => if i = b then some o else M i
def Mem.of (w : World) : Mem := fun b => w.heap[b]?

inductive Ent
  | obj (b : Nat) (o : Obj)
  | row (e : TypeId) (size : Nat) (v : Value) (n : Nat) (xs : List Value)

def Ent.blk : Ent → Option Nat
  | .obj b _ => some b
  | .row _ _ v _ _ => v.ownBlock
def Ent.owns (B : Nat) (w : World) : Ent → Prop
  | .obj b o => B ≤ b ∧ w.heap[b]? = some o
  | .row e size v n xs => w.ownsRow B e size v n xs

structure Hp (w0 : World) (M : Mem) (H : List Ent) (w : World) : Prop where
  below : Below w0.heap.size w0 w
  mem : ∀ b o, M b = some o → w.heap[b]? = some o
  own : ∀ e ∈ H, e.owns w0.heap.size w
  apart : H.Pairwise fun x y => ∀ b, x.blk = some b → y.blk ≠ some b
  free : ∀ e ∈ H, ∀ b, e.blk = some b → M b = none

theorem lt_of_get {w : World} {b : Nat} {o : Obj} (h : w.heap[b]? = some o) : b < w.heap.size := (Array.getElem?_eq_some_iff.1 h).1

theorem Hp.start (w : World) : Hp w (Mem.of w) [] w :=
  ⟨Below.refl _ _, fun _ _ h => h, fun _ h => by simp at h, .nil, fun _ h => by simp at h⟩

section
variable {w0 w w' : World} {M M' : Mem} {H H' : List Ent} {e : Ent} {b : Nat} {o : Obj}

theorem Hp.cell (h : Hp w0 M H w) {a : Addr} {v : Value} (hc : M.cell? a = some v) : w.cell? a = some v := by
  unfold Mem.cell? at hc
  unfold World.cell?
  cases hb : M a.block with
  | none => simp [hb] at hc
  | some o => rw [h.mem _ _ hb]; rw [hb] at hc; exact hc

theorem Hp.less (h : Hp w0 M' H w) (hm : M.le M') : Hp w0 M H w :=
  ⟨h.below, fun b o hb => h.mem b o (hm b o hb), h.own, h.apart, fun e he b hb => by
    have := h.free e he b hb
    cases hM : M b with
    | none => rfl
    | some o => rw [hm b o hM] at this; cases this⟩

theorem Hp.perm (h : Hp w0 M H w) (hp : H.Perm H') : Hp w0 M H' w :=
  ⟨h.below, h.mem, fun e he => h.own e (hp.mem_iff.2 he), hp.pairwise h.apart (fun hxy b hy hx => hxy b hx hy), fun e he => h.free e (hp.mem_iff.2 he)⟩

theorem Hp.drop (h : Hp w0 M (e :: H) w) : Hp w0 M H w :=
  ⟨h.below, h.mem, fun x hx => h.own x (List.mem_cons_of_mem _ hx), (List.pairwise_cons.1 h.apart).2, fun x hx => h.free x (List.mem_cons_of_mem _ hx)⟩

theorem Hp.dropN (h : Hp w0 M H w) (k : Nat) : Hp w0 M (H.drop k) w :=
  ⟨h.below, h.mem, fun x hx => h.own x (List.mem_of_mem_drop hx), h.apart.sublist (List.drop_sublist _ _), fun x hx => h.free x (List.mem_of_mem_drop hx)⟩

theorem perm_pull : ∀ (H : List Ent) (i : Nat) (e : Ent), H[i]? = some e → H.Perm (e :: H.eraseIdx i)
  | [], i, e, h => by simp at h
  | x :: r, 0, e, h => by simp only [List.getElem?_cons_zero, Option.some.injEq] at h; subst h; exact .refl _
  | x :: r, i + 1, e, h => by
    simp only [List.getElem?_cons_succ] at h
    exact ((perm_pull r i e h).cons x).trans (.swap e x _)

/-- Entry i ahead of the others. -/
theorem Hp.pull (h : Hp w0 M H w) (i : Nat) {e : Ent} {H' : List Ent} (he : H[i]? = some e) (hH : H.eraseIdx i = H') : Hp w0 M (e :: H') w := by
  subst hH; exact h.perm (perm_pull H i e he)

theorem Ent.blk_lt {B : Nat} (h : e.owns B w) (hb : e.blk = some b) : B ≤ b ∧ b < w.heap.size := by
  cases e with
  | obj c o => simp only [Ent.blk, Option.some.injEq] at hb; subst hb; exact ⟨h.1, lt_of_get h.2⟩
  | row t size v n xs => exact World.ownsRow.lt h b hb

/-- What an entry owns stays owned while its own block is as it was. -/
theorem Ent.owns_keep {B : Nat} (h : e.owns B w) (hk : ∀ b, e.blk = some b → w'.heap[b]? = w.heap[b]?) : e.owns B w' := by
  cases e with
  | obj c o => exact ⟨h.1, (hk c rfl).trans h.2⟩
  | row t size v n xs =>
    obtain ⟨h1, h2⟩ := h
    refine ⟨h1, ?_⟩
    rcases h2 with h2 | ⟨g, cap, cur, rfl, hg, hh, r⟩
    · exact .inl h2
    · exact .inr ⟨g, cap, cur, rfl, hg, (hk g rfl).trans hh, r⟩

theorem Hp.drew (h : Hp w0 M H w) : Hp w0 M H w.drew :=
  ⟨h.below.drew, h.mem, fun e he => Ent.owns_keep (h.own e he) fun _ _ => rfl, h.apart, h.free⟩

theorem Hp.drewN (h : Hp w0 M H w) (n : Nat) : Hp w0 M H (w.drewN n) :=
  ⟨⟨h.below.os, h.below.tape, h.below.output, h.below.size, h.below.block⟩, h.mem, fun e he => Ent.owns_keep (h.own e he) fun _ _ => rfl, h.apart, h.free⟩

theorem get_alloc (w : World) (o : Obj) : (w.alloc o).heap[w.heap.size]? = some o := by
  show (w.heap.push o)[w.heap.size]? = _
  simp

/-- A new block. -/
theorem Hp.alloc (h : Hp w0 M H w) (o : Obj) : Hp w0 M (.obj w.heap.size o :: H) (w.alloc o) := by
  have hlt : ∀ e ∈ H, ∀ b, e.blk = some b → b < w.heap.size := fun e he b hb => (Ent.blk_lt (h.own e he) hb).2
  refine ⟨h.below.alloc h.below.size o, fun b x hb => ?_, fun e he => ?_, ?_, fun e he b hb => ?_⟩
  · have := h.mem b x hb
    rw [Below.heap_alloc w o b (lt_of_get this)]; exact this
  · rcases List.mem_cons.1 he with rfl | he
    · exact ⟨h.below.size, get_alloc w o⟩
    · exact Ent.owns_keep (h.own e he) fun b hb => Below.heap_alloc w o b (hlt e he b hb)
  · refine List.pairwise_cons.2 ⟨fun e he b hb hb' => ?_, h.apart⟩
    simp only [Ent.blk, Option.some.injEq] at hb
    have := hlt e he b hb'
    omega
  · rcases List.mem_cons.1 he with rfl | he
    · simp only [Ent.blk, Option.some.injEq] at hb
      subst hb
      cases hM : M w.heap.size with
      | none => rfl
      | some x => have := lt_of_get (h.mem _ _ hM); omega
    · exact h.free e he b hb

/-- A write to the first entry's own block. -/
theorem Hp.write (h : Hp w0 M (.obj b o :: H) w) {o' : Obj} (h1 : w'.os = w.os) (h2 : w'.tape = w.tape) (h3 : w'.output = w.output) (h4 : w'.heap.size = w.heap.size)
    (h5 : w'.heap[b]? = some o') (h6 : ∀ k, k ≠ b → w'.heap[k]? = w.heap[k]?) : Hp w0 M (.obj b o' :: H) w' := by
  have hb := h.own _ List.mem_cons_self
  have hM := h.free _ List.mem_cons_self b rfl
  have hap := List.pairwise_cons.1 h.apart
  refine ⟨⟨h1.trans h.below.os, h2.trans h.below.tape, h3.trans h.below.output, by have := h.below.size; omega, fun k hk => ?_⟩, fun k x hk => ?_, fun e he => ?_, ?_, fun e he k hk => ?_⟩
  · rw [h6 k (by have := hb.1; omega)]; exact h.below.block k hk
  · rw [h6 k (fun e => by subst e; rw [hM] at hk; cases hk)]; exact h.mem k x hk
  · rcases List.mem_cons.1 he with rfl | he2
    · exact ⟨hb.1, h5⟩
    · exact Ent.owns_keep (h.own e (List.mem_cons_of_mem _ he2)) fun k hk => h6 k (fun e' => hap.1 e he2 b rfl (e' ▸ hk))
  · exact List.pairwise_cons.2 ⟨fun e he k hk => hap.1 e he k hk, hap.2⟩
  · rcases List.mem_cons.1 he with rfl | he
    · exact h.free _ List.mem_cons_self k hk
    · exact h.free e (List.mem_cons_of_mem _ he) k hk

theorem Hp.setCell {T : TypeId} {cs : Array Value} {fr : Nat × Nat} (h : Hp w0 M (.obj b (.cells cs T fr) :: H) w) (i : Nat) (v : Value) :
    Hp w0 M (.obj b (.cells (cs.setIfInBounds i v) T fr) :: H) (w.setCell ⟨b, i, none⟩ v) := by
  have hb := (h.own _ List.mem_cons_self).2
  refine h.write rfl rfl rfl (by simp [World.setCell]) ?_ (fun k hk => Below.heap_setCell w ⟨b, i, none⟩ v k hk)
  simp [World.setCell, Array.getElem?_modify, hb]

theorem Hp.ownCell {T : TypeId} {cs : Array Value} {fr : Nat × Nat} (h : Hp w0 M H w) (i : Nat) (he : H[i]? = some (.obj b (.cells cs T fr))) (j : Nat) : w.cell? ⟨b, j, none⟩ = cs[j]? := by
  have := (h.own _ (List.mem_of_getElem? he)).2
  simp [World.cell?, this]

theorem Hp.ownFrozen {T : TypeId} {cs : Array Value} {lo hi : Nat} (h : Hp w0 M H w) (i : Nat) (he : H[i]? = some (.obj b (.cells cs T (lo, hi)))) (j : Nat) (hj : ¬ (lo ≤ j ∧ j < hi)) : w.frozen? ⟨b, j, none⟩ = false := by
  have := (h.own _ (List.mem_of_getElem? he)).2
  simp [World.frozen?, this]
  omega

/-- The first entry becomes known memory. -/
theorem Hp.freeze (h : Hp w0 M (.obj b o :: H) w) : M.le (M.add b o) ∧ Hp w0 (M.add b o) H w := by
  have hM := h.free _ List.mem_cons_self b rfl
  have hb := h.own _ List.mem_cons_self
  have hap := List.pairwise_cons.1 h.apart
  refine ⟨fun k x hk => ?_, h.below, fun k x hk => ?_, fun e he => h.own e (List.mem_cons_of_mem _ he), hap.2, fun e he k hk => ?_⟩
  · unfold Mem.add
    split
    · rename_i hkb; subst hkb; rw [hM] at hk; cases hk
    · exact hk
  · unfold Mem.add at hk
    split at hk
    · rename_i hkb; subst hkb; cases hk; exact hb.2
    · exact h.mem k x hk
  · unfold Mem.add
    split
    · rename_i hkb; subst hkb; exact absurd hk (hap.1 e he k rfl)
    · exact h.free e (List.mem_cons_of_mem _ he) k hk

/-- A row that is nil as yet. -/
theorem Hp.nilRow (h : Hp w0 M H w) (t : TypeId) (size : Nat) : Hp w0 M (.row t size (.slice none 0 0) 0 [] :: H) w :=
  ⟨h.below, h.mem, fun e he => by
      rcases List.mem_cons.1 he with rfl | he
      · exact World.ownsRow_nil _ _ _ _
      · exact h.own e he,
    List.pairwise_cons.2 ⟨fun e _ b hb => by simp [Ent.blk, Value.ownBlock] at hb, h.apart⟩,
    fun e he b hb => by
      rcases List.mem_cons.1 he with rfl | he
      · simp [Ent.blk, Value.ownBlock] at hb
      · exact h.free e he b hb⟩

/-- Behind an append to the first entry's row. -/
theorem Hp.grown {t : TypeId} {size n n' : Nat} {v v' : Value} {xs xs' : List Value} (h : Hp w0 M (.row t size v n xs :: H) w) (hown : w'.ownsRow w0.heap.size t size v' n' xs') (hg : w.grownBy w' v.ownBlock)
    (hv : v'.ownBlock = v.ownBlock ∨ ∀ k, v'.ownBlock = some k → w.heap.size ≤ k) : Hp w0 M (.row t size v' n' xs' :: H) w' := by
  have hb : ∀ k, v.ownBlock = some k → w0.heap.size ≤ k ∧ k < w.heap.size := fun k hk => World.ownsRow.lt (h.own _ List.mem_cons_self) k hk
  have hM : ∀ k, v.ownBlock = some k → M k = none := fun k hk => h.free _ List.mem_cons_self k hk
  have hap := List.pairwise_cons.1 h.apart
  have hnew : ∀ k, v'.ownBlock = some k → v.ownBlock = some k ∨ w.heap.size ≤ k := fun k hk => by
    rcases hv with e | e
    · exact .inl (e ▸ hk)
    · exact .inr (e k hk)
  have keepB : ∀ k x, w.heap[k]? = some x → some k ≠ v.ownBlock → w'.heap[k]? = some x := fun k x hk hne => (hg.block k (lt_of_get hk) hne).trans hk
  refine ⟨h.below.grown hg h.below.size (fun k hk => (hb k hk).1), fun k x hk => keepB k x (h.mem k x hk) (fun e => by rw [hM k e.symm] at hk; cases hk), fun e he => ?_, ?_, fun e he k hk => ?_⟩
  · rcases List.mem_cons.1 he with rfl | he
    · exact hown
    · refine Ent.owns_keep (h.own e (List.mem_cons_of_mem _ he)) fun k hk => hg.block k (Ent.blk_lt (h.own e (List.mem_cons_of_mem _ he)) hk).2 (fun e' => hap.1 e he k e'.symm hk)
  · refine List.pairwise_cons.2 ⟨fun e he k hk hk' => ?_, hap.2⟩
    rcases hnew k hk with h1 | h1
    · exact hap.1 e he k h1 hk'
    · have := (Ent.blk_lt (h.own e (List.mem_cons_of_mem _ he)) hk').2
      omega
  · rcases List.mem_cons.1 he with rfl | he
    · rcases hnew k hk with h1 | h1
      · exact hM k h1
      · cases hMk : M k with
        | none => rfl
        | some x => have := lt_of_get (h.mem _ _ hMk); omega
    · exact h.free e (List.mem_cons_of_mem _ he) k hk

theorem Hp.rowAt {t : TypeId} {size n : Nat} {v : Value} {xs : List Value} (h : Hp w0 M H w) (i : Nat) (he : H[i]? = some (.row t size v n xs)) : w.ownsRow w0.heap.size t size v n xs := h.own _ (List.mem_of_getElem? he)
end
end Go.Vc
