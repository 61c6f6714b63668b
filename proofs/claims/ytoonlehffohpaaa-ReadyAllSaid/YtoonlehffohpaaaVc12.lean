/-
  VC, part 12: sorting an owned row by the library's contract. Own work.
-/
import Derived.Test.YtoonlehffohpaaaVc11
import Derived.Sort.Grow
namespace Go.Vc
open Go Go.RowKit Go.Sort

section
variable {w0 w : World} {M : Mem} {H : List Ent} {b : Nat}
theorem Hp.grow_ (h : Hp w0 M H w) (os : Array Obj) : Hp w0 M H (grow w os) := by
  have hk : ∀ k, k < w.heap.size → (grow w os).heap[k]? = w.heap[k]? := fun k hk => by simp [grow, Array.getElem?_append, hk]
  refine ⟨⟨h.below.os, h.below.tape, h.below.output, ?_, fun k hk' => ?_⟩, fun k o ho => ?_, fun e he => Ent.owns_keep (h.own e he) fun k hb => hk k (Ent.blk_lt (h.own e he) hb).2, h.apart, h.free⟩
  · have := h.below.size
    simp [grow]; omega
  · rw [hk k (by have := h.below.size; omega)]; exact h.below.block k hk'
  · have := h.mem k o ho
    rw [hk k (lt_of_get this)]; exact this
theorem Hp.mapCells {cur : Array Value} {e : TypeId} {fr : Nat × Nat} (h : Hp w0 M (.obj b (.cells cur e fr) :: H) w) (f : Array Value → Array Value) : Hp w0 M (.obj b (.cells (f cur) e fr) :: H) (mapBlock w b f) := by
  have hb := (h.own _ List.mem_cons_self).2
  refine h.write rfl rfl rfl (by simp [mapBlock]) (by simp [mapBlock, Array.getElem?_modify, hb, onCells]) (fun k hk => ?_)
  simp only [mapBlock, Array.getElem?_modify]
  rw [if_neg (fun e => hk e.symm)]
theorem Hp.objRow {e : TypeId} {size n cap : Nat} {cur : Array Value} {xs : List Value} (h : Hp w0 M (.obj b (.cells cur e (0, 0)) :: H) w) (h1 : n ≤ cap) (h2 : cap ≤ maxLen) (h3 : cur.size = cap * size) (h4 : cur.toList.take (n * size) = xs) (h5 : xs.length = n * size) :
    Hp w0 M (.row e size (.slice (some ⟨b, 0, none⟩) n cap) n xs :: H) w := by
  have hb := h.own _ List.mem_cons_self
  have hap := List.pairwise_cons.1 h.apart
  refine ⟨h.below, h.mem, fun x hx => ?_, List.pairwise_cons.2 ⟨fun x hx k hk => hap.1 x hx k (by simpa [Ent.blk, Value.ownBlock] using hk), hap.2⟩, fun x hx k hk => ?_⟩
  · rcases List.mem_cons.1 hx with rfl | hx
    · exact ⟨h5, .inr ⟨b, cap, cur, rfl, hb.1, hb.2, h1, h2, h3, h4⟩⟩
    · exact h.own x (List.mem_cons_of_mem _ hx)
  · rcases List.mem_cons.1 hx with rfl | hx
    · exact h.free _ List.mem_cons_self k (by simpa [Ent.blk, Value.ownBlock] using hk)
    · exact h.free x (List.mem_cons_of_mem _ hx) k hk
end

theorem Ok.ofPure {P : Program} {M : Mem} {f : FuncId} {args : List Value} {v : Value} (h : ∀ w, Calls P f args.toArray w fun e w' => e = .returned v ∧ w' = w) : Ok P M f args fun _ u => u = v :=
  fun M2 _ _ _ w hp => (h w).mono fun _ _ ⟨he, hw⟩ => ⟨v, he, M2, Mem.le_refl _, hw ▸ hp, rfl⟩

theorem sortRow {α : Type} [Inhabited α] {P : Program} {f : FuncId} {e : TypeId} {enc : α → Value} {zs ys : List α} (hl : ys.length = zs.length)
    (hS : ∀ blk off cap w, Holds enc w blk off zs.toArray → blk < w.heap.size → Calls P f #[.slice (some ⟨blk, off, none⟩) zs.length cap] w fun e w' => e = .returned (.tuple #[]) ∧ ∃ n os, w' = grow (putRow enc (Sort.ahead w n) blk off ys.toArray) os)
    (hN : zs = [] → ∀ M, Ok P M f [.slice none 0 0] fun _ u => u = .tuple #[]) (M : Mem) (v : Value) :
    OkH P M [.row e 1 v zs.length (zs.map enc)] f [v] fun _ E' u => u = .tuple #[] ∧ E' = [.row e 1 v zs.length (ys.map enc)] := by
  intro M2 hM w0 H w hp
  rcases hp.rowObj with ⟨h1, h2, h3, h4⟩ | ⟨g, cap, cur, h1, h2, h3, h4, h5, h6, h7⟩
  · have hz : zs = [] := List.eq_nil_of_length_eq_zero h2
    have hy : ys = [] := List.eq_nil_of_length_eq_zero (by rw [hl, h2])
    subst h1
    refine (hN hz M2 M2 (Mem.le_refl _) w0 H w h4).mono fun _ _ ⟨u, he, M', hM', hp', hu⟩ => ⟨u, he, M', _, hM', ?_, hu, rfl⟩
    subst hz; subst hy
    exact hp'.nilRow _ _
  · subst h1
    have hcell : ∀ j, j < zs.length → cur[j]? = (zs.map enc)[j]? := fun j hj => by
      rw [← h5, List.getElem?_take_of_lt (by omega), Array.getElem?_toList]
    have hH : Holds enc w g 0 zs.toArray := fun j hj => by
      have hj' : j < zs.length := by simpa using hj
      refine ⟨?_, ?_⟩
      · rw [Nat.zero_add, h7.ownCell 0 rfl, hcell j hj']
        simp [hj']
      · rw [Nat.zero_add]
        exact h7.ownFrozen 0 rfl j (by omega)
    have hg : g < w.heap.size := lt_of_get (h7.own _ List.mem_cons_self).2
    refine (hS g 0 cap w hH hg).mono fun _ w' ⟨he, n, os, hw⟩ => ⟨_, he, M2, _, Mem.le_refl _, ?_, rfl, rfl⟩
    subst hw
    have h8 : Hp w0 M2 (.obj g (.cells cur e (0, 0)) :: H) (Sort.ahead w n) := h7.sameHeap rfl rfl rfl rfl
    have h9 := (h8.mapCells (putCells enc 0 ys.toArray)).grow_ os
    have hcs : cur.size = cap := by omega
    have hlen : zs.length ≤ cap := h2
    refine h9.objRow h2 h3 (by simp [putCells, h4]) ?_ (by simp [hl])
    apply List.ext_getElem?
    intro j
    by_cases hj : j < zs.length
    · rw [List.getElem?_take_of_lt (by omega), Array.getElem?_toList]
      have hjc : j < cur.size := by omega
      have hjy : j < ys.length := by omega
      simp [putCells, hjc, hjy]
    · rw [List.getElem?_eq_none (by simp; omega), List.getElem?_eq_none (by simp; omega)]
end Go.Vc
