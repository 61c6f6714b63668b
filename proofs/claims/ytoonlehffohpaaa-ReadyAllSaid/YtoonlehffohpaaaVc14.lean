/-
  VC, part 14: a row of maps that the text makes one by one; 'make' of n places. Own work.
-/
import Derived.Test.YtoonlehffohpaaaVc13
import Derived.Deep.OwnRows
namespace Go.Vc
open Go Go.RowKit

section
variable {P : Program} {ops : Array Oper} {n : Nat} {Q : Exit → Act → World → Prop} {L : Fr} {a : Act} {w0 w : World} {M : Mem} {H : List Ent}
theorem madeOne (z : Value) (m : Nat) : madeCells #[z] m = (List.replicate m z).toArray := by
  apply Array.ext'
  simp only [madeCells]
  simp [Nat.mod_one, List.map_const']
/-- 'make([]T, m)', T of one cell. -/
theorem W_make {o : Oper} {rest : List Oper} {d : Nat} {t e : TypeId} {l c : Operand} {z : Value} {bytes m : Nat} (hf : Frm n L a) (hp : Hp w0 M H w) (hw : wantedL ops L o = some true) (hr : readyL L o = true)
    (hd : o.dst = some d) (hdn : Nat.blt d n = true) (ho : o.op = .makeSlice t l c) (hl : ev L l = .int .i64 (m : Int)) (hc : ev L c = .int .i64 (m : Int)) (ht : P.underlying t = some (.slice e)) (hinfo : (P.info? e).map (fun i => (i.zero, i.size, i.bytes)) = some (some z, 1, bytes)) (hz : z.cells = #[z])
    (hb : bytes * m ≤ 281474976710656) (h63 : m ≤ 9223372036854775807)
    (hk : ∀ b w', Hp w0 M (.obj b (.cells (List.replicate m z).toArray e (0, 0)) :: H) w' → ∀ a', Frm n ((d, .slice (some ⟨b, 0, none⟩) m m) :: L) a' → wpList P ops Q rest a' w') : wpList P ops Q (o :: rest) a w := by
  have hx : (execOp (ev L) o).run P w = .ok (.value (.slice (some ⟨w.heap.size, 0, none⟩) m m)) (w.alloc (.cells (List.replicate m z).toArray e (0, 0))) := by
    have := run_make_row' (P := P) t e z bytes ht hinfo hz .i64 .i64 m hb h63 w
    rw [madeOne] at this
    unfold execOp
    simp only [ho, hl, hc, Sem.run_bind, this, Result.andThen_ok]
    rfl
  exact W_eq hf hw hr hd hdn hx (hk _ _ (hp.alloc _))
end

/-! ### A row of maps -/
section
variable {κ : Type} {enc : κ → Value} {w0 w : World} {M : Mem} {H : List Ent}
abbrev MapRow (κ : Type) := List (Option (Nat × List (κ × Value)))
def hdOf {κ : Type} : Option (Nat × List (κ × Value)) → Value
  | none => .map none
  | some (b, _) => .map (some b)
def keysOf {κ : Type} : Option (Nat × List (κ × Value)) → List κ
  | none => []
  | some (_, m) => m.map (·.1)
def entOf (enc : κ → Value) : Option (Nat × List (κ × Value)) → Option Ent
  | none => none
  | some (b, m) => some (.obj b (mObj enc m))
def bag (enc : κ → Value) (G : MapRow κ) : List Ent := G.filterMap (entOf enc)
theorem bag_none (enc : κ → Value) (n : Nat) : bag enc (List.replicate n none) = [] := by
  unfold bag
  rw [List.filterMap_eq_nil_iff]
  intro x hx
  rw [List.eq_of_mem_replicate hx]; rfl
theorem hd_none (κ : Type) (n : Nat) : ((List.replicate n none : MapRow κ).map hdOf) = List.replicate n (.map none) := by simp [hdOf]
theorem bag_set {enc : κ → Value} : ∀ {G : MapRow κ} {k : Nat} (b : Nat) (m : List (κ × Value)), k < G.length → (bag enc (G.set k (some (b, m)))).Perm (.obj b (mObj enc m) :: bag enc (G.set k none))
  | [], k, b, m, h => by simp at h
  | x :: r, 0, b, m, h => by simp only [List.set_cons_zero, bag, List.filterMap_cons, entOf]; exact .refl _
  | x :: r, k + 1, b, m, h => by
    simp only [List.length_cons, Nat.add_lt_add_iff_right] at h
    have ih := bag_set (enc := enc) b m h
    unfold bag at ih ⊢
    simp only [List.set_cons_succ, List.filterMap_cons]
    cases entOf enc x with
    | none => exact ih
    | some e => exact (ih.cons e).trans (.swap _ _ _)
theorem set_self {G : MapRow κ} {k : Nat} {x : Option (Nat × List (κ × Value))} (h : G[k]? = some x) : G.set k x = G := by
  apply List.ext_getElem?
  intro i
  rw [List.getElem?_set]
  split
  · rename_i e; subst e
    split
    · exact h.symm
    · rename_i hn; rw [List.getElem?_eq_none (by omega)] at h; cases h
  · rfl
/-- The map at k, ahead of the others. -/
theorem Hp.bagPull {G : MapRow κ} {k b : Nat} {m : List (κ × Value)} {e : Ent} (h : Hp w0 M (e :: (bag enc G ++ H)) w) (hk : G[k]? = some (some (b, m))) : Hp w0 M (.obj b (mObj enc m) :: e :: (bag enc (G.set k none) ++ H)) w := by
  have hl : k < G.length := (List.getElem?_eq_some_iff.1 hk).1
  have hp := bag_set (enc := enc) b m hl
  rw [set_self hk] at hp
  exact h.perm (((hp.append_right H).cons e).trans (.swap _ _ _))
/-- .. and back among them. -/
theorem Hp.bagPut {G : MapRow κ} {k b : Nat} {m : List (κ × Value)} {e : Ent} (h : Hp w0 M (.obj b (mObj enc m) :: e :: (bag enc (G.set k none) ++ H)) w) (hl : k < G.length) : Hp w0 M (e :: (bag enc (G.set k (some (b, m))) ++ H)) w := by
  have hp := bag_set (enc := enc) b m hl
  exact h.perm ((List.Perm.swap _ _ _).trans ((hp.symm.append_right H).cons e))
theorem hd_set {G : MapRow κ} {k b : Nat} {m m' : List (κ × Value)} (hk : G[k]? = some (some (b, m))) : (G.set k (some (b, m'))).map hdOf = G.map hdOf := by
  rw [List.map_set]
  have : (G.map hdOf)[k]? = some (.map (some b)) := by rw [List.getElem?_map, hk]; rfl
  apply List.ext_getElem?
  intro i
  rw [List.getElem?_set]
  split
  · rename_i e; subst e
    split
    · exact this.symm
    · rename_i hn; rw [List.getElem?_eq_none (by omega)] at this; cases this
  · rfl
/-- All maps become known. -/
theorem Hp.bagKnown : ∀ {G : MapRow κ} {M : Mem}, Hp w0 M (bag enc G ++ H) w → ∃ M', M.le M' ∧ Hp w0 M' H w ∧ ∀ b m, some (b, m) ∈ G → M' b = some (mObj enc m)
  | [], M, h => ⟨M, Mem.le_refl M, h, fun _ _ hm => by cases hm⟩
  | none :: G, M, h => by
    obtain ⟨M', h1, h2, h3⟩ := Hp.bagKnown (G := G) (M := M) h
    exact ⟨M', h1, h2, fun b m hm => h3 b m (by simpa using hm)⟩
  | some (b, m) :: G, M, h => by
    have h' : Hp w0 M (.obj b (mObj enc m) :: (bag enc G ++ H)) w := h
    obtain ⟨k1, k2⟩ := h'.freeze
    obtain ⟨M', h1, h2, h3⟩ := Hp.bagKnown (G := G) k2
    refine ⟨M', k1.trans h1, h2, fun c x hm => ?_⟩
    rcases List.mem_cons.1 hm with e | hm
    · cases e; exact h1 _ _ (Mem.add_get M b _)
    · exact h3 c x hm
theorem gotCell {G : MapRow κ} {b k : Nat} {T : TypeId} (h : Hp w0 M H w) (i : Nat) (he : H[i]? = some (.obj b (.cells (G.map hdOf).toArray T (0, 0)))) (hk : k < G.length) : w.cell? ⟨b, k, none⟩ = some (hdOf (G.getD k none)) := by
  rw [h.ownCell i he k]
  simp [List.getD, hk]
theorem hd_one (g : Option (Nat × List (κ × Value))) : (hdOf g).oneCell' = true := by
  rcases g with _ | ⟨b, m⟩ <;> rfl
/-- A new map at a place that has none. -/
theorem Hp.bagNew {G : MapRow κ} {k b c : Nat} {T : TypeId} (h : Hp w0 M (.obj b (mObj enc []) :: .obj c (.cells ((G.map hdOf).toArray.setIfInBounds k (.map (some b))) T (0, 0)) :: (bag enc G ++ H)) w) (hk : k < G.length) (hn : G.getD k none = none) :
    Hp w0 M (.obj c (.cells ((G.set k (some (b, []))).map hdOf).toArray T (0, 0)) :: (bag enc (G.set k (some (b, []))) ++ H)) w := by
  have hs : G.set k none = G := set_self (by simpa [List.getD, hk] using hn)
  have e : ((G.map hdOf).toArray.setIfInBounds k (.map (some b))) = ((G.set k (some (b, []))).map hdOf).toArray := by
    rw [List.map_set]; simp [hdOf]
  rw [← hs, hs, e] at h
  refine Hp.bagPut ?_ hk
  rw [hs]; exact h
theorem getD_set_self {G : MapRow κ} {k : Nat} {x : Option (Nat × List (κ × Value))} (hk : k < G.length) : (G.set k x).getD k none = x := by simp [List.getD, hk]
theorem getD_set_ne {G : MapRow κ} {k j : Nat} {x : Option (Nat × List (κ × Value))} (h : j ≠ k) : (G.set k x).getD j none = G.getD j none := by
  simp only [List.getD_eq_getElem?_getD]
  rw [List.getElem?_set_ne (by omega)]
end

section
variable {κ : Type} {enc : κ → Value} {P : Program} {ops : Array Oper} {n : Nat} {Q : Exit → Act → World → Prop} {L : Fr} {a : Act} {w0 w : World} {M : Mem} {H : List Ent}
theorem eqMapNil {T kt et : TypeId} (ht : P.underlying T = some (.map kt et)) (g : Option (Nat × List (κ × Value))) (d : Nat) (w : World) : (Op.equalIn (d + 1) T (hdOf g) (.map none)).run P w = .ok g.isNone w := by
  rcases g with _ | ⟨b, m⟩
  · unfold Op.equalIn
    rw [Sem.run_bind, run_underlying ht]; rfl
  · unfold Op.equalIn
    rw [Sem.run_bind, run_underlying ht]; rfl
theorem X_mapnil {ρ : Operand → Value} {o : Oper} {T t' kt et : TypeId} {x y : Operand} {g : Option (Nat × List (κ × Value))} (ho : o.op = .binOp .eql T x y t') (hx : ρ x = hdOf g) (hy : ρ y = .map none) (ht : P.underlying T = some (.map kt et)) (w : World) :
    (execOp ρ o).run P w = .ok (.value (.bool g.isNone)) w := by
  have h : ∀ g' : Option (Nat × List (κ × Value)), binOp .eql T (hdOf g') (.map none) = (do pure (.bool (← Op.equal T (hdOf g') (.map none)))) := fun g' => by rcases g' with _ | ⟨b, m⟩ <;> rfl
  have h2 : ∀ g' : Option (Nat × List (κ × Value)), eqGuard .eql T x y (hdOf g') (.map none) = pure () := fun g' => by rcases g' with _ | ⟨b, m⟩ <;> rfl
  have h3 := eqMapNil (P := P) ht g 9999 w
  unfold execOp
  simp only [ho, hx, hy, h, h2, Sem.run_bind, Sem.run_pure, Result.andThen_ok]
  have h4 : (Op.equal T (hdOf g) (.map none)).run P w = .ok g.isNone w := h3
  rw [h4]; rfl
theorem W_makeMap {o : Oper} {rest : List Oper} {d : Nat} {t : TypeId} (enc : κ → Value) (hf : Frm n L a) (hp : Hp w0 M H w) (hw : wantedL ops L o = some true) (hr : readyL L o = true)
    (hd : o.dst = some d) (hdn : Nat.blt d n = true) (ho : o.op = .makeMap t none)
    (hk : ∀ b w', Hp w0 M (.obj b (mObj enc []) :: H) w' → ∀ a', Frm n ((d, .map (some b)) :: L) a' → wpList P ops Q rest a' w') : wpList P ops Q (o :: rest) a w := by
  have hx : (execOp (ev L) o).run P w = .ok (.value (.map (some w.heap.size))) (w.alloc (mObj enc [])) := by
    unfold execOp
    simp only [ho]
    rfl
  exact W_eq hf hw hr hd hdn hx (hk _ _ (hp.alloc _))
/-- A store into the map at place k of a row of maps. -/
theorem W_bagUpdate [DecidableEq κ] {o : Oper} {rest : List Oper} {t kt et T : TypeId} {x ix y : Operand} {b c j : Nat} {G : MapRow κ} {m : List (κ × Value)} {k : κ} {v : Value} (hf : Frm n L a) (hp : Hp w0 M (.obj c (.cells (G.map hdOf).toArray T (0, 0)) :: (bag enc G ++ H)) w) (hg : G.getD j none = some (b, m)) (hw : wantedL ops L o = some true) (hr : readyL L o = true) (hd : o.dst = none)
    (ho : o.op = .mapUpdate t x ix y ∨ o.op = .insert t x ix y) (hx : ev L x = .map (some b)) (hk : ev L ix = enc k) (hv : ev L y = v) (ht : P.underlying t = some (.map kt et)) (K : KeyLaw P kt enc)
    (hq : ∀ w', Hp w0 M (.obj c (.cells ((G.set j (some (b, updM m k v))).map hdOf).toArray T (0, 0)) :: (bag enc (G.set j (some (b, updM m k v))) ++ H)) w' → ∀ a', Frm n L a' → wpList P ops Q rest a' w') : wpList P ops Q (o :: rest) a w := by
  have hj : j < G.length := by
    rcases Nat.lt_or_ge j G.length with h | h
    · exact h
    · rw [List.getD_eq_getElem?_getD, List.getElem?_eq_none h] at hg; cases hg
  have hg' : G[j]? = some (some (b, m)) := by
    rw [List.getD_eq_getElem?_getD, List.getElem?_eq_getElem hj] at hg
    rw [List.getElem?_eq_getElem hj]; exact congrArg some hg
  refine W_mapUpdate hf (hp.bagPull hg') hw hr hd ho hx hk hv ht K fun w' hp' a' ha => hq w' ?_ a' ha
  rw [hd_set hg']
  exact hp'.bagPut hj
end
end Go.Vc
