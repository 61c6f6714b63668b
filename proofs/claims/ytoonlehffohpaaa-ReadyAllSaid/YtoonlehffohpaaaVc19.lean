/-
  VC, part 19: parts of owned rows. Own work.
-/
import Derived.Test.YtoonlehffohpaaaVc18
import Derived.StillTail
namespace Go.Vc
open Go Go.RowKit

def setM (cs : Array Value) (o : Nat) : List Value → Array Value
  | [] => cs
  | v :: r => setM (cs.setIfInBounds o v) (o + 1) r
theorem setM_size : ∀ (vs : List Value) (cs : Array Value) (o : Nat), (setM cs o vs).size = cs.size
  | [], _, _ => rfl
  | v :: r, cs, o => by rw [setM, setM_size r]; simp
theorem setM_list : ∀ (vs : List Value) (cs : Array Value) (o : Nat), o + vs.length ≤ cs.size → (setM cs o vs).toList = cs.toList.take o ++ vs ++ cs.toList.drop (o + vs.length)
  | [], cs, o, _ => by simp [setM]
  | v :: r, cs, o, h => by
    simp only [List.length_cons] at h
    rw [setM, setM_list r _ _ (by simp; omega), Array.toList_setIfInBounds]
    have hl : o < cs.toList.length := by simp; omega
    rw [List.take_succ_eq_append_getElem (by simpa using hl), List.take_set_of_le (Nat.le_refl _), List.drop_set_of_lt (by omega)]
    simp [Nat.add_comm, Nat.add_left_comm]
section
variable {w0 w : World} {M : Mem} {H : List Ent} {b : Nat} {T : TypeId} {fr : Nat × Nat} {sz : Nat}
theorem Hp.setCells : ∀ (vs : List Value) {cs : Array Value} {w : World} (o : Nat), Hp w0 M (.obj b (.cells cs T fr) :: H) w → Hp w0 M (.obj b (.cells (setM cs o vs) T fr) :: H) (w.setCells b o vs)
  | [], _, _, _, h => h
  | v :: r, _, _, o, h => Hp.setCells r (o + 1) (h.setCell o v)
/-- The front part of an owned row. -/
theorem Hp.rowFront {e : TypeId} {n m : Nat} {A : Option Addr} {cap : Nat} {v : Value} {cs : List Value} (h : Hp w0 M (.row e sz v n cs :: H) w) (hv : v = .slice A n cap) (hm : m ≤ n) :
    Hp w0 M (.row e sz (.slice (cutA A sz 0 cap) m cap) m (cs.take (m * sz)) :: H) w := by
  have hown := h.own _ List.mem_cons_self
  rcases hown.2 with ⟨h1, h2⟩ | ⟨g, cap', cur, h1, _⟩
  · rw [h1] at hv; cases hv
    have : m = 0 := by omega
    subst this
    have hcs : cs = [] := List.eq_nil_of_length_eq_zero (by rw [hown.1, h2]; simp)
    subst hcs
    simpa [cutA] using h.drop.nilRow e sz
  · rw [h1] at hv; cases hv
    have : cutA (some ⟨g, 0, none⟩) sz 0 cap = some ⟨g, 0, none⟩ := by
      unfold cutA; split
      · rfl
      · simp [Addr.add]
    rw [this]
    exact h.rowTrunc h1 hm
/-- A part of an owned row, as a source. -/
theorem Hp.rowPart {e : TypeId} {n lo hi : Nat} {A : Option Addr} {cap : Nat} {v : Value} {cs : List Value} (h : Hp w0 M H w) (i : Nat) (he : H[i]? = some (.row e sz v n cs)) (hv : v = .slice A n cap) (h1 : lo ≤ hi) (h2 : hi ≤ n) :
    (cutA A sz lo cap = none ∧ hi - lo = 0 ∧ cap - lo = 0) ∨ ∃ ad, cutA A sz lo cap = some ad ∧ ∀ j u, ((cs.take (hi * sz)).drop (lo * sz))[j]? = some u → w.cell? (ad.add j) = some u := by
  have hown := h.rowAt i he
  rcases hown.2 with ⟨h3, h4⟩ | ⟨g, cap', cur, h3, hg, hh, hnc, hcm, hcs, htk⟩
  · rw [h3] at hv; cases hv
    exact .inl ⟨by unfold cutA; split <;> rfl, by omega, by omega⟩
  · have hvv : v = .slice (some ⟨g, 0, none⟩) n cap' := h3
    rw [h3] at hv; cases hv
    by_cases hc : cap = lo
    · refine .inr ⟨⟨g, 0, none⟩, by simp [cutA, hc], fun j u hu => ?_⟩
      have : hi = lo := by omega
      subst this
      simp at hu
    · refine .inr ⟨(⟨g, 0, none⟩ : Addr).add (lo * sz), by simp [cutA, hc], fun j u hu => ?_⟩
      rw [add_of_add, Addr.add_lit, Nat.zero_add]
      refine h.rowCell i he hvv _ u ?_
      rw [List.getElem?_drop] at hu
      have hj : lo * sz + j < hi * sz := by
        have := (List.getElem?_eq_some_iff.1 hu).1
        rw [List.length_take] at this; omega
      rwa [List.getElem?_take_of_lt hj] at hu
end
section
variable {α : Type} {P : Program} {ops : Array Oper} {n : Nat} {Q : Exit → Act → World → Prop} {L : Fr} {a : Act} {w0 w : World} {M : Mem} {H : List Ent} {sz : Nat} {f : α → Dat}
theorem RepSeq.takeD {M : Mem} : ∀ {ds : List Dat} {c : List Value} (i : Nat), (∀ d ∈ ds, Szd sz d) → RepSeq M ds c → RepSeq M (ds.take i) (c.take (i * sz))
  | [], c, i, _, h => by rw [show c = [] from h]; simp [RepSeq]
  | d :: ds, c, 0, _, _ => by simp [RepSeq]
  | d :: ds, c, i + 1, hs, h => by
    obtain ⟨c1, c2, e, k1, k2⟩ := h
    have hl := hs d List.mem_cons_self M c1 k1
    refine ⟨c1, c2.take (i * sz), ?_, k1, RepSeq.takeD i (fun d hd => hs d (List.mem_cons_of_mem _ hd)) k2⟩
    rw [e, List.take_append, hl, show (i + 1) * sz - sz = i * sz by rw [Nat.add_mul]; omega, List.take_of_length_le (by rw [hl, Nat.add_mul]; omega)]
theorem RepSeq.dropD {M : Mem} : ∀ {ds : List Dat} {c : List Value} (i : Nat), (∀ d ∈ ds, Szd sz d) → RepSeq M ds c → RepSeq M (ds.drop i) (c.drop (i * sz))
  | [], c, i, _, h => by rw [show c = [] from h]; simp [RepSeq]
  | d :: ds, c, 0, _, h => by simpa using h
  | d :: ds, c, i + 1, hs, h => by
    obtain ⟨c1, c2, e, k1, k2⟩ := h
    have hl := hs d List.mem_cons_self M c1 k1
    have := RepSeq.dropD i (fun d hd => hs d (List.mem_cons_of_mem _ hd)) k2
    have e0 : c1.drop ((i + 1) * sz) = [] := List.drop_eq_nil_of_le (by rw [hl, Nat.add_mul]; omega)
    rw [List.drop_succ_cons, e, List.drop_append, e0, List.nil_append, hl, show (i + 1) * sz - sz = i * sz by rw [Nat.add_mul]; omega]
    exact this
/-- append of a part of an owned row (which stays) to the row that stands first. -/
theorem W_appendP {o : Oper} {rest : List Oper} {d : Nat} {t e : TypeId} {x y : Operand} {z v : Value} {bytes lo hi : Nat} {A : Option Addr} {cap : Nat} {v2 : Value} {xs ys : List α} {cs cs2 : List Value} (hf : Frm n L a) (hp : Hp w0 M (.row e sz v xs.length cs :: H) w) (hs : ∀ x, Szd sz (f x))
    (hcs : RepSeq M (xs.map f) cs) (hys : RepSeq M (ys.map f) cs2) (i : Nat) (he : (.row e sz v xs.length cs :: H)[i]? = some (.row e sz v2 ys.length cs2)) (hv2 : v2 = .slice A ys.length cap) (h1 : lo ≤ hi) (h2 : hi ≤ ys.length)
    (hw : wantedL ops L o = some true) (hr : readyL L o = true) (hd : o.dst = some d) (hdn : Nat.blt d n = true) (ho : o.op = .call { callee := .builtin .append, args := #[x, y], argTypes := #[t, t] })
    (hx : ev L x = v) (hy : ev L y = .slice (cutA A sz lo cap) (hi - lo) (cap - lo)) (ht : P.underlying t = some (.slice e)) (hi' : infoIs P e z sz bytes = true)
    (hb : (xs.length + (hi - lo)) * bytes ≤ 140737488355328) (h63 : xs.length + (hi - lo) ≤ 9223372036854775807)
    (hk' : ∀ A cap cs' w', Hp w0 M (.row e sz (.slice A (xs ++ (ys.take hi).drop lo).length cap) (xs ++ (ys.take hi).drop lo).length cs' :: H) w' → RepSeq M ((xs ++ (ys.take hi).drop lo).map f) cs' → ∀ a', Frm n ((d, .slice A (xs ++ (ys.take hi).drop lo).length cap) :: L) a' → wpList P ops Q rest a' w') : wpList P ops Q (o :: rest) a w := by
  have hk : ∀ v' cs' w', Hp w0 M (.row e sz v' (xs ++ (ys.take hi).drop lo).length cs' :: H) w' → RepSeq M ((xs ++ (ys.take hi).drop lo).map f) cs' → ∀ a', Frm n ((d, v') :: L) a' → wpList P ops Q rest a' w' := fun v' cs' w' hp' hr' a' ha => by
    obtain ⟨A, cap, rfl, _⟩ := hp'.rowShape 0 rfl
    exact hk' A cap cs' w' hp' hr' a' ha
  have hseg : RepSeq M (((ys.take hi).drop lo).map f) ((cs2.take (hi * sz)).drop (lo * sz)) := by
    rw [List.map_drop, List.map_take]
    exact RepSeq.dropD lo (fun d hd => szd_all hs d (List.mem_of_mem_take hd)) (RepSeq.takeD hi (szd_all hs) hys)
  have hlen : ((ys.take hi).drop lo).length = hi - lo := by rw [List.length_drop, List.length_take, Nat.min_eq_left h2]
  rcases hp.rowPart i he hv2 h1 h2 with ⟨e1, e2, e3⟩ | ⟨ad, e1, e2⟩
  · rw [e1, e2, e3] at hy
    have hy0 : (ys.take hi).drop lo = [] := List.eq_nil_of_length_eq_zero (by omega)
    refine W_append_nil hf hp hw hr hd hdn ho hx hy ht hi' fun a' ha => hk v cs w ?_ ?_ a' ha
    · rw [hy0, List.append_nil]; exact hp
    · rw [hy0, List.append_nil]; exact hcs
  · rw [e1] at hy
    have hl : ((cs2.take (hi * sz)).drop (lo * sz)).length = (hi - lo) * sz := by
      have := RepSeq.len (szd_all hs) hseg
      rw [this, List.length_map, hlen]
    refine W_append (z := z) hf hp hw hr hd hdn ho hx hy ht hi' hl e2 (RepSeq.oneC _ _ hseg) hb h63 fun v' w' hp' a' ha => hk v' _ w' ?_ (hcs.more hseg) a' ha
    rw [List.length_append, hlen]; exact hp'
/-- append(row[:k], row[k+1:]...): one element taken out of an owned row. -/
theorem W_rowRemove {o : Oper} {rest : List Oper} {d : Nat} {t e : TypeId} {x y : Operand} {z v : Value} {bytes k : Nat} {A : Option Addr} {cap : Nat} {xs : List α} {cs : List Value} (hf : Frm n L a) (hp : Hp w0 M (.row e sz v xs.length cs :: H) w) (hs : ∀ x, Szd sz (f x))
    (hcs : RepSeq M (xs.map f) cs) (hv : v = .slice A xs.length cap) (hk : k < xs.length)
    (hw : wantedL ops L o = some true) (hr : readyL L o = true) (hd : o.dst = some d) (hdn : Nat.blt d n = true) (ho : o.op = .call { callee := .builtin .append, args := #[x, y], argTypes := #[t, t] })
    (hx : ev L x = .slice (cutA A sz 0 cap) k cap) (hy : ev L y = .slice (cutA A sz (k + 1) cap) (xs.length - (k + 1)) (cap - (k + 1))) (ht : P.underlying t = some (.slice e)) (hi : infoIs P e z sz bytes = true)
    (hq' : ∀ A cap cs' w', Hp w0 M (.row e sz (.slice A (xs.take k ++ xs.drop (k + 1)).length cap) (xs.take k ++ xs.drop (k + 1)).length cs' :: H) w' → RepSeq M ((xs.take k ++ xs.drop (k + 1)).map f) cs' → ∀ a', Frm n ((d, .slice A (xs.take k ++ xs.drop (k + 1)).length cap) :: L) a' → wpList P ops Q rest a' w') : wpList P ops Q (o :: rest) a w := by
  have hq : ∀ v' cs' w', Hp w0 M (.row e sz v' (xs.take k ++ xs.drop (k + 1)).length cs' :: H) w' → RepSeq M ((xs.take k ++ xs.drop (k + 1)).map f) cs' → ∀ a', Frm n ((d, v') :: L) a' → wpList P ops Q rest a' w' := fun v' cs' w' hp' hr' a' ha => by
    obtain ⟨A, cap, rfl, _⟩ := hp'.rowShape 0 rfl
    exact hq' A cap cs' w' hp' hr' a' ha
  obtain ⟨i, u, hi1, hi2, hi3, hi4, hi5, hi6⟩ := info_of hi
  rcases hp.rowObj with ⟨h1, h2, _⟩ | ⟨g, capX, cur, h1, h2, h3, h4, h5, h6, h7⟩
  · omega
  · rw [h1] at hv; cases hv
    have hseg : RepSeq M ((xs.drop (k + 1)).map f) (cs.drop ((k + 1) * sz)) := by rw [List.map_drop]; exact RepSeq.dropD _ (szd_all hs) hcs
    have hl : (cs.drop ((k + 1) * sz)).length = (xs.length - (k + 1)) * sz := by
      have := RepSeq.len (szd_all hs) hseg
      rw [this]; simp
    have hA : cutA (some ⟨g, 0, none⟩) sz 0 cap = some ⟨g, 0, none⟩ := by
      unfold cutA; split
      · rfl
      · simp [Addr.add]
    rw [hA] at hx
    have hmul : k * sz + (cs.drop ((k + 1) * sz)).length ≤ xs.length * sz := by
      rw [hl, ← Nat.add_mul]; exact Nat.mul_le_mul_right _ (by omega)
    have hcur : xs.length * sz ≤ cur.size := by rw [h4]; exact Nat.mul_le_mul_right _ h2
    -- the source's address and cells
    obtain ⟨ad, ead, hcells⟩ : ∃ ad, cutA (some ⟨g, 0, none⟩) sz (k + 1) cap = some ad ∧ ∀ j u, (cs.drop ((k + 1) * sz))[j]? = some u → w.cell? (ad.add j) = some u := by
      rcases hp.rowPart 0 rfl h1 (show k + 1 ≤ xs.length by omega) (Nat.le_refl _) with ⟨e1, _⟩ | ⟨ad, e1, e2⟩
      · unfold cutA at e1; split at e1 <;> simp at e1
      · refine ⟨ad, e1, fun j u hu => e2 j u ?_⟩
        rw [List.take_of_length_le (by rw [h6]; exact Nat.le_refl _)]; exact hu
    rw [ead] at hy
    have hrun := run_append_room_cells (P := P) (w := w) t o.type e i ht hi1 g 0 k cap ad (xs.length - (k + 1)) (cap - (k + 1)) (cs.drop ((k + 1) * sz)) (by rw [hi3]; exact hl) hcells (RepSeq.oneC _ _ hseg) (by omega)
      (fun j hj => by
        rw [hi3, Nat.zero_add, h7.ownCell 0 rfl]
        have : k * sz + j < cur.size := by omega
        simp [this])
      (fun j hj => by rw [hi3, Nat.zero_add]; exact h7.ownFrozen 0 rfl _ (by omega))
    rw [hi3, Nat.zero_add] at hrun
    have h8 := h7.setCells (cs.drop ((k + 1) * sz)) (k * sz)
    have hlen : (xs.take k ++ xs.drop (k + 1)).length = k + (xs.length - (k + 1)) := by simp; omega
    refine W_eq hf hw hr hd hdn (X_append ho hx hy hrun) (hq _ (cs.take (k * sz) ++ cs.drop ((k + 1) * sz)) _ ?_ ?_)
    · rw [hlen]
      refine h8.objRow (by omega) h3 (by rw [setM_size, h4]) ?_ ?_
      · rw [setM_list _ _ _ (by omega), ← h5, List.append_assoc, List.take_append, List.length_take]
        have hk1 : k * sz ≤ (k + (xs.length - (k + 1))) * sz := Nat.mul_le_mul_right _ (by omega)
        have hk2 : k * sz ≤ xs.length * sz := Nat.mul_le_mul_right _ (by omega)
        rw [List.take_take, Nat.min_eq_right hk1, List.take_take, Nat.min_eq_left hk2, Array.length_toList (xs := cur), Nat.min_eq_left (by omega : k * sz ≤ cur.size)]
        congr 1
        rw [List.take_append_of_le_length (by rw [← h5] at hl; rw [hl, Nat.add_mul]; omega), List.take_of_length_le (by rw [← h5] at hl; rw [hl, Nat.add_mul]; omega)]
      · rw [List.length_append, hl, List.length_take, h6, Nat.min_eq_left (Nat.mul_le_mul_right _ (by omega)), Nat.add_mul]
    · rw [List.map_append, List.map_take]
      exact (RepSeq.takeD k (szd_all hs) hcs).append hseg
end
end Go.Vc
namespace Go.Vc
open Go Go.RowKit
/-! ### Regions that draw their order, whose last operations wait for one another -/
section
variable {P : Program} {ops : Array Oper} {n : Nat} {K : Act → Prop} {L : Fr} {a : Act} {w0 w : World} {M : Mem} {H : List Ent}
theorem ST_eq {o : Oper} {rest : List Oper} {v : Value} {d : Nat} (hf : Frm n L a) (hw : wantedL ops L o = some true) (hr : readyL L o = true) (hd : o.dst = some d) (hdn : Nat.blt d n = true)
    (hx : (execOp (ev L) o).run P w = .ok (.value v) w) (hk : ∀ a', Frm n ((d, v) :: L) a' → wpStill P ops w K rest a') : wpStill P ops w K (o :: rest) a := by
  simp only [wpStill]
  rw [hf.wanted hw, if_pos rfl]
  unfold Oper.still
  rw [hf.exec hr, hx]
  refine ⟨rfl, ?_⟩
  rw [hd]; exact hk _ (hf.put (by simpa [Nat.blt_eq] using hdn) v)
theorem ST_not {o : Oper} {rest : List Oper} {d : Nat} (hf : Frm n L a) (hw : wantedL ops L o = some false) (hd : o.dst = some d) (hdn : Nat.blt d n = true)
    (hk : ∀ a', Frm n ((d, undef) :: L) a' → wpStill P ops w K rest a') : wpStill P ops w K (o :: rest) a := by
  simp only [wpStill]
  rw [hf.wanted hw, if_neg (by simp)]
  rw [hd]; exact hk _ (hf.put (by simpa [Nat.blt_eq] using hdn) undef)
theorem ST_end {l : List Oper} (hl : l = []) (h : K a) : wpStill P ops w K l a := by subst hl; exact h
theorem R_drawT {id : Nat} {Q : Exit → Act → World → Prop} {l : List Oper} (m : Nat) (hp : Hp w0 M H w) (hm : P.follows .mixedOrders = true) (hB : Region.lexTailB .any l.toArray m = true)
    (h : ∀ w', Hp w0 M H w' → wpStill P l.toArray w' (fun a' => wpList P l.toArray Q (l.drop m) a' w') (l.take m) a) : (Code.region id l.toArray true).wp P Q a w :=
  wp_region_still_tail m hm hB (h _ hp.drew)
end
end Go.Vc
