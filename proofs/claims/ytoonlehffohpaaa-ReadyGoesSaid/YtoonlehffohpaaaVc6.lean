/-
  VC, part 6: rows that grow; bytes that are known. Own work.
-/
import Derived.Test.YtoonlehffohpaaaVc5
import Derived.ArgAppend
namespace Go.Vc
open Go Go.RowKit

section
variable {w0 w w' : World} {M M' : Mem} {H : List Ent}

theorem ownsRow_base {w : World} {B B' : Nat} {e : TypeId} {size : Nat} {v : Value} {n : Nat} {xs : List Value} (h : w.ownsRow B e size v n xs) (hB : B' ≤ B) : w.ownsRow B' e size v n xs := by
  obtain ⟨h1, h2⟩ := h
  refine ⟨h1, ?_⟩
  rcases h2 with h2 | ⟨g, cap, cur, r1, r2, r⟩
  · exact .inl h2
  · exact .inr ⟨g, cap, cur, r1, Nat.le_trans hB r2, r⟩

theorem Hp.rowObj {e : TypeId} {size : Nat} {v : Value} {n : Nat} {xs : List Value} (h : Hp w0 M (.row e size v n xs :: H) w) :
    (v = .slice none 0 0 ∧ n = 0 ∧ xs = [] ∧ Hp w0 M H w) ∨ ∃ g cap cur, v = .slice (some ⟨g, 0, none⟩) n cap ∧ n ≤ cap ∧ cap ≤ maxLen ∧ cur.size = cap * size ∧ cur.toList.take (n * size) = xs ∧ xs.length = n * size ∧ Hp w0 M (.obj g (.cells cur e (0, 0)) :: H) w := by
  have ho := h.own _ List.mem_cons_self
  obtain ⟨h1, h2⟩ := ho
  rcases h2 with ⟨rfl, rfl⟩ | ⟨g, cap, cur, rfl, hg, hh, hnc, hcm, hcs, htk⟩
  · refine .inl ⟨rfl, rfl, List.eq_nil_of_length_eq_zero (by simpa using h1), h.drop⟩
  · refine .inr ⟨g, cap, cur, rfl, hnc, hcm, hcs, htk, h1, ⟨h.below, h.mem, fun x hx => ?_, ?_, fun x hx => ?_⟩⟩
    · rcases List.mem_cons.1 hx with rfl | hx
      · exact ⟨hg, hh⟩
      · exact h.own x (List.mem_cons_of_mem _ hx)
    · have hap := List.pairwise_cons.1 h.apart
      exact List.pairwise_cons.2 ⟨fun x hx b hb => hap.1 x hx b (by simpa [Ent.blk, Value.ownBlock] using hb), hap.2⟩
    · intro b hb
      rcases List.mem_cons.1 hx with rfl | hx
      · exact h.free _ List.mem_cons_self b (by simpa [Ent.blk, Value.ownBlock] using hb)
      · exact h.free x (List.mem_cons_of_mem _ hx) b hb

theorem add_cell (M : Mem) (b : Nat) (c : Array Value) (T : TypeId) (fr : Nat × Nat) (j : Nat) : (M.add b (.cells c T fr)).cell? ⟨b, j, none⟩ = c[j]? := by simp [Mem.cell?, Mem.add]

/-- A row becomes known. -/
theorem Hp.rowKnown {e : TypeId} {size : Nat} {v : Value} {n : Nat} {xs : List Value} (h : Hp w0 M (.row e size v n xs :: H) w) :
    ∃ M', M.le M' ∧ Hp w0 M' H w ∧ ((v = .slice none 0 0 ∧ n = 0 ∧ xs = []) ∨ ∃ ad cap, v = .slice (some ad) n cap ∧ n ≤ cap ∧ xs.length = n * size ∧ ∀ j u, xs[j]? = some u → M'.cell? (ad.add j) = some u) := by
  rcases h.rowObj with ⟨h1, h2, h3, h4⟩ | ⟨g, cap, cur, h1, h2, h3, h4, h5, h6, h7⟩
  · exact ⟨M, Mem.le_refl M, h4, .inl ⟨h1, h2, h3⟩⟩
  · obtain ⟨k1, k2⟩ := h7.freeze
    refine ⟨_, k1, k2, .inr ⟨⟨g, 0, none⟩, cap, h1, h2, h6, fun j u hu => ?_⟩⟩
    rw [Addr.add_lit, add_cell, ← Array.getElem?_toList]
    have hj : j < n * size := h6 ▸ (List.getElem?_eq_some_iff.1 hu).1
    rw [← h5, List.getElem?_take_of_lt hj] at hu
    simpa using hu

theorem Hp.newRow {t : TypeId} {size n : Nat} {v : Value} {xs : List Value} (h : Hp w0 M H w) (hown : w'.ownsRow w.heap.size t size v n xs) (hg : w.grownBy w' none) : Hp w0 M (.row t size v n xs :: H) w' :=
  (h.nilRow t size).grown (ownsRow_base hown h.below.size) (by simpa [Value.ownBlock] using hg) (.inr fun k hk => (World.ownsRow.lt hown k hk).1)
end

section
variable {P : Program} {ops : Array Oper} {n : Nat} {Q : Exit → Act → World → Prop} {L : Fr} {a : Act} {w0 w : World} {M : Mem} {H : List Ent}

def infoIs (P : Program) (e : TypeId) (z : Value) (size bytes : Nat) : Bool :=
  match P.info? e with
  | some i => (match i.zero with | some u => Nat.beq u.cells.size z.cells.size | none => false) && Nat.beq i.size size && Nat.beq i.bytes bytes && Nat.beq z.cells.size size && Nat.blt 0 size
  | none => false

theorem info_of {P : Program} {e : TypeId} {z : Value} {size bytes : Nat} (h : infoIs P e z size bytes = true) : ∃ i u, P.info? e = some i ∧ i.zero = some u ∧ i.size = size ∧ i.bytes = bytes ∧ u.cells.size = size ∧ 0 < size := by
  unfold infoIs at h
  cases hi : P.info? e with
  | none => simp [hi] at h
  | some i =>
    simp only [hi, Bool.and_eq_true] at h
    obtain ⟨⟨⟨⟨h1, h2⟩, h3⟩, h4⟩, h5⟩ := h
    cases hz : i.zero with
    | none => simp [hz] at h1
    | some u =>
      simp only [hz] at h1
      have e1 := Nat.eq_of_beq_eq_true h1; have e2 := Nat.eq_of_beq_eq_true h2; have e3 := Nat.eq_of_beq_eq_true h3; have e4 := Nat.eq_of_beq_eq_true h4
      exact ⟨i, u, rfl, hz, e2, e3, by omega, by simpa [Nat.blt_eq] using h5⟩

theorem X_append {o : Oper} {ρ : Operand → Value} {x y : Operand} {t : TypeId} {v u : Value} {w w' : World} {r : Value} (ho : o.op = .call { callee := .builtin .append, args := #[x, y], argTypes := #[t, t] }) (hx : ρ x = v) (hy : ρ y = u)
    (h : (Builtin.append_ #[t, t] o.type #[v, u]).run P w = .ok r w') : (execOp ρ o).run P w = .ok (.value r) w' := by
  unfold execOp
  simp only [ho, resolve, invoke, builtin, Sem.run_bind, Sem.run_pure, Result.andThen_ok, List.map_toArray, List.map_cons, List.map_nil, hx, hy, h]

/-- append to the row that stands first among the owned. -/
theorem W_append {o : Oper} {rest : List Oper} {d : Nat} {t e : TypeId} {x y : Operand} {z v : Value} {size bytes k m c : Nat} {xs news : List Value} {ad : Addr} (hf : Frm n L a) (hp : Hp w0 M (.row e size v k xs :: H) w)
    (hw : wantedL ops L o = some true) (hr : readyL L o = true) (hd : o.dst = some d) (hdn : Nat.blt d n = true) (ho : o.op = .call { callee := .builtin .append, args := #[x, y], argTypes := #[t, t] })
    (hx : ev L x = v) (hy : ev L y = .slice (some ad) m c) (ht : P.underlying t = some (.slice e)) (hi : infoIs P e z size bytes = true)
    (hl : news.length = m * size) (hnews : ∀ j u, news[j]? = some u → w.cell? (ad.add j) = some u) (h1 : ∀ u ∈ news, u.oneCell' = true) (hb : (k + m) * bytes ≤ 140737488355328) (h63 : k + m ≤ 9223372036854775807)
    (hk : ∀ v' w', Hp w0 M (.row e size v' (k + m) (xs ++ news) :: H) w' → ∀ a', Frm n ((d, v') :: L) a' → wpList P ops Q rest a' w') : wpList P ops Q (o :: rest) a w := by
  obtain ⟨i, u, hi1, hi2, hi3, hi4, hi5, hi6⟩ := info_of hi
  have hown := hp.own _ List.mem_cons_self
  obtain ⟨v', w', hrun, r1, r2, _, r3⟩ := run_append_own_at (P := P) (w := w) w0.heap.size t o.type e i u size bytes ht hi1 hi2 hi3 hi4 hi5 hi6 v k xs hown ad m c news hl hnews h1 (by unfold maxLen; exact h63) hb hp.below.size
  refine W_eq hf hw hr hd hdn (X_append ho hx hy hrun) (hk v' w' ?_)
  refine hp.grown r1 r2 ?_
  rcases r3 with r3 | r3
  · exact .inl r3
  · exact .inr fun k hk => by rw [r3] at hk; cases hk; exact Nat.le_refl _

/-- append of a source that is nil. -/
theorem W_append_nil {o : Oper} {rest : List Oper} {d : Nat} {t e : TypeId} {x y : Operand} {z v : Value} {size bytes k : Nat} {xs : List Value} (hf : Frm n L a) (hp : Hp w0 M (.row e size v k xs :: H) w)
    (hw : wantedL ops L o = some true) (hr : readyL L o = true) (hd : o.dst = some d) (hdn : Nat.blt d n = true) (ho : o.op = .call { callee := .builtin .append, args := #[x, y], argTypes := #[t, t] })
    (hx : ev L x = v) (hy : ev L y = .slice none 0 0) (ht : P.underlying t = some (.slice e)) (hi : infoIs P e z size bytes = true)
    (hk : ∀ a', Frm n ((d, v) :: L) a' → wpList P ops Q rest a' w) : wpList P ops Q (o :: rest) a w := by
  obtain ⟨i, u, hi1, hi2, hi3, hi4, hi5, hi6⟩ := info_of hi
  have hrun := run_append_owned_none (P := P) (w := w) w0.heap.size t o.type e i size ht hi1 v k xs (hp.own _ List.mem_cons_self)
  exact W_eq hf hw hr hd hdn (X_append ho hx hy hrun) hk

/-- Bytes that are known. -/
def KB (M : Mem) (ad : Addr) (l : List UInt8) : Prop := ∀ j, j < l.length → M.cell? (ad.add j) = some (.int .u8 (l.getD j 0).toNat)
theorem KB.mono {M M' : Mem} {ad : Addr} {l : List UInt8} (h : KB M ad l) (hM : M.le M') : KB M' ad l := fun j hj => hM.cell (h j hj)

theorem KB.get {M : Mem} {ad : Addr} {l : List UInt8} (h : KB M ad l) {i : Int} (h0 : 0 ≤ i) (h1 : i < l.length) : M.cell? (ad.add (i.toNat * 1)) = some (.int .u8 (l.getD i.toNat 0).toNat) := by
  rw [Nat.mul_one]; exact h _ (by omega)
/-- Bytes that are known, and a 0 behind them. -/
def KZ (M : Mem) (ad : Addr) (l : List UInt8) : Prop := ∀ j, j ≤ l.length → M.cell? (ad.add j) = some (.int .u8 (l.getD j 0).toNat)
theorem KZ.mono {M M' : Mem} {ad : Addr} {l : List UInt8} (h : KZ M ad l) (hM : M.le M') : KZ M' ad l := fun j hj => hM.cell (h j hj)
theorem KZ.get {M : Mem} {ad : Addr} {l : List UInt8} (h : KZ M ad l) {i : Int} (h0 : 0 ≤ i) (h1 : i ≤ l.length) : M.cell? (ad.add (i.toNat * 1)) = some (.int .u8 (l.getD i.toNat 0).toNat) := by
  rw [Nat.mul_one]; exact h _ (by omega)
theorem KB.z {M : Mem} {ad : Addr} {l : List UInt8} (h : KB M ad (l ++ [0])) : KZ M ad l := fun j hj => by
  rw [h j (by simp; omega)]
  congr 4
  simp only [List.getD, List.getElem?_append]
  split
  · rfl
  · rename_i hn
    have : j = l.length := by omega
    subst this
    simp
theorem byteCs_get {l : List UInt8} {r : List Value} {j : Nat} (hj : j < l.length) : (byteCs l ++ r)[j]? = some (.int .u8 (l.getD j 0).toNat) := by
  rw [List.getElem?_append_left (by simpa [byteCs] using hj)]
  simp [byteCs, List.getD, hj]

/-- append([]byte(s), c): the bytes are known behind it. -/
theorem W_bytes_push {o : Oper} {rest : List Oper} {d : Nat} {t e : TypeId} {x y : Operand} {b b1 cap : Nat} {l : List UInt8} {c : UInt8} {cv : Int} (hf : Frm n L a)
    (hp : Hp w0 M (.obj b1 (.cells #[.int .u8 cv] e (0, 0)) :: .obj b (.cells (byteCs l ++ List.replicate (cap - l.length) (Value.int .u8 0)).toArray e (cap, cap + 1)) :: H) w)
    (hw : wantedL ops L o = some true) (hr : readyL L o = true) (hd : o.dst = some d) (hdn : Nat.blt d n = true) (ho : o.op = .call { callee := .builtin .append, args := #[x, y], argTypes := #[t, t] })
    (hx : ev L x = .slice (some ⟨b, 0, none⟩) l.length cap) (hy : ev L y = .slice (some ⟨b1, 0, none⟩) 1 1) (ht : P.underlying t = some (.slice e)) (hi : infoIs P e (.int .u8 0) 1 1 = true) (hc : cv = c.toNat)
    (hcap : l.length ≤ cap) (hl : l.length + 1 ≤ 140737488355328)
    (hk : ∀ ad cap' M' w', M.le M' → Hp w0 M' H w' → KB M' ad (l ++ [c]) → l.length + 1 ≤ cap' → ∀ a', Frm n ((d, .slice (some ad) (l.length + 1) cap') :: L) a' → wpList P ops Q rest a' w') : wpList P ops Q (o :: rest) a w := by
  subst hc
  obtain ⟨i, u, hi1, hi2, hi3, hi4, hi5, hi6⟩ := info_of hi
  have hn : ∀ j u, [Value.int .u8 c.toNat][j]? = some u → w.cell? ((⟨b1, 0, none⟩ : Addr).add j) = some u := fun j u hu => by
    rw [Addr.add_lit, hp.ownCell 0 rfl, ← Array.getElem?_toList]; simpa using hu
  have hone : ∀ u ∈ [Value.int .u8 c.toNat], u.oneCell' = true := fun u hu => by simp at hu; subst hu; rfl
  have kb : ∀ j, j < (l ++ [c]).length → ((byteCs l).append [.int .u8 c.toNat])[j]? = some (.int .u8 ((l ++ [c]).getD j 0).toNat) := fun j hj => by
    have : (byteCs l).append [.int .u8 c.toNat] = byteCs (l ++ [c]) := by simp [byteCs]
    rw [this]
    have := byteCs_get (l := l ++ [c]) (r := []) hj
    simpa using this
  by_cases hroom : l.length + 1 ≤ cap
  · have hcell : w.cell? ⟨b, l.length, none⟩ = (byteCs l ++ List.replicate (cap - l.length) (Value.int .u8 0))[l.length]? := by
      rw [hp.ownCell 1 rfl]; simp
    have hlt : l.length < (byteCs l ++ List.replicate (cap - l.length) (Value.int .u8 0)).length := by simp [byteCs]; omega
    have hrun := run_append_room_cells (P := P) (w := w) t o.type e i ht hi1 b 0 l.length cap ⟨b1, 0, none⟩ 1 1 [.int .u8 c.toNat] (by simp [hi3]) hn hone hroom
      (fun j hj => by
        have : j = 0 := by simpa using hj
        subst this
        simp only [hi3, Nat.mul_one, Nat.zero_add, Nat.add_zero]
        rw [hcell, List.getElem?_eq_getElem hlt]; rfl)
      (fun j hj => by
        have : j = 0 := by simpa using hj
        subst this
        simp only [hi3, Nat.mul_one, Nat.zero_add, Nat.add_zero]
        exact hp.ownFrozen 1 rfl _ (by omega))
    simp only [hi3, Nat.mul_one, Nat.zero_add, World.setCells] at hrun
    obtain ⟨k1, k2⟩ := ((hp.drop).setCell l.length (.int .u8 c.toNat)).freeze
    refine W_eq hf hw hr hd hdn (X_append ho hx hy hrun) (hk ⟨b, 0, none⟩ cap _ _ k1 k2 (fun j hj => ?_) hroom)
    rw [Addr.add_lit, add_cell, ← kb j hj, ← Array.getElem?_toList]
    simp only [Array.toList_setIfInBounds, Nat.zero_add]
    simp only [List.length_append, List.length_cons, List.length_nil] at hj
    rw [List.getElem?_set]
    have hbl : (byteCs l).length = l.length := by simp [byteCs]
    show _ = (byteCs l ++ [Value.int .u8 c.toNat])[j]?
    by_cases e1 : l.length = j
    · subst e1
      rw [if_pos rfl, if_pos (by simpa using hlt), List.getElem?_append_right (by omega)]
      simp [hbl]
    · rw [if_neg e1, List.getElem?_append_left (by omega), List.getElem?_append_left (by omega)]
  · have hcapE : cap = l.length := by omega
    subst hcapE
    have holds : ∀ j u, (byteCs l)[j]? = some u → w.cell? ((⟨b, 0, none⟩ : Addr).add j) = some u := fun j u hu => by
      rw [Addr.add_lit, hp.ownCell 1 rfl, ← Array.getElem?_toList]; simpa using hu
    obtain ⟨v', w', hrun, r1, r2⟩ := run_append_arg_grows (P := P) (w := w) t o.type e i u 1 1 ht hi1 hi2 hi3 hi4 hi5 hi6 ⟨b, 0, none⟩ l.length l.length (byteCs l) (by simp [byteCs]) holds ⟨b1, 0, none⟩ 1 1 [.int .u8 c.toNat] (by simp) hn (by omega)
      (by unfold maxLen; omega) (by omega)
    obtain ⟨M', m1, m2, m3⟩ := ((hp.dropN 2).newRow r1 r2).rowKnown
    rcases m3 with ⟨_, h0, _⟩ | ⟨ad, cap', rfl, hcap', hlen, hc'⟩
    · omega
    · refine W_eq hf hw hr hd hdn (X_append ho hx hy hrun) (hk ad cap' M' w' m1 m2 (fun j hj => hc' j _ (kb j hj)) hcap')

end
end Go.Vc
namespace Go.Vc
open Go Go.RowKit
/-- A law's contract, from any world. -/
theorem Ok.top {P : Program} {f : FuncId} {args : List Value} {W : World} (h : Ok P (Mem.of W) f args fun _ v => v = .bool true) : Calls P f args.toArray W fun e w' => e = .returned (.bool true) ∧ Below W.heap.size W w' :=
  (h (Mem.of W) (Mem.le_refl _) W [] W (Hp.start W)).mono fun e w' ⟨v, he, M', _, hp, hv⟩ => ⟨by rw [he, hv], hp.below⟩
theorem wf_i64 {x : Int} (h : (Lit.int .i64 x).wf = true) : -9223372036854775808 ≤ x ∧ x ≤ 9223372036854775807 := by
  simp [Lit.wf, IntKind.min, IntKind.max, IntKind.signed, IntKind.bits] at h; omega
theorem wf_i8 {x : Int} (h : (Lit.int .i8 x).wf = true) : -128 ≤ x ∧ x ≤ 127 := by
  simp [Lit.wf, IntKind.min, IntKind.max, IntKind.signed, IntKind.bits] at h; omega
theorem wf_u8 {x : Int} (h : (Lit.int .u8 x).wf = true) : 0 ≤ x ∧ x ≤ 255 := by
  simp [Lit.wf, IntKind.min, IntKind.max, IntKind.signed, IntKind.bits] at h; omega
theorem byte_ex {x : Int} (h : (Lit.int .u8 x).wf = true) : ∃ c : UInt8, x = (c.toNat : Int) := by
  obtain ⟨h1, h2⟩ := wf_u8 h
  refine ⟨UInt8.ofNat x.toNat, ?_⟩
  rw [UInt8.toNat_ofNat']; omega
end Go.Vc
