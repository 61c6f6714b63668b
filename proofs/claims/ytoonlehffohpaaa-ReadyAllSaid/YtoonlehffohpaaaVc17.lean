/-
  VC, part 17: what the automatic generator's proofs use. Own work.
-/
import Derived.Test.YtoonlehffohpaaaVc16
namespace Go.Vc
open Go Go.RowKit

theorem br_elim {τ Λ : Type} {x : Option Λ} {j : Lp τ Λ} {k : τ → Option Λ} {r : Λ} (h : x.map Lp.br = some j) (h2 : joinF j k = some r) : x = some r := by
  obtain ⟨l, h3, rfl⟩ := Option.map_eq_some_iff.1 h
  rw [h3]; exact h2
theorem getI_getD {xs : List UInt8} {i : Int} {c : UInt8} (h : getI xs i = some c) : xs.getD i.toNat 0 = c := by
  obtain ⟨_, _, h3⟩ := getI_some h
  simp [List.getD, h3]
theorem getI_pos {α : Type} {xs : List α} {i : Int} {x : α} (h : getI xs i = some x) : 0 < xs.length := by
  have := getI_lt h; have := getI_nn h; omega
theorem getI_map {α β : Type} {f : α → β} {xs : List α} {i : Int} {x : α} (h : getI xs i = some x) : (xs.map f)[i.toNat]? = some (f x) := by
  rw [List.getElem?_map, (getI_some h).2.2]; rfl
theorem inR_wrap {k : IntKind} {x : Int} (h : inR k x) : k.wrap x = x := by
  cases k <;> simp [inR, IntKind.min, IntKind.max, IntKind.signed, IntKind.bits, IntKind.wrap] at * <;> omega
theorem szd_all {α : Type} {sz : Nat} {f : α → Dat} {xs : List α} (h : ∀ x, Szd sz (f x)) : ∀ d ∈ xs.map f, Szd sz d := fun d hd => by
  obtain ⟨x, _, rfl⟩ := List.mem_map.1 hd; exact h x
def embB (c : UInt8) : Dat := .int .u8 (c.toNat : Int)
theorem szd_byte (c : UInt8) : Szd 1 (embB c) := szd_int _ _
theorem embB_of {M : Mem} {n : Int} (h : 0 ≤ n ∧ n < 256) : Rep M (embB (UInt8.ofNat n.toNat)) [.int .u8 n] := by
  show _ = [_]
  rw [← byte_mk h.1 h.2]
theorem fz_part {C : Addr → Option Value} {cells : List Value} {base : Addr} (h : ∀ j v, cells[j]? = some v → C (base.add j) = some v) (off : Nat) {cs : List Value} (he : (cells.drop off).take cs.length = cs) :
    ∀ j v, cs[j]? = some v → C ((base.add off).add j) = some v := fun j v hv => by
  rw [add_of_add]
  have hj : j < cs.length := (List.getElem?_eq_some_iff.1 hv).1
  rw [← he, List.getElem?_take_of_lt hj, List.getElem?_drop] at hv
  exact h _ _ hv
theorem fz_whole {C : Addr → Option Value} {cells : List Value} {base : Addr} (h : ∀ j v, cells[j]? = some v → C (base.add j) = some v) : ∀ j v, cells[j]? = some v → C (base.add j) = some v := h
theorem row_at {w : World} {g k : Nat} {cs c : List Value} (h : ∀ j u, cs[j]? = some u → w.cell? ⟨g, j, none⟩ = some u) (hc : ∀ j v, c[j]? = some v → cs[k + j]? = some v) (j : Nat) (v : Value) (hv : c[j]? = some v) :
    w.cell? (((⟨g, 0, none⟩ : Addr).add k).add j) = some v := by
  rw [add_of_add, Addr.add_lit, Nat.zero_add]; exact h _ _ (hc j v hv)
theorem RepSeq.set1 {M : Mem} {α : Type} {f : α → Dat} {x : α} {v : Value} (hf : ∀ x, Szd 1 (f x)) (hv : Rep M (f x) [v]) : ∀ {xs : List α} {cs : List Value} (i : Nat), RepSeq M (xs.map f) cs → RepSeq M ((xs.set i x).map f) (cs.set i v)
  | [], cs, i, h => by rw [show cs = [] from h]; rfl
  | y :: xs, cs, i, h => by
    obtain ⟨c1, c2, e, k1, k2⟩ := h
    have hl := hf y M c1 k1
    obtain ⟨u, rfl⟩ := List.length_eq_one_iff.1 hl
    subst e
    cases i with
    | zero => exact ⟨[v], c2, rfl, hv, k2⟩
    | succ i => exact ⟨[u], c2.set i v, rfl, k1, RepSeq.set1 hf hv i k2⟩
theorem Sli.cutFrom {α : Type} {M : Mem} {sz : Nat} {f : α → Dat} {A : Option Addr} {cap : Nat} {xs : List α} (h : Sli M sz f A cap xs) {a : Nat} (ha : a ≤ xs.length) : Sli M sz f (cutA A sz a cap) (cap - a) (xs.drop a) := by
  have := h.cut ha (Nat.le_refl _)
  rwa [List.take_length] at this

section
variable {P : Program} {w : World} {ρ : Operand → Value} {o : Oper}
theorem X_rem {t t' : Nat} {x y : Operand} {k : IntKind} {a b : Int} (ho : o.op = .binOp .rem t x y t') (hx : ρ x = .int k a) (hy : ρ y = .int k b) (h : b ≠ 0) : (execOp ρ o).run P w = .ok (.value (.int k (a.tmod b))) w := by
  unfold execOp
  simp only [ho, hx, hy, eqGuard, binOp, Op.intDiv, Sem.run_bind]
  simp only [if_neg h]
  simp
theorem X_quo {t t' : Nat} {x y : Operand} {k : IntKind} {a b : Int} (ho : o.op = .binOp .quo t x y t') (hx : ρ x = .int k a) (hy : ρ y = .int k b) (h : b ≠ 0) (hr : inR k (a.tdiv b)) : (execOp ρ o).run P w = .ok (.value (.int k (a.tdiv b))) w := by
  unfold execOp
  simp only [ho, hx, hy, eqGuard, binOp, Op.intDiv, Sem.run_bind]
  simp only [if_neg h, inR_wrap hr]
  simp
theorem X_strgt {t t' : Nat} {x y : Operand} {l m : List UInt8} (ho : o.op = .binOp .gtr t x y t') (hx : ρ x = S l) (hy : ρ y = S m) : (execOp ρ o).run P w = .ok (.value (.bool (!(Op.bytesLess l m || l == m)))) w := by
  unfold execOp
  simp only [ho, hx, hy, eqGuard, binOp, Op.stringOp, mkS_toList]
  rfl
theorem X_strle {t t' : Nat} {x y : Operand} {l m : List UInt8} (ho : o.op = .binOp .leq t x y t') (hx : ρ x = S l) (hy : ρ y = S m) : (execOp ρ o).run P w = .ok (.value (.bool (Op.bytesLess l m || l == m))) w := by
  unfold execOp
  simp only [ho, hx, hy, eqGuard, binOp, Op.stringOp, mkS_toList]
  rfl
theorem X_strge {t t' : Nat} {x y : Operand} {l m : List UInt8} (ho : o.op = .binOp .geq t x y t') (hx : ρ x = S l) (hy : ρ y = S m) : (execOp ρ o).run P w = .ok (.value (.bool (!(Op.bytesLess l m)))) w := by
  unfold execOp
  simp only [ho, hx, hy, eqGuard, binOp, Op.stringOp, mkS_toList]
  rfl
end

section
variable {α : Type} {P : Program} {ops : Array Oper} {n : Nat} {Q : Exit → Act → World → Prop} {L : Fr} {a : Act} {w0 w : World} {M : Mem} {H : List Ent} {sz : Nat} {f : α → Dat}
/-- append of new elements to the row that stands first among the owned. -/
theorem W_appendL {o : Oper} {rest : List Oper} {d : Nat} {t e : TypeId} {x y : Operand} {z v : Value} {bytes m c : Nat} {ad : Addr} {xs ys : List α} {cs news : List Value} (hf : Frm n L a) (hp : Hp w0 M (.row e sz v xs.length cs :: H) w)
    (hcs : RepSeq M (xs.map f) cs) (hys : RepSeq M (ys.map f) news)
    (hw : wantedL ops L o = some true) (hr : readyL L o = true) (hd : o.dst = some d) (hdn : Nat.blt d n = true) (ho : o.op = .call { callee := .builtin .append, args := #[x, y], argTypes := #[t, t] })
    (hx : ev L x = v) (hy : ev L y = .slice (some ad) m c) (ht : P.underlying t = some (.slice e)) (hi : infoIs P e z sz bytes = true) (hl : (ys.length, news.length) = (m, m * sz))
    (hn : ∀ j u, news[j]? = some u → w.cell? (ad.add j) = some u)
    (hb : (xs.length + m) * bytes ≤ 140737488355328) (h63 : xs.length + m ≤ 9223372036854775807)
    (hk' : ∀ A cap cs' w', Hp w0 M (.row e sz (.slice A (xs ++ ys).length cap) (xs ++ ys).length cs' :: H) w' → RepSeq M ((xs ++ ys).map f) cs' → ∀ a', Frm n ((d, .slice A (xs ++ ys).length cap) :: L) a' → wpList P ops Q rest a' w') : wpList P ops Q (o :: rest) a w := by
  have hk : ∀ v' cs' w', Hp w0 M (.row e sz v' (xs ++ ys).length cs' :: H) w' → RepSeq M ((xs ++ ys).map f) cs' → ∀ a', Frm n ((d, v') :: L) a' → wpList P ops Q rest a' w' := fun v' cs' w' hp' hr' a' ha => by
    obtain ⟨A, cap, rfl, _⟩ := hp'.rowShape 0 rfl
    exact hk' A cap cs' w' hp' hr' a' ha
  simp only [Prod.mk.injEq] at hl
  refine W_append (z := z) (news := news) hf hp hw hr hd hdn ho hx hy ht hi hl.2 hn (RepSeq.oneC _ _ hys) hb h63 fun v' w' hp' a' ha => hk v' (cs ++ news) w' ?_ (hcs.more hys) a' ha
  rw [List.length_append, hl.1]; exact hp'
/-- Storing an element into an owned row (of one-cell elements). -/
theorem W_rowstore {o : Oper} {rest : List Oper} {t e : TypeId} {x y : Operand} {it : Int} {m cap g : Nat} {v0 v : Value} {d : List α} {xv x0 : α} {cs : List Value} (hf : Frm n L a) (hp : Hp w0 M (.row e 1 v0 d.length cs :: H) w) (hv0 : v0 = .slice (some ⟨g, 0, none⟩) m cap)
    (hw : wantedL ops L o = some true) (hr : readyL L o = true) (hd : o.dst = none) (ho : o.op = .store t x y) (hx : ev L x = .pointer (some ((⟨g, 0, none⟩ : Addr).add (it.toNat * 1)))) (hy : ev L y = v) (hv : Rep M (f xv) [v]) (hs : szIs P t 1 = true) (hfs : ∀ x, Szd 1 (f x)) (hg : getI d it = some x0)
    (hcs : RepSeq M (d.map f) cs) (hk : ∀ w', Hp w0 M (.row e 1 v0 (d.set it.toNat xv).length (cs.set it.toNat v) :: H) w' → RepSeq M ((d.set it.toNat xv).map f) (cs.set it.toNat v) → ∀ a', Frm n L a' → wpList P ops Q rest a' w') : wpList P ops Q (o :: rest) a w := by
  have hlen : cs.length = d.length := by have := RepSeq.len (szd_all hfs) hcs; simpa using this
  have hlt : it.toNat < cs.length := by have := getI_lt hg; have := getI_nn hg; omega
  obtain ⟨h1, h2, u, h3⟩ := hp.rowSet hv0 it.toNat hlt v
  rw [Nat.mul_one, Addr.add_lit, Nat.zero_add] at hx
  refine W_skip hf hw hr hd (X_store1 ho hx hy (Rep.one _ _ hv v (by simp)) hs h3 h2) (hk _ ?_ (RepSeq.set1 hfs hv _ hcs))
  rw [List.length_set]; exact h1
end
theorem fz_box {C : Addr → Option Value} {b : Nat} {cs : Array Value} (h : ∀ j v, cs[j]? = some v → C ⟨b, j, none⟩ = some v) : ∀ j v, cs.toList[j]? = some v → C ((⟨b, 0, none⟩ : Addr).add j) = some v := fun j v hv => by
  rw [Addr.add_lit, Nat.zero_add]; exact h j v (by simpa using hv)
theorem fz_at {C : Addr → Option Value} {cells : List Value} {base : Addr} (h : ∀ j v, cells[j]? = some v → C (base.add j) = some v) (off : Nat) {cs : List Value} (he : (cells.drop off).take cs.length = cs) :
    ∀ j v, cs[j]? = some v → C ((base.add off).add j) = some v := fz_part h off he
/-- Data whose spelling hangs on no memory. -/
def Flat (d : Dat) : Prop := ∀ M M' cs, Rep M d cs → Rep M' d cs
theorem flat_int (k : IntKind) (n : Int) : Flat (.int k n) := fun _ _ _ h => h
theorem flat_bool (b : Bool) : Flat (.bool b) := fun _ _ _ h => h
theorem flat_str (l : List UInt8) : Flat (.str l) := fun _ _ _ h => h
theorem flat_byte (c : UInt8) : Flat (embB c) := fun _ _ _ h => h
theorem flat_nil : Flat (.struct []) := fun _ _ _ h => h
theorem flat_cons {d : Dat} {ds : List Dat} (h1 : Flat d) (h2 : Flat (.struct ds)) : Flat (.struct (d :: ds)) := fun M M' cs h => by
  obtain ⟨c1, c2, e, k1, k2⟩ := h
  exact ⟨c1, c2, e, h1 M M' c1 k1, h2 M M' c2 k2⟩
theorem RepSeq.flat {α : Type} {f : α → Dat} (hf : ∀ x, Flat (f x)) : ∀ {M M' : Mem} (xs : List α) {cs : List Value}, RepSeq M (xs.map f) cs → RepSeq M' (xs.map f) cs
  | _, _, [], _, h => h
  | M, M', x :: xs, cs, h => by
    obtain ⟨c1, c2, e, k1, k2⟩ := h
    exact ⟨c1, c2, e, hf x M M' c1 k1, RepSeq.flat hf xs k2⟩
/-- An owned row is lent: known for a while, and given back. -/
theorem Hp.lend {α : Type} {w0 w : World} {M : Mem} {H : List Ent} {sz : Nat} {f : α → Dat} {xs : List α} {e : TypeId} {v : Value} {cs : List Value} (h : Hp w0 M (.row e sz v xs.length cs :: H) w) (hf : ∀ x, Szd sz (f x)) (hr : RepSeq M (xs.map f) cs) :
    ∃ M1 A cap, M.le M1 ∧ v = .slice A xs.length cap ∧ Hp w0 M1 H w ∧ Sli M1 sz f A cap xs ∧
      ∀ M' H' w', M1.le M' → Hp w0 M' H' w' → ∃ M2, M.le M2 ∧ Hp w0 M2 (.row e sz v xs.length cs :: H') w' := by
  have hs : ∀ d ∈ xs.map f, Szd sz d := szd_all hf
  rcases h.rowObj with ⟨h1, h2, h3, h4⟩ | ⟨g, cap, cur, h1, h2, h3, h4, h5, h6, h7⟩
  · have hx : xs = [] := List.eq_nil_of_length_eq_zero h2
    subst hx; subst h1; subst h3
    exact ⟨M, none, 0, Mem.le_refl M, rfl, h4, Sli.nil, fun M' H' w' hM hp => ⟨M', hM, hp.nilRow _ _⟩⟩
  · obtain ⟨k1, k2⟩ := h7.freeze
    have hfree := h7.head_free
    have hge := h7.start_le
    refine ⟨_, some ⟨g, 0, none⟩, cap, k1, h1, k2, ⟨h2, (fun e => by cases e), .inr ⟨_, rfl, RepSeq.arr hs (RepSeq.mono k1 _ _ hr) fun j u hu => ?_⟩⟩, fun M' H' w' hM hp => ?_⟩
    · rw [Addr.add_lit, add_cell, ← Array.getElem?_toList, Nat.zero_add]
      have hj : j < xs.length * sz := h6 ▸ (List.getElem?_eq_some_iff.1 hu).1
      rw [← h5, List.getElem?_take_of_lt hj] at hu
      exact hu
    · refine ⟨M'.del g, Mem.le_del (k1.trans hM) hfree, ?_⟩
      have h8 := hp.thaw (hM _ _ (Mem.add_get M g _)) hge
      rw [h1]
      exact h8.objRow h2 h3 h4 h5 h6
theorem RepSeq.replicate {α : Type} {M : Mem} {f : α → Dat} {x : α} {z : Value} (h : Rep M (f x) [z]) : ∀ n, RepSeq M ((List.replicate n x).map f) (List.replicate n z)
  | 0 => rfl
  | n + 1 => by
    rw [List.replicate_succ, List.replicate_succ, List.map_cons]
    exact ⟨[z], _, rfl, h, RepSeq.replicate h n⟩
/-- 'make([]T, m)', T of one cell: an owned row. -/
theorem W_makeD {α : Type} {P : Program} {ops : Array Oper} {n : Nat} {Q : Exit → Act → World → Prop} {L : Fr} {a : Act} {w0 w : World} {M : Mem} {H : List Ent} {f : α → Dat} {o : Oper} {rest : List Oper} {d : Nat} {t e : TypeId} {l c : Operand} {z : Value} {bytes : Nat} {m : Int} {x : α} (hf : Frm n L a) (hp : Hp w0 M H w) (hx : Rep M (f x) [z]) (hw : wantedL ops L o = some true) (hr : readyL L o = true)
    (hd : o.dst = some d) (hdn : Nat.blt d n = true) (ho : o.op = .makeSlice t l c) (hl : ev L l = .int .i64 m) (hc : ev L c = .int .i64 m) (ht : P.underlying t = some (.slice e)) (hinfo : (P.info? e).map (fun i => (i.zero, i.size, i.bytes)) = some (some z, 1, bytes)) (hz : z.cells = #[z])
    (hb : 0 ≤ m ∧ m * bytes ≤ 140737488355328 ∧ m ≤ 140737488355328)
    (hk' : ∀ A cap cs w', Hp w0 M (.row e 1 (.slice A (List.replicate m.toNat x).length cap) (List.replicate m.toNat x).length cs :: H) w' → RepSeq M ((List.replicate m.toNat x).map f) cs → ∀ a', Frm n ((d, .slice A (List.replicate m.toNat x).length cap) :: L) a' → wpList P ops Q rest a' w') : wpList P ops Q (o :: rest) a w := by
  have hk : ∀ v cs w', Hp w0 M (.row e 1 v (List.replicate m.toNat x).length cs :: H) w' → RepSeq M ((List.replicate m.toNat x).map f) cs → ∀ a', Frm n ((d, v) :: L) a' → wpList P ops Q rest a' w' := fun v cs w' hp' hr' a' ha => by
    obtain ⟨A, cap, rfl, _⟩ := hp'.rowShape 0 rfl
    exact hk' A cap cs w' hp' hr' a' ha
  obtain ⟨k, rfl⟩ := Int.eq_ofNat_of_zero_le hb.1
  have h1 : bytes * k ≤ 140737488355328 := by
    have h := hb.2.1
    have e : ((k * bytes : Nat) : Int) = (k : Int) * (bytes : Int) := Int.natCast_mul k bytes
    rw [Nat.mul_comm]
    omega
  have h2 : k ≤ 140737488355328 := by have := hb.2.2; omega
  refine W_make hf hp hw hr hd hdn ho hl hc ht hinfo hz (by omega) (by omega) fun b w' hp' a' ha => ?_
  refine hk _ (List.replicate k z) w' ?_ (RepSeq.replicate hx _) a' ha
  rw [List.length_replicate]
  exact hp'.objRow (Nat.le_refl _) (by unfold maxLen; omega) (by rw [List.size_toArray, List.length_replicate, Nat.mul_one]) (by rw [Nat.mul_one]; exact List.take_of_length_le (by rw [List.length_replicate]; exact Nat.le_refl _)) (by rw [List.length_replicate, Nat.mul_one])
theorem Hp.rowVal {w0 w : World} {M : Mem} {H : List Ent} {e : TypeId} {sz n : Nat} {v v' : Value} {cs : List Value} (h : Hp w0 M (.row e sz v n cs :: H) w) (he : v = v') : Hp w0 M (.row e sz v' n cs :: H) w := he ▸ h
/-- Bytes known as data. -/
theorem RepSeq.bytes {M : Mem} : ∀ l : List UInt8, RepSeq M (l.map embB) (byteCs l)
  | [] => rfl
  | c :: l => ⟨[.int .u8 c.toNat], byteCs l, rfl, rfl, RepSeq.bytes l⟩
theorem RepSeq.bytes_eq {M : Mem} : ∀ {l : List UInt8} {cs : List Value}, RepSeq M (l.map embB) cs → cs = byteCs l
  | [], cs, h => h
  | c :: l, cs, h => by
    obtain ⟨c1, c2, e, k1, k2⟩ := h
    rw [e, show c1 = [_] from k1, RepSeq.bytes_eq k2]; rfl
end Go.Vc
