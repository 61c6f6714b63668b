/-
  VC: a row of ones own whose elements are rows of integers, each of ones own: one is taken out, appended to, put back; in the end all become known. Own work.
-/
import Derived.Test.YtfdmlionhbeebaaVkA
set_option linter.unusedVariables false
set_option linter.unusedSimpArgs false
namespace Go.Vc
open Go Go.RowKit
section
variable {P : Program} {w0 w : World} {M : Mem} {H : List Ent} {e T : TypeId} {k : IntKind}
def rbag (e : TypeId) (k : IntKind) : List (List Int) → List Value → List Ent
  | x :: d, v :: hs => .row e 1 v x.length (x.map (Value.int k)) :: rbag e k d hs
  | _, _ => []
theorem rbag_at : ∀ {d : List (List Int)} {hs : List Value} {j : Nat} {x : List Int} {v : Value}, d[j]? = some x → hs[j]? = some v → (rbag e k d hs).Perm (.row e 1 v x.length (x.map (Value.int k)) :: rbag e k (d.eraseIdx j) (hs.eraseIdx j))
  | [], _, _, _, _, h, _ => by simp at h
  | _ :: _, [], _, _, _, _, h => by simp at h
  | y :: d, u :: hs, 0, x, v, h1, h2 => by
    simp at h1 h2
    subst h1
    subst h2
    exact .refl _
  | y :: d, u :: hs, j + 1, x, v, h1, h2 => by
    simp only [List.getElem?_cons_succ] at h1 h2
    have ih := rbag_at h1 h2
    simp only [rbag, List.eraseIdx_cons_succ]
    exact (ih.cons _).trans (.swap _ _ _)
theorem ints_rep {M : Mem} : ∀ xs : List Int, RepSeq M (xs.map (Dat.int k)) (xs.map (Value.int k))
  | [] => rfl
  | x :: r => ⟨[.int k x], _, rfl, rfl, ints_rep r⟩
theorem ints_eq_ {M : Mem} : ∀ {xs : List Int} {cs : List Value}, RepSeq M (xs.map (Dat.int k)) cs → cs = xs.map (Value.int k)
  | [], _, h => h
  | x :: r, _, ⟨c, c', e1, e2, h⟩ => by
    subst e1
    have e3 : c = [.int k x] := e2
    rw [e3, ints_eq_ h]; rfl
/-- What lies at a place. -/
theorem Hp.rbagHead (E : List Ent) {d : List (List Int)} {hs : List Value} {it : Int} {x : List Int} (h : Hp w0 M (E ++ (rbag e k d hs ++ H)) w) (hl : hs.length = d.length) (hx : getI d it = some x) :
    ∃ A cap, hs[it.toNat]? = some (.slice A x.length cap) := by
  obtain ⟨h0, h1, h2⟩ := getI_some hx
  have h3 : it.toNat < hs.length := by omega
  have h4 : hs[it.toNat]? = some hs[it.toNat] := List.getElem?_eq_getElem h3
  have hp := rbag_at (e := e) (k := k) h2 h4
  have h5 : Hp w0 M (.row e 1 hs[it.toNat] x.length (x.map (Value.int k)) :: (E ++ (rbag e k (d.eraseIdx it.toNat) (hs.eraseIdx it.toNat) ++ H))) w :=
    h.perm (((hp.append_right H).append_left E).trans List.perm_middle)
  obtain ⟨A, cap, e1, _⟩ := h5.rowShape 0 rfl
  rw [e1] at h4
  exact ⟨A, cap, h4⟩
theorem Hp.rbagTake (E : List Ent) {d : List (List Int)} {hs : List Value} {it : Int} {x : List Int} {v : Value} (h : Hp w0 M (E ++ (rbag e k d hs ++ H)) w) (hx : getI d it = some x) (hv : hs[it.toNat]? = some v) :
    Hp w0 M (.row e 1 v x.length (x.map (Value.int k)) :: (E ++ (rbag e k (d.eraseIdx it.toNat) (hs.eraseIdx it.toNat) ++ H))) w :=
  h.perm ((((rbag_at (e := e) (k := k) (getI_some hx).2.2 hv).append_right H).append_left E).trans List.perm_middle)
theorem set_same {α : Type} {l : List α} {j : Nat} {v : α} (h : l[j]? = some v) : l.set j v = l := by
  obtain ⟨hj, e⟩ := List.getElem?_eq_some_iff.1 h
  rw [← e, List.set_getElem_self]
theorem Hp.rbagPull (E : List Ent) {d : List (List Int)} {hs : List Value} {it : Int} {x : List Int} (h : Hp w0 M (E ++ (rbag e k d hs ++ H)) w) (hl : hs.length = d.length) (hx : getI d it = some x) :
    ∃ A cap, hs[it.toNat]? = some (.slice A x.length cap) ∧ Hp w0 M (.row e 1 (.slice A x.length cap) x.length (x.map (Value.int k)) :: (E ++ (rbag e k (d.eraseIdx it.toNat) (hs.eraseIdx it.toNat) ++ H))) w := by
  obtain ⟨h0, h1, h2⟩ := getI_some hx
  have h3 : it.toNat < hs.length := by omega
  have h4 : hs[it.toNat]? = some hs[it.toNat] := List.getElem?_eq_getElem h3
  have hp := rbag_at (e := e) (k := k) h2 h4
  have h5 : Hp w0 M (.row e 1 hs[it.toNat] x.length (x.map (Value.int k)) :: (E ++ (rbag e k (d.eraseIdx it.toNat) (hs.eraseIdx it.toNat) ++ H))) w :=
    h.perm (((hp.append_right H).append_left E).trans List.perm_middle)
  obtain ⟨A, cap, e1, _⟩ := h5.rowShape 0 rfl
  rw [e1] at h4 h5
  exact ⟨A, cap, h4, h5⟩
theorem Hp.rbagPut (E : List Ent) {d : List (List Int)} {hs : List Value} {j : Nat} {x : List Int} {v : Value} {cs : List Value} (h : Hp w0 M (.row e 1 v x.length cs :: (E ++ (rbag e k (d.eraseIdx j) (hs.eraseIdx j) ++ H))) w) (hc : RepSeq M (x.map (Dat.int k)) cs) (hl : hs.length = d.length) (hj : j < d.length) :
    Hp w0 M (E ++ (rbag e k (d.set j x) (hs.set j v) ++ H)) w := by
  rw [ints_eq_ hc] at h
  have h1 : (d.set j x)[j]? = some x := by rw [List.getElem?_set_self hj]
  have h2 : (hs.set j v)[j]? = some v := by rw [List.getElem?_set_self (by omega)]
  have hp := rbag_at (e := e) (k := k) h1 h2
  rw [List.eraseIdx_set_eq, List.eraseIdx_set_eq] at hp
  exact h.perm ((((hp.append_right H).append_left E).trans List.perm_middle).symm)
/-- Back, with the header that it had. -/
theorem Hp.rbagBack (E : List Ent) {d : List (List Int)} {hs : List Value} {it : Int} {x y : List Int} {v : Value} {cs : List Value} (h : Hp w0 M (.row e 1 v x.length cs :: (E ++ (rbag e k (d.eraseIdx it.toNat) (hs.eraseIdx it.toNat) ++ H))) w) (hc : RepSeq M (x.map (Dat.int k)) cs) (hl : hs.length = d.length) (hx : getI d it = some y) (hv : hs[it.toNat]? = some v) :
    Hp w0 M (E ++ (rbag e k (d.set it.toNat x) hs ++ H)) w := by
  obtain ⟨h0, h1, _⟩ := getI_some hx
  have := Hp.rbagPut E h hc hl (by omega)
  rwa [set_same hv] at this
theorem Hp.rbagUndo (E : List Ent) {d : List (List Int)} {hs : List Value} {it : Int} {x : List Int} {v : Value} {cs : List Value} (h : Hp w0 M (.row e 1 v x.length cs :: (E ++ (rbag e k (d.eraseIdx it.toNat) (hs.eraseIdx it.toNat) ++ H))) w) (hc : RepSeq M (x.map (Dat.int k)) cs) (hl : hs.length = d.length) (hx : getI d it = some x) (hv : hs[it.toNat]? = some v) :
    Hp w0 M (E ++ (rbag e k d hs ++ H)) w := by
  have := Hp.rbagBack E h hc hl hx hv
  rwa [set_same (getI_some hx).2.2] at this
theorem rr_set {hs : List Value} {d : List (List Int)} {n j : Nat} (h : hs.length = d.length ∧ d.length = n) (v : Value) (x : List Int) : (hs.set j v).length = (d.set j x).length ∧ (d.set j x).length = n := by simpa using h
theorem rr_set1 {hs : List Value} {d : List (List Int)} {n j : Nat} (h : hs.length = d.length ∧ d.length = n) (x : List Int) : hs.length = (d.set j x).length ∧ (d.set j x).length = n := by simpa using h
theorem rr_lt {hs : List Value} {d : List (List Int)} {n : Nat} {it : Int} {x : List Int} (h : hs.length = d.length ∧ d.length = n) (hx : getI d it = some x) : it < (n : Int) := by
  have := getI_lt hx
  rw [h.2] at this
  exact this
theorem rr_ltN {hs : List Value} {d : List (List Int)} {n : Nat} {it : Int} {x : List Int} (h : hs.length = d.length ∧ d.length = n) (hx : getI d it = some x) : it.toNat < hs.length := by
  have h1 := getI_lt hx
  have h2 := getI_nn hx
  rw [h.1]
  omega
theorem rr_ltD {d : List (List Int)} {it : Int} {x : List Int} (hx : getI d it = some x) : it.toNat < d.length := by
  have h1 := getI_lt hx
  have h2 := getI_nn hx
  omega
theorem rr_new (n : Nat) : (List.replicate n (Value.slice none 0 0)).length = (List.replicate n ([] : List Int)).length ∧ (List.replicate n ([] : List Int)).length = n := by simp
theorem Hp.rbagKnown : ∀ {d : List (List Int)} {hs : List Value} {M : Mem}, hs.length = d.length → Hp w0 M (rbag e k d hs ++ H) w → ∃ M', M.le M' ∧ Hp w0 M' H w ∧ RepSeq M' (d.map (eL 1 (Dat.int k))) hs
  | [], [], M, _, h => ⟨M, Mem.le_refl M, h, rfl⟩
  | x :: d, v :: hs, M, hl, h => by
    have h' : Hp w0 M (.row e 1 v x.length (x.map (Value.int k)) :: (rbag e k d hs ++ H)) w := h
    obtain ⟨A, cap, M1, e1, h1, h2, h3⟩ := h'.rowSli (f := Dat.int k) (xs := x) (szd_int k) (ints_rep x)
    obtain ⟨M2, k1, k2, k3⟩ := Hp.rbagKnown (by simpa using hl) h2
    subst e1
    exact ⟨M2, h1.trans k1, k2, [_], hs, rfl, (h3.mono k1).rep, k3⟩
theorem Hp.toTail (E B : List Ent) (h : Hp w0 M (B ++ (E ++ H)) w) : Hp w0 M (E ++ (B ++ H)) w := by
  refine h.perm ?_
  rw [← List.append_assoc, ← List.append_assoc]
  exact List.perm_append_comm.append_right H
/-- All of it becomes known. -/
theorem Hp.rrKnown (E : List Ent) {b n : Nat} {d : List (List Int)} {hs : List Value} (h : Hp w0 M (.obj b (.cells hs.toArray T (0, 0)) :: (E ++ (rbag e k d hs ++ H))) w) (hl : hs.length = d.length ∧ d.length = n) :
    ∃ M', M.le M' ∧ Hp w0 M' (E ++ H) w ∧ Sli M' 1 (eL 1 (Dat.int k)) (some ⟨b, 0, none⟩) n d := by
  obtain ⟨h1, h2⟩ := h.freeze
  obtain ⟨M', h3, h4, h5⟩ := Hp.rbagKnown hl.1 (Hp.toTail _ _ h2)
  refine ⟨M', h1.trans h3, h4, Nat.le_of_eq hl.2, (fun q => by cases q), .inr ⟨_, rfl, ?_⟩⟩
  refine RepSeq.arr (fun d hd => by obtain ⟨x, _, rfl⟩ := List.mem_map.1 hd; exact szd_list _ _) h5 (fun j u hu => ?_)
  rw [Addr.add_lit]
  refine h3.cell ?_
  rw [Nat.zero_add, add_cell]
  simpa using hu
theorem rbag_nil : ∀ n, Hp w0 M H w → Hp w0 M (rbag e k (List.replicate n []) (List.replicate n (.slice none 0 0)) ++ H) w
  | 0, h => h
  | n + 1, h => (rbag_nil n h).nilRow e 1
theorem Hp.bagDrop (E B : List Ent) (h : Hp w0 M (E ++ (B ++ H)) w) : Hp w0 M (E ++ H) w := by
  have h2 : Hp w0 M (B ++ (E ++ H)) w := by
    refine h.perm ?_
    rw [← List.append_assoc, ← List.append_assoc]
    exact List.perm_append_comm.append_right H
  have h3 := h2.dropN B.length
  rwa [List.drop_left] at h3
end
section
variable {P : Program} {ops : Array Oper} {n : Nat} {Q : Exit → Act → World → Prop} {L : Fr} {a : Act} {w0 w : World} {M : Mem} {H : List Ent} {dd : List Deferred}
theorem W_makeRR {o : Oper} {rest : List Oper} {d : Nat} {t e e2 : TypeId} {k : IntKind} {l c : Operand} {bytes : Nat} {m : Int} (E : List Ent) (hf : Frm n L a dd) (hp : Hp w0 M (E ++ H) w) (hw : wantedL ops L o = some true) (hr : readyL L o = true)
    (hd : o.dst = some d) (hdn : Nat.blt d n = true) (ho : o.op = .makeSlice t l c) (hl : ev L l = .int .i64 m) (hc : ev L c = .int .i64 m) (ht : P.underlying t = some (.slice e)) (hinfo : (P.info? e).map (fun i => (i.zero, i.size, i.bytes)) = some (some (.slice none 0 0), 1, bytes))
    (hb : 0 ≤ m ∧ m * bytes ≤ 140737488355328 ∧ m ≤ 140737488355328)
    (hk : ∀ b w', Hp w0 M (.obj b (.cells (List.replicate m.toNat (.slice none 0 0)).toArray e (0, 0)) :: (E ++ (rbag e2 k (List.replicate m.toNat []) (List.replicate m.toNat (.slice none 0 0)) ++ H))) w' → ∀ a', Frm n ((d, .slice (some ⟨b, 0, none⟩) m.toNat m.toNat) :: L) a' dd → wpList P ops Q rest a' w') : wpList P ops Q (o :: rest) a w := by
  obtain ⟨q, rfl⟩ := Int.eq_ofNat_of_zero_le hb.1
  have h1 : bytes * q ≤ 140737488355328 := by
    have h := hb.2.1
    have e : ((q * bytes : Nat) : Int) = (q : Int) * (bytes : Int) := Int.natCast_mul q bytes
    rw [Nat.mul_comm]
    omega
  have h2 : q ≤ 140737488355328 := by have := hb.2.2; omega
  refine W_make hf hp hw hr hd hdn ho hl hc ht hinfo rfl (by omega) (by omega) fun b w' hp' a' ha => ?_
  exact hk b w' (Hp.toTail (H := H) (.obj b _ :: E) _ (rbag_nil (e := e2) (k := k) q hp')) a' ha
theorem rr_cell {b i : Nat} {T : TypeId} {hs : List Value} {j : Nat} {v : Value} (h : Hp w0 M H w) (he : H[i]? = some (.obj b (.cells hs.toArray T (0, 0)))) (hv : hs[j]? = some v) : w.cell? ((⟨b, 0, none⟩ : Addr).add (j * 1)) = some v := by
  rw [Nat.mul_one, Addr.add_lit, Nat.zero_add, h.ownCell i he]
  simpa using hv
theorem W_storeRR {o : Oper} {rest : List Oper} {t : TypeId} {x y : Operand} {b j : Nat} {v : Value} {hs : List Value} {T : TypeId} (hf : Frm n L a dd) (hp : Hp w0 M H w) (i : Nat)
    (hw : wantedL ops L o = some true) (hr : readyL L o = true) (hd : o.dst = none) (ho : o.op = .store t x y) (hx : ev L x = .pointer (some ((⟨b, 0, none⟩ : Addr).add (j * 1)))) (hy : ev L y = v) (hv : v.oneCell' = true) (hs1 : szIs P t 1 = true)
    (he : H[i]? = some (.obj b (.cells hs.toArray T (0, 0)))) (hj : j < hs.length)
    (hk : ∀ w', Hp w0 M (H.set i (.obj b (.cells (hs.set j v).toArray T (0, 0)))) w' → ∀ a', Frm n L a' dd → wpList P ops Q rest a' w') : wpList P ops Q (o :: rest) a w := by
  rw [Nat.mul_one, Addr.add_lit, Nat.zero_add] at hx
  refine W_store1 hf hp i hw hr hd ho hx hy hv hs1 he (by simpa using hj) (by omega) _ rfl fun w' hp' a' ha => hk w' ?_ a' ha
  simpa using hp'
end
end Go.Vc
