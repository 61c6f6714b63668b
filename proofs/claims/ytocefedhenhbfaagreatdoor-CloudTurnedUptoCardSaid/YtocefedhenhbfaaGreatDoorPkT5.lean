/-
  Texts of this claim, packed (what nothing names is left out): NumH, VkH, VkI, T1, T2, StoreP1, StoreP2, C1. Own work, partly printed by own programs. No condition.
-/
import Derived.Test.YtocefedhenhbfaaGreatDoorPkT4
import Derived.Test.YtocefedhenhbfaaGreatDoorPkT2
import Derived.Test.YtocefedhenhbfaaGreatDoorPkT3
import Derived.Laws.StructEq
import Derived.Test.YtocefedhenhbfaaGreatDoorRows
set_option linter.unusedVariables false
set_option linter.unusedSimpArgs false
set_option maxHeartbeats 2000000
section
namespace Go.Proofs.YtocefedhenhbfaaGreatDoor
open Go Go.Vc Go.RowKit Go.Num
def h_numText (_ : Nat) (x : Int) : Option (List UInt8 × Int) := some (Go.Num.text x)
theorem h_numText_ok (n : Nat) (M : Mem) (x : Int) (r : List UInt8 × Int) (hF : h_numText n x = some r) : Ok Tryz.prog M 98 [.int .i64 x] (fun _ v => v = .tuple #[S r.1, .int .i64 r.2]) := by
 obtain rfl := Option.some.inj hF
 exact textP_ok M x
def h_numRead (_ : Nat) (s : List UInt8) : Option (Int × Int) := need (s.length ≤ 140737488351232) (some (Go.Num.read s))
theorem h_numRead_ok (n : Nat) (M : Mem) (s : List UInt8) (r : Int × Int) (hF : h_numRead n s = some r) : Ok Tryz.prog M 126 [S s] (fun _ v => v = .tuple #[.int .i64 r.1, .int .i64 r.2]) := by
 unfold h_numRead at hF
 obtain ⟨g, hF⟩ := need_some hF
 obtain rfl := Option.some.inj hF
 exact readP_ok M s g
end Go.Proofs.YtocefedhenhbfaaGreatDoor
end

section
namespace Go.Vc
open Go Go.RowKit
section
variable {P : Program} {w : World} {ρ : Operand → Value} {o : Oper}
theorem X_slice3 {t e sz : Nat} {x hi mx : Operand} {A : Option Addr} {len cap : Nat} {k k' : IntKind} {b : Int} (ho : o.op = .slice t x none (some hi) (some mx)) (hx : ρ x = .slice A len cap) (hhi : ρ hi = .int k b) (hmx : ρ mx = .int k' b) (ht : P.underlying t = some (.slice e))
  (hs : szIs P e sz = true) (h0 : 0 ≤ b) (h2 : b ≤ cap) : (execOp ρ o).run P w = .ok (.value (.slice (cutA A sz 0 b.toNat) b.toNat b.toNat)) w := by
 obtain ⟨b, rfl⟩ := Int.eq_ofNat_of_zero_le h0
 have hb : b ≤ cap := by omega
 unfold execOp
 simp only [ho, hx, hhi, hmx, Option.map, Instr.sliceAt, Sem.run_bind, Sem.run_pure, Result.andThen_ok, run_underlying ht, Instr.slice, Instr.sliceBounds, Instr.sliceBound, asIntOf]
 simp only [Int.toNat_natCast]
 simp [hb, run_sizeOf hs, cutA]
 rfl
theorem Y36 {t e sz : Nat} {x hi mx : Operand} {A : Option Addr} {len cap : Nat} {k k' : IntKind} {b : Int} (ho : o.op = .slice t x none (some hi) (some mx)) (h0 : 0 ≤ b) (h2 : b ≤ cap) (hx : ρ x = .slice A len cap := by kernel_rfl) (hhi : ρ hi = .int k b := by kernel_rfl) (hmx : ρ mx = .int k' b := by kernel_rfl) (ht : P.underlying t = some (.slice e) := by kernel_rfl) (hs : szIs P e sz = true := by kernel_rfl) : (execOp ρ o).run P w = .ok (.value (.slice (cutA A sz 0 b.toNat) b.toNat b.toNat)) w := X_slice3 ho hx hhi hmx ht hs h0 h2
end
section
variable {α : Type} {M : Mem} {sz : Nat} {f : α → Dat} {A : Option Addr} {cap : Nat} {xs : List α}
theorem Sli.full (h : Sli M sz f A cap xs) {b : Nat} (hb : b ≤ xs.length) : Sli M sz f (cutA A sz 0 b) (xs.take b).length (xs.take b) := by
 obtain ⟨h1, h2, h3⟩ := h
 have hl : (xs.take b).length = b := by rw [List.length_take]; omega
 refine ⟨Nat.le_refl _, fun e => ?_, ?_⟩
 ·rw [hl]
  unfold cutA at e
  split at e
  ·omega
  ·cases A with
   | none => have := h2 rfl; omega
   | some ad => simp at e
 ·rcases h3 with h3 | ⟨ad, h4, h5⟩
  ·exact .inl (by simp [h3])
  ·by_cases hac : b = 0
   ·exact .inl (by simp [hac])
   ·refine .inr ⟨ad.add (0 * sz), by simp [cutA, hac, h4], ?_⟩
    rw [List.map_take]
    have := RepArr.drop 0 (RepArr.take b h5)
    simpa using this
end
section
variable {α : Type} {P : Program} {ops : Array Oper} {n : Nat} {Q : Exit → Act → World → Prop} {L : Fr} {a : Act} {w0 w : World} {M : Mem} {H : List Ent} {sz : Nat} {f : α → Dat} {dd : List Deferred}
theorem Hp.appendFull {t tx ty e : TypeId} {i : TypeInfo} {z x : Value} {m : Nat} {xs : List α} {news : List Value} {A : Option Addr} (hp : Hp w0 M H w) (hxs : Sli M sz f A xs.length xs) (hs : Src P sz tx x m news w) (hm : 0 < m)
  (ht : P.underlying t = some (.slice e)) (hi : P.info? e = some i) (hz : i.zero = some z) (hsz : i.size = sz) (hzs : z.cells.size = sz) (h0 : 0 < sz) (hb : (xs.length + m) * i.bytes ≤ 140737488355328) (h63 : xs.length + m ≤ 9223372036854775807) :
  ∃ v' cs w', (Builtin.append_ #[t, tx] ty #[.slice A xs.length xs.length, x]).run P w = .ok v' w' ∧ RepSeq M (xs.map f) cs ∧ Hp w0 M (.row e sz v' (xs.length + m) (cs ++ news) :: H) w' := by
 subst hsz
 have hl := hs.newsLen
 have hold : ∃ cs : List Value, cs.length = xs.length * i.size ∧ RepSeq M (xs.map f) cs ∧ (Builtin.firstCells i.size xs.length (.slice A xs.length xs.length)).run P w.drew = .ok cs.toArray w.drew := by
  obtain ⟨h1, h2, h3⟩ := hxs
  cases A with
  | none =>
   have h4 := h2 rfl
   have h5 : xs = [] := List.eq_nil_of_length_eq_zero h4
   subst h5
   exact ⟨[], by simp, rfl, run_firstCells_none w.drew i.size 0 0 0⟩
  | some ad =>
   have h5 : RepArr M i.size (xs.map f) ad := by
    rcases h3 with h3 | ⟨ad', e', h5⟩
    ·subst h3; trivial
    ·cases e'; exact h5
   obtain ⟨cs, k1, k2, k3⟩ := RepArr.cells h5
   have k1' : cs.length = xs.length * i.size := by simpa using k1
   exact ⟨cs, k1', k2, run_firstCells_some w.drew i.size xs.length ad xs.length xs.length cs k1' fun j u hu => hp.drew.cell (k3 j u hu)⟩
 obtain ⟨cs, k1, k2, k3⟩ := hold
 have hc : xs.length < xs.length + m := by omega
 have hr := run_append_grow_src (P := P) w t tx ty e i z ht hi hz A xs.length xs.length cs k3 x m news hs hc (by omega) (growslice_fits hc hb)
 have hlen : (cs ++ news).length = (xs.length + m) * i.size := by rw [List.length_append, k1, hl, Nat.add_mul]
 refine ⟨_, cs, _, hr, k2, ?_⟩
 refine (hp.drew.alloc _).objRow (grownCap_ge w (xs.length + m) xs.length e) (grownCap_le_maxLen w (xs.length + m) xs.length e (by unfold maxLen; exact h63)) (blk_eq (grownCap_le_maxLen w (xs.length + m) xs.length e (by unfold maxLen; exact h63)) ?_) ?_ hlen
 ·have := grownCap_ge w (xs.length + m) xs.length e
  rw [Array.size_append, List.size_toArray, size_zeroCells, hzs, hlen, ← Nat.add_mul]
  congr 1
  omega
 ·rw [Array.toList_append, ← hlen]
  exact List.take_left
theorem W_appendFL {o : Oper} {rest : List Oper} {d : Nat} {t e : TypeId} {x y : Operand} {z : Value} {bytes m c : Nat} {ad : Addr} {A : Option Addr} {xs ys : List α} {news : List Value} (hf : Frm n L a dd) (hp : Hp w0 M H w) (h0 : 0 < sz) (hm : 0 < m)
  (hxs : Sli M sz f A xs.length xs) (hys : RepSeq M (ys.map f) news)
  (hw : wantedL ops L o = some true) (hr : readyL L o = true) (hd : o.dst = some d) (hdn : Nat.blt d n = true) (ho : o.op = .call { callee := .builtin .append, args := #[x, y], argTypes := #[t, t] })
  (hx : ev L x = .slice A xs.length xs.length) (hy : ev L y = .slice (some ad) m c) (ht : P.underlying t = some (.slice e)) (hi : infoIs P e z sz bytes = true) (hl : (ys.length, news.length) = (m, m * sz))
  (hn : ∀ j u, news[j]? = some u → w.cell? (ad.add j) = some u)
  (hb : (xs.length + m) * bytes ≤ 140737488355328) (h63 : xs.length + m ≤ 9223372036854775807)
  (hk : ∀ A cap cs' w', Hp w0 M (.row e sz (.slice A (xs ++ ys).length cap) (xs ++ ys).length cs' :: H) w' → RepSeq M ((xs ++ ys).map f) cs' → ∀ a', Frm n ((d, .slice A (xs ++ ys).length cap) :: L) a' dd → wpList P ops Q rest a' w') : wpList P ops Q (o :: rest) a w := by
 obtain ⟨i, u, hi1, hi2, hi3, hi4, hi5, hi6⟩ := info_of hi
 simp only [Prod.mk.injEq] at hl
 have hsrc := Src.ofSlice (P := P) (size := sz) w ht ad m c news hl.2 hn (RepSeq.oneC _ _ hys)
 obtain ⟨v', cs, w', hrun, hcs, hp'⟩ := hp.appendFull (ty := o.type) hxs hsrc hm ht hi1 hi2 hi3 hi5 h0 (by rw [hi4]; exact hb) h63
 obtain ⟨A', cap, rfl, _⟩ := hp'.rowShape 0 rfl
 have e3 : xs.length + m = (xs ++ ys).length := by simp [hl.1]
 refine W_eq hf hw hr hd hdn (X_append ho hx hy hrun) fun a' ha => ?_
 rw [e3] at ha hp'
 exact hk A' cap (cs ++ news) w' hp' (hcs.more hys) a' ha
theorem Y20 {o : Oper} {rest : List Oper} {d : Nat} {t e : TypeId} {x y : Operand} {z : Value} {bytes m c : Nat} {ad : Addr} {A : Option Addr} {xs ys : List α} {news : List Value} (hf : Frm n L a dd) (hp : Hp w0 M H w) (h0 : 0 < sz) (hm : 0 < m) (hxs : Sli M sz f A xs.length xs) (hys : RepSeq M (ys.map f) news) (hd : o.dst = some d) (hdn : Nat.blt d n = true) (ho : o.op = .call { callee := .builtin .append, args := #[x, y], argTypes := #[t, t] }) (hl : (ys.length, news.length) = (m, m * sz)) (hn : ∀ j u, news[j]? = some u → w.cell? (ad.add j) = some u) (hb : (xs.length + m) * bytes ≤ 140737488355328) (h63 : xs.length + m ≤ 9223372036854775807) (hk : ∀ A cap cs' w', Hp w0 M (.row e sz (.slice A (xs ++ ys).length cap) (xs ++ ys).length cs' :: H) w' → RepSeq M ((xs ++ ys).map f) cs' → ∀ a', Frm n ((d, .slice A (xs ++ ys).length cap) :: L) a' dd → wpList P ops Q rest a' w') (hw : wantedL ops L o = some true := by kernel_rfl) (hr : readyL L o = true := by kernel_rfl) (hx : ev L x = .slice A xs.length xs.length := by kernel_rfl) (hy : ev L y = .slice (some ad) m c := by kernel_rfl) (ht : P.underlying t = some (.slice e) := by kernel_rfl) (hi : infoIs P e z sz bytes = true := by kernel_rfl) : wpList P ops Q (o :: rest) a w := W_appendFL hf hp h0 hm hxs hys hw hr hd hdn ho hx hy ht hi hl hn hb h63 hk
theorem W_appendFS {o : Oper} {rest : List Oper} {d : Nat} {t e : TypeId} {x y : Operand} {z : Value} {bytes c : Nat} {A B : Option Addr} {xs ys : List α} (hf : Frm n L a dd) (hp : Hp w0 M H w) (h0 : 0 < sz) (hsz : ∀ x, Szd sz (f x))
  (hxs : Sli M sz f A xs.length xs) (hys : Sli M sz f B c ys)
  (hw : wantedL ops L o = some true) (hr : readyL L o = true) (hd : o.dst = some d) (hdn : Nat.blt d n = true) (ho : o.op = .call { callee := .builtin .append, args := #[x, y], argTypes := #[t, t] })
  (hx : ev L x = .slice A xs.length xs.length) (hy : ev L y = .slice B ys.length c) (ht : P.underlying t = some (.slice e)) (hi : infoIs P e z sz bytes = true)
  (hb : (xs.length + ys.length) * bytes ≤ 140737488355328) (h63 : xs.length + ys.length ≤ 9223372036854775807)
  (hk : ∀ A cap M' w', M.le M' → Hp w0 M' H w' → Sli M' sz f A cap (xs ++ ys) → ∀ a', Frm n ((d, .slice A (xs ++ ys).length cap) :: L) a' dd → wpList P ops Q rest a' w') : wpList P ops Q (o :: rest) a w := by
 obtain ⟨i, u, hi1, hi2, hi3, hi4, hi5, hi6⟩ := info_of hi
 obtain ⟨h1, h2, h3⟩ := hys
 have hsrc : ∃ news, RepSeq M (ys.map f) news ∧ Src P sz t (.slice B ys.length c) ys.length news w := by
  cases B with
  | none =>
   have h4 := h2 rfl
   have h5 : ys = [] := List.eq_nil_of_length_eq_zero (by omega)
   subst h5
   exact ⟨[], rfl, Src.ofNil w ht c⟩
  | some ad =>
   have h5 : RepArr M sz (ys.map f) ad := by
    rcases h3 with h3 | ⟨ad', e', h5⟩
    ·subst h3; trivial
    ·cases e'; exact h5
   obtain ⟨news, k1, k2, k3⟩ := RepArr.cells h5
   exact ⟨news, k2, Src.ofSlice (P := P) (size := sz) w ht ad ys.length c news (by simpa using k1) (fun j u hu => hp.cell (k3 j u hu)) (RepSeq.oneC _ _ k2)⟩
 obtain ⟨news, hns, hsrc⟩ := hsrc
 rcases Nat.eq_zero_or_pos ys.length with hz | hz
 ·have hy0 : ys = [] := List.eq_nil_of_length_eq_zero hz
  subst hy0
  have hnw : news = [] := List.eq_nil_of_length_eq_zero (by simpa using hsrc.newsLen)
  subst hnw
  have hrun := run_append_nothing w t t o.type e i ht hi1 A xs.length xs.length (Nat.le_refl _) (.slice B 0 c) (by rw [hi3]; exact hsrc)
  refine W_eq hf hw hr hd hdn (X_append ho hx hy hrun) fun a' ha => ?_
  refine hk A xs.length M w (Mem.le_refl _) hp (by rw [List.append_nil]; exact hxs) a' ?_
  rw [List.append_nil]; exact ha
 ·obtain ⟨v', cs, w', hrun, hcs, hp'⟩ := hp.appendFull (ty := o.type) hxs hsrc hz ht hi1 hi2 hi3 hi5 h0 (by rw [hi4]; exact hb) h63
  have e3 : xs.length + ys.length = (xs ++ ys).length := by simp
  rw [e3] at hp'
  obtain ⟨A', cap, M', rfl, hM, hp2, hsl⟩ := hp'.rowSli (f := f) hsz (hcs.more hns)
  refine W_eq hf hw hr hd hdn (X_append ho hx hy hrun) fun a' ha => ?_
  exact hk A' cap M' w' hM hp2 hsl a' ha
theorem Y21 {o : Oper} {rest : List Oper} {d : Nat} {t e : TypeId} {x y : Operand} {z : Value} {bytes c : Nat} {A B : Option Addr} {xs ys : List α} (hf : Frm n L a dd) (hp : Hp w0 M H w) (h0 : 0 < sz) (hsz : ∀ x, Szd sz (f x)) (hxs : Sli M sz f A xs.length xs) (hys : Sli M sz f B c ys) (hd : o.dst = some d) (hdn : Nat.blt d n = true) (ho : o.op = .call { callee := .builtin .append, args := #[x, y], argTypes := #[t, t] }) (hb : (xs.length + ys.length) * bytes ≤ 140737488355328) (h63 : xs.length + ys.length ≤ 9223372036854775807) (hk : ∀ A cap M' w', M.le M' → Hp w0 M' H w' → Sli M' sz f A cap (xs ++ ys) → ∀ a', Frm n ((d, .slice A (xs ++ ys).length cap) :: L) a' dd → wpList P ops Q rest a' w') (hw : wantedL ops L o = some true := by kernel_rfl) (hr : readyL L o = true := by kernel_rfl) (hx : ev L x = .slice A xs.length xs.length := by kernel_rfl) (hy : ev L y = .slice B ys.length c := by kernel_rfl) (ht : P.underlying t = some (.slice e) := by kernel_rfl) (hi : infoIs P e z sz bytes = true := by kernel_rfl) : wpList P ops Q (o :: rest) a w := W_appendFS hf hp h0 hsz hxs hys hw hr hd hdn ho hx hy ht hi hb h63 hk
end
section
variable {P : Program} {w : World} {d : Nat} {xs ys : Array Value}
theorem EqS {t : TypeId} {a b : List UInt8} (ht : P.underlying t = some .string) : (Op.equalIn (d + 1) t (S a) (S b)).run P w = .ok (decide (a = b)) w := by
 have : ((⟨a.toArray⟩ : ByteArray) == ⟨b.toArray⟩) = decide (a = b) := by
  rw [beq_toListBytes, ByteArray.toList_eq, ByteArray.toList_eq]
  rw [Bool.eq_iff_iff]; simp
 simp only [Op.equalIn, Sem.run_bind, run_underlying ht, Result.andThen_ok, Sem.run_pure, this]
theorem EqB {t : TypeId} {a b : Bool} (ht : P.underlying t = some .bool) : (Op.equalIn (d + 1) t (.bool a) (.bool b)).run P w = .ok (a == b) w := by
 simp [Op.equalIn, run_underlying ht]
def FEq (P : Program) (d : Nat) (xs ys : Array Value) (w : World) : List (TypeId × Nat) → List Bool → Prop
  | [], [] => True
  | (t, o) :: s, r :: rs => (∃ a b, (part t xs o).run P w = .ok a w ∧ (part t ys o).run P w = .ok b w ∧ (Op.equalIn d t a b).run P w = .ok r w) ∧ FEq P d xs ys w s rs
  | _, _ => False
def fieldsAre : List Field → List (TypeId × Nat) → Bool
  | [], [] => true
  | f :: fs, (t, o) :: s => f.name != "_" && (Nat.beq f.type t && (Nat.beq f.offset o && fieldsAre fs s))
  | _, _ => false
def andL : List Bool → Bool
  | [] => true
  | [r] => r
  | r :: rs => r && andL rs
theorem andL_cons (r : Bool) (rs : List Bool) : andL (r :: rs) = (r && andL rs) := by cases rs <;> simp [andL]
theorem FEq.run : ∀ {fs : List Field} {s : List (TypeId × Nat)} {rs : List Bool}, fieldsAre fs s = true → FEq P d xs ys w s rs → (Op.eqFields d xs ys fs).run P w = .ok (andL rs) w
 | [], [], [], _, _ => by simp [Op.eqFields, andL]
 | f :: fs, (t, o) :: s, r :: rs, h, ⟨⟨a, b, ha, hb, hr⟩, h2⟩ => by
  simp only [fieldsAre, Bool.and_eq_true, bne_iff_ne] at h
  obtain ⟨h1, h3, h4, h5⟩ := h
  have e1 := Nat.eq_of_beq_eq_true h3
  have e2 := Nat.eq_of_beq_eq_true h4
  subst e1; subst e2
  have ih := FEq.run h5 h2
  rw [andL_cons]
  simp only [Op.eqFields, h1, ne_eq, not_false_eq_true, if_true, Sem.run_bind, ha, hb, hr, Result.andThen_ok]
  cases r
  ·simp
  ·simpa using ih
 | [], [], _ :: _, _, h => h.elim
 | [], _ :: _, _, h, _ => by simp [fieldsAre] at h
 | _ :: _, [], _, h, _ => by simp [fieldsAre] at h
 | _ :: _, _ :: _, [], _, h => h.elim
theorem X_aggEq {o : Oper} {ρ : Operand → Value} {t t' : TypeId} {x y : Operand} {xs ys : Array Value} {s : List (TypeId × Nat)} {rs : List Bool} (ho : o.op = .binOp .eql t x y t') (hx : ρ x = .agg xs) (hy : ρ y = .agg ys) (hg : P.eqGuardType P.depth t = false)
  (ht : P.underlying t = some (.struct (P.fieldsOf t))) (hp : P.stoodInHeld t = false) (hf : fieldsAre (P.fieldsOf t).toList s = true) (h : ∀ w, FEq P 9999 xs ys w s rs) (w : World) : (execOp ρ o).run P w = .ok (.value (.bool (andL rs))) w := by
 unfold execOp
 simp only [ho, hx, hy, Sem.run_bind, run_eqGuard_agg w .eql t x y xs ys hg, Result.andThen_ok, run_eql_struct, run_equalIn_struct w 9999 t xs ys ht hp, FEq.run hf (h w), Sem.run_pure]
theorem Y29 {o : Oper} {ρ : Operand → Value} {t t' : TypeId} {x y : Operand} {xs ys : Array Value} {s : List (TypeId × Nat)} {rs : List Bool} (ho : o.op = .binOp .eql t x y t') (h : ∀ w, FEq P 9999 xs ys w s rs) (w : World) (hx : ρ x = .agg xs := by kernel_rfl) (hy : ρ y = .agg ys := by kernel_rfl) (hg : P.eqGuardType P.depth t = false := by kernel_rfl) (ht : P.underlying t = some (.struct (P.fieldsOf t)) := by kernel_rfl) (hp : P.stoodInHeld t = false := by kernel_rfl) (hf : fieldsAre (P.fieldsOf t).toList s = true := by kernel_rfl) : (execOp ρ o).run P w = .ok (.value (.bool (andL rs))) w := X_aggEq ho hx hy hg ht hp hf h w
end
section
variable {κ V : Type} {P : Program} {w : World} {ek : κ → Value} {ev : V → Value}
end
section
variable {α : Type} {P : Program} {ops : Array Oper} {n : Nat} {Q : Exit → Act → World → Prop} {L : Fr} {a : Act} {w0 w : World} {M : Mem} {H : List Ent} {sz : Nat} {f : α → Dat} {dd : List Deferred}
theorem W_rowRemove3 {o : Oper} {rest : List Oper} {d : Nat} {t e : TypeId} {x y : Operand} {z v : Value} {bytes k : Nat} {A : Option Addr} {cap : Nat} {xs : List α} {cs : List Value} (hf : Frm n L a dd) (hp : Hp w0 M (.row e sz v xs.length cs :: H) w) (hs : ∀ x, Szd sz (f x))
  (hcs : RepSeq M (xs.map f) cs) (hv : v = .slice A xs.length cap) (hk : k < xs.length)
  (hw : wantedL ops L o = some true) (hr : readyL L o = true) (hd : o.dst = some d) (hdn : Nat.blt d n = true) (ho : o.op = .call { callee := .builtin .append, args := #[x, y], argTypes := #[t, t] })
  (hx : ev L x = .slice (cutA A sz 0 k) k k) (hy : ev L y = .slice (cutA A sz (k + 1) cap) (xs.length - (k + 1)) (cap - (k + 1))) (ht : P.underlying t = some (.slice e)) (hi : infoIs P e z sz bytes = true)
  (hb : xs.length * bytes ≤ 140737488355328) (h63 : xs.length ≤ 9223372036854775807)
  (hq' : ∀ A cap cs' w', Hp w0 M (.row e sz (.slice A (xs.take k ++ xs.drop (k + 1)).length cap) (xs.take k ++ xs.drop (k + 1)).length cs' :: H) w' → RepSeq M ((xs.take k ++ xs.drop (k + 1)).map f) cs' → ∀ a', Frm n ((d, .slice A (xs.take k ++ xs.drop (k + 1)).length cap) :: L) a' dd → wpList P ops Q rest a' w') : wpList P ops Q (o :: rest) a w := by
 obtain ⟨i, u, hi1, hi2, hi3, hi4, hi5, hi6⟩ := info_of hi
 have hseg : RepSeq M ((xs.drop (k + 1)).map f) (cs.drop ((k + 1) * sz)) := by rw [List.map_drop]; exact RepSeq.dropD _ (szd_all hs) hcs
 have hcl : cs.length = xs.length * sz := by
  have := RepSeq.len (szd_all hs) hcs
  rw [this, List.length_map]
 have hl : (cs.drop ((k + 1) * sz)).length = (xs.length - (k + 1)) * sz := by
  have := RepSeq.len (szd_all hs) hseg
  rw [this]; simp
 have hsrc : Src P sz t (.slice (cutA A sz (k + 1) cap) (xs.length - (k + 1)) (cap - (k + 1))) (xs.length - (k + 1)) (cs.drop ((k + 1) * sz)) w := by
  rcases hp.rowPart 0 rfl hv (show k + 1 ≤ xs.length by omega) (Nat.le_refl _) with ⟨e1, e2, e3⟩ | ⟨ad, e1, e2⟩
  ·have hn : cs.drop ((k + 1) * sz) = [] := List.eq_nil_of_length_eq_zero (by rw [hl, e2]; simp)
   rw [e1, e2, e3, hn]
   exact Src.ofNil w ht 0
  ·rw [e1]
   exact Src.ofSlice (P := P) (size := sz) w ht ad _ _ _ hl (fun j u hu => e2 j u (by rw [List.take_of_length_le (by rw [hcl]; exact Nat.le_refl _)]; exact hu)) (RepSeq.oneC _ _ hseg)
 have hp2 := hp.rowFull hv (Nat.le_of_lt hk)
 have hle : k + (xs.length - (k + 1)) ≤ xs.length := by omega
 obtain ⟨v', w', hrun, hp'⟩ := hp2.appendSrc (ty := o.type) hsrc ht hi1 hi2 hi3 hi5 hi6 (by rw [hi4]; exact Nat.le_trans (Nat.mul_le_mul_right _ hle) hb) (by omega)
 obtain ⟨A', cap', rfl, _⟩ := hp'.rowShape 0 rfl
 have e3 : k + (xs.length - (k + 1)) = (xs.take k ++ xs.drop (k + 1)).length := by simp; omega
 refine W_eq hf hw hr hd hdn (X_append ho hx hy hrun) fun a' ha => ?_
 rw [e3] at ha hp'
 refine hq' A' cap' _ w' hp' ?_ a' ha
 rw [List.map_append, List.map_take]
 exact (RepSeq.takeD k (szd_all hs) hcs).append hseg
end
end Go.Vc
end

section
namespace Go.Proofs.YtocefedhenhbfaaGreatDoor
open Go Go.Vc Go.RowKit
def store_Phys (n : Nat) (d0 : Int) : Option (List UInt8 × Int) :=
  ((bif (decide (d0 < 1)) then
      (some ((true)))
    else
      some ((decide ((1099511627776 : Int) < d0))) : Option Bool)).bind fun G1 =>
  bif G1 then
    (some ((([] : List UInt8), (2 : Int))))
  else
    (h_numText n d0).bind fun X1 =>
    need ([112].length + X1.1.length ≤ 9223372036854775807) <|
    some (([112] ++ X1.1, X1.2))
theorem store_Phys_ok (n : Nat) (M : Mem) (hG : GL M) (d0 : Int) (r : List UInt8 × Int) (hF : store_Phys n d0 = some r) : Ok Tryz.prog M 88 [.int .i64 d0] (fun _ v => v = .tuple #[S r.1, .int .i64 r.2]) := by
 unfold store_Phys at hF
 intro M1 hM0 w0 H w p0
 replace hG := GL.mono hM0 hG
 refine R_enter 20 Tryz.func88 rfl rfl (by simp) fun a0 f0 => RR (Y f0 2 fun _ f => eT (R_seq (R_seq ?_)))
 obtain ⟨j_1, hj_1, F1⟩ := bS hF
 refine R_mid (fun a_5 W1 => ∃ G1 : Bool, j_1 = G1 ∧ ∃ V1 : Mem, M1.le V1 ∧ Frm 20 [(0, .int .i64 d0), (11, .bool G1)] a_5 ∧ Hp w0 V1 (H) W1) ?_ ?_
 ·refine R_reg (Y f 3 fun _ f => ?_)
  rcases cE hj_1 with ⟨B1, F2⟩ | ⟨B1, F3⟩
  ·have U1 := dI.1 B1
   have f := f.st 8 (cB B1)
   refine Y f 3 fun _ f => eT ?_
   exact ⟨(true), (sI F2).symm, M1, (mR _), f.kp, p0⟩
  ·have U2 := iff_f dI B1
   have f := f.st 8 (cB B1)
   refine Y f 3 fun _ f => eT ?_
   exact ⟨(decide ((1099511627776 : Int) < d0)), (sI F3).symm, M1, (mR _), f.kp, p0⟩
 ·rintro a_5 W1 ⟨G1, hq_1, V1, J1, f, N1⟩
  subst j_1
  refine T_n (RcF f F1 (fun B2 F4 => ?_) fun B2 F5 => ?_)
  ·refine RR (Y f 2 fun _ f => eT (wp_ret (T_r (E_ret2 f rfl (by kernel_rfl : Vc.look _ 2 = some (S [])) (by kernel_rfl : Vc.look _ 3 = some (.int .i64 2)) ?_))))
   obtain rfl := sI F4
   exact ⟨_, rfl, V1, J1, N1, rfl⟩
  ·refine wp_skip (T_n (RR (Y f 1 fun _ f => ?_)))
   obtain ⟨X1, S1, F6⟩ := bS F5
   refine Y18 f N1 (h_numText_ok n _ d0 X1 S1) fun W2 N2 _ f => Y f 5 fun _ f => eT (RR (Y f 1 fun _ f => ?_))
   obtain ⟨O1, F7⟩ := nS F6
   refine Z f (Y30 rfl (l := [112]) (m := X1.1) O1) fun _ f => Y f 3 fun _ f => eT (wp_ret (E_ret2 f rfl (by kernel_rfl : Vc.look _ 2 = some (S ([112] ++ X1.1))) (by kernel_rfl : Vc.look _ 3 = some (.int .i64 X1.2)) ?_))
   obtain rfl := sI F7
   exact ⟨_, rfl, V1, J1, N2, rfl⟩
def store_Number (n : Nat) (d0 : List UInt8) : Option (Int × Bool) :=
  ((bif (decide (d0 = [])) then
      (some ((true)))
    else
      (getI d0 (0 : Int)).bind fun c_1 =>
      some ((!(decide (((c_1).toNat : Int) = 112)))) : Option Bool)).bind fun G1 =>
  bif G1 then
    (some (((0 : Int), (false))))
  else
    need (0 ≤ (1 : Int) ∧ (1 : Int) ≤ d0.length) <|
    (h_numRead n (d0.drop (1 : Int).toNat)).bind fun X1 =>
    bif (!(decide (X1.2 = 0))) then
      (some (((0 : Int), (false))))
    else
      bif (decide (X1.1 < 1)) then
        (some (((0 : Int), (false))))
      else
        bif (decide ((1099511627776 : Int) < X1.1)) then
          (some (((0 : Int), (false))))
        else
          some ((X1.1, (true)))
set_option maxRecDepth 20000 in
theorem store_Number_ok (n : Nat) (M : Mem) (hG : GL M) (d0 : List UInt8) (r : Int × Bool) (hF : store_Number n d0 = some r) : Ok Tryz.prog M 107 [S d0] (fun _ v => v = .tuple #[.int .i64 r.1, .bool r.2]) := by
 unfold store_Number at hF
 intro M1 hM0 w0 H w p0
 replace hG := GL.mono hM0 hG
 refine R_enter 30 Tryz.func107 rfl rfl (by simp) fun a0 f0 => RR (Y f0 2 fun _ f => eT (R_seq (R_seq ?_)))
 obtain ⟨j_1, hj_1, F1⟩ := bS hF
 refine R_mid (fun a_9 W1 => ∃ G1 : Bool, j_1 = G1 ∧ ∃ V1 : Mem, M1.le V1 ∧ Frm 30 [(0, S d0), (12, .bool G1)] a_9 ∧ Hp w0 V1 (H) W1) ?_ ?_
 ·refine R_reg (Y f 1 fun _ f => Z f (Y40 rfl (l := d0) (m := [])) fun _ f => Y f 1 fun _ f => ?_)
  rcases cE hj_1 with ⟨B1, F2⟩ | ⟨B1, F3⟩
  ·have U1 := dI.1 B1
   have f := f.st 8 (cB B1)
   refine Y f 4 fun _ f => eT ?_
   exact ⟨(true), (sI F2).symm, M1, (mR _), f.kp, p0⟩
  ·have U2 := iff_f dI B1
   have f := f.st 8 (cB B1)
   refine Y f 1 fun _ f => ?_
   obtain ⟨c_1, S1, F4⟩ := bS F3
   refine Z f (Y39 rfl (l := d0) (k := .i64) (i := (0 : Int)) (getI_nn S1) (getI_lt S1)) fun _ f => ?_
   have f := Frm.set f 10 (v := .int .u8 ((d0.getD (0 : Int).toNat 0).toNat : Int)) (v' := .int .u8 ((c_1).toNat : Int)) (by kernel_rfl) (congrArg (fun c : UInt8 => Value.int .u8 ((c.toNat : Nat) : Int)) (getI_getD S1))
   refine Y f 2 fun _ f => eT ?_
   exact ⟨(!(decide (((c_1).toNat : Int) = 112))), (sI F4).symm, M1, (mR _), f.kp, p0⟩
 ·rintro a_9 W1 ⟨G1, hq_1, V1, J1, f, N1⟩
  subst j_1
  refine T_n (RcF f F1 (fun B2 F5 => ?_) fun B2 F6 => ?_)
  ·refine RR (Y f 2 fun _ f => eT (wp_ret (T_r (E_ret2 f rfl (by kernel_rfl : Vc.look _ 2 = some (.int .i64 0)) (by kernel_rfl : Vc.look _ 3 = some (.bool false)) ?_))))
   obtain rfl := sI F5
   exact ⟨_, rfl, V1, J1, N1, rfl⟩
  ·refine wp_skip (T_n (RR (Y f 1 fun _ f => ?_)))
   obtain ⟨O1, F7⟩ := nS F6
   refine Z (v := S (d0.drop (1 : Int).toNat)) f (X_strFrom rfl (l := d0) (k := .i64) (a := (1 : Int)) (by kernel_rfl) (by kernel_rfl) (by kernel_rfl) O1.1 O1.2) fun _ f => ?_
   obtain ⟨X1, S2, F8⟩ := bS F7
   refine Y18 f N1 (h_numRead_ok n _ (d0.drop (1 : Int).toNat) X1 S2) fun W2 N2 _ f => Y f 5 fun _ f => eT (R_seq (RR (Y f 3 fun _ f => ?_)))
   rcases cE F8 with ⟨B3, F9⟩ | ⟨B3, F10⟩
   ·have U5 : ¬ (X1.2 = 0) := (not_iff dI).1 B3
    have f := f.st 21 (cB B3)
    refine Y f 7 fun _ f => eT (Y8 f (RR (Y f 2 fun _ f => eT (wp_ret (T_r (E_ret2 f rfl (by kernel_rfl : Vc.look _ 2 = some (.int .i64 0)) (by kernel_rfl : Vc.look _ 3 = some (.bool false)) ?_))))))
    obtain rfl := sI F9
    exact ⟨_, rfl, V1, J1, N2, rfl⟩
   ·have U6 : ¬ (¬ (X1.2 = 0)) := iff_f (not_iff dI) B3
    have f := f.st 21 (cB B3)
    refine Y f 4 fun _ f => ?_
    rcases cE F10 with ⟨B4, F11⟩ | ⟨B4, F12⟩
    ·have U7 := dI.1 B4
     have f := f.st 25 (cB B4)
     refine Y f 3 fun _ f => eT (Y8 f (RR (Y f 2 fun _ f => eT (wp_ret (T_r (E_ret2 f rfl (by kernel_rfl : Vc.look _ 2 = some (.int .i64 0)) (by kernel_rfl : Vc.look _ 3 = some (.bool false)) ?_))))))
     obtain rfl := sI F11
     exact ⟨_, rfl, V1, J1, N2, rfl⟩
    ·have U8 := iff_f dI B4
     have f := f.st 25 (cB B4)
     refine Y f 3 fun _ f => eT (RcF f F12 (fun B5 F13 => ?_) fun B5 F14 => ?_)
     ·have U9 := dI.1 B5
      refine RR (Y f 2 fun _ f => eT (wp_ret (T_r (E_ret2 f rfl (by kernel_rfl : Vc.look _ 2 = some (.int .i64 0)) (by kernel_rfl : Vc.look _ 3 = some (.bool false)) ?_))))
      obtain rfl := sI F13
      exact ⟨_, rfl, V1, J1, N2, rfl⟩
     ·have U10 := iff_f dI B5
      refine wp_skip (T_n (RR (Y f 3 fun _ f => eT (wp_ret (E_ret2 f rfl (by kernel_rfl : Vc.look _ 2 = some (.int .i64 X1.1)) (by kernel_rfl : Vc.look _ 3 = some (.bool true)) ?_)))))
      obtain rfl := sI F14
      exact ⟨_, rfl, V1, J1, N2, rfl⟩
def store_known_1 (n : Nat) (d0 : TC0) : Option Bool :=
  some ((d0.fUnknown))
theorem store_known_1_ok (n : Nat) (M : Mem) (hG : GL M) (c0 : List Value) (d0 : TC0) (h0 : Rep M (emb_TC0 d0) c0) (r : Bool) (hF : store_known_1 n d0 = some r) : Ok Tryz.prog M 109 [.agg c0.toArray] (fun _ v => v = .bool r) := by
 unfold store_known_1 at hF
 intro M1 hM0 w0 H w p0
 replace hG := GL.mono hM0 hG
 replace h0 := Rep.mono hM0 _ _ h0
 obtain ⟨Z1, P1, Z2, P2, rfl, B1, B2⟩ := TC0.opn h0
 refine R_enter 5 Tryz.func109 rfl rfl (by simp) fun a0 f0 => RR (Y13 (cs := #[S d0.fName, .bool d0.fUnknown, .int .i8 d0.fV.fKind, .bool d0.fV.fBool, .int .i64 d0.fV.fNum, S d0.fV.fText, .slice Z1 d0.fV.fList.length P1, .slice Z2 d0.fV.fKeys.length P2]) (T := 77) f0 p0 fun Q1 V1 W1 J1 R1 N1 _ f => ?_)
 have R2 := fz_box R1
 refine Y f 1 fun _ f => eT (RR (Y f 1 fun _ f => Y15 f N1 R2 1 rfl fun _ f => Y f 1 fun _ f => eT (wp_ret (E_ret1 f rfl (by kernel_rfl : Vc.look _ 2 = some (.bool d0.fUnknown)) ?_))))
 obtain rfl := sI hF
 exact ⟨_, rfl, V1, J1, N1, rfl⟩
def store_find_s1 (n : Nat) (d0 : List TC0) (K1 : Int) : Option (Lp Int (Sum Int Unit)) :=
    bif (decide (K1 < ((d0.length : Nat) : Int))) then
      ((getI d0 K1).bind fun X1 =>
      (store_known_1 n X1).bind fun X2 =>
      bif X2 then
        (some (.br (.inl K1)))
      else
        need (inR .i64 (K1 + 1)) <|
        some (.nx (K1 + 1)))
    else
      some (.br (.inr ()))
def store_find (n : Nat) (d0 : List TC0) : Option Int :=
  (loopF (store_find_s1 n d0) n (0 : Int)).bind fun Q1 =>
  (match Q1 with 
  | .inl G1 => some (G1) 
  | .inr G2 => some ((-1 : Int)))
theorem store_find_ok (n : Nat) (M : Mem) (hG : GL M) (A0 : Option Addr) (cap0 : Nat) (d0 : List TC0) (h0 : Sli M 8 emb_TC0 A0 cap0 d0) (r : Int) (hF : store_find n d0 = some r) : Ok Tryz.prog M 108 [.slice A0 d0.length cap0, .func (.func 109) #[] #[]] (fun _ v => v = .int .i64 r) := by
 unfold store_find at hF
 intro M1 hM0 w0 H w p0
 replace hG := GL.mono hM0 hG
 replace h0 := h0.mono hM0
 refine R_enter 19 Tryz.func108 rfl rfl (by simp) fun a0 f0 => RR (Y f0 1 fun _ f => eT (R_seq (RR (Y f 3 fun _ f => eT (wp_block ?_)))))
 obtain ⟨Q1, hL_1, F1⟩ := bS hF
 refine wp_mono (Q := fun e a w => (e = .ret ∧ (∃ G1 : Int, Q1 = .inl G1 ∧ ∃ V2 : Mem, M1.le V2 ∧ Frm 19 [(4, .int .i64 G1)] a ∧ Hp w0 V2 (H) w)) ∨ (e = .exit 0 ∧ (∃ G2 : Unit, Q1 = .inr G2 ∧ ∃ V3 : Mem, M1.le V3 ∧ Frm 19 [] a ∧ Hp w0 V3 (H) w))) (R_loop (n := 19) (w0 := w0) (M := M1) (fun (x : Nat × Int) => match x with | (I1, K1) => [(1, .func (.func 109) #[] #[]), (7, .slice A0 d0.length cap0), (8, .int .i64 ((d0.length : Nat) : Int)), (9, .int .i64 K1)]) (fun (x : Nat × Int) => match x with | (I1, K1) => (H)) (fun (x : Nat × Int) (MM : Mem) => match x with | (I1, K1) => loopF (store_find_s1 n d0) I1 K1 = some Q1) (fun (x : Nat × Int) => match x with | (I1, K1) => I1) (n, (0 : Int)) (f.kp) p0 hL_1 ?_) ?_
 ·rintro ⟨I1, K1⟩ V1 _ W1 J1 I_1 f N1
  have I_1L := I_1
  obtain ⟨I2, r_1, rfl, hs_1, T1⟩ := loop_step I_1L
  unfold store_find_s1 at hs_1
  refine RR (Y f 1 fun _ f => eT (R_seq (RcF f hs_1 (fun B1 F2 => ?_) fun B1 F8 => ?_)))
  ·have U1 := dI.1 B1
   refine wp_skip (T_n (R_seq (wp_block (RR (Y f 1 fun _ f => ?_)))))
   obtain ⟨X1, S1, F3⟩ := bS F2
   obtain ⟨C1, c_1, e_1, -, D1, R1⟩ := Sli.at_ (h0.mono J1) S1
   obtain ⟨Z1, P1, Z2, P2, rfl, B2, B3⟩ := TC0.opn D1
   refine Z f (Y32 e_1 rfl (len := d0.length) (cap := cap0) (k := .i64) (i := K1) (e := 77) (sz := 8) (getI_nn S1) (getI_lt S1)) fun _ f => Z (v := .agg #[S X1.fName, .bool X1.fUnknown, .int .i8 X1.fV.fKind, .bool X1.fV.fBool, .int .i64 X1.fV.fNum, S X1.fV.fText, .slice Z1 X1.fV.fList.length P1, .slice Z2 X1.fV.fKeys.length P2]) f (Y34 (cs := [S X1.fName, .bool X1.fUnknown, .int .i8 X1.fV.fKind, .bool X1.fV.fBool, .int .i64 X1.fV.fNum, S X1.fV.fText, .slice Z1 X1.fV.fList.length P1, .slice Z2 X1.fV.fKeys.length P2]) rfl (ad := C1.add (K1.toNat * 8)) (fun j v h => N1.cell (R1 j v h))) fun _ f => Y12 f N1 (.cells #[S [], .bool false, .int .i8 0, .bool false, .int .i64 0, S [], .slice none 0 0, .slice none 0 0] 77 (0, 0)) fun Q2 W2 N2 _ f => Y f 1 fun _ f => Y28 (vs := [S X1.fName, .bool X1.fUnknown, .int .i8 X1.fV.fKind, .bool X1.fV.fBool, .int .i64 X1.fV.fNum, S X1.fV.fText, .slice Z1 X1.fV.fList.length P1, .slice Z2 X1.fV.fKeys.length P2]) (j := 0) f N2 rfl rfl (by simp [Value.oneCell', S]) (by simp) (by decide) (cs' := #[S X1.fName, .bool X1.fUnknown, .int .i8 X1.fV.fKind, .bool X1.fV.fBool, .int .i64 X1.fV.fNum, S X1.fV.fText, .slice Z1 X1.fV.fList.length P1, .slice Z2 X1.fV.fKeys.length P2]) (by kernel_rfl) fun W3 N3 _ f => eT (RR (Y f 1 fun _ f => Z (v := .agg #[S X1.fName, .bool X1.fUnknown, .int .i8 X1.fV.fKind, .bool X1.fV.fBool, .int .i64 X1.fV.fNum, S X1.fV.fText, .slice Z1 X1.fV.fList.length P1, .slice Z2 X1.fV.fKeys.length P2]) f (Y34 (cs := [S X1.fName, .bool X1.fUnknown, .int .i8 X1.fV.fKind, .bool X1.fV.fBool, .int .i64 X1.fV.fNum, S X1.fV.fText, .slice Z1 X1.fV.fList.length P1, .slice Z2 X1.fV.fKeys.length P2]) rfl (ad := ⟨Q2, 0, none⟩) (own_cells (N3.ownCell 0 rfl) 0 rfl)) fun _ f => ?_))
   obtain ⟨X2, S2, F4⟩ := bS F3
   refine Y18 f N3 (store_known_1_ok n _ (GL.mono J1 hG) _ X1 (TC0.shutx (x := X1) B2 B3) X2 S2) fun W4 N4 _ f => eT (RcF f F4 (fun B4 F5 => ?_) fun B4 F6 => ?_)
   ·refine RR (Y f 2 fun _ f => eT (wp_ret (B_r (T_r (T_r ?_)))))
    obtain rfl := sI F5
    exact .inl ⟨rfl, K1, (sI T1).symm, V1, J1, f.kp, (N4.dropN 1)⟩
   ·refine wp_skip (B_n (T_n (R_reg ?_)))
    obtain ⟨O1, F7⟩ := nS F6
    refine Y f 1 fun _ f => ?_
    have f := f.st 18 (iW O1)
    refine Y f 1 fun _ f => eT ?_
    obtain rfl := sI F7
    exact ⟨⟨I2, K1 + 1⟩, Nat.lt_succ_self _, V1, J1, T1, f.kp, (N4.dropN 1)⟩
  ·have U4 := iff_f dI B1
   refine wp_exit (T_x (T_x ?_))
   obtain rfl := sI F8
   exact .inr ⟨rfl, (), (sI T1).symm, V1, J1, f.kp, N1⟩
 ·rintro _ _ W7 (⟨rfl, G1, rfl, V2, J2, f, N5⟩ | ⟨rfl, G2, rfl, V3, J3, f, N6⟩)
  ·refine B_r (T_r (E_ret1 f rfl (by kernel_rfl : Vc.look _ 4 = some (.int .i64 G1)) ?_))
   obtain rfl := sI F1
   exact ⟨_, rfl, V2, J2, N5, rfl⟩
  ·refine B_x (T_n (RR (Y f 1 fun _ f => eT (wp_ret (E_ret1 f rfl (by kernel_rfl : Vc.look _ 4 = some (.int .i64 (-1))) ?_)))))
   obtain rfl := sI F1
   exact ⟨_, rfl, V3, J3, N6, rfl⟩
def store_known (n : Nat) (d0 : List TC0) : Option Bool :=
  (store_find n d0).bind fun X1 =>
  some ((decide (X1 < 0)))
theorem store_known_ok (n : Nat) (M : Mem) (hG : GL M) (A0 : Option Addr) (cap0 : Nat) (d0 : List TC0) (h0 : Sli M 8 emb_TC0 A0 cap0 d0) (r : Bool) (hF : store_known n d0 = some r) : Ok Tryz.prog M 87 [.slice A0 d0.length cap0] (fun _ v => v = .bool r) := by
 unfold store_known at hF
 intro M1 hM0 w0 H w p0
 replace hG := GL.mono hM0 hG
 replace h0 := h0.mono hM0
 refine R_enter 6 Tryz.func87 rfl rfl (by simp) fun a0 f0 => RR (Y f0 1 fun _ f => eT (RR (Y f 1 fun _ f => ?_)))
 obtain ⟨X1, S1, F1⟩ := bS hF
 refine Y18 f p0 (store_find_ok n _ hG A0 cap0 d0 h0 X1 S1) fun W1 N1 _ f => Y f 2 fun _ f => eT (wp_ret (E_ret1 f rfl (by kernel_rfl : Vc.look _ 2 = some (.bool (decide (X1 < 0)))) ?_))
 obtain rfl := sI F1
 exact ⟨_, rfl, M1, (mR _), N1, rfl⟩
def store_Check_s1 (n : Nat) (d0 : TA0) (K1 : Int × Int) : Option (Lp (Int × Int) (Sum Unit Int)) :=
    bif (decide (K1.2 < ((d0.fL.length : Nat) : Int))) then
      ((getI d0.fL K1.2).bind fun X1 =>
      (store_Number n X1.fPhys).bind fun X2 =>
      bif !X2.2 then
        (some (.br (.inl ())))
      else
        bif (decide (X2.1 ≤ K1.1)) then
          (some (.br (.inl ())))
        else
          (schema_Check n X1.fType X1.fProps).bind fun X3 =>
          bif (!(decide (X3 = 0))) then
            (some (.br (.inl ())))
          else
            (store_known n X1.fProps).bind fun X4 =>
            bif !X4 then
              (some (.br (.inl ())))
            else
              need (inR .i64 (K1.2 + 1)) <|
              some (.nx (X2.1, K1.2 + 1)))
    else
      some (.br (.inr K1.1))
def store_Check (n : Nat) (d0 : TA0) : Option Int :=
  (loopF (store_Check_s1 n d0) n ((0 : Int), (0 : Int))).bind fun Q2 =>
  (match Q2 with 
  | .inl G1 => some ((2 : Int)) 
  | .inr G2 => bif (decide (d0.fMade < G2)) then
      (some ((2 : Int)))
    else
      bif (decide ((1099511627776 : Int) < d0.fMade)) then
        (some ((2 : Int)))
      else
        some ((0 : Int)))
set_option maxRecDepth 20000 in
theorem store_Check_ok (n : Nat) (M : Mem) (hG : GL M) (c0 : List Value) (d0 : TA0) (h0 : Rep M (emb_TA0 d0) c0) (r : Int) (hF : store_Check n d0 = some r) : Ok Tryz.prog M 86 [.agg c0.toArray] (fun _ v => v = .int .i64 r) := by
 unfold store_Check at hF
 intro M1 hM0 w0 H w p0
 replace hG := GL.mono hM0 hG
 replace h0 := Rep.mono hM0 _ _ h0
 obtain ⟨Z1, P1, rfl, B1⟩ := TA0.opn h0
 refine R_enter 53 Tryz.func86 rfl rfl (by simp) fun a0 f0 => RR (Y13 (cs := #[.slice Z1 d0.fL.length P1, .int .i64 d0.fMade]) (T := 80) f0 p0 fun Q1 V1 W1 J1 R1 N1 _ f => ?_)
 have R2 := fz_box R1
 refine Y f 1 fun _ f => eT (RR (Y f 1 fun _ f => eT (R_seq (RR (Y f 1 fun _ f => Y15 f N1 R2 0 rfl fun _ f => Y f 2 fun _ f => eT (wp_block ?_))))))
 obtain ⟨Q2, hL_1, F1⟩ := bS hF
 refine wp_mono (Q := fun e a w => (e = .ret ∧ (∃ G1 : Unit, Q2 = .inl G1 ∧ ∃ V3 : Mem, V1.le V3 ∧ Frm 53 [(2, .int .i64 2)] a ∧ Hp w0 V3 (H) w)) ∨ (e = .exit 0 ∧ (∃ G2 : Int, Q2 = .inr G2 ∧ ∃ V4 : Mem, V1.le V4 ∧ Frm 53 [(1, .pointer (some (⟨Q1, 0, none⟩))), (3, .int .i64 G2)] a ∧ Hp w0 V4 (H) w))) (R_loop (n := 53) (w0 := w0) (M := V1) (fun (x : Nat × (Int × Int)) => match x with | (I1, K1) => [(1, .pointer (some (⟨Q1, 0, none⟩))), (3, .int .i64 K1.1), (9, .slice Z1 d0.fL.length P1), (10, .int .i64 ((d0.fL.length : Nat) : Int)), (11, .int .i64 K1.2)]) (fun (x : Nat × (Int × Int)) => match x with | (I1, K1) => (H)) (fun (x : Nat × (Int × Int)) (MM : Mem) => match x with | (I1, K1) => loopF (store_Check_s1 n d0) I1 K1 = some Q2) (fun (x : Nat × (Int × Int)) => match x with | (I1, K1) => I1) (n, ((0 : Int), (0 : Int))) (f.kp) N1 hL_1 ?_) ?_
 ·rintro ⟨I1, K1⟩ V2 _ W2 J2 I_1 f N2
  have I_1L := I_1
  obtain ⟨I2, r_1, rfl, hs_1, T1⟩ := loop_step I_1L
  unfold store_Check_s1 at hs_1
  refine RR (Y f 1 fun _ f => eT (R_seq (RcF f hs_1 (fun B2 F2 => ?_) fun B2 F16 => ?_)))
  ·have U1 := dI.1 B2
   refine wp_skip (T_n (R_seq (wp_block (RR ?_))))
   obtain ⟨X1, S1, F3⟩ := bS F2
   obtain ⟨C1, c_1, e_1, -, D1, R3⟩ := Sli.at_ (B1.mono (J1.trans J2)) S1
   obtain ⟨Z2, P2, rfl, B3⟩ := TD0.opn D1
   refine Z f (Y32 e_1 rfl (len := d0.fL.length) (cap := P1) (k := .i64) (i := K1.2) (e := 54) (sz := 3) (getI_nn S1) (getI_lt S1)) fun _ f => Z (v := .agg #[S X1.fPhys, S X1.fType, .slice Z2 X1.fProps.length P2]) f (Y34 (cs := [S X1.fPhys, S X1.fType, .slice Z2 X1.fProps.length P2]) rfl (ad := C1.add (K1.2.toNat * 3)) (fun j v h => N2.cell (R3 j v h))) fun _ f => Y12 f N2 (.cells #[S [], S [], .slice none 0 0] 54 (0, 0)) fun Q3 W3 N3 _ f => Y28 (vs := [S X1.fPhys, S X1.fType, .slice Z2 X1.fProps.length P2]) (j := 0) f N3 rfl rfl (by simp [Value.oneCell', S]) (by simp) (by decide) (cs' := #[S X1.fPhys, S X1.fType, .slice Z2 X1.fProps.length P2]) (by kernel_rfl) fun W4 N4 _ f => eT (RR (Y f 1 fun _ f => Z f (Y33 (v := S X1.fPhys) rfl (ad := ⟨Q3, 0, none⟩) (N4.ownCell 0 rfl 0)) fun _ f => ?_))
   obtain ⟨X2, S2, F4⟩ := bS F3
   refine Y18 f N4 (store_Number_ok n _ (GL.mono (J1.trans J2) hG) X1.fPhys X2 S2) fun W5 N5 _ f => Y f 5 fun _ f => eT (R_seq (RR (Y f 3 fun _ f => ?_)))
   rcases cE F4 with ⟨B4, F5⟩ | ⟨B4, F6⟩
   ·have U2 : (X2.2) = false := by simpa using B4
    have f := f.st 23 (cB B4)
    refine Y f 18 fun _ f => eT (Y8 f (RR (Y f 1 fun _ f => eT (wp_ret (T_r (B_r (T_r (T_r ?_))))))))
    obtain rfl := sI F5
    exact .inl ⟨rfl, (), (sI T1).symm, V2, J2, f.kp, (N5.dropN 1)⟩
   ·have U3 : (X2.2) = true := by simpa using B4
    have f := f.st 23 (cB B4)
    refine Y f 5 fun _ f => ?_
    rcases cE F6 with ⟨B5, F7⟩ | ⟨B5, F8⟩
    ·have U4 := dI.1 B5
     have f := f.st 28 (cB B5)
     refine Y f 13 fun _ f => eT (Y8 f (RR (Y f 1 fun _ f => eT (wp_ret (T_r (B_r (T_r (T_r ?_))))))))
     obtain rfl := sI F7
     exact .inl ⟨rfl, (), (sI T1).symm, V2, J2, f.kp, (N5.dropN 1)⟩
    ·have U5 := iff_f dI B5
     have f := f.st 28 (cB B5)
     refine Y f 1 fun _ f => Z f (Y33 (v := S X1.fType) rfl (ad := ⟨Q3, 1, none⟩) (N5.ownCell 0 rfl 1)) fun _ f => Y f 1 fun _ f => Z f (Y33 (v := .slice Z2 X1.fProps.length P2) rfl (ad := ⟨Q3, 2, none⟩) (N5.ownCell 0 rfl 2)) fun _ f => ?_
     obtain ⟨X3, S3, F9⟩ := bS F8
     refine Y18 f N5 (schema_Check_ok n _ (GL.mono (J1.trans J2) hG) X1.fType Z2 P2 X1.fProps B3 X3 S3) fun W6 N6 _ f => Y f 3 fun _ f => ?_
     rcases cE F9 with ⟨B6, F10⟩ | ⟨B6, F11⟩
     ·have U6 : ¬ (X3 = 0) := (not_iff dI).1 B6
      have f := f.st 36 (cB B6)
      refine Y f 5 fun _ f => eT (Y8 f (RR (Y f 1 fun _ f => eT (wp_ret (T_r (B_r (T_r (T_r ?_))))))))
      obtain rfl := sI F10
      exact .inl ⟨rfl, (), (sI T1).symm, V2, J2, f.kp, (N6.dropN 1)⟩
     ·have U7 : ¬ (¬ (X3 = 0)) := iff_f (not_iff dI) B6
      have f := f.st 36 (cB B6)
      refine Y f 1 fun _ f => Z f (Y33 (v := .slice Z2 X1.fProps.length P2) rfl (ad := ⟨Q3, 2, none⟩) (N6.ownCell 0 rfl 2)) fun _ f => ?_
      obtain ⟨X4, S4, F12⟩ := bS F11
      refine Y18 f N6 (store_known_ok n _ (GL.mono (J1.trans J2) hG) Z2 P2 X1.fProps B3 X4 S4) fun W7 N7 _ f => Y f 2 fun _ f => eT (RcF f F12 (fun B7 F13 => ?_) fun B7 F14 => ?_)
      ·have U8 : (X4) = false := by simpa using B7
       refine RR (Y f 1 fun _ f => eT (wp_ret (T_r (B_r (T_r (T_r ?_))))))
       obtain rfl := sI F13
       exact .inl ⟨rfl, (), (sI T1).symm, V2, J2, f.kp, (N7.dropN 1)⟩
      ·have U9 : (X4) = true := by simpa using B7
       refine wp_skip (T_n (R_reg (Y f 2 fun _ f => W_end rfl (B_n (T_n (R_reg ?_))))))
       obtain ⟨O1, F15⟩ := nS F14
       refine Y f 1 fun _ f => ?_
       have f := f.st 43 (iW O1)
       refine Y f 1 fun _ f => eT ?_
       obtain rfl := sI F15
       exact ⟨⟨I2, (X2.1, K1.2 + 1)⟩, Nat.lt_succ_self _, V2, J2, T1, f.kp, (N7.dropN 1)⟩
  ·have U10 := iff_f dI B2
   refine wp_exit (T_x (T_x ?_))
   obtain rfl := sI F16
   exact .inr ⟨rfl, K1.1, (sI T1).symm, V2, J2, f.kp, N2⟩
 ·rintro _ _ W10 (⟨rfl, G1, rfl, V3, J3, f, N8⟩ | ⟨rfl, G2, rfl, V4, J4, f, N9⟩)
  ·refine B_r (T_r (E_ret1 f rfl (by kernel_rfl : Vc.look _ 2 = some (.int .i64 2)) ?_))
   obtain rfl := sI F1
   exact ⟨_, rfl, V3, (J1.trans J3), N8, rfl⟩
  ·refine B_x (T_n (R_seq (RR (Y f 1 fun _ f => Y15 f N9 (fzu J4 R2) 1 rfl fun _ f => Y f 3 fun _ f => ?_))))
   rcases cE F1 with ⟨B8, F17⟩ | ⟨B8, F18⟩
   ·have U11 := dI.1 B8
    have f := f.st 48 (cB B8)
    refine Y f 4 fun _ f => eT (Y8 f (RR (Y f 1 fun _ f => eT (wp_ret (T_r (E_ret1 f rfl (by kernel_rfl : Vc.look _ 2 = some (.int .i64 2)) ?_))))))
    obtain rfl := sI F17
    exact ⟨_, rfl, V4, (J1.trans J4), N9, rfl⟩
   ·have U12 := iff_f dI B8
    have f := f.st 48 (cB B8)
    refine Y f 1 fun _ f => Y15 f N9 (fzu J4 R2) 1 rfl fun _ f => Y f 2 fun _ f => eT (RcF f F18 (fun B9 F19 => ?_) fun B9 F20 => ?_)
    ·have U13 := dI.1 B9
     refine RR (Y f 1 fun _ f => eT (wp_ret (T_r (E_ret1 f rfl (by kernel_rfl : Vc.look _ 2 = some (.int .i64 2)) ?_))))
     obtain rfl := sI F19
     exact ⟨_, rfl, V4, (J1.trans J4), N9, rfl⟩
    ·have U14 := iff_f dI B9
     refine wp_skip (T_n (RR (Y f 1 fun _ f => eT (wp_ret (E_ret1 f rfl (by kernel_rfl : Vc.look _ 2 = some (.int .i64 0)) ?_)))))
     obtain rfl := sI F20
     exact ⟨_, rfl, V4, (J1.trans J4), N9, rfl⟩
def store_at_1 (n : Nat) (d0 : TD0) (d1 : List UInt8) : Option Bool :=
  some ((decide (d0.fPhys = d1)))
theorem store_at_1_ok (n : Nat) (M : Mem) (hG : GL M) (c0 : List Value) (d0 : TD0) (h0 : Rep M (emb_TD0 d0) c0) (ad1 : Addr) (c1 : List Value) (d1 : List UInt8) (h1 : Rep M (Dat.str d1) c1) (q1 : ∀ j v, c1[j]? = some v → M.cell? (ad1.add j) = some v) (r : Bool) (hF : store_at_1 n d0 d1 = some r) : Ok Tryz.prog M 111 [.agg c0.toArray, .pointer (some ad1)] (fun _ v => v = .bool r) := by
 unfold store_at_1 at hF
 intro M1 hM0 w0 H w p0
 replace hG := GL.mono hM0 hG
 replace h0 := Rep.mono hM0 _ _ h0
 replace h1 := Rep.mono hM0 _ _ h1
 replace q1 := fun j v h => hM0.cell (q1 j v h)
 obtain ⟨Z1, P1, rfl, B1⟩ := TD0.opn h0
 obtain rfl : c1 = [S d1] := h1
 refine R_enter 8 Tryz.func111 rfl rfl (by simp) fun a0 f0 => RR (Y13 (cs := #[S d0.fPhys, S d0.fType, .slice Z1 d0.fProps.length P1]) (T := 54) f0 p0 fun Q1 V1 W1 J1 R1 N1 _ f => ?_)
 have R2 := fz_box R1
 refine Y f 1 fun _ f => eT (RR (Y f 1 fun _ f => Y15 f N1 R2 0 rfl fun _ f => Y15 f N1 (fzu J1 q1) 0 rfl fun _ f => Z f (Y40 rfl (l := d0.fPhys) (m := d1)) fun _ f => Y f 1 fun _ f => eT (wp_ret (E_ret1 f rfl (by kernel_rfl : Vc.look _ 3 = some (.bool (decide (d0.fPhys = d1)))) ?_))))
 obtain rfl := sI hF
 exact ⟨_, rfl, V1, J1, N1, rfl⟩
def store_find_2_s1 (n : Nat) (d0 : List TD0) (d1_0 : List UInt8) (K1 : Int) : Option (Lp Int (Sum Int Unit)) :=
    bif (decide (K1 < ((d0.length : Nat) : Int))) then
      ((getI d0 K1).bind fun X1 =>
      (store_at_1 n X1 d1_0).bind fun X2 =>
      bif X2 then
        (some (.br (.inl K1)))
      else
        need (inR .i64 (K1 + 1)) <|
        some (.nx (K1 + 1)))
    else
      some (.br (.inr ()))
def store_find_2 (n : Nat) (d0 : List TD0) (d1_0 : List UInt8) : Option Int :=
  (loopF (store_find_2_s1 n d0 d1_0) n (0 : Int)).bind fun Q1 =>
  (match Q1 with 
  | .inl G1 => some (G1) 
  | .inr G2 => some ((-1 : Int)))
theorem store_find_2_ok (n : Nat) (M : Mem) (hG : GL M) (A0 : Option Addr) (cap0 : Nat) (d0 : List TD0) (h0 : Sli M 3 emb_TD0 A0 cap0 d0) (ad1_0 : Addr) (c1_0 : List Value) (d1_0 : List UInt8) (h1_0 : Rep M (Dat.str d1_0) c1_0) (q1_0 : ∀ j v, c1_0[j]? = some v → M.cell? (ad1_0.add j) = some v) (r : Int) (hF : store_find_2 n d0 d1_0 = some r) : Ok Tryz.prog M 110 [.slice A0 d0.length cap0, .func (.func 111) #[] #[.pointer (some ad1_0)]] (fun _ v => v = .int .i64 r) := by
 unfold store_find_2 at hF
 intro M1 hM0 w0 H w p0
 replace hG := GL.mono hM0 hG
 replace h0 := h0.mono hM0
 replace h1_0 := Rep.mono hM0 _ _ h1_0
 replace q1_0 := fun j v h => hM0.cell (q1_0 j v h)
 obtain rfl : c1_0 = [S d1_0] := h1_0
 refine R_enter 19 Tryz.func110 rfl rfl (by simp) fun a0 f0 => RR (Y f0 1 fun _ f => eT (R_seq (RR (Y f 3 fun _ f => eT (wp_block ?_)))))
 obtain ⟨Q1, hL_1, F1⟩ := bS hF
 refine wp_mono (Q := fun e a w => (e = .ret ∧ (∃ G1 : Int, Q1 = .inl G1 ∧ ∃ V2 : Mem, M1.le V2 ∧ Frm 19 [(4, .int .i64 G1)] a ∧ Hp w0 V2 (H) w)) ∨ (e = .exit 0 ∧ (∃ G2 : Unit, Q1 = .inr G2 ∧ ∃ V3 : Mem, M1.le V3 ∧ Frm 19 [] a ∧ Hp w0 V3 (H) w))) (R_loop (n := 19) (w0 := w0) (M := M1) (fun (x : Nat × Int) => match x with | (I1, K1) => [(1, .func (.func 111) #[] #[.pointer (some ad1_0)]), (7, .slice A0 d0.length cap0), (8, .int .i64 ((d0.length : Nat) : Int)), (9, .int .i64 K1)]) (fun (x : Nat × Int) => match x with | (I1, K1) => (H)) (fun (x : Nat × Int) (MM : Mem) => match x with | (I1, K1) => loopF (store_find_2_s1 n d0 d1_0) I1 K1 = some Q1) (fun (x : Nat × Int) => match x with | (I1, K1) => I1) (n, (0 : Int)) (f.kp) p0 hL_1 ?_) ?_
 ·rintro ⟨I1, K1⟩ V1 _ W1 J1 I_1 f N1
  have I_1L := I_1
  obtain ⟨I2, r_1, rfl, hs_1, T1⟩ := loop_step I_1L
  unfold store_find_2_s1 at hs_1
  refine RR (Y f 1 fun _ f => eT (R_seq (RcF f hs_1 (fun B1 F2 => ?_) fun B1 F8 => ?_)))
  ·have U1 := dI.1 B1
   refine wp_skip (T_n (R_seq (wp_block (RR (Y f 1 fun _ f => ?_)))))
   obtain ⟨X1, S1, F3⟩ := bS F2
   obtain ⟨C1, c_1, e_1, -, D1, R1⟩ := Sli.at_ (h0.mono J1) S1
   obtain ⟨Z1, P1, rfl, B2⟩ := TD0.opn D1
   refine Z f (Y32 e_1 rfl (len := d0.length) (cap := cap0) (k := .i64) (i := K1) (e := 54) (sz := 3) (getI_nn S1) (getI_lt S1)) fun _ f => Z (v := .agg #[S X1.fPhys, S X1.fType, .slice Z1 X1.fProps.length P1]) f (Y34 (cs := [S X1.fPhys, S X1.fType, .slice Z1 X1.fProps.length P1]) rfl (ad := C1.add (K1.toNat * 3)) (fun j v h => N1.cell (R1 j v h))) fun _ f => Y12 f N1 (.cells #[S [], S [], .slice none 0 0] 54 (0, 0)) fun Q2 W2 N2 _ f => Y f 1 fun _ f => Y28 (vs := [S X1.fPhys, S X1.fType, .slice Z1 X1.fProps.length P1]) (j := 0) f N2 rfl rfl (by simp [Value.oneCell', S]) (by simp) (by decide) (cs' := #[S X1.fPhys, S X1.fType, .slice Z1 X1.fProps.length P1]) (by kernel_rfl) fun W3 N3 _ f => eT (RR (Y f 1 fun _ f => Z (v := .agg #[S X1.fPhys, S X1.fType, .slice Z1 X1.fProps.length P1]) f (Y34 (cs := [S X1.fPhys, S X1.fType, .slice Z1 X1.fProps.length P1]) rfl (ad := ⟨Q2, 0, none⟩) (own_cells (N3.ownCell 0 rfl) 0 rfl)) fun _ f => ?_))
   obtain ⟨X2, S2, F4⟩ := bS F3
   refine Y18 f N3 (store_at_1_ok n _ (GL.mono J1 hG) _ X1 (TD0.shutx (x := X1) B2) ad1_0 [S d1_0] d1_0 (rfl) (fz_at ((fzu J1 q1_0)) 0 rfl) X2 S2) fun W4 N4 _ f => eT (RcF f F4 (fun B3 F5 => ?_) fun B3 F6 => ?_)
   ·refine RR (Y f 2 fun _ f => eT (wp_ret (B_r (T_r (T_r ?_)))))
    obtain rfl := sI F5
    exact .inl ⟨rfl, K1, (sI T1).symm, V1, J1, f.kp, (N4.dropN 1)⟩
   ·refine wp_skip (B_n (T_n (R_reg ?_)))
    obtain ⟨O1, F7⟩ := nS F6
    refine Y f 1 fun _ f => ?_
    have f := f.st 18 (iW O1)
    refine Y f 1 fun _ f => eT ?_
    obtain rfl := sI F7
    exact ⟨⟨I2, K1 + 1⟩, Nat.lt_succ_self _, V1, J1, T1, f.kp, (N4.dropN 1)⟩
  ·have U4 := iff_f dI B1
   refine wp_exit (T_x (T_x ?_))
   obtain rfl := sI F8
   exact .inr ⟨rfl, (), (sI T1).symm, V1, J1, f.kp, N1⟩
 ·rintro _ _ W7 (⟨rfl, G1, rfl, V2, J2, f, N5⟩ | ⟨rfl, G2, rfl, V3, J3, f, N6⟩)
  ·refine B_r (T_r (E_ret1 f rfl (by kernel_rfl : Vc.look _ 4 = some (.int .i64 G1)) ?_))
   obtain rfl := sI F1
   exact ⟨_, rfl, V2, J2, N5, rfl⟩
  ·refine B_x (T_n (RR (Y f 1 fun _ f => eT (wp_ret (E_ret1 f rfl (by kernel_rfl : Vc.look _ 4 = some (.int .i64 (-1))) ?_)))))
   obtain rfl := sI F1
   exact ⟨_, rfl, V3, J3, N6, rfl⟩
def store_at (n : Nat) (d0 : TA0) (d1 : List UInt8) : Option Int :=
  (store_find_2 n d0.fL d1).bind fun X1 =>
  some (X1)
theorem store_at_ok (n : Nat) (M : Mem) (hG : GL M) (c0 : List Value) (d0 : TA0) (h0 : Rep M (emb_TA0 d0) c0) (d1 : List UInt8) (r : Int) (hF : store_at n d0 d1 = some r) : Ok Tryz.prog M 89 [.agg c0.toArray, S d1] (fun _ v => v = .int .i64 r) := by
 unfold store_at at hF
 intro M1 hM0 w0 H w p0
 replace hG := GL.mono hM0 hG
 replace h0 := Rep.mono hM0 _ _ h0
 obtain ⟨Z1, P1, rfl, B1⟩ := TA0.opn h0
 refine R_enter 9 Tryz.func89 rfl rfl (by simp) fun a0 f0 => RR (Y13 (cs := #[.slice Z1 d0.fL.length P1, .int .i64 d0.fMade]) (T := 80) f0 p0 fun Q1 V1 W1 J1 R1 N1 _ f => ?_)
 have R2 := fz_box R1
 refine Y13 (cs := #[S d1]) (T := 9) f N1 fun Q2 V2 W2 J2 R3 N2 _ f => ?_
 have R4 := fz_box R3
 refine Y f 1 fun _ f => eT (RR (Y f 1 fun _ f => Y15 f N2 (fzu J2 R2) 0 rfl fun _ f => Y f 1 fun _ f => ?_))
 obtain ⟨X1, S1, F1⟩ := bS hF
 refine Y18 f N2 (store_find_2_ok n _ (GL.mono (J1.trans J2) hG) Z1 P1 d0.fL (B1.mono (J1.trans J2)) (⟨Q2, 0, none⟩) [S d1] d1 (rfl) (fz_at (R4) 0 rfl) X1 S1) fun W3 N3 _ f => Y f 1 fun _ f => eT (wp_ret (E_ret1 f rfl (by kernel_rfl : Vc.look _ 4 = some (.int .i64 X1)) ?_))
 obtain rfl := sI F1
 exact ⟨_, rfl, V2, (J1.trans J2), N3, rfl⟩
def store_Create (n : Nat) (d0 : TA0) (d1 : List UInt8) (d2 : List TC0) : Option (TA0 × List UInt8 × Int) :=
  (store_Check n (⟨d0.fL, d0.fMade⟩ : TA0)).bind fun X1 =>
  ((bif (decide (X1 = 0)) then
      ((schema_Check n d1 d2).bind fun X2 =>
      some (X2))
    else
      some (X1) : Option Int)).bind fun G1 =>
  bif (!(decide (G1 = 0))) then
    (some ((z_TA0, ([] : List UInt8), G1)))
  else
    (store_known n d2).bind fun X3 =>
    bif !X3 then
      (some ((z_TA0, ([] : List UInt8), (91 : Int))))
    else
      bif (decide (d0.fMade = 1099511627776)) then
        (some ((z_TA0, ([] : List UInt8), (3 : Int))))
      else
        need (inR .i64 (d0.fMade + 1)) <|
        (store_Phys n (d0.fMade + 1)).bind fun X4 =>
        need (0 ≤ ((d0.fL.length : Nat) : Int) ∧ ((d0.fL.length : Nat) : Int) ≤ (d0.fL.length : Int)) <|
        need (((d0.fL.take ((d0.fL.length : Nat) : Int).toNat).length + 1) * 56 ≤ 140737488355328) <|
        some (((⟨(d0.fL.take ((d0.fL.length : Nat) : Int).toNat) ++ [(⟨X4.1, d1, d2⟩ : TD0)], d0.fMade + 1⟩ : TA0), X4.1, (0 : Int)))
set_option maxRecDepth 20000 in
theorem store_Create_ok (n : Nat) (M : Mem) (hG : GL M) (c0 : List Value) (d0 : TA0) (h0 : Rep M (emb_TA0 d0) c0) (d1 : List UInt8) (A2 : Option Addr) (cap2 : Nat) (d2 : List TC0) (h2 : Sli M 8 emb_TC0 A2 cap2 d2) (r : TA0 × List UInt8 × Int) (hF : store_Create n d0 d1 d2 = some r) : Ok Tryz.prog M 62 [.agg c0.toArray, S d1, .slice A2 d2.length cap2] (fun M' v => ∃ (c0 : List Value), v = .tuple #[.agg c0.toArray, S r.2.1, .int .i64 r.2.2] ∧ Rep M' (emb_TA0 r.1) c0) := by
 unfold store_Create at hF
 intro M1 hM0 w0 H w p0
 replace hG := GL.mono hM0 hG
 replace h0 := Rep.mono hM0 _ _ h0
 replace h2 := h2.mono hM0
 obtain ⟨Z1, P1, rfl, B1⟩ := TA0.opn h0
 refine R_enter 62 Tryz.func62 rfl rfl (by simp) fun a0 f0 => RR (Y12 f0 p0 (.cells #[.slice Z1 d0.fL.length P1, .int .i64 d0.fMade] 80 (0, 0)) fun Q1 W1 N1 _ f => Y12 f N1 (.cells #[.slice none 0 0, .int .i64 0] 80 (0, 0)) fun Q2 W2 N2 _ f => Y f 2 fun _ f => eT (RR (Z (v := .agg #[.slice Z1 d0.fL.length P1, .int .i64 d0.fMade]) f (Y34 (cs := [.slice Z1 d0.fL.length P1, .int .i64 d0.fMade]) rfl (ad := ⟨Q1, 0, none⟩) (own_cells (N2.ownCell 1 rfl) 0 rfl)) fun _ f => ?_)))
 obtain ⟨X1, S1, F1⟩ := bS hF
 refine Y18 f N2 (store_Check_ok n _ hG _ (⟨d0.fL, d0.fMade⟩ : TA0) (TA0.shut B1) X1 S1) fun W3 N3 _ f => Y f 1 fun _ f => eT (R_seq (RR (Y f 2 fun _ f => eT ?_)))
 obtain ⟨j_1, hj_1, F2⟩ := bS F1
 refine R_mid (fun a_11 W5 => ∃ G1 : Int, j_1 = G1 ∧ ∃ V1 : Mem, M1.le V1 ∧ Frm 62 [(1, S d1), (2, .slice A2 d2.length cap2), (3, .pointer (some (⟨Q1, 0, none⟩))), (6, .pointer (some (⟨Q2, 0, none⟩))), (9, .int .i64 G1)] a_11 ∧ Hp w0 V1 ((Ent.obj Q2 (.cells #[.slice none 0 0, .int .i64 0] 80 (0, 0))) :: (Ent.obj Q1 (.cells #[.slice Z1 d0.fL.length P1, .int .i64 d0.fMade] 80 (0, 0))) :: H) W5) ?_ ?_
 ·refine RcF f hj_1 (fun B2 F3 => ?_) fun B2 F5 => ?_
  ·have U1 := dI.1 B2
   refine R_reg (Y f 2 fun _ f => ?_)
   obtain ⟨X2, S2, F4⟩ := bS F3
   refine Y18 f N3 (schema_Check_ok n _ hG d1 A2 cap2 d2 h2 X2 S2) fun W4 N4 _ f => Y f 1 fun _ f => eT ?_
   exact ⟨X2, (sI F4).symm, M1, (mR _), f.kp, N4⟩
  ·have U2 := iff_f dI B2
   refine wp_skip (T_n ?_)
   exact ⟨X1, (sI F5).symm, M1, (mR _), f.kp, N3⟩
 ·rintro a_11 W5 ⟨G1, hq_1, V1, J1, f, N5⟩
  subst j_1
  refine T_n (R_seq (wp_block (RR (Y f 3 fun _ f => eT (RcF f F2 (fun B3 F6 => ?_) fun B3 F7 => ?_)))))
  ·have U3 : ¬ (G1 = 0) := (not_iff dI).1 B3
   refine RR (Y f 2 fun _ f => Y28 (vs := [.slice none 0 0, .int .i64 0]) (j := 0) f N5 rfl rfl (by simp [Value.oneCell', S]) (by simp) (by decide) (cs' := #[.slice none 0 0, .int .i64 0]) (by kernel_rfl) fun W6 N6 _ f => Y f 2 fun _ f => eT (wp_ret (B_r (T_r (E_rv3 f rfl (Y10 (cs := [.slice none 0 0, .int .i64 0]) (ad := ⟨Q2, 0, none⟩) f (own_cells (N6.ownCell 0 rfl) 0 rfl)) (Y11 (v := S []) f) (Y11 (v := .int .i64 G1) f) ?_)))))
   obtain rfl := sI F6
   exact ⟨_, rfl, V1, J1, (N6.dropN 2), ⟨[.slice none 0 0, .int .i64 0], rfl, (TA0.shut Sli.nil)⟩⟩
  ·have U4 : ¬ (¬ (G1 = 0)) := iff_f (not_iff dI) B3
   refine RR (Y f 1 fun _ f => ?_)
   obtain ⟨X3, S3, F8⟩ := bS F7
   refine Y18 f N5 (store_known_ok n _ (GL.mono J1 hG) A2 cap2 d2 (h2.mono J1) X3 S3) fun W7 N7 _ f => Y f 2 fun _ f => eT (RcF f F8 (fun B4 F9 => ?_) fun B4 F10 => ?_)
   ·have U5 : (X3) = false := by simpa using B4
    refine RR (Y f 1 fun _ f => Y28 (vs := [.slice none 0 0, .int .i64 0]) (j := 0) f N7 rfl rfl (by simp [Value.oneCell', S]) (by simp) (by decide) (cs' := #[.slice none 0 0, .int .i64 0]) (by kernel_rfl) fun W8 N8 _ f => Y f 2 fun _ f => eT (wp_ret (B_r (T_r (E_rv3 f rfl (Y10 (cs := [.slice none 0 0, .int .i64 0]) (ad := ⟨Q2, 0, none⟩) f (own_cells (N8.ownCell 0 rfl) 0 rfl)) (Y11 (v := S []) f) (Y11 (v := .int .i64 91) f) ?_)))))
    obtain rfl := sI F9
    exact ⟨_, rfl, V1, J1, (N8.dropN 2), ⟨[.slice none 0 0, .int .i64 0], rfl, (TA0.shut Sli.nil)⟩⟩
   ·have U6 : (X3) = true := by simpa using B4
    refine RR (Y f 1 fun _ f => Z f (Y33 (v := .int .i64 d0.fMade) rfl (ad := ⟨Q1, 1, none⟩) (N7.ownCell 1 rfl 1)) fun _ f => Y f 2 fun _ f => eT (RcF f F10 (fun B5 F11 => ?_) fun B5 F12 => ?_))
    ·have U7 := dI.1 B5
     refine RR (Y f 1 fun _ f => Y28 (vs := [.slice none 0 0, .int .i64 0]) (j := 0) f N7 rfl rfl (by simp [Value.oneCell', S]) (by simp) (by decide) (cs' := #[.slice none 0 0, .int .i64 0]) (by kernel_rfl) fun W9 N9 _ f => Y f 2 fun _ f => eT (wp_ret (B_r (T_r (E_rv3 f rfl (Y10 (cs := [.slice none 0 0, .int .i64 0]) (ad := ⟨Q2, 0, none⟩) f (own_cells (N9.ownCell 0 rfl) 0 rfl)) (Y11 (v := S []) f) (Y11 (v := .int .i64 3) f) ?_)))))
     obtain rfl := sI F11
     exact ⟨_, rfl, V1, J1, (N9.dropN 2), ⟨[.slice none 0 0, .int .i64 0], rfl, (TA0.shut Sli.nil)⟩⟩
    ·have U8 := iff_f dI B5
     refine wp_skip (B_n (T_n (RR (Y f 1 fun _ f => Z f (Y33 (v := .slice Z1 d0.fL.length P1) rfl (ad := ⟨Q1, 0, none⟩) (N7.ownCell 1 rfl 0)) fun _ f => Y f 2 fun _ f => eT (RR (Y f 1 fun _ f => Z f (Y33 (v := .int .i64 d0.fMade) rfl (ad := ⟨Q1, 1, none⟩) (N7.ownCell 1 rfl 1)) fun _ f => ?_))))))
     obtain ⟨O1, F13⟩ := nS F12
     refine Y f 1 fun _ f => ?_
     have f := f.st 40 (iW O1)
     refine Y f 1 fun _ f => Y27 f N7 1 rfl rfl (b := Q1) (j := 1) (v := .int .i64 (d0.fMade + 1)) rfl (by exact rfl) (by simp) (by simp) ((Ent.obj Q2 (.cells #[.slice none 0 0, .int .i64 0] 80 (0, 0))) :: (Ent.obj Q1 (.cells #[.slice Z1 d0.fL.length P1, .int .i64 (d0.fMade + 1)] 80 (0, 0))) :: H) rfl fun W10 N10 _ f => eT (RR (Y f 1 fun _ f => Z f (Y33 (v := .int .i64 (d0.fMade + 1)) rfl (ad := ⟨Q1, 1, none⟩) (N10.ownCell 1 rfl 1)) fun _ f => ?_))
     obtain ⟨X4, S4, F14⟩ := bS F13
     refine Y18 f N10 (store_Phys_ok n _ (GL.mono J1 hG) (d0.fMade + 1) X4 S4) fun W11 N11 _ f => Y f 5 fun _ f => eT (RR (Y f 1 fun _ f => Z f (Y33 (v := .slice Z1 d0.fL.length P1) rfl (ad := ⟨Q1, 0, none⟩) (N11.ownCell 1 rfl 0)) fun _ f => Y f 2 fun _ f => ?_))
     obtain ⟨O2, F15⟩ := nS F14
     have B6 : Sli V1 3 emb_TD0 (cutA Z1 3 0 ((d0.fL.length : Nat) : Int).toNat) (d0.fL.take ((d0.fL.length : Nat) : Int).toNat).length (d0.fL.take ((d0.fL.length : Nat) : Int).toNat) := Sli.full (cap := P1) (B1.mono J1) (by omega)
     have hl_1 := Sli.len (cap := P1) (B1.mono J1)
     have he_1 : ((d0.fL.length : Nat) : Int).toNat = (d0.fL.take ((d0.fL.length : Nat) : Int).toNat).length := by rw [List.length_take]; omega
     refine Z (v := .slice (cutA Z1 3 0 ((d0.fL.length : Nat) : Int).toNat) ((d0.fL.length : Nat) : Int).toNat ((d0.fL.length : Nat) : Int).toNat) f (Y36 rfl (A := Z1) (len := d0.fL.length) (cap := P1) (k := .i64) (k' := .i64) (b := ((d0.fL.length : Nat) : Int)) (e := 54) (sz := 3) O2.1 (by omega)) fun _ f => ?_
     have f := Frm.set f 52 (v := .slice (cutA Z1 3 0 ((d0.fL.length : Nat) : Int).toNat) ((d0.fL.length : Nat) : Int).toNat ((d0.fL.length : Nat) : Int).toNat) (v' := .slice (cutA Z1 3 0 ((d0.fL.length : Nat) : Int).toNat) (d0.fL.take ((d0.fL.length : Nat) : Int).toNat).length (d0.fL.take ((d0.fL.length : Nat) : Int).toNat).length) (by kernel_rfl) (by rw [← he_1])
     refine Y f 4 fun _ f => V_allocS (k := 1) (c := 1) f N11 (.cells #[S X4.1, S d1, .slice A2 d2.length cap2] 54 (0, 0)) (by kernel_rfl) (fun _ => by kernel_rfl) fun Q3 W12 N12 _ f => ?_
     obtain ⟨O3, F16⟩ := nS F15
     refine Y20 (e := 54) (bytes := 56) (z := .agg #[S [], S [], .slice none 0 0]) (f := emb_TD0) (xs := d0.fL.take ((d0.fL.length : Nat) : Int).toNat) (ys := [(⟨X4.1, d1, d2⟩ : TD0)]) (news := [S X4.1, S d1, .slice A2 d2.length cap2]) (ad := ⟨Q3, 0, none⟩) (m := 1) (c := 1) f N12 (by decide) (by decide) B6 (by exact ⟨_, _, rfl, TD0.shut (h2.mono J1), rfl⟩) rfl rfl rfl rfl (own_cells (N12.ownCell 0 rfl) 0 rfl) O3 (by have hg_ := O3; omega) fun Z2 P2 L1 W13 N13 D1 _ f => ?_
     have N14 := N13.pl [1]
     have N15 := N14.drop
     refine Y f 1 fun _ f => Y27 f N15 2 rfl rfl (b := Q1) (j := 0) (v := .slice Z2 ((d0.fL.take ((d0.fL.length : Nat) : Int).toNat) ++ [(⟨X4.1, d1, d2⟩ : TD0)]).length P2) rfl (by exact rfl) (by simp) (by simp) ((Ent.row 54 3 (.slice Z2 ((d0.fL.take ((d0.fL.length : Nat) : Int).toNat) ++ [(⟨X4.1, d1, d2⟩ : TD0)]).length P2) ((d0.fL.take ((d0.fL.length : Nat) : Int).toNat) ++ [(⟨X4.1, d1, d2⟩ : TD0)]).length L1) :: (Ent.obj Q2 (.cells #[.slice none 0 0, .int .i64 0] 80 (0, 0))) :: (Ent.obj Q1 (.cells #[.slice Z2 ((d0.fL.take ((d0.fL.length : Nat) : Int).toNat) ++ [(⟨X4.1, d1, d2⟩ : TD0)]).length P2, .int .i64 (d0.fMade + 1)] 80 (0, 0))) :: H) rfl fun W14 N16 _ f => eT (RR (Z (v := .agg #[.slice Z2 ((d0.fL.take ((d0.fL.length : Nat) : Int).toNat) ++ [(⟨X4.1, d1, d2⟩ : TD0)]).length P2, .int .i64 (d0.fMade + 1)]) f (Y34 (cs := [.slice Z2 ((d0.fL.take ((d0.fL.length : Nat) : Int).toNat) ++ [(⟨X4.1, d1, d2⟩ : TD0)]).length P2, .int .i64 (d0.fMade + 1)]) rfl (ad := ⟨Q1, 0, none⟩) (own_cells (N16.ownCell 2 rfl) 0 rfl)) fun _ f => Y f 1 fun _ f => ?_))
     obtain ⟨Z3, P3, V2, H1, J2, N17, B7⟩ := N16.rowSli (f := emb_TD0) (xs := (d0.fL.take ((d0.fL.length : Nat) : Int).toNat) ++ [(⟨X4.1, d1, d2⟩ : TD0)]) szd_TD0 D1
     have f := Frm.set f 60 (v := .agg #[.slice Z2 ((d0.fL.take ((d0.fL.length : Nat) : Int).toNat) ++ [(⟨X4.1, d1, d2⟩ : TD0)]).length P2, .int .i64 (d0.fMade + 1)]) (v' := .agg #[.slice Z3 ((d0.fL.take ((d0.fL.length : Nat) : Int).toNat) ++ [(⟨X4.1, d1, d2⟩ : TD0)]).length P3, .int .i64 (d0.fMade + 1)]) (by kernel_rfl) (by rw [H1])
     have N18 : Hp w0 V2 ((Ent.obj Q2 (.cells #[.slice none 0 0, .int .i64 0] 80 (0, 0))) :: (Ent.obj Q1 (.cells #[.slice Z3 ((d0.fL.take ((d0.fL.length : Nat) : Int).toNat) ++ [(⟨X4.1, d1, d2⟩ : TD0)]).length P3, .int .i64 (d0.fMade + 1)] 80 (0, 0))) :: H) W14 := by rw [H1] at N17; exact N17
     refine Y28 (vs := [.slice Z3 ((d0.fL.take ((d0.fL.length : Nat) : Int).toNat) ++ [(⟨X4.1, d1, d2⟩ : TD0)]).length P3, .int .i64 (d0.fMade + 1)]) (j := 0) f N18 rfl rfl (by simp [Value.oneCell', S]) (by simp) (by decide) (cs' := #[.slice Z3 ((d0.fL.take ((d0.fL.length : Nat) : Int).toNat) ++ [(⟨X4.1, d1, d2⟩ : TD0)]).length P3, .int .i64 (d0.fMade + 1)]) (by kernel_rfl) fun W15 N19 _ f => Y f 2 fun _ f => eT (wp_ret (E_rv3 f rfl (Y10 (cs := [.slice Z3 ((d0.fL.take ((d0.fL.length : Nat) : Int).toNat) ++ [(⟨X4.1, d1, d2⟩ : TD0)]).length P3, .int .i64 (d0.fMade + 1)]) (ad := ⟨Q2, 0, none⟩) f (own_cells (N19.ownCell 0 rfl) 0 rfl)) (Y11 (v := S X4.1) f) (Y11 (v := .int .i64 0) f) ?_))
     obtain rfl := sI F16
     exact ⟨_, rfl, V2, (J1.trans J2), (N19.dropN 2), ⟨[.slice Z3 ((d0.fL.take ((d0.fL.length : Nat) : Int).toNat) ++ [(⟨X4.1, d1, d2⟩ : TD0)]).length P3, .int .i64 (d0.fMade + 1)], rfl, (TA0.shut B7)⟩⟩
def store_Update (n : Nat) (d0 : TA0) (d1 : List UInt8) (d2 : List TC0) : Option (TA0 × Int) :=
  (store_Check n (⟨d0.fL, d0.fMade⟩ : TA0)).bind fun X1 =>
  bif (!(decide (X1 = 0))) then
    (some ((z_TA0, (2 : Int))))
  else
    (store_at n (⟨d0.fL, d0.fMade⟩ : TA0) d1).bind fun X2 =>
    bif (decide (X2 < 0)) then
      (some ((z_TA0, (4 : Int))))
    else
      (getI d0.fL X2).bind fun X3 =>
      (schema_Check n X3.fType d2).bind fun X4 =>
      bif (!(decide (X4 = 0))) then
        (some ((z_TA0, X4)))
      else
        (schema_Differ n X3.fType X3.fProps d2).bind fun X5 =>
        (((store_known n d2).bind fun X6 =>
          bif !X6 then
            (some ((true)))
          else
            bif (!(decide (X5.2 = 0))) then
              (some ((true)))
            else
              some ((decide (X5.1 = 3))) : Option Bool)).bind fun G1 =>
        bif G1 then
          (some ((z_TA0, (91 : Int))))
        else
          ((need (0 ≤ X2 ∧ X2 ≤ (d0.fL.length : Int)) <|
            need (inR .i64 (X2 + 1)) <|
            need (0 ≤ (X2 + 1) ∧ (X2 + 1) ≤ (d0.fL.length : Int)) <|
            need (((d0.fL.take X2.toNat).length + 1) * 56 ≤ 140737488355328) <|
            need ((((d0.fL.take X2.toNat) ++ [(⟨X3.fPhys, X3.fType, d2⟩ : TD0)]).length + (d0.fL.drop (X2 + 1).toNat).length) * 56 ≤ 140737488355328) <|
            some (((d0.fL.take X2.toNat) ++ [(⟨X3.fPhys, X3.fType, d2⟩ : TD0)]) ++ (d0.fL.drop (X2 + 1).toNat)) : Option (List TD0))).bind fun G2 =>
          some (((⟨G2, d0.fMade⟩ : TA0), (0 : Int)))
set_option maxRecDepth 20000 in
theorem store_Update_ok (n : Nat) (M : Mem) (hG : GL M) (c0 : List Value) (d0 : TA0) (h0 : Rep M (emb_TA0 d0) c0) (d1 : List UInt8) (A2 : Option Addr) (cap2 : Nat) (d2 : List TC0) (h2 : Sli M 8 emb_TC0 A2 cap2 d2) (r : TA0 × Int) (hF : store_Update n d0 d1 d2 = some r) : Ok Tryz.prog M 63 [.agg c0.toArray, S d1, .slice A2 d2.length cap2] (fun M' v => ∃ (c0 : List Value), v = .tuple #[.agg c0.toArray, .int .i64 r.2] ∧ Rep M' (emb_TA0 r.1) c0) := by
 unfold store_Update at hF
 intro M1 hM0 w0 H w p0
 replace hG := GL.mono hM0 hG
 replace h0 := Rep.mono hM0 _ _ h0
 replace h2 := h2.mono hM0
 obtain ⟨Z1, P1, rfl, B1⟩ := TA0.opn h0
 refine R_enter 75 Tryz.func63 rfl rfl (by simp) fun a0 f0 => RR (Y12 f0 p0 (.cells #[.slice Z1 d0.fL.length P1, .int .i64 d0.fMade] 80 (0, 0)) fun Q1 W1 N1 _ f => Y12 f N1 (.cells #[.slice none 0 0, .int .i64 0] 80 (0, 0)) fun Q2 W2 N2 _ f => Y f 1 fun _ f => eT (R_seq (RR (Z (v := .agg #[.slice Z1 d0.fL.length P1, .int .i64 d0.fMade]) f (Y34 (cs := [.slice Z1 d0.fL.length P1, .int .i64 d0.fMade]) rfl (ad := ⟨Q1, 0, none⟩) (own_cells (N2.ownCell 1 rfl) 0 rfl)) fun _ f => ?_))))
 obtain ⟨X1, S1, F1⟩ := bS hF
 refine Y18 f N2 (store_Check_ok n _ hG _ (⟨d0.fL, d0.fMade⟩ : TA0) (TA0.shut B1) X1 S1) fun W3 N3 _ f => Y f 1 fun _ f => eT (RcF f F1 (fun B2 F2 => ?_) fun B2 F3 => ?_)
 ·have U1 : ¬ (X1 = 0) := (not_iff dI).1 B2
  refine RR (Y f 1 fun _ f => Y28 (vs := [.slice none 0 0, .int .i64 0]) (j := 0) f N3 rfl rfl (by simp [Value.oneCell', S]) (by simp) (by decide) (cs' := #[.slice none 0 0, .int .i64 0]) (by kernel_rfl) fun W4 N4 _ f => Y f 1 fun _ f => eT (wp_ret (T_r (E_rv2 f rfl (Y10 (cs := [.slice none 0 0, .int .i64 0]) (ad := ⟨Q2, 0, none⟩) f (own_cells (N4.ownCell 0 rfl) 0 rfl)) (Y11 (v := .int .i64 2) f) ?_))))
  obtain rfl := sI F2
  exact ⟨_, rfl, M1, (mR _), (N4.dropN 2), ⟨[.slice none 0 0, .int .i64 0], rfl, (TA0.shut Sli.nil)⟩⟩
 ·have U2 : ¬ (¬ (X1 = 0)) := iff_f (not_iff dI) B2
  refine wp_skip (T_n (RR (Z (v := .agg #[.slice Z1 d0.fL.length P1, .int .i64 d0.fMade]) f (Y34 (cs := [.slice Z1 d0.fL.length P1, .int .i64 d0.fMade]) rfl (ad := ⟨Q1, 0, none⟩) (own_cells (N3.ownCell 1 rfl) 0 rfl)) fun _ f => Y f 1 fun _ f => ?_)))
  obtain ⟨X2, S2, F4⟩ := bS F3
  refine Y18 f N3 (store_at_ok n _ hG _ (⟨d0.fL, d0.fMade⟩ : TA0) (TA0.shut B1) d1 X2 S2) fun W5 N5 _ f => Y f 1 fun _ f => eT (R_seq (RR (Y f 2 fun _ f => eT (RcF f F4 (fun B3 F5 => ?_) fun B3 F6 => ?_))))
  ·have U3 := dI.1 B3
   refine RR (Y f 1 fun _ f => Y28 (vs := [.slice none 0 0, .int .i64 0]) (j := 0) f N5 rfl rfl (by simp [Value.oneCell', S]) (by simp) (by decide) (cs' := #[.slice none 0 0, .int .i64 0]) (by kernel_rfl) fun W6 N6 _ f => Y f 1 fun _ f => eT (wp_ret (T_r (E_rv2 f rfl (Y10 (cs := [.slice none 0 0, .int .i64 0]) (ad := ⟨Q2, 0, none⟩) f (own_cells (N6.ownCell 0 rfl) 0 rfl)) (Y11 (v := .int .i64 4) f) ?_))))
   obtain rfl := sI F5
   exact ⟨_, rfl, M1, (mR _), (N6.dropN 2), ⟨[.slice none 0 0, .int .i64 0], rfl, (TA0.shut Sli.nil)⟩⟩
  ·have U4 := iff_f dI B3
   refine wp_skip (T_n (RR (Y f 1 fun _ f => Z f (Y33 (v := .slice Z1 d0.fL.length P1) rfl (ad := ⟨Q1, 0, none⟩) (N5.ownCell 1 rfl 0)) fun _ f => Y f 1 fun _ f => ?_)))
   obtain ⟨X3, S3, F7⟩ := bS F6
   obtain ⟨C1, c_1, e_1, -, D1, R1⟩ := Sli.at_ B1 S3
   obtain ⟨Z2, P2, rfl, B4⟩ := TD0.opn D1
   refine Z f (Y32 e_1 rfl (len := d0.fL.length) (cap := P1) (k := .i64) (i := X2) (e := 54) (sz := 3) (getI_nn S3) (getI_lt S3)) fun _ f => Z (v := .agg #[S X3.fPhys, S X3.fType, .slice Z2 X3.fProps.length P2]) f (Y34 (cs := [S X3.fPhys, S X3.fType, .slice Z2 X3.fProps.length P2]) rfl (ad := C1.add (X2.toNat * 3)) (fun j v h => N5.cell (R1 j v h))) fun _ f => Y12 f N5 (.cells #[S [], S [], .slice none 0 0] 54 (0, 0)) fun Q3 W7 N7 _ f => Y28 (vs := [S X3.fPhys, S X3.fType, .slice Z2 X3.fProps.length P2]) (j := 0) f N7 rfl rfl (by simp [Value.oneCell', S]) (by simp) (by decide) (cs' := #[S X3.fPhys, S X3.fType, .slice Z2 X3.fProps.length P2]) (by kernel_rfl) fun W8 N8 _ f => eT (R_seq (RR (Y f 1 fun _ f => Z f (Y33 (v := S X3.fType) rfl (ad := ⟨Q3, 1, none⟩) (N8.ownCell 0 rfl 1)) fun _ f => Y f 1 fun _ f => ?_)))
   obtain ⟨X4, S4, F8⟩ := bS F7
   refine Y18 f N8 (schema_Check_ok n _ hG X3.fType A2 cap2 d2 h2 X4 S4) fun W9 N9 _ f => Y f 1 fun _ f => eT (RR (Y f 2 fun _ f => eT (RcF f F8 (fun B5 F9 => ?_) fun B5 F10 => ?_)))
   ·have U5 : ¬ (X4 = 0) := (not_iff dI).1 B5
    refine RR (Y f 2 fun _ f => ?_)
    have N10 := N9.pl [1]
    refine Y28 (vs := [.slice none 0 0, .int .i64 0]) (j := 0) f N10 rfl rfl (by simp [Value.oneCell', S]) (by simp) (by decide) (cs' := #[.slice none 0 0, .int .i64 0]) (by kernel_rfl) fun W10 N11 _ f => Y f 1 fun _ f => eT (wp_ret (T_r (E_rv2 f rfl (Y10 (cs := [.slice none 0 0, .int .i64 0]) (ad := ⟨Q2, 0, none⟩) f (own_cells (N11.ownCell 0 rfl) 0 rfl)) (Y11 (v := .int .i64 X4) f) ?_)))
    obtain rfl := sI F9
    exact ⟨_, rfl, M1, (mR _), (N11.dropN 3), ⟨[.slice none 0 0, .int .i64 0], rfl, (TA0.shut Sli.nil)⟩⟩
   ·have U6 : ¬ (¬ (X4 = 0)) := iff_f (not_iff dI) B5
    refine wp_skip (T_n (RR (Y f 1 fun _ f => Z f (Y33 (v := S X3.fType) rfl (ad := ⟨Q3, 1, none⟩) (N9.ownCell 0 rfl 1)) fun _ f => Y f 1 fun _ f => Z f (Y33 (v := .slice Z2 X3.fProps.length P2) rfl (ad := ⟨Q3, 2, none⟩) (N9.ownCell 0 rfl 2)) fun _ f => Y f 1 fun _ f => ?_)))
    obtain ⟨X5, S5, F11⟩ := bS F10
    refine Y18 f N9 (schema_Differ_ok n _ hG X3.fType Z2 P2 X3.fProps B4 A2 cap2 d2 h2 X5 S5) fun W11 N12 _ f => Y f 5 fun _ f => eT (R_seq (R_seq ?_))
    obtain ⟨j_1, hj_1, F12⟩ := bS F11
    refine R_mid (fun a_48 W13 => ∃ G1 : Bool, j_1 = G1 ∧ ∃ V1 : Mem, M1.le V1 ∧ Frm 75 [(2, .slice A2 d2.length cap2), (3, .pointer (some (⟨Q1, 0, none⟩))), (6, .pointer (some (⟨Q2, 0, none⟩))), (8, .int .i64 X2), (9, .pointer (some (⟨Q3, 0, none⟩))), (55, .bool G1)] a_48 ∧ Hp w0 V1 ((Ent.obj Q3 (.cells #[S X3.fPhys, S X3.fType, .slice Z2 X3.fProps.length P2] 54 (0, 0))) :: (Ent.obj Q2 (.cells #[.slice none 0 0, .int .i64 0] 80 (0, 0))) :: (Ent.obj Q1 (.cells #[.slice Z1 d0.fL.length P1, .int .i64 d0.fMade] 80 (0, 0))) :: H) W13) ?_ ?_
    ·refine R_reg (Y f 1 fun _ f => ?_)
     obtain ⟨X6, S6, F13⟩ := bS hj_1
     refine Y18 f N12 (store_known_ok n _ hG A2 cap2 d2 h2 X6 S6) fun W12 N13 _ f => Y f 2 fun _ f => ?_
     rcases cE F13 with ⟨B6, F14⟩ | ⟨B6, F15⟩
     ·have U7 : (X6) = false := by simpa using B6
      have f := f.st 48 (cB B6)
      refine Y f 7 fun _ f => eT ?_
      exact ⟨(true), (sI F14).symm, M1, (mR _), f.kp, N13⟩
     ·have U8 : (X6) = true := by simpa using B6
      have f := f.st 48 (cB B6)
      refine Y f 4 fun _ f => ?_
      rcases cE F15 with ⟨B7, F16⟩ | ⟨B7, F17⟩
      ·have U9 : ¬ (X5.2 = 0) := (not_iff dI).1 B7
       have f := f.st 52 (cB B7)
       refine Y f 3 fun _ f => eT ?_
       exact ⟨(true), (sI F16).symm, M1, (mR _), f.kp, N13⟩
      ·have U10 : ¬ (¬ (X5.2 = 0)) := iff_f (not_iff dI) B7
       have f := f.st 52 (cB B7)
       refine Y f 3 fun _ f => eT ?_
       exact ⟨(decide (X5.1 = 3)), (sI F17).symm, M1, (mR _), f.kp, N13⟩
    ·rintro a_48 W13 ⟨G1, hq_1, V1, J1, f, N14⟩
     subst j_1
     refine T_n (RcF f F12 (fun B8 F18 => ?_) fun B8 F19 => ?_)
     ·refine RR (Y f 1 fun _ f => ?_)
      have N15 := N14.pl [1]
      refine Y28 (vs := [.slice none 0 0, .int .i64 0]) (j := 0) f N15 rfl rfl (by simp [Value.oneCell', S]) (by simp) (by decide) (cs' := #[.slice none 0 0, .int .i64 0]) (by kernel_rfl) fun W14 N16 _ f => Y f 1 fun _ f => eT (wp_ret (T_r (E_rv2 f rfl (Y10 (cs := [.slice none 0 0, .int .i64 0]) (ad := ⟨Q2, 0, none⟩) f (own_cells (N16.ownCell 0 rfl) 0 rfl)) (Y11 (v := .int .i64 91) f) ?_)))
      obtain rfl := sI F18
      exact ⟨_, rfl, V1, J1, (N16.dropN 3), ⟨[.slice none 0 0, .int .i64 0], rfl, (TA0.shut Sli.nil)⟩⟩
     ·refine wp_skip (T_n (RR (Y f 2 fun _ f => Y27 f N14 0 rfl rfl (b := Q3) (j := 2) (v := .slice A2 d2.length cap2) rfl (by exact rfl) (by simp) (by simp) ((Ent.obj Q3 (.cells #[S X3.fPhys, S X3.fType, .slice A2 d2.length cap2] 54 (0, 0))) :: (Ent.obj Q2 (.cells #[.slice none 0 0, .int .i64 0] 80 (0, 0))) :: (Ent.obj Q1 (.cells #[.slice Z1 d0.fL.length P1, .int .i64 d0.fMade] 80 (0, 0))) :: H) rfl fun W15 N17 _ f => eT (R_seq ?_))))
      obtain ⟨j_2, hj_2, F20⟩ := bS F19
      refine R_mid (fun a_83 W27 => ∃ G2 : List TD0, j_2 = G2 ∧ ∃ V2 : Mem, V1.le V2 ∧ ∃ (Z7 : Option Addr), ∃ (P7 : Nat), ∃ (L5 : List Value), RepSeq V2 (G2.map emb_TD0) L5 ∧ Frm 75 [(3, .pointer (some (⟨Q1, 0, none⟩))), (6, .pointer (some (⟨Q2, 0, none⟩)))] a_83 ∧ Hp w0 V2 ((Ent.row 54 3 (.slice Z7 G2.length P7) G2.length L5) :: (Ent.obj Q3 (.cells #[S X3.fPhys, S X3.fType, .slice A2 d2.length cap2] 54 (0, 0))) :: (Ent.obj Q2 (.cells #[.slice none 0 0, .int .i64 0] 80 (0, 0))) :: (Ent.obj Q1 (.cells #[.slice Z7 G2.length P7, .int .i64 d0.fMade] 80 (0, 0))) :: H) W27) ?_ ?_
      ·obtain ⟨O1, F21⟩ := nS hj_2
       obtain ⟨O2, F22⟩ := nS F21
       obtain ⟨O3, F23⟩ := nS F22
       obtain ⟨O4, F24⟩ := nS F23
       obtain ⟨O5, F25⟩ := nS F24
       refine R_plan (ks := [14, 15]) (E := []) (Hr := ((Ent.obj Q3 (.cells #[S X3.fPhys, S X3.fType, .slice A2 d2.length cap2] 54 (0, 0))) :: (Ent.obj Q2 (.cells #[.slice none 0 0, .int .i64 0] 80 (0, 0))) :: (Ent.obj Q1 (.cells #[.slice Z1 d0.fL.length P1, .int .i64 d0.fMade] 80 (0, 0))) :: H)) (.quiet 0 (.quiet 1 (.quiet 2 (.quiet 3 (.quiet 4 (.quiet 5 (.quiet 8 (.quiet 9 (.quiet 10 (.quiet 11 (.quiet 12 (.alt 6 (.alt 7 (.alt 13 .done .none) .none) .none)))))))))))) N17 (by kernel_rfl) (by kernel_rfl) (by kernel_rfl) (Y1 (v := .pointer (some (⟨Q1, 0, none⟩))) rfl f rfl rfl (fun _ _ => by kernel_rfl) fun _ f => Y1 (v := .slice Z1 d0.fL.length P1) rfl f rfl rfl (fun _ pq => Y33 (v := .slice Z1 d0.fL.length P1) rfl (ad := ⟨Q1, 0, none⟩) (pq.ownCell 2 rfl 0)) fun _ f => Y1 (v := .int .i64 X2) rfl f rfl rfl (fun _ _ => by kernel_rfl) fun _ f => Y1 (v := .int .i64 X2) rfl f rfl rfl (fun _ _ => by kernel_rfl) fun _ f => ?_)
       have B11 : Sli V1 3 emb_TD0 (cutA Z1 3 0 X2.toNat) (d0.fL.take X2.toNat).length (d0.fL.take X2.toNat) := Sli.full (cap := P1) (B1.mono J1) (by omega)
       have hl_3 := Sli.len (cap := P1) (B1.mono J1)
       have he_2 : X2.toNat = (d0.fL.take X2.toNat).length := by rw [List.length_take]; omega
       refine Y1 (v := .slice (cutA Z1 3 0 X2.toNat) X2.toNat X2.toNat) rfl f rfl rfl (fun _ pq => Y36 rfl (A := Z1) (len := d0.fL.length) (cap := P1) (k := .i64) (k' := .i64) (b := X2) (e := 54) (sz := 3) O1.1 (by omega)) fun _ f => ?_
       have f := Frm.set f 63 (v := .slice (cutA Z1 3 0 X2.toNat) X2.toNat X2.toNat) (v' := .slice (cutA Z1 3 0 X2.toNat) (d0.fL.take X2.toNat).length (d0.fL.take X2.toNat).length) (by kernel_rfl) (by rw [← he_2])
       refine Y1 (v := .agg #[S X3.fPhys, S X3.fType, .slice A2 d2.length cap2]) rfl f rfl rfl (fun _ pq => Y34 (cs := [S X3.fPhys, S X3.fType, .slice A2 d2.length cap2]) rfl (ad := ⟨Q3, 0, none⟩) (own_cells (pq.ownCell 0 rfl) 0 rfl)) fun _ f => Y1 (v := .pointer (some (⟨Q1, 0, none⟩))) rfl f rfl rfl (fun _ _ => by kernel_rfl) fun _ f => Y1 (v := .slice Z1 d0.fL.length P1) rfl f rfl rfl (fun _ pq => Y33 (v := .slice Z1 d0.fL.length P1) rfl (ad := ⟨Q1, 0, none⟩) (pq.ownCell 2 rfl 0)) fun _ f => Y1 (v := .int .i64 X2) rfl f rfl rfl (fun _ _ => by kernel_rfl) fun _ f => Y1 (v := .int .i64 (IntKind.wrap .i64 (X2 + 1))) rfl f rfl rfl (fun _ pq => by kernel_rfl) fun _ f => ?_
       have f := f.st 70 (iW O2)
       have B12 : Sli V1 3 emb_TD0 (cutA Z1 3 (X2 + 1).toNat P1) (P1 - (X2 + 1).toNat) (d0.fL.drop (X2 + 1).toNat) := Sli.cutFrom (B1.mono J1) (by omega)
       refine Y1 (v := .slice (cutA Z1 3 (X2 + 1).toNat P1) (d0.fL.length - (X2 + 1).toNat) (P1 - (X2 + 1).toNat)) rfl f rfl rfl (fun _ pq => Y37 rfl (A := Z1) (len := d0.fL.length) (cap := P1) (k := .i64) (a := X2 + 1) (e := 54) (sz := 3) O3.1 O3.2) fun _ f => ?_
       have f := Frm.set f 71 (v := .slice (cutA Z1 3 (X2 + 1).toNat P1) (d0.fL.length - (X2 + 1).toNat) (P1 - (X2 + 1).toNat)) (v' := .slice (cutA Z1 3 (X2 + 1).toNat P1) (d0.fL.drop (X2 + 1).toNat).length (P1 - (X2 + 1).toNat)) (by kernel_rfl) (by rw [List.length_drop])
       refine N_alt rfl (fun W19 N23 => ?_) ?_
       ·refine V_allocS (k := 1) (c := 1) f N23 (.cells #[S X3.fPhys, S X3.fType, .slice A2 d2.length cap2] 54 (0, 0)) (by kernel_rfl) (fun _ => by kernel_rfl) fun Q5 W20 N24 _ f => W_end rfl (N_goN 1 (mR _) N24 rfl (N_alt rfl (fun W21 N25 => ?_) ?_))
        ·refine Y20 (e := 54) (bytes := 56) (z := .agg #[S [], S [], .slice none 0 0]) (f := emb_TD0) (xs := d0.fL.take X2.toNat) (ys := [(⟨X3.fPhys, X3.fType, d2⟩ : TD0)]) (news := [S X3.fPhys, S X3.fType, .slice A2 d2.length cap2]) (ad := ⟨Q5, 0, none⟩) (m := 1) (c := 1) f N25 (by decide) (by decide) B11 (by exact ⟨_, _, rfl, TD0.shut (h2.mono J1), rfl⟩) rfl rfl rfl rfl (own_cells (N25.ownCell 0 rfl) 0 rfl) O4 (by have hg_ := O4; omega) fun Z5 P5 L3 W22 N26 D4 _ f => ?_
         have N27 := N26.pl [1]
         have N28 := N27.drop
         refine W_end rfl (N_goN 1 (mR _) N28 rfl (N_alt rfl (fun W23 N29 => ?_) ?_))
         ·refine Y24 (z := .agg #[S [], S [], .slice none 0 0]) (f := emb_TD0) (xs := (d0.fL.take X2.toNat) ++ [(⟨X3.fPhys, X3.fType, d2⟩ : TD0)]) (ys := d0.fL.drop (X2 + 1).toNat) (c := (P1 - (X2 + 1).toNat)) f N29 D4 B12 rfl rfl rfl O5 (by omega) fun Z6 P6 L4 W24 N30 D5 _ f => W_end rfl (N_goN 1 (mR _) N30 rfl (N_tail fun W25 N31 => Y f 1 fun _ f => Y27 f N31 3 rfl rfl (b := Q1) (j := 0) (v := .slice Z6 (((d0.fL.take X2.toNat) ++ [(⟨X3.fPhys, X3.fType, d2⟩ : TD0)]) ++ (d0.fL.drop (X2 + 1).toNat)).length P6) rfl (by exact rfl) (by simp) (by simp) ((Ent.row 54 3 (.slice Z6 (((d0.fL.take X2.toNat) ++ [(⟨X3.fPhys, X3.fType, d2⟩ : TD0)]) ++ (d0.fL.drop (X2 + 1).toNat)).length P6) (((d0.fL.take X2.toNat) ++ [(⟨X3.fPhys, X3.fType, d2⟩ : TD0)]) ++ (d0.fL.drop (X2 + 1).toNat)).length L4) :: (Ent.obj Q3 (.cells #[S X3.fPhys, S X3.fType, .slice A2 d2.length cap2] 54 (0, 0))) :: (Ent.obj Q2 (.cells #[.slice none 0 0, .int .i64 0] 80 (0, 0))) :: (Ent.obj Q1 (.cells #[.slice Z6 (((d0.fL.take X2.toNat) ++ [(⟨X3.fPhys, X3.fType, d2⟩ : TD0)]) ++ (d0.fL.drop (X2 + 1).toNat)).length P6, .int .i64 d0.fMade] 80 (0, 0))) :: H) rfl fun W26 N32 _ f => W_end rfl (N_te (T_n ?_))))
          exact ⟨((d0.fL.take X2.toNat) ++ [(⟨X3.fPhys, X3.fType, d2⟩ : TD0)]) ++ (d0.fL.drop (X2 + 1).toNat), (sI F25).symm, V1, (mR _), Z6, P6, L4, D5, f.kp, N32⟩
         exact N_none
        exact N_none
       exact N_none
      ·rintro a_83 W27 ⟨G2, hq_2, V2, J2, Z7, P7, L5, D6, f, N33⟩
       subst j_2
       refine T_n (RR (Z (v := .agg #[.slice Z7 G2.length P7, .int .i64 d0.fMade]) f (Y34 (cs := [.slice Z7 G2.length P7, .int .i64 d0.fMade]) rfl (ad := ⟨Q1, 0, none⟩) (own_cells (N33.ownCell 3 rfl) 0 rfl)) fun _ f => ?_))
       obtain ⟨Z8, P8, V3, H1, J3, N34, B13⟩ := N33.rowSli (f := emb_TD0) (xs := G2) szd_TD0 D6
       have f := Frm.set f 74 (v := .agg #[.slice Z7 G2.length P7, .int .i64 d0.fMade]) (v' := .agg #[.slice Z8 G2.length P8, .int .i64 d0.fMade]) (by kernel_rfl) (by rw [H1])
       have N35 : Hp w0 V3 ((Ent.obj Q3 (.cells #[S X3.fPhys, S X3.fType, .slice A2 d2.length cap2] 54 (0, 0))) :: (Ent.obj Q2 (.cells #[.slice none 0 0, .int .i64 0] 80 (0, 0))) :: (Ent.obj Q1 (.cells #[.slice Z8 G2.length P8, .int .i64 d0.fMade] 80 (0, 0))) :: H) W27 := by rw [H1] at N34; exact N34
       have N36 := N35.pl [1]
       refine Y28 (vs := [.slice Z8 G2.length P8, .int .i64 d0.fMade]) (j := 0) f N36 rfl rfl (by simp [Value.oneCell', S]) (by simp) (by decide) (cs' := #[.slice Z8 G2.length P8, .int .i64 d0.fMade]) (by kernel_rfl) fun W28 N37 _ f => Y f 1 fun _ f => eT (wp_ret (E_rv2 f rfl (Y10 (cs := [.slice Z8 G2.length P8, .int .i64 d0.fMade]) (ad := ⟨Q2, 0, none⟩) f (own_cells (N37.ownCell 0 rfl) 0 rfl)) (Y11 (v := .int .i64 0) f) ?_))
       obtain rfl := sI F20
       exact ⟨_, rfl, V3, ((J1.trans J2).trans J3), (N37.dropN 3), ⟨[.slice Z8 G2.length P8, .int .i64 d0.fMade], rfl, (TA0.shut B13)⟩⟩
def store_Delete (n : Nat) (d0 : TA0) (d1 : List UInt8) : Option (TA0 × Int) :=
  (store_Check n (⟨d0.fL, d0.fMade⟩ : TA0)).bind fun X1 =>
  bif (!(decide (X1 = 0))) then
    (some ((z_TA0, (2 : Int))))
  else
    (store_at n (⟨d0.fL, d0.fMade⟩ : TA0) d1).bind fun X2 =>
    bif (decide (X2 < 0)) then
      (some ((z_TA0, (4 : Int))))
    else
      need (0 ≤ X2 ∧ X2 ≤ (d0.fL.length : Int)) <|
      need (inR .i64 (X2 + 1)) <|
      need (0 ≤ (X2 + 1) ∧ (X2 + 1) ≤ (d0.fL.length : Int)) <|
      need (((d0.fL.take X2.toNat).length + (d0.fL.drop (X2 + 1).toNat).length) * 56 ≤ 140737488355328) <|
      some (((⟨(d0.fL.take X2.toNat) ++ (d0.fL.drop (X2 + 1).toNat), d0.fMade⟩ : TA0), (0 : Int)))
set_option maxRecDepth 20000 in
theorem store_Delete_ok (n : Nat) (M : Mem) (hG : GL M) (c0 : List Value) (d0 : TA0) (h0 : Rep M (emb_TA0 d0) c0) (d1 : List UInt8) (r : TA0 × Int) (hF : store_Delete n d0 d1 = some r) : Ok Tryz.prog M 64 [.agg c0.toArray, S d1] (fun M' v => ∃ (c0 : List Value), v = .tuple #[.agg c0.toArray, .int .i64 r.2] ∧ Rep M' (emb_TA0 r.1) c0) := by
 unfold store_Delete at hF
 intro M1 hM0 w0 H w p0
 replace hG := GL.mono hM0 hG
 replace h0 := Rep.mono hM0 _ _ h0
 obtain ⟨Z1, P1, rfl, B1⟩ := TA0.opn h0
 refine R_enter 30 Tryz.func64 rfl rfl (by simp) fun a0 f0 => RR (Y12 f0 p0 (.cells #[.slice Z1 d0.fL.length P1, .int .i64 d0.fMade] 80 (0, 0)) fun Q1 W1 N1 _ f => Y12 f N1 (.cells #[.slice none 0 0, .int .i64 0] 80 (0, 0)) fun Q2 W2 N2 _ f => Y f 1 fun _ f => eT (R_seq (RR (Z (v := .agg #[.slice Z1 d0.fL.length P1, .int .i64 d0.fMade]) f (Y34 (cs := [.slice Z1 d0.fL.length P1, .int .i64 d0.fMade]) rfl (ad := ⟨Q1, 0, none⟩) (own_cells (N2.ownCell 1 rfl) 0 rfl)) fun _ f => ?_))))
 obtain ⟨X1, S1, F1⟩ := bS hF
 refine Y18 f N2 (store_Check_ok n _ hG _ (⟨d0.fL, d0.fMade⟩ : TA0) (TA0.shut B1) X1 S1) fun W3 N3 _ f => Y f 1 fun _ f => eT (RcF f F1 (fun B2 F2 => ?_) fun B2 F3 => ?_)
 ·have U1 : ¬ (X1 = 0) := (not_iff dI).1 B2
  refine RR (Y f 1 fun _ f => Y28 (vs := [.slice none 0 0, .int .i64 0]) (j := 0) f N3 rfl rfl (by simp [Value.oneCell', S]) (by simp) (by decide) (cs' := #[.slice none 0 0, .int .i64 0]) (by kernel_rfl) fun W4 N4 _ f => Y f 1 fun _ f => eT (wp_ret (T_r (E_rv2 f rfl (Y10 (cs := [.slice none 0 0, .int .i64 0]) (ad := ⟨Q2, 0, none⟩) f (own_cells (N4.ownCell 0 rfl) 0 rfl)) (Y11 (v := .int .i64 2) f) ?_))))
  obtain rfl := sI F2
  exact ⟨_, rfl, M1, (mR _), (N4.dropN 2), ⟨[.slice none 0 0, .int .i64 0], rfl, (TA0.shut Sli.nil)⟩⟩
 ·have U2 : ¬ (¬ (X1 = 0)) := iff_f (not_iff dI) B2
  refine wp_skip (T_n (RR (Z (v := .agg #[.slice Z1 d0.fL.length P1, .int .i64 d0.fMade]) f (Y34 (cs := [.slice Z1 d0.fL.length P1, .int .i64 d0.fMade]) rfl (ad := ⟨Q1, 0, none⟩) (own_cells (N3.ownCell 1 rfl) 0 rfl)) fun _ f => Y f 1 fun _ f => ?_)))
  obtain ⟨X2, S2, F4⟩ := bS F3
  refine Y18 f N3 (store_at_ok n _ hG _ (⟨d0.fL, d0.fMade⟩ : TA0) (TA0.shut B1) d1 X2 S2) fun W5 N5 _ f => Y f 1 fun _ f => eT (R_seq (RR (Y f 2 fun _ f => eT (RcF f F4 (fun B3 F5 => ?_) fun B3 F6 => ?_))))
  ·have U3 := dI.1 B3
   refine RR (Y f 1 fun _ f => Y28 (vs := [.slice none 0 0, .int .i64 0]) (j := 0) f N5 rfl rfl (by simp [Value.oneCell', S]) (by simp) (by decide) (cs' := #[.slice none 0 0, .int .i64 0]) (by kernel_rfl) fun W6 N6 _ f => Y f 1 fun _ f => eT (wp_ret (T_r (E_rv2 f rfl (Y10 (cs := [.slice none 0 0, .int .i64 0]) (ad := ⟨Q2, 0, none⟩) f (own_cells (N6.ownCell 0 rfl) 0 rfl)) (Y11 (v := .int .i64 4) f) ?_))))
   obtain rfl := sI F5
   exact ⟨_, rfl, M1, (mR _), (N6.dropN 2), ⟨[.slice none 0 0, .int .i64 0], rfl, (TA0.shut Sli.nil)⟩⟩
  ·have U4 := iff_f dI B3
   refine wp_skip (T_n (R_seq (R_drawT 10 N5 (by kernel_rfl) (by kernel_rfl) fun W7 N7 => ST_eq (v := .pointer (some (⟨Q1, 0, none⟩))) f (by kernel_rfl) (by kernel_rfl) rfl rfl (by kernel_rfl) fun _ f => ST_eq (v := .slice Z1 d0.fL.length P1) f (by kernel_rfl) (by kernel_rfl) rfl rfl (Y33 (v := .slice Z1 d0.fL.length P1) rfl (ad := ⟨Q1, 0, none⟩) (N7.ownCell 1 rfl 0)) fun _ f => ST_eq (v := .int .i64 X2) f (by kernel_rfl) (by kernel_rfl) rfl rfl (by kernel_rfl) fun _ f => ST_eq (v := .int .i64 X2) f (by kernel_rfl) (by kernel_rfl) rfl rfl (by kernel_rfl) fun _ f => ?_)))
   obtain ⟨O1, F7⟩ := nS F6
   have B4 : Sli M1 3 emb_TD0 (cutA Z1 3 0 X2.toNat) (d0.fL.take X2.toNat).length (d0.fL.take X2.toNat) := Sli.full (cap := P1) B1 (by omega)
   have hl_1 := Sli.len (cap := P1) B1
   have he_1 : X2.toNat = (d0.fL.take X2.toNat).length := by rw [List.length_take]; omega
   refine ST_eq (v := .slice (cutA Z1 3 0 X2.toNat) X2.toNat X2.toNat) f (by kernel_rfl) (by kernel_rfl) rfl rfl (Y36 rfl (A := Z1) (len := d0.fL.length) (cap := P1) (k := .i64) (k' := .i64) (b := X2) (e := 54) (sz := 3) O1.1 (by omega)) fun _ f => ?_
   have f := Frm.set f 21 (v := .slice (cutA Z1 3 0 X2.toNat) X2.toNat X2.toNat) (v' := .slice (cutA Z1 3 0 X2.toNat) (d0.fL.take X2.toNat).length (d0.fL.take X2.toNat).length) (by kernel_rfl) (by rw [← he_1])
   refine ST_eq (v := .pointer (some (⟨Q1, 0, none⟩))) f (by kernel_rfl) (by kernel_rfl) rfl rfl (by kernel_rfl) fun _ f => ST_eq (v := .slice Z1 d0.fL.length P1) f (by kernel_rfl) (by kernel_rfl) rfl rfl (Y33 (v := .slice Z1 d0.fL.length P1) rfl (ad := ⟨Q1, 0, none⟩) (N7.ownCell 1 rfl 0)) fun _ f => ST_eq (v := .int .i64 X2) f (by kernel_rfl) (by kernel_rfl) rfl rfl (by kernel_rfl) fun _ f => ?_
   obtain ⟨O2, F8⟩ := nS F7
   refine ST_eq (v := .int .i64 (IntKind.wrap .i64 (X2 + 1))) f (by kernel_rfl) (by kernel_rfl) rfl rfl (by kernel_rfl) fun _ f => ?_
   have f := f.st 25 (iW O2)
   obtain ⟨O3, F9⟩ := nS F8
   have B5 : Sli M1 3 emb_TD0 (cutA Z1 3 (X2 + 1).toNat P1) (P1 - (X2 + 1).toNat) (d0.fL.drop (X2 + 1).toNat) := Sli.cutFrom B1 (by omega)
   refine ST_eq (v := .slice (cutA Z1 3 (X2 + 1).toNat P1) (d0.fL.length - (X2 + 1).toNat) (P1 - (X2 + 1).toNat)) f (by kernel_rfl) (by kernel_rfl) rfl rfl (Y37 rfl (A := Z1) (len := d0.fL.length) (cap := P1) (k := .i64) (a := X2 + 1) (e := 54) (sz := 3) O3.1 O3.2) fun _ f => ?_
   have f := Frm.set f 26 (v := .slice (cutA Z1 3 (X2 + 1).toNat P1) (d0.fL.length - (X2 + 1).toNat) (P1 - (X2 + 1).toNat)) (v' := .slice (cutA Z1 3 (X2 + 1).toNat P1) (d0.fL.drop (X2 + 1).toNat).length (P1 - (X2 + 1).toNat)) (by kernel_rfl) (by rw [List.length_drop])
   refine ST_end rfl ?_
   obtain ⟨O4, F10⟩ := nS F9
   refine Y21 (e := 54) (bytes := 56) (z := .agg #[S [], S [], .slice none 0 0]) (f := emb_TD0) (xs := d0.fL.take X2.toNat) (ys := d0.fL.drop (X2 + 1).toNat) (c := (P1 - (X2 + 1).toNat)) f N7 (by decide) szd_TD0 B4 B5 rfl rfl rfl O4 (by omega) fun Z2 P2 V1 W8 J1 N8 B6 _ f => Y f 1 fun _ f => Y27 f N8 1 rfl rfl (b := Q1) (j := 0) (v := .slice Z2 ((d0.fL.take X2.toNat) ++ (d0.fL.drop (X2 + 1).toNat)).length P2) rfl (by exact rfl) (by simp) (by simp) ((Ent.obj Q2 (.cells #[.slice none 0 0, .int .i64 0] 80 (0, 0))) :: (Ent.obj Q1 (.cells #[.slice Z2 ((d0.fL.take X2.toNat) ++ (d0.fL.drop (X2 + 1).toNat)).length P2, .int .i64 d0.fMade] 80 (0, 0))) :: H) rfl fun W9 N9 _ f => eT (RR (Z (v := .agg #[.slice Z2 ((d0.fL.take X2.toNat) ++ (d0.fL.drop (X2 + 1).toNat)).length P2, .int .i64 d0.fMade]) f (Y34 (cs := [.slice Z2 ((d0.fL.take X2.toNat) ++ (d0.fL.drop (X2 + 1).toNat)).length P2, .int .i64 d0.fMade]) rfl (ad := ⟨Q1, 0, none⟩) (own_cells (N9.ownCell 1 rfl) 0 rfl)) fun _ f => Y28 (vs := [.slice Z2 ((d0.fL.take X2.toNat) ++ (d0.fL.drop (X2 + 1).toNat)).length P2, .int .i64 d0.fMade]) (j := 0) f N9 rfl rfl (by simp [Value.oneCell', S]) (by simp) (by decide) (cs' := #[.slice Z2 ((d0.fL.take X2.toNat) ++ (d0.fL.drop (X2 + 1).toNat)).length P2, .int .i64 d0.fMade]) (by kernel_rfl) fun W10 N10 _ f => Y f 1 fun _ f => eT (wp_ret (E_rv2 f rfl (Y10 (cs := [.slice Z2 ((d0.fL.take X2.toNat) ++ (d0.fL.drop (X2 + 1).toNat)).length P2, .int .i64 d0.fMade]) (ad := ⟨Q2, 0, none⟩) f (own_cells (N10.ownCell 0 rfl) 0 rfl)) (Y11 (v := .int .i64 0) f) ?_))))
   obtain rfl := sI F10
   exact ⟨_, rfl, V1, J1, (N10.dropN 2), ⟨[.slice Z2 ((d0.fL.take X2.toNat) ++ (d0.fL.drop (X2 + 1).toNat)).length P2, .int .i64 d0.fMade], rfl, (TA0.shut B6)⟩⟩
def numR (d : List UInt8) : Int × Bool := if (Go.Num.read (d.drop 1)).2 = 0 ∧ 1 ≤ (Go.Num.read (d.drop 1)).1 ∧ (Go.Num.read (d.drop 1)).1 ≤ 1099511627776 then ((Go.Num.read (d.drop 1)).1, true) else (0, false)
def numV (d : List UInt8) : Int × Bool := if d = [] ∨ d.getD 0 0 ≠ 112 then (0, false) else numR d
def physV (m : Int) : List UInt8 := 112 :: (Go.Num.text m).1
theorem fits_most {m : Int} (h0 : 1 ≤ m) (h1 : m ≤ 1099511627776) : Go.Num.fitsB m = true := Go.Num.fitsB_iff.2 ⟨by omega, by omega⟩
theorem byte_eq (c : UInt8) : (!decide (((c).toNat : Int) = 112)) = decide (c ≠ 112) := by
 by_cases h : c = 112
 ·subst h; rfl
 ·have : ¬ ((c.toNat : Int) = 112) := fun e => h (UInt8.toNat_inj.1 (show c.toNat = 112 by omega))
  rw [decide_eq_false this, decide_eq_true h]; rfl
theorem num_tail {n : Nat} {d : List UInt8} {r : Int × Int} (hr : r = Go.Num.read (d.drop 1)) :
  (bif (!(decide (r.2 = 0))) then (some (((0 : Int), (false)))) else bif (decide (r.1 < 1)) then (some (((0 : Int), (false)))) else bif (decide ((1099511627776 : Int) < r.1)) then (some (((0 : Int), (false)))) else some ((r.1, (true))) : Option (Int × Bool)) = some (numR d) := by
 subst hr
 unfold numR
 by_cases h1 : (Go.Num.read (d.drop 1)).2 = 0
 ·rw [decide_eq_true h1, Bool.not_true, cF]
  by_cases h2 : (Go.Num.read (d.drop 1)).1 < 1
  ·rw [decide_eq_true h2, cT, if_neg (by omega)]
  ·rw [decide_eq_false h2, cF]
   by_cases h3 : (1099511627776 : Int) < (Go.Num.read (d.drop 1)).1
   ·rw [decide_eq_true h3, cT, if_neg (by omega)]
   ·rw [decide_eq_false h3, cF, if_pos ⟨h1, by omega, by omega⟩]
 ·rw [decide_eq_false h1, Bool.not_false, cT, if_neg (fun h => h1 h.1)]
theorem one_nat : (1 : Int).toNat = 1 := rfl
theorem number_run {n : Nat} {d : List UInt8} (hd : d.length ≤ 1000) : store_Number n d = some (numV d) := by
 unfold store_Number numV h_numRead
 cases d with
 | nil => rw [decide_eq_true rfl, cT, bnd, cT, if_pos (.inl rfl)]
 | cons c d =>
  have hg : getI (c :: d) (0 : Int) = some c := rfl
  rw [decide_eq_false (by simp), cF, hg, bnd, bnd, byte_eq]
  by_cases hc : c = 112
  ·rw [decide_eq_false (fun h => h hc), cF, need_t (by simp only [List.length_cons] at *; omega), need_t (by rw [List.length_drop]; omega), bnd, if_neg (by simp [hc]), one_nat]
   exact num_tail (n := n) rfl
  ·rw [decide_eq_true hc, cT, if_pos (.inr hc)]
theorem num_phys {m : Int} (h0 : 1 ≤ m) (h1 : m ≤ 1099511627776) : numV (physV m) = (m, true) := by
 unfold numV physV numR
 have e : (112 :: (Go.Num.text m).1 : List UInt8).drop 1 = (Go.Num.text m).1 := rfl
 rw [if_neg (by simp), e, Go.Num.read_text (fits_most h0 h1), if_pos ⟨rfl, h0, h1⟩]
theorem Phys_run {n : Nat} {m : Int} (h0 : 1 ≤ m) (h1 : m ≤ 1099511627776) : store_Phys n m = some (physV m, 0) := by
 unfold store_Phys h_numText physV
 have hl := Go.Num.text_len (fits_most h0 h1)
 rw [decide_eq_false (by omega), cF, bnd, decide_eq_false (by omega), cF, bnd, need_t (by simp only [List.length_cons, List.length_nil]; omega), (Go.Num.text_zero m).2 (fits_most h0 h1)]
 rfl
theorem phys_len {m : Int} (h0 : 1 ≤ m) (h1 : m ≤ 1099511627776) : (physV m).length ≤ 18 := by
 unfold physV
 have hl := Go.Num.text_len (fits_most h0 h1)
 rw [List.length_cons]; omega
def knownV (l : List TC0) : Bool := !l.any (·.fUnknown)
theorem known_run {n : Nat} (hn : 6000 < n) {l : List TC0} (hl : l.length ≤ 60) : store_known n l = some (knownV l) := by
 unfold store_known store_find knownV
 obtain ⟨b, hb, hp⟩ := index_any (n := n) z_TC0 (·.fUnknown) l (step := store_find_s1 n l) (fun k hk => by
  unfold store_find_s1 store_known_1
  rw [decide_eq_true (by omega), cT, getI_at z_TC0 hk, bnd, bnd]
  cases (l.getD k z_TC0).fUnknown with
  | false => rw [cF, need_i (by omega) (by omega)]; rfl
  | true => rw [cT]; rfl) (by
  unfold store_find_s1
  rw [decide_eq_false (by omega), cF]) (by omega)
 rw [hb, bnd]
 cases b with
 | inl i =>
  obtain ⟨h0, h1⟩ := hp
  dsimp only
  rw [bnd, h1, decide_eq_false (by omega)]; rfl
 | inr u =>
  have h1 : l.any (·.fUnknown) = false := hp
  dsimp only
  rw [bnd, h1]; rfl
structure GoodT (x : TD0) : Prop where
  few : x.fProps.length ≤ 60
  fine : ∀ g ∈ x.fProps, Fine g.fV
  short : x.fPhys.length ≤ 1000
structure GoodL (L : List TD0) : Prop where
  few : L.length ≤ 200
  each : ∀ x ∈ L, GoodT x
def okT (x : TD0) (last : Int) : Bool := (numV x.fPhys).2 && (decide (last < (numV x.fPhys).1) && (decide (checkG x.fType x.fProps = 0) && knownV x.fProps))
def scanS : List TD0 → Int → Option Int
  | [], last => some last
  | x :: r, last => bif okT x last then scanS r (numV x.fPhys).1 else none
theorem scanS_app : ∀ (l m : List TD0) (z : Int), scanS (l ++ m) z = (scanS l z).bind (scanS m)
 | [], m, z => rfl
 | x :: l, m, z => by
  rw [List.cons_append, scanS, scanS]
  cases okT x z with
  | true => rw [cT, cT, scanS_app l m]
  | false => rfl
theorem okT_spec {x : TD0} {z : Int} (h : okT x z = true) : (numV x.fPhys).2 = true ∧ z < (numV x.fPhys).1 ∧ checkG x.fType x.fProps = 0 ∧ knownV x.fProps = true := by
 unfold okT at h
 simp only [Bool.and_eq_true, decide_eq_true_eq] at h
 exact ⟨h.1, h.2.1, h.2.2.1, h.2.2.2⟩
theorem scanS_le : ∀ {l : List TD0} {z y : Int}, scanS l z = some y → z ≤ y
 | [], z, y, h => by cases h; omega
 | x :: l, z, y, h => by
  rw [scanS] at h
  cases hk : okT x z with
  | false => rw [hk] at h; cases h
  | true =>
   rw [hk, cT] at h
   have := scanS_le h
   have := (okT_spec hk).2.1
   omega
theorem scanS_mem : ∀ {l : List TD0} {z y : Int}, scanS l z = some y → ∀ x ∈ l, (numV x.fPhys).2 = true ∧ z < (numV x.fPhys).1 ∧ (numV x.fPhys).1 ≤ y ∧ checkG x.fType x.fProps = 0 ∧ knownV x.fProps = true
 | [], z, y, h, x, hx => by cases hx
 | w :: l, z, y, h, x, hx => by
  rw [scanS] at h
  cases hk : okT w z with
  | false => rw [hk] at h; cases h
  | true =>
   rw [hk, cT] at h
   obtain ⟨h1, h2, h3, h4⟩ := okT_spec hk
   rcases List.mem_cons.1 hx with rfl | hx
   ·exact ⟨h1, h2, scanS_le h, h3, h4⟩
   ·obtain ⟨k1, k2, k3, k4⟩ := scanS_mem h x hx
    exact ⟨k1, by omega, k3, k4⟩
theorem scanS_nodup : ∀ {l : List TD0} {z y : Int}, scanS l z = some y → (l.map (·.fPhys)).Nodup
 | [], z, y, h => by simp
 | w :: l, z, y, h => by
  rw [scanS] at h
  cases hk : okT w z with
  | false => rw [hk] at h; cases h
  | true =>
   rw [hk, cT] at h
   rw [List.map_cons, List.nodup_cons]
   refine ⟨fun hm => ?_, scanS_nodup h⟩
   obtain ⟨x, hx, e⟩ := List.mem_map.1 hm
   have := (scanS_mem h x hx).2.1
   rw [e] at this; omega
def checkS (L : List TD0) (made : Int) : Int := match scanS L 0 with
  | none => 2
  | some last => if made < last ∨ 1099511627776 < made then 2 else 0
theorem checkS_zero {L : List TD0} {made : Int} (h : checkS L made = 0) : ∃ last, scanS L 0 = some last ∧ 0 ≤ last ∧ last ≤ made ∧ made ≤ 1099511627776 := by
 unfold checkS at h
 cases hs : scanS L 0 with
 | none => rw [hs] at h; cases h
 | some last =>
  rw [hs] at h
  dsimp only at h
  by_cases h1 : made < last ∨ 1099511627776 < made
  ·rw [if_pos h1] at h; cases h
  ·exact ⟨last, rfl, scanS_le hs, by omega, by omega⟩
theorem checkS_of {L : List TD0} {made last : Int} (h : scanS L 0 = some last) (h1 : last ≤ made) (h2 : made ≤ 1099511627776) : checkS L made = 0 := by
 unfold checkS
 rw [h]
 dsimp only
 rw [if_neg (by omega)]
theorem checkS_two {L : List TD0} {made : Int} (h : checkS L made ≠ 0) : checkS L made = 2 := by
 unfold checkS at h ⊢
 cases hs : scanS L 0 with
 | none => rfl
 | some last =>
  rw [hs] at h
  dsimp only at h ⊢
  by_cases h1 : made < last ∨ 1099511627776 < made
  ·rw [if_pos h1]
  ·rw [if_neg h1] at h; exact absurd rfl h
theorem evS (s : TA0) : (⟨s.fL, s.fMade⟩ : TA0) = s := by cases s; rfl
theorem getT {L : List TD0} {k : Nat} (hk : k < L.length) : L.getD k z_TD0 = L[k] := by simp [List.getD, hk]
theorem scan_step {L : List TD0} {k : Nat} (hk : k < L.length) {z : Int} (h : scanS (L.take k) 0 = some z) : scanS (L.take (k + 1)) 0 = bif okT L[k] z then some (numV L[k].fPhys).1 else none := by
 rw [List.take_add_one, List.getElem?_eq_getElem hk, Option.toList_some, scanS_app, h, bnd]
 rfl
theorem scan_fail {L : List TD0} {k : Nat} (h : scanS (L.take k) 0 = none) : scanS L 0 = none := by
 have := scanS_app (L.take k) (L.drop k) 0
 rw [List.take_append_drop, h] at this
 exact this
theorem Check_run {n : Nat} (hn : 6000 < n) {s : TA0} (hg : GoodL s.fL) : store_Check n s = some (checkS s.fL s.fMade) := by
 unfold store_Check checkS
 obtain ⟨b, hb, hp⟩ := loop_inv (n := n) (step := store_Check_s1 n s) (s0 := ((0 : Int), (0 : Int))) (fun k q => q.2 = (k : Int) ∧ scanS (s.fL.take k) 0 = some q.1)
  (fun b => match b with | .inl _ => scanS s.fL 0 = none | .inr y => scanS s.fL 0 = some y) s.fL.length ⟨rfl, rfl⟩ (fun k q hk hI => by
   obtain ⟨last, i⟩ := q
   obtain ⟨e, hs⟩ := hI
   dsimp only at e hs
   subst e
   have gt := hg.each _ (List.getElem_mem hk)
   have hst := scan_step hk hs
   unfold store_Check_s1
   dsimp only
   rw [decide_eq_true (by have := hg.few; omega), cT, getI_at z_TD0 hk, bnd, getT hk, number_run gt.short, bnd]
   have hbad : okT s.fL[k] last = false → scanS s.fL 0 = none := fun h => scan_fail (k := k + 1) (by rw [hst, h]; rfl)
   cases h1 : (numV s.fL[k].fPhys).2 with
   | false => exact .inr ⟨_, by rw [Bool.not_false, cT], hbad (by unfold okT; rw [h1]; rfl)⟩
   | true =>
    rw [Bool.not_true, cF]
    by_cases h2 : (numV s.fL[k].fPhys).1 ≤ last
    ·exact .inr ⟨_, by rw [decide_eq_true h2, cT], hbad (by unfold okT; rw [decide_eq_false (by omega)]; simp)⟩
    ·rw [decide_eq_false h2, cF, schemaCheck_run hn _ gt.few gt.fine, bnd]
     by_cases h3 : checkG s.fL[k].fType s.fL[k].fProps = 0
     ·rw [decide_eq_true h3, Bool.not_true, cF, known_run hn gt.few, bnd]
      cases h4 : knownV s.fL[k].fProps with
      | false => exact .inr ⟨_, by rw [Bool.not_false, cT], hbad (by unfold okT; rw [h4]; simp)⟩
      | true =>
       refine .inl ⟨_, by rw [Bool.not_true, cF, need_i (by have := hg.few; omega) (by have := hg.few; omega)], ?_, ?_⟩
       ·dsimp only; omega
       ·rw [hst]
        have : okT s.fL[k] last = true := by
         unfold okT
         rw [h1, decide_eq_true (by omega), decide_eq_true h3, h4]; rfl
        rw [this, cT]
     ·exact .inr ⟨_, by rw [decide_eq_false h3, Bool.not_false, cT], hbad (by unfold okT; rw [decide_eq_false h3]; simp)⟩) (fun q hI => by
   obtain ⟨last, i⟩ := q
   obtain ⟨e, hs⟩ := hI
   dsimp only at e hs
   subst e
   rw [List.take_length] at hs
   unfold store_Check_s1
   dsimp only
   rw [decide_eq_false (by omega), cF]
   exact ⟨_, rfl, hs⟩) (by have := hg.few; omega)
 rw [hb, bnd]
 cases b with
 | inl u =>
  have hp' : scanS s.fL 0 = none := hp
  rw [hp']
 | inr y =>
  have hp' : scanS s.fL 0 = some y := hp
  rw [hp']
  dsimp only
  by_cases h1 : s.fMade < y
  ·rw [decide_eq_true h1, cT, if_pos (.inl h1)]
  ·rw [decide_eq_false h1, cF]
   by_cases h2 : (1099511627776 : Int) < s.fMade
   ·rw [decide_eq_true h2, cT, if_pos (.inr h2)]
   ·rw [decide_eq_false h2, cF, if_neg (by omega)]
def placeT (phys : List UInt8) (L : List TD0) : Option Nat := placeV phys (L.map (·.fPhys))
def findT (L : List TD0) (phys : List UInt8) : Option TD0 := (placeT phys L).map fun k => L.getD k z_TD0
theorem placeT_lt {phys : List UInt8} {L : List TD0} {k : Nat} (h : placeT phys L = some k) : k < L.length := by
 have := place_lt h
 simpa using this
theorem placeT_at {phys : List UInt8} {L : List TD0} {k : Nat} (h : placeT phys L = some k) : (L.getD k z_TD0).fPhys = phys := by
 have h1 := (place_some h).1
 have hk := placeT_lt h
 rw [getT hk]
 simpa [hk] using h1
theorem at_run {n : Nat} (hn : 6000 < n) {s : TA0} (hl : s.fL.length ≤ 200) (phys : List UInt8) : store_at n s phys = some (match placeT phys s.fL with | some i => (i : Int) | none => -1) := by
 unfold store_at store_find_2
 obtain ⟨b, hb, hp⟩ := loop_inv (n := n) (step := store_find_2_s1 n s.fL phys) (s0 := (0 : Int)) (fun k q => q = (k : Int) ∧ ∀ j, j < k → (s.fL.map (·.fPhys))[j]? ≠ some phys)
  (fun b => match b with | .inl i => ∃ k, i = ((k : Nat) : Int) ∧ placeT phys s.fL = some k | .inr _ => placeT phys s.fL = none) s.fL.length ⟨rfl, fun j hj => absurd hj (by omega)⟩ (fun k q hk hI => by
   obtain ⟨rfl, hf⟩ := hI
   unfold store_find_2_s1 store_at_1
   rw [decide_eq_true (by omega), cT, getI_at z_TD0 hk, bnd, bnd, getT hk]
   by_cases hp : s.fL[k].fPhys = phys
   ·exact .inr ⟨.inl ((k : Nat) : Int), by rw [decide_eq_true hp, cT], k, rfl, place_first (by simp [hk, hp]) hf⟩
   ·refine .inl ⟨_, by rw [decide_eq_false hp, cF, need_i (by omega) (by omega)], by omega, fun j hj => ?_⟩
    by_cases e : j = k
    ·subst e
     simp [hk, hp]
    ·exact hf j (by omega)) (fun q hI => by
   obtain ⟨rfl, hf⟩ := hI
   unfold store_find_2_s1
   rw [decide_eq_false (by omega), cF]
   refine ⟨_, rfl, ?_⟩
   dsimp only
   cases h : placeT phys s.fL with
   | none => rfl
   | some k => exact absurd (place_some h).1 (hf k (placeT_lt h))) (by omega)
 rw [hb, bnd]
 cases b with
 | inl i =>
  obtain ⟨k, rfl, h⟩ := hp
  rw [h]; rfl
 | inr u =>
  have h : placeT phys s.fL = none := hp
  rw [h]; rfl
theorem find_place (phys : List UInt8) : ∀ L : List TD0, L.find? (fun x => decide (x.fPhys = phys)) = findT L phys
 | [] => rfl
 | x :: L => by
  unfold findT placeT
  rw [List.find?_cons, List.map_cons, placeV]
  by_cases h : x.fPhys = phys
  ·rw [if_pos h, decide_eq_true h]; rfl
  ·rw [if_neg h, decide_eq_false h]
   have := find_place phys L
   unfold findT placeT at this
   rw [this, Option.map_map]
   congr 1
def updT (L : List TD0) (phys : List UInt8) (props : List TC0) : List TD0 := L.map fun y => if y.fPhys = phys then ⟨y.fPhys, y.fType, props⟩ else y
def delT (L : List TD0) (phys : List UInt8) : List TD0 := L.filter fun y => !decide (y.fPhys = phys)
theorem upd_none {L : List TD0} {phys : List UInt8} {props : List TC0} (h : phys ∉ L.map (·.fPhys)) : updT L phys props = L := by
 unfold updT
 have : ∀ y ∈ L, (if y.fPhys = phys then (⟨y.fPhys, y.fType, props⟩ : TD0) else y) = id y := fun y hy => by
  rw [if_neg (fun e => h (List.mem_map.2 ⟨y, hy, e⟩))]; rfl
 rw [List.map_congr_left this, List.map_id]
theorem del_none {L : List TD0} {phys : List UInt8} (h : phys ∉ L.map (·.fPhys)) : delT L phys = L := by
 unfold delT
 exact List.filter_eq_self.2 fun y hy => by rw [decide_eq_false (fun e => h (List.mem_map.2 ⟨y, hy, e⟩))]; rfl
theorem place_upd {phys : List UInt8} {props : List TC0} : ∀ {L : List TD0} {k : Nat}, (L.map (·.fPhys)).Nodup → placeT phys L = some k →
  (L.take k ++ [(⟨(L.getD k z_TD0).fPhys, (L.getD k z_TD0).fType, props⟩ : TD0)]) ++ L.drop (k + 1) = updT L phys props ∧ L.take k ++ L.drop (k + 1) = delT L phys
 | [], k, _, h => by cases h
 | x :: L, k, hd, h => by
  rw [List.map_cons, List.nodup_cons] at hd
  unfold placeT at h
  rw [List.map_cons, placeV] at h
  by_cases hx : x.fPhys = phys
  ·rw [if_pos hx] at h
   obtain rfl := Option.some.inj h
   have hno : phys ∉ L.map (·.fPhys) := hx ▸ hd.1
   have e1 := upd_none (props := props) hno
   have e2 := del_none hno
   refine ⟨?_, ?_⟩
   ·unfold updT at e1 ⊢
    rw [List.map_cons, if_pos hx, e1]; rfl
   ·unfold delT at e2 ⊢
    rw [List.filter_cons_of_neg (by simp [hx]), e2]; rfl
  ·rw [if_neg hx] at h
   obtain ⟨j, hj, rfl⟩ := Option.map_eq_some_iff.1 h
   obtain ⟨e1, e2⟩ := place_upd (props := props) hd.2 hj
   refine ⟨?_, ?_⟩
   ·have : updT (x :: L) phys props = x :: updT L phys props := by
     unfold updT; rw [List.map_cons, if_neg hx]
    rw [this, ← e1]; rfl
   ·have : delT (x :: L) phys = x :: delT L phys := by
     unfold delT; rw [List.filter_cons_of_pos (by simp [hx])]
    rw [this, ← e2]; rfl
theorem find_of_mem : ∀ {L : List TD0} {y : TD0}, (L.map (·.fPhys)).Nodup → y ∈ L → findT L y.fPhys = some y
 | [], y, _, h => by cases h
 | x :: L, y, hd, h => by
  rw [← find_place, List.find?_cons]
  rw [List.map_cons, List.nodup_cons] at hd
  rcases List.mem_cons.1 h with rfl | h
  ·rw [decide_eq_true rfl]
  ·have : x.fPhys ≠ y.fPhys := fun e => hd.1 (e ▸ List.mem_map.2 ⟨y, h, rfl⟩)
   rw [decide_eq_false this, find_place]
   exact find_of_mem hd.2 h
theorem findT_some {L : List TD0} {phys : List UInt8} {x : TD0} (h : findT L phys = some x) : x ∈ L ∧ x.fPhys = phys ∧ ∃ k, placeT phys L = some k ∧ L.getD k z_TD0 = x := by
 unfold findT at h
 obtain ⟨k, hk, rfl⟩ := Option.map_eq_some_iff.1 h
 refine ⟨?_, placeT_at hk, k, hk, rfl⟩
 rw [getT (placeT_lt hk)]
 exact List.getElem_mem _
theorem findT_none {L : List TD0} {phys : List UInt8} (h : findT L phys = none) : placeT phys L = none ∧ phys ∉ L.map (·.fPhys) := by
 unfold findT at h
 have := Option.map_eq_none_iff.1 h
 exact ⟨this, place_none this⟩
def createS (s : TA0) (kind : List UInt8) (props : List TC0) : TA0 × List UInt8 × Int :=
  if checkS s.fL s.fMade ≠ 0 then (z_TA0, [], 2) else if checkG kind props ≠ 0 then (z_TA0, [], checkG kind props) else if knownV props = false then (z_TA0, [], 91) else
  if s.fMade = 1099511627776 then (z_TA0, [], 3) else (⟨s.fL ++ [⟨physV (s.fMade + 1), kind, props⟩], s.fMade + 1⟩, physV (s.fMade + 1), 0)
def badU (x : TD0) (props : List TC0) : Bool := !knownV props || (!decide ((differV x.fType x.fProps props).2 = 0) || decide ((differV x.fType x.fProps props).1 = 3))
def updateS (s : TA0) (phys : List UInt8) (props : List TC0) : TA0 × Int :=
  if checkS s.fL s.fMade ≠ 0 then (z_TA0, 2) else match findT s.fL phys with
  | none => (z_TA0, 4)
  | some x => if checkG x.fType props ≠ 0 then (z_TA0, checkG x.fType props) else if badU x props = true then (z_TA0, 91) else (⟨updT s.fL phys props, s.fMade⟩, 0)
def deleteS (s : TA0) (phys : List UInt8) : TA0 × Int :=
  if checkS s.fL s.fMade ≠ 0 then (z_TA0, 2) else match findT s.fL phys with
  | none => (z_TA0, 4)
  | some x => (⟨delT s.fL phys, s.fMade⟩, 0)
structure GoodP (l : List TC0) : Prop where
  few : l.length ≤ 60
  fine : ∀ g ∈ l, Fine g.fV
theorem Create_run {n : Nat} (hn : 6000 < n) {s : TA0} (hg : GoodL s.fL) (kind : List UInt8) {props : List TC0} (hp : GoodP props) : store_Create n s kind props = some (createS s kind props) := by
 unfold store_Create createS
 rw [evS, Check_run hn hg, bnd]
 by_cases h1 : checkS s.fL s.fMade = 0
 ·obtain ⟨last, hs, hl0, hl1, hl2⟩ := checkS_zero h1
  rw [decide_eq_true h1, cT, schemaCheck_run hn kind hp.few hp.fine, bnd, bnd, if_neg (fun h => h h1)]
  by_cases h2 : checkG kind props = 0
  ·rw [decide_eq_true h2, Bool.not_true, cF, known_run hn hp.few, bnd, if_neg (fun h => h h2)]
   cases h3 : knownV props with
   | false => rw [Bool.not_false, cT, if_pos rfl]
   | true =>
    rw [Bool.not_true, cF, if_neg (by decide)]
    by_cases h4 : s.fMade = 1099511627776
    ·rw [decide_eq_true h4, cT, if_pos h4]
    ·have hf := hg.few
     rw [decide_eq_false h4, cF, if_neg h4, need_t (inR_mk.2 ⟨by omega, by omega⟩), Phys_run (by omega) (by omega), bnd, need_t (by omega), need_t (by rw [List.length_take]; omega)]
     have e : s.fL.take (((s.fL.length : Nat) : Int)).toNat = s.fL := by rw [Int.toNat_natCast, List.take_length]
     rw [e]
  ·rw [decide_eq_false h2, Bool.not_false, cT, if_pos h2]
 ·rw [decide_eq_false h1, cF, bnd, decide_eq_false h1, Bool.not_false, cT, if_pos h1, checkS_two h1]
theorem bad_run {n : Nat} {kn : Bool} {d : Int × Int} (x : TD0) {props : List TC0} (hk : kn = knownV props) (hd : d = differV x.fType x.fProps props) :
  (bif !kn then (some ((true))) else bif (!(decide (d.2 = 0))) then (some ((true))) else some ((decide (d.1 = 3))) : Option Bool) = some (badU x props) := by
 subst hk; subst hd
 unfold badU
 cases knownV props <;> cases decide ((differV x.fType x.fProps props).2 = 0) <;> rfl
theorem Update_run {n : Nat} (hn : 6000 < n) {s : TA0} (hg : GoodL s.fL) (phys : List UInt8) {props : List TC0} (hp : GoodP props) : store_Update n s phys props = some (updateS s phys props) := by
 unfold store_Update updateS
 have hf := hg.few
 rw [evS, Check_run hn hg, bnd]
 by_cases h1 : checkS s.fL s.fMade = 0
 ·obtain ⟨last, hs, hl0, hl1, hl2⟩ := checkS_zero h1
  rw [decide_eq_true h1, Bool.not_true, cF, at_run hn hf, bnd, if_neg (fun h => h h1)]
  cases hfd : findT s.fL phys with
  | none => rw [(findT_none hfd).1]; rfl
  | some x =>
   obtain ⟨hm, hph, k, hk, hx⟩ := findT_some hfd
   have hkl := placeT_lt hk
   have gx := hg.each _ hm
   rw [hk]
   dsimp only
   rw [decide_eq_false (by omega), cF, getI_at z_TD0 hkl, bnd, hx, schemaCheck_run hn _ hp.few hp.fine, bnd]
   by_cases h2 : checkG x.fType props = 0
   ·rw [decide_eq_true h2, Bool.not_true, cF, if_neg (fun h => h h2), Differ_run hn _ gx.few hp.few gx.fine hp.fine, bnd, known_run hn hp.few, bnd, bad_run (n := n) x rfl rfl, bnd]
    cases badU x props with
    | true => rw [cT, if_pos rfl]
    | false =>
     have e1 : ((k : Nat) : Int).toNat = k := Int.toNat_natCast k
     have e2 : (((k : Nat) : Int) + 1).toNat = k + 1 := by omega
     obtain ⟨pu, _⟩ := place_upd (props := props) (scanS_nodup hs) hk
     rw [hx] at pu
     rw [cF, if_neg (by decide), e1, e2, need_t ⟨by omega, by omega⟩, need_i (by omega) (by omega), need_t ⟨by omega, by omega⟩, need_t (by rw [List.length_take]; omega), need_t (by simp only [List.length_append, List.length_take, List.length_cons, List.length_nil, List.length_drop]; omega), pu, bnd]
   ·rw [decide_eq_false h2, Bool.not_false, cT, if_pos h2]
 ·rw [decide_eq_false h1, Bool.not_false, cT, if_pos h1]
theorem Delete_run {n : Nat} (hn : 6000 < n) {s : TA0} (hg : GoodL s.fL) (phys : List UInt8) : store_Delete n s phys = some (deleteS s phys) := by
 unfold store_Delete deleteS
 have hf := hg.few
 rw [evS, Check_run hn hg, bnd]
 by_cases h1 : checkS s.fL s.fMade = 0
 ·obtain ⟨last, hs, hl0, hl1, hl2⟩ := checkS_zero h1
  rw [decide_eq_true h1, Bool.not_true, cF, at_run hn hf, bnd, if_neg (fun h => h h1)]
  cases hfd : findT s.fL phys with
  | none => rw [(findT_none hfd).1]; rfl
  | some x =>
   obtain ⟨hm, hph, k, hk, hx⟩ := findT_some hfd
   have hkl := placeT_lt hk
   rw [hk]
   dsimp only
   have e1 : ((k : Nat) : Int).toNat = k := Int.toNat_natCast k
   have e2 : (((k : Nat) : Int) + 1).toNat = k + 1 := by omega
   obtain ⟨_, pd⟩ := place_upd (props := []) (scanS_nodup hs) hk
   rw [decide_eq_false (by omega), cF, e1, e2, need_t ⟨by omega, by omega⟩, need_i (by omega) (by omega), need_t ⟨by omega, by omega⟩, need_t (by simp only [List.length_take, List.length_drop]; omega), pd]
 ·rw [decide_eq_false h1, Bool.not_false, cT, if_pos h1]
theorem sameG_self (x : TC0) : sameG x x = true := by
 unfold sameG
 rw [decide_eq_true rfl, decide_eq_true rfl, beq_self_eq_true, Bool.or_true]; rfl
theorem same_self9 {l : List TC0} : (decide (l.length = l.length) && !((List.range l.length).any fun k => !sameG (l.getD k z_TC0) (l.getD k z_TC0))) = true := by
 rw [decide_eq_true rfl, Bool.true_and]
 have : ((List.range l.length).any fun k => !sameG (l.getD k z_TC0) (l.getD k z_TC0)) = false := by
  rw [List.any_eq_false]; intro k _; rw [sameG_self]; simp
 rw [this]; rfl
theorem SameR_self {n : Nat} (hn : 6000 < n) {l : List TC0} (hp : GoodP l) : ref09_Same n l l = some true := by
 rw [Same_ref hn hp.few hp.fine hp.fine, same_self9]
theorem GoodT.props {x : TD0} (h : GoodT x) : GoodP x.fProps := ⟨h.few, h.fine⟩
theorem good_z : GoodL z_TA0.fL := ⟨by decide, fun x hx => by cases hx⟩
theorem good_create {s : TA0} (hg : GoodL s.fL) (hl : s.fL.length < 200) (kind : List UInt8) {props : List TC0} (hp : GoodP props) : GoodL (createS s kind props).1.fL := by
 unfold createS
 by_cases h1 : checkS s.fL s.fMade = 0
 ·obtain ⟨last, hs, hl0, hl1, hl2⟩ := checkS_zero h1
  rw [if_neg (fun h => h h1)]
  split
  ·exact good_z
  ·split
   ·exact good_z
   ·split
    ·exact good_z
    ·refine ⟨by simp only [List.length_append, List.length_cons, List.length_nil]; omega, fun x hx => ?_⟩
     rcases List.mem_append.1 hx with h | h
     ·exact hg.each x h
     ·rw [List.mem_singleton.1 h]
      exact ⟨hp.few, hp.fine, by have := phys_len (m := s.fMade + 1) (by omega) (by omega); show (physV (s.fMade + 1)).length ≤ 1000; omega⟩
 ·rw [if_pos h1]; exact good_z
theorem good_upd {L : List TD0} (hg : GoodL L) (phys : List UInt8) {props : List TC0} (hp : GoodP props) : GoodL (updT L phys props) := by
 refine ⟨by unfold updT; rw [List.length_map]; exact hg.few, fun x hx => ?_⟩
 unfold updT at hx
 obtain ⟨y, hy, rfl⟩ := List.mem_map.1 hx
 have gy := hg.each y hy
 split
 ·exact ⟨hp.few, hp.fine, gy.short⟩
 ·exact gy
theorem good_del {L : List TD0} (hg : GoodL L) (phys : List UInt8) : GoodL (delT L phys) := by
 unfold delT
 refine ⟨by have := List.length_filter_le (fun y : TD0 => !decide (y.fPhys = phys)) L; have := hg.few; omega, fun x hx => hg.each x (List.mem_filter.1 hx).1⟩
theorem good_update {s : TA0} (hg : GoodL s.fL) (phys : List UInt8) {props : List TC0} (hp : GoodP props) : GoodL (updateS s phys props).1.fL := by
 unfold updateS
 split
 ·exact good_z
 ·split
  ·exact good_z
  ·split
   ·exact good_z
   ·split
    ·exact good_z
    ·exact good_upd hg phys hp
theorem good_delete {s : TA0} (hg : GoodL s.fL) (phys : List UInt8) : GoodL (deleteS s phys).1.fL := by
 unfold deleteS
 split
 ·exact good_z
 ·split
  ·exact good_z
  ·exact good_del hg phys
def cloud_New (n : Nat) : Option Unit :=
  some (())
theorem cloud_New_ok (n : Nat) (M : Mem) (hG : GL M) (r : Unit) (hF : cloud_New n = some r) : OkH Tryz.prog M [] 19 [] (fun M' E' v => ∃ (b0 : Nat) (b0m0 : Nat), v = .pointer (some ⟨b0, 0, none⟩) ∧ E' = [Ent.obj b0 (.cells #[.slice none 0 0, .int .i64 0, .slice none 0 0, .map (some b0m0), .slice none 0 0, .int .i64 0] 82 (0, 0)), Ent.obj b0m0 (mapO (Value.int .i64) (fun x : TB0 => Value.agg #[.bool x.fEnded, .bool x.fOk, S x.fPhys]) ([] : List (Int × TB0)))]) := by
 unfold cloud_New at hF
 intro M1 hM0 w0 H w p0
 replace hG := GL.mono hM0 hG
 refine R_enter 4 Tryz.func19 rfl rfl (by simp) fun a0 f0 => RR (Y f0 1 fun _ f => eT (RR (W_newmap (Value.int .i64) (fun x : TB0 => Value.agg #[.bool x.fEnded, .bool x.fOk, S x.fPhys]) f p0 (by kernel_rfl) (by kernel_rfl) rfl rfl rfl fun o1 W1 N1 _ f => Y f 1 fun _ f => Y12 f N1 (.cells #[.slice none 0 0, .int .i64 0, .slice none 0 0, .map (some o1), .slice none 0 0, .int .i64 0] 82 (0, 0)) fun Q1 W2 N2 _ f => Y f 1 fun _ f => eT (wp_ret (E_ret1 f rfl (by kernel_rfl : Vc.look _ 0 = some (.pointer (some (⟨Q1, 0, none⟩)))) ?_)))))
 obtain rfl := sI hF
 exact ⟨_, rfl, M1, _, (mR _), N2, ⟨Q1, o1, rfl, rfl⟩⟩
def cloud_check_1 (n : Nat) (d0 : TC0) : Option Bool :=
  some ((d0.fUnknown))
theorem cloud_check_1_ok (n : Nat) (M : Mem) (hG : GL M) (c0 : List Value) (d0 : TC0) (h0 : Rep M (emb_TC0 d0) c0) (r : Bool) (hF : cloud_check_1 n d0 = some r) : Ok Tryz.prog M 60 [.agg c0.toArray] (fun _ v => v = .bool r) := by
 unfold cloud_check_1 at hF
 intro M1 hM0 w0 H w p0
 replace hG := GL.mono hM0 hG
 replace h0 := Rep.mono hM0 _ _ h0
 obtain ⟨Z1, P1, Z2, P2, rfl, B1, B2⟩ := TC0.opn h0
 refine R_enter 5 Tryz.func60 rfl rfl (by simp) fun a0 f0 => RR (Y13 (cs := #[S d0.fName, .bool d0.fUnknown, .int .i8 d0.fV.fKind, .bool d0.fV.fBool, .int .i64 d0.fV.fNum, S d0.fV.fText, .slice Z1 d0.fV.fList.length P1, .slice Z2 d0.fV.fKeys.length P2]) (T := 77) f0 p0 fun Q1 V1 W1 J1 R1 N1 _ f => ?_)
 have R2 := fz_box R1
 refine Y f 1 fun _ f => eT (RR (Y f 1 fun _ f => Y15 f N1 R2 1 rfl fun _ f => Y f 1 fun _ f => eT (wp_ret (E_ret1 f rfl (by kernel_rfl : Vc.look _ 2 = some (.bool d0.fUnknown)) ?_))))
 obtain rfl := sI hF
 exact ⟨_, rfl, V1, J1, N1, rfl⟩
def slices_IndexFuncapi_Given_api_Given_2_s1 (n : Nat) (d0 : List TC0) (K1 : Int) : Option (Lp Int (Sum Int Unit)) :=
    bif (decide (K1 < ((d0.length : Nat) : Int))) then
      ((getI d0 K1).bind fun X1 =>
      (cloud_check_1 n X1).bind fun X2 =>
      bif X2 then
        (some (.br (.inl K1)))
      else
        need (inR .i64 (K1 + 1)) <|
        some (.nx (K1 + 1)))
    else
      some (.br (.inr ()))
def slices_IndexFuncapi_Given_api_Given_2 (n : Nat) (d0 : List TC0) : Option Int :=
  (loopF (slices_IndexFuncapi_Given_api_Given_2_s1 n d0) n (0 : Int)).bind fun Q1 =>
  (match Q1 with 
  | .inl G1 => some (G1) 
  | .inr G2 => some ((-1 : Int)))
theorem slices_IndexFuncapi_Given_api_Given_2_ok (n : Nat) (M : Mem) (hG : GL M) (A0 : Option Addr) (cap0 : Nat) (d0 : List TC0) (h0 : Sli M 8 emb_TC0 A0 cap0 d0) (r : Int) (hF : slices_IndexFuncapi_Given_api_Given_2 n d0 = some r) : Ok Tryz.prog M 81 [.slice A0 d0.length cap0, .func (.func 60) #[] #[]] (fun _ v => v = .int .i64 r) := by
 unfold slices_IndexFuncapi_Given_api_Given_2 at hF
 intro M1 hM0 w0 H w p0
 replace hG := GL.mono hM0 hG
 replace h0 := h0.mono hM0
 refine R_enter 19 Tryz.func81 rfl rfl (by simp) fun a0 f0 => RR (Y f0 1 fun _ f => eT (R_seq (RR (Y f 3 fun _ f => eT (wp_block ?_)))))
 obtain ⟨Q1, hL_1, F1⟩ := bS hF
 refine wp_mono (Q := fun e a w => (e = .ret ∧ (∃ G1 : Int, Q1 = .inl G1 ∧ ∃ V2 : Mem, M1.le V2 ∧ Frm 19 [(4, .int .i64 G1)] a ∧ Hp w0 V2 (H) w)) ∨ (e = .exit 0 ∧ (∃ G2 : Unit, Q1 = .inr G2 ∧ ∃ V3 : Mem, M1.le V3 ∧ Frm 19 [] a ∧ Hp w0 V3 (H) w))) (R_loop (n := 19) (w0 := w0) (M := M1) (fun (x : Nat × Int) => match x with | (I1, K1) => [(0, .slice A0 d0.length cap0), (1, .func (.func 60) #[] #[]), (7, .int .i64 ((d0.length : Nat) : Int)), (8, .int .i64 K1)]) (fun (x : Nat × Int) => match x with | (I1, K1) => (H)) (fun (x : Nat × Int) (MM : Mem) => match x with | (I1, K1) => loopF (slices_IndexFuncapi_Given_api_Given_2_s1 n d0) I1 K1 = some Q1) (fun (x : Nat × Int) => match x with | (I1, K1) => I1) (n, (0 : Int)) (f.kp) p0 hL_1 ?_) ?_
 ·rintro ⟨I1, K1⟩ V1 _ W1 J1 I_1 f N1
  have I_1L := I_1
  obtain ⟨I2, r_1, rfl, hs_1, T1⟩ := loop_step I_1L
  unfold slices_IndexFuncapi_Given_api_Given_2_s1 at hs_1
  refine RR (Y f 1 fun _ f => eT (R_seq (RcF f hs_1 (fun B1 F2 => ?_) fun B1 F8 => ?_)))
  ·have U1 := dI.1 B1
   refine wp_skip (T_n (R_seq (wp_block (RR (Y f 2 fun _ f => eT (RR (Y f 3 fun _ f => ?_)))))))
   obtain ⟨X1, S1, F3⟩ := bS F2
   obtain ⟨C1, c_1, e_1, -, D1, R1⟩ := Sli.at_ (h0.mono J1) S1
   obtain ⟨Z1, P1, Z2, P2, rfl, B2, B3⟩ := TC0.opn D1
   refine Z f (Y32 e_1 rfl (len := d0.length) (cap := cap0) (k := .i64) (i := K1) (e := 77) (sz := 8) (getI_nn S1) (getI_lt S1)) fun _ f => Z (v := .agg #[S X1.fName, .bool X1.fUnknown, .int .i8 X1.fV.fKind, .bool X1.fV.fBool, .int .i64 X1.fV.fNum, S X1.fV.fText, .slice Z1 X1.fV.fList.length P1, .slice Z2 X1.fV.fKeys.length P2]) f (Y34 (cs := [S X1.fName, .bool X1.fUnknown, .int .i8 X1.fV.fKind, .bool X1.fV.fBool, .int .i64 X1.fV.fNum, S X1.fV.fText, .slice Z1 X1.fV.fList.length P1, .slice Z2 X1.fV.fKeys.length P2]) rfl (ad := C1.add (K1.toNat * 8)) (fun j v h => N1.cell (R1 j v h))) fun _ f => ?_
   obtain ⟨X2, S2, F4⟩ := bS F3
   refine Y18 f N1 (cloud_check_1_ok n _ (GL.mono J1 hG) _ X1 (TC0.shutx (x := X1) B2 B3) X2 S2) fun W2 N2 _ f => eT (RcF f F4 (fun B4 F5 => ?_) fun B4 F6 => ?_)
   ·refine RR (Y f 2 fun _ f => eT (wp_ret (B_r (T_r (T_r ?_)))))
    obtain rfl := sI F5
    exact .inl ⟨rfl, K1, (sI T1).symm, V1, J1, f.kp, N2⟩
   ·refine wp_skip (B_n (T_n (R_reg ?_)))
    obtain ⟨O1, F7⟩ := nS F6
    refine Y f 1 fun _ f => ?_
    have f := f.st 18 (iW O1)
    refine Y f 1 fun _ f => eT ?_
    obtain rfl := sI F7
    exact ⟨⟨I2, K1 + 1⟩, Nat.lt_succ_self _, V1, J1, T1, f.kp, N2⟩
  ·have U4 := iff_f dI B1
   refine wp_exit (T_x (T_x ?_))
   obtain rfl := sI F8
   exact .inr ⟨rfl, (), (sI T1).symm, V1, J1, f.kp, N1⟩
 ·rintro _ _ W5 (⟨rfl, G1, rfl, V2, J2, f, N3⟩ | ⟨rfl, G2, rfl, V3, J3, f, N4⟩)
  ·refine B_r (T_r (E_ret1 f rfl (by kernel_rfl : Vc.look _ 4 = some (.int .i64 G1)) ?_))
   obtain rfl := sI F1
   exact ⟨_, rfl, V2, J2, N3, rfl⟩
  ·refine B_x (T_n (RR (Y f 1 fun _ f => eT (wp_ret (E_ret1 f rfl (by kernel_rfl : Vc.look _ 4 = some (.int .i64 (-1))) ?_)))))
   obtain rfl := sI F1
   exact ⟨_, rfl, V3, J3, N4, rfl⟩
def slices_ContainsFuncapi_Given_api_Given_2 (n : Nat) (d0 : List TC0) : Option Bool :=
  (slices_IndexFuncapi_Given_api_Given_2 n d0).bind fun X1 =>
  some ((decide ((0 : Int) ≤ X1)))
theorem slices_ContainsFuncapi_Given_api_Given_2_ok (n : Nat) (M : Mem) (hG : GL M) (A0 : Option Addr) (cap0 : Nat) (d0 : List TC0) (h0 : Sli M 8 emb_TC0 A0 cap0 d0) (r : Bool) (hF : slices_ContainsFuncapi_Given_api_Given_2 n d0 = some r) : Ok Tryz.prog M 59 [.slice A0 d0.length cap0, .func (.func 60) #[] #[]] (fun _ v => v = .bool r) := by
 unfold slices_ContainsFuncapi_Given_api_Given_2 at hF
 intro M1 hM0 w0 H w p0
 replace hG := GL.mono hM0 hG
 replace h0 := h0.mono hM0
 refine R_enter 9 Tryz.func59 rfl rfl (by simp) fun a0 f0 => RR (Y f0 1 fun _ f => eT (RR (Y f 2 fun _ f => ?_)))
 obtain ⟨X1, S1, F1⟩ := bS hF
 refine Y18 f p0 (slices_IndexFuncapi_Given_api_Given_2_ok n _ hG A0 cap0 d0 h0 X1 S1) fun W1 N1 _ f => Y f 2 fun _ f => eT (wp_ret (E_ret1 f rfl (by kernel_rfl : Vc.look _ 4 = some (.bool (decide ((0 : Int) ≤ X1)))) ?_))
 obtain rfl := sI F1
 exact ⟨_, rfl, M1, (mR _), N1, rfl⟩
def cloud_check (n : Nat) (d0_0 : Int) (d0_1 : Int) (d0_2 : List UInt8) (d0_3 : List UInt8) (d0_4 : List TC0) : Option (Int × Int × Int × List UInt8 × List UInt8 × List TC0) :=
  ((((bif (decide (d0_0 < 1)) then
        (some ((decide (d0_0 < 1))))
      else
        bif (decide (d0_1 < 0)) then
          (some ((decide (d0_1 < 0))))
        else
          bif (decide ((2 : Int) < d0_1)) then
            (some ((decide ((2 : Int) < d0_1))))
          else
            some ((!((decide (d0_1 = 0)) == (decide (d0_2 = []))))) : Option Bool)).bind fun G1 =>
    bif G1 then
      (((some (((2 : Int), d0_0, d0_1, d0_2, d0_3, d0_4)) : Option (Int × Int × Int × List UInt8 × List UInt8 × List TC0))).map Lp.br)
    else
      ((bif (decide (d0_1 = 2)) then
          (some ((decide ((0 : Int) < ((d0_4.length : Nat) : Int)))))
        else
          some ((false)) : Option Bool)).bind fun G2 =>
      ((bif G2 then
          (some ((G2)))
        else
          bif (decide (d0_1 = 1)) then
            (some ((decide (d0_3 = []))))
          else
            some ((false)) : Option Bool)).bind fun G3 =>
      bif G3 then
        (((some (((2 : Int), d0_0, d0_1, d0_2, d0_3, d0_4)) : Option (Int × Int × Int × List UInt8 × List UInt8 × List TC0))).map Lp.br)
      else
        bif (decide (d0_1 = 2)) then
          (((some (((0 : Int), d0_0, d0_1, d0_2, d0_3, d0_4)) : Option (Int × Int × Int × List UInt8 × List UInt8 × List TC0))).map Lp.br)
        else
          (slices_ContainsFuncapi_Given_api_Given_2 n d0_4).bind fun X1 =>
          bif X1 then
            (((some (((2 : Int), d0_0, d0_1, d0_2, d0_3, d0_4)) : Option (Int × Int × Int × List UInt8 × List UInt8 × List TC0))).map Lp.br)
          else
            some (.nx ()) : Option (Lp Unit (Int × Int × Int × List UInt8 × List UInt8 × List TC0)))).bind fun j => joinF j fun G4 =>
  (schema_Check n d0_3 d0_4).bind fun X2 =>
  some ((X2, d0_0, d0_1, d0_2, d0_3, d0_4))
set_option maxRecDepth 20000 in
theorem cloud_check_ok (n : Nat) (M : Mem) (hG : GL M) (b0 : Nat) (d0_0 : Int) (d0_1 : Int) (d0_2 : List UInt8) (d0_3 : List UInt8) (d0_4 : List TC0) (Z1 : Option Addr) (P1 : Nat) (B1 : Sli M 8 emb_TC0 Z1 P1 d0_4) (r : Int × Int × Int × List UInt8 × List UInt8 × List TC0) (hF : cloud_check n d0_0 d0_1 d0_2 d0_3 d0_4 = some r) : OkH Tryz.prog M [Ent.obj b0 (.cells #[.int .i64 d0_0, .int .i8 d0_1, S d0_2, S d0_3, .slice Z1 d0_4.length P1] 42 (0, 0))] 40 [.pointer (some (⟨b0, 0, none⟩))] (fun M' E' v => ∃ (Z2 : Option Addr) (P2 : Nat), v = .int .i64 r.1 ∧ E' = [Ent.obj b0 (.cells #[.int .i64 r.2.1, .int .i8 r.2.2.1, S r.2.2.2.1, S r.2.2.2.2.1, .slice Z2 r.2.2.2.2.2.length P2] 42 (0, 0))] ∧ Sli M' 8 emb_TC0 Z2 P2 r.2.2.2.2.2) := by
 unfold cloud_check at hF
 intro M1 hM0 w0 H w p0
 replace hG := GL.mono hM0 hG
 replace B1 := B1.mono hM0
 refine R_enter 77 Tryz.func40 rfl rfl (by simp) fun a0 f0 => RR (Y f0 1 fun _ f => eT (R_seq (R_draw p0 (by kernel_rfl) (by kernel_rfl) (Y5 default f 3 fun _ f => Y2 (v := .int .i8 d0_1) f (fun _ pq => Y33 (v := .int .i8 d0_1) rfl (ad := ⟨b0, 1, none⟩) (pq.ownCell 0 rfl 1)) fun _ f => Y5 default f 4 fun _ f => Y2 (v := .int .i8 d0_1) f (fun _ pq => Y33 (v := .int .i8 d0_1) rfl (ad := ⟨b0, 1, none⟩) (pq.ownCell 0 rfl 1)) fun _ f => Y5 default f 3 fun _ f => Q_end rfl ?_))))
 intro W1 N1
 refine T_n (R_seq ?_)
 obtain ⟨j_1, hj_1, F1⟩ := bS hF
 refine R_mid (fun a_45 W6 => ∃ G4 : Unit, j_1 = .nx G4 ∧ ∃ V4 : Mem, M1.le V4 ∧ Frm 77 [(0, .pointer (some (⟨b0, 0, none⟩)))] a_45 ∧ Hp w0 V4 ((Ent.obj b0 (.cells #[.int .i64 d0_0, .int .i8 d0_1, S d0_2, S d0_3, .slice Z1 d0_4.length P1] 42 (0, 0))) :: H) W6) ?_ ?_
 ·refine wp_block (R_seq (RR (Y f 3 fun _ f => Z f (Y33 (v := .int .i64 d0_0) rfl (ad := ⟨b0, 0, none⟩) (N1.ownCell 0 rfl 0)) fun _ f => Y f 2 fun _ f => eT ?_)))
  obtain ⟨j_2, hj_2, F2⟩ := bS hj_1
  refine R_mid (fun a_20 W2 => ∃ G1 : Bool, j_2 = G1 ∧ ∃ V1 : Mem, M1.le V1 ∧ Frm 77 [(0, .pointer (some (⟨b0, 0, none⟩))), (4, .bool (decide (d0_1 = 2))), (15, .bool G1)] a_20 ∧ Hp w0 V1 ((Ent.obj b0 (.cells #[.int .i64 d0_0, .int .i8 d0_1, S d0_2, S d0_3, .slice Z1 d0_4.length P1] 42 (0, 0))) :: H) W2) ?_ ?_
  ·refine RcF f hj_2 (fun B2 F3 => ?_) fun B2 F4 => ?_
   ·have U1 := dI.1 B2
    refine wp_skip (T_n ?_)
    exact ⟨(decide (d0_0 < 1)), (sI F3).symm, M1, (mR _), f.kp, N1⟩
   ·have U2 := iff_f dI B2
    refine RR (Y f 3 fun _ f => Z f (Y33 (v := .int .i8 d0_1) rfl (ad := ⟨b0, 1, none⟩) (N1.ownCell 0 rfl 1)) fun _ f => Y f 2 fun _ f => eT (RcF f F4 (fun B3 F5 => ?_) fun B3 F6 => ?_))
    ·have U3 := dI.1 B3
     refine wp_skip (T_n ?_)
     exact ⟨(decide (d0_1 < 0)), (sI F5).symm, M1, (mR _), f.kp, N1⟩
    ·have U4 := iff_f dI B3
     refine RR (Y f 3 fun _ f => Z f (Y33 (v := .int .i8 d0_1) rfl (ad := ⟨b0, 1, none⟩) (N1.ownCell 0 rfl 1)) fun _ f => Y f 2 fun _ f => eT (RcF f F6 (fun B4 F7 => ?_) fun B4 F8 => ?_))
     ·have U5 := dI.1 B4
      refine wp_skip (T_n ?_)
      exact ⟨(decide ((2 : Int) < d0_1)), (sI F7).symm, M1, (mR _), f.kp, N1⟩
     ·have U6 := iff_f dI B4
      refine R_reg (Y f 4 fun _ f => Z f (Y33 (v := S d0_2) rfl (ad := ⟨b0, 2, none⟩) (N1.ownCell 0 rfl 2)) fun _ f => Z f (Y40 rfl (l := d0_2) (m := [])) fun _ f => Y f 2 fun _ f => eT ?_)
      exact ⟨(!((decide (d0_1 = 0)) == (decide (d0_2 = [])))), (sI F8).symm, M1, (mR _), f.kp, N1⟩
  ·rintro a_20 W2 ⟨G1, hq_1, V1, J1, f, N2⟩
   subst j_2
   refine T_n (RcF f F2 (fun B5 F9 => ?_) fun B5 F11 => ?_)
   ·refine RR (Y f 1 fun _ f => eT (wp_ret (B_r ?_)))
    have F10 := br_elim F9 F1
    refine T_r (T_r (E_ret1 f rfl (by kernel_rfl : Vc.look _ 2 = some (.int .i64 2)) ?_))
    obtain rfl := sI F10
    exact ⟨_, rfl, V1, _, J1, N2, ⟨Z1, P1, rfl, rfl, (B1.mono J1)⟩⟩
   ·refine R_seq (R_seq ?_)
    obtain ⟨j_3, hj_3, F12⟩ := bS F11
    refine R_mid (fun a_27 W3 => ∃ G2 : Bool, j_3 = G2 ∧ ∃ V2 : Mem, V1.le V2 ∧ Frm 77 [(0, .pointer (some (⟨b0, 0, none⟩))), (4, .bool (decide (d0_1 = 2))), (38, .bool G2)] a_27 ∧ Hp w0 V2 ((Ent.obj b0 (.cells #[.int .i64 d0_0, .int .i8 d0_1, S d0_2, S d0_3, .slice Z1 d0_4.length P1] 42 (0, 0))) :: H) W3) ?_ ?_
    ·refine R_reg (Y f 2 fun _ f => ?_)
     rcases cE hj_3 with ⟨B6, F13⟩ | ⟨B6, F14⟩
     ·have U9 := dI.1 B6
      have f := f.st 40 (cB B6)
      refine Y f 3 fun _ f => Z f (Y33 (v := .slice Z1 d0_4.length P1) rfl (ad := ⟨b0, 4, none⟩) (N2.ownCell 0 rfl 4)) fun _ f => Y f 4 fun _ f => eT ?_
      exact ⟨(decide ((0 : Int) < ((d0_4.length : Nat) : Int))), (sI F13).symm, V1, (mR _), f.kp, N2⟩
     ·have U10 := iff_f dI B6
      have f := f.st 40 (cB B6)
      refine Y f 8 fun _ f => eT ?_
      exact ⟨(false), (sI F14).symm, V1, (mR _), f.kp, N2⟩
    ·rintro a_27 W3 ⟨G2, hq_2, V2, J2, f, N3⟩
     subst j_3
     refine T_n ?_
     obtain ⟨j_4, hj_4, F15⟩ := bS F12
     refine R_mid (fun a_36 W4 => ∃ G3 : Bool, j_4 = G3 ∧ ∃ V3 : Mem, V2.le V3 ∧ Frm 77 [(0, .pointer (some (⟨b0, 0, none⟩))), (4, .bool (decide (d0_1 = 2))), (38, .bool G3)] a_36 ∧ Hp w0 V3 ((Ent.obj b0 (.cells #[.int .i64 d0_0, .int .i8 d0_1, S d0_2, S d0_3, .slice Z1 d0_4.length P1] 42 (0, 0))) :: H) W4) ?_ ?_
     ·refine RcF f hj_4 (fun B7 F16 => ?_) fun B7 F17 => ?_
      ·refine wp_skip (T_n ?_)
       exact ⟨(G2), (sI F16).symm, V2, (mR _), f.kp, N3⟩
      ·refine R_reg (Y f 3 fun _ f => Z f (Y33 (v := .int .i8 d0_1) rfl (ad := ⟨b0, 1, none⟩) (N3.ownCell 0 rfl 1)) fun _ f => Y f 2 fun _ f => ?_)
       rcases cE F17 with ⟨B8, F18⟩ | ⟨B8, F19⟩
       ·have U13 := dI.1 B8
        have f := f.st 53 (cB B8)
        refine Y f 3 fun _ f => Z f (Y33 (v := S d0_3) rfl (ad := ⟨b0, 3, none⟩) (N3.ownCell 0 rfl 3)) fun _ f => Z f (Y40 rfl (l := d0_3) (m := [])) fun _ f => Y f 2 fun _ f => eT ?_
        exact ⟨(decide (d0_3 = [])), (sI F18).symm, V2, (mR _), f.kp, N3⟩
       ·have U14 := iff_f dI B8
        have f := f.st 53 (cB B8)
        refine Y f 7 fun _ f => eT ?_
        exact ⟨(false), (sI F19).symm, V2, (mR _), f.kp, N3⟩
     ·rintro a_36 W4 ⟨G3, hq_3, V3, J3, f, N4⟩
      subst j_4
      refine T_n (RcF f F15 (fun B9 F20 => ?_) fun B9 F22 => ?_)
      ·refine RR (Y f 1 fun _ f => eT (wp_ret (B_r ?_)))
       have F21 := br_elim F20 F1
       refine T_r (T_r (E_ret1 f rfl (by kernel_rfl : Vc.look _ 2 = some (.int .i64 2)) ?_))
       obtain rfl := sI F21
       exact ⟨_, rfl, V3, _, ((J1.trans J2).trans J3), N4, ⟨Z1, P1, rfl, rfl, (B1.mono ((J1.trans J2).trans J3))⟩⟩
      ·refine RR (Y f 2 fun _ f => eT (RcF f F22 (fun B10 F23 => ?_) fun B10 F25 => ?_))
       ·have U17 := dI.1 B10
        refine RR (Y f 1 fun _ f => eT (wp_ret (B_r ?_)))
        have F24 := br_elim F23 F1
        refine T_r (T_r (E_ret1 f rfl (by kernel_rfl : Vc.look _ 2 = some (.int .i64 0)) ?_))
        obtain rfl := sI F24
        exact ⟨_, rfl, V3, _, ((J1.trans J2).trans J3), N4, ⟨Z1, P1, rfl, rfl, (B1.mono ((J1.trans J2).trans J3))⟩⟩
       ·have U18 := iff_f dI B10
        refine RR (Y f 3 fun _ f => Z f (Y33 (v := .slice Z1 d0_4.length P1) rfl (ad := ⟨b0, 4, none⟩) (N4.ownCell 0 rfl 4)) fun _ f => ?_)
        obtain ⟨X1, S1, F26⟩ := bS F25
        refine Y18 f N4 (slices_ContainsFuncapi_Given_api_Given_2_ok n _ (GL.mono ((J1.trans J2).trans J3) hG) Z1 P1 d0_4 (B1.mono ((J1.trans J2).trans J3)) X1 S1) fun W5 N5 _ f => Y f 1 fun _ f => eT (RcF f F26 (fun B11 F27 => ?_) fun B11 F29 => ?_)
        ·refine RR (Y f 1 fun _ f => eT (wp_ret (B_r ?_)))
         have F28 := br_elim F27 F1
         refine T_r (T_r (E_ret1 f rfl (by kernel_rfl : Vc.look _ 2 = some (.int .i64 2)) ?_))
         obtain rfl := sI F28
         exact ⟨_, rfl, V3, _, ((J1.trans J2).trans J3), N5, ⟨Z1, P1, rfl, rfl, (B1.mono ((J1.trans J2).trans J3))⟩⟩
        ·refine wp_skip (B_n (T_n ?_))
         exact ⟨(), (sI F29).symm, V3, ((J1.trans J2).trans J3), f.kp, N5⟩
 ·rintro a_45 W6 ⟨G4, rfl, V4, J4, f, N6⟩
  refine T_n (R_seq (R_draw N6 (by kernel_rfl) (by kernel_rfl) (Y5 default f 3 fun _ f => Y2 (v := S d0_3) f (fun _ pq => Y33 (v := S d0_3) rfl (ad := ⟨b0, 3, none⟩) (pq.ownCell 0 rfl 3)) fun _ f => Y5 default f 3 fun _ f => Y2 (v := .slice Z1 d0_4.length P1) f (fun _ pq => Y33 (v := .slice Z1 d0_4.length P1) rfl (ad := ⟨b0, 4, none⟩) (pq.ownCell 0 rfl 4)) fun _ f => ?_)))
  obtain ⟨X2, S2, F30⟩ := bS F1
  refine Y3 f (schema_Check_ok n _ (GL.mono J4 hG) d0_3 Z1 P1 d0_4 (B1.mono J4) X2 S2) fun _ f => Y5 default f 1 fun _ f => Q_end rfl ?_
  intro W8 N8
  refine T_n (wp_ret (E_ret1 f rfl (by kernel_rfl : Vc.look _ 2 = some (.int .i64 X2)) ?_))
  obtain rfl := sI F30
  exact ⟨_, rfl, V4, _, J4, N8, ⟨Z1, P1, rfl, rfl, (B1.mono J4)⟩⟩
def slices_Cloneapi_Given_api_Given_z (n : Nat) (d0 : List TC0) (z0 : Bool) : Option (List TC0) :=
  bif z0 then
    (some (([] : List TC0)))
  else
    need ((([] : List TC0).length + d0.length) * 104 ≤ 140737488355328) <|
    some (([] : List TC0) ++ d0)
theorem slices_Cloneapi_Given_api_Given_z_ok (n : Nat) (M : Mem) (A0 : Option Addr) (cap0 : Nat) (d0 : List TC0) (h0 : Sli M 8 emb_TC0 A0 cap0 d0) (z0 : Bool) (hz0 : A0.isNone = z0) (r : List TC0) (hF : slices_Cloneapi_Given_api_Given_z n d0 z0 = some r) : OkH Tryz.prog M [] 41 [.slice A0 d0.length cap0] (fun M' E' v => ∃ (A0 : Option Addr) (k0 : Nat) (s0 : List Value), v = .slice A0 r.length k0 ∧ E' = [.row 77 8 (.slice A0 r.length k0) r.length s0] ∧ RepSeq M' (r.map emb_TC0) s0) := by
 unfold slices_Cloneapi_Given_api_Given_z at hF
 intro M1 hM0 w0 H w p0
 replace h0 := h0.mono hM0
 refine R_enter 8 Tryz.func41 rfl rfl (by simp) fun a0 f0 => RR (Y f0 1 fun _ f => eT (R_seq (RR (Y f 1 fun _ f => Z (v := .bool A0.isNone) f (X_slicenil (A := A0) (n := d0.length) (c := cap0) (e := 77) rfl (by kernel_rfl) (by kernel_rfl) (by kernel_rfl) _) fun _ f => ?_))))
 have f := Frm.set f 4 (v := .bool A0.isNone) (v' := .bool z0) (by kernel_rfl) (cB hz0)
 refine eT (RcF f hF (fun B1 F1 => ?_) fun B1 F2 => ?_)
 ·refine RR (Y f 1 fun _ f => eT (wp_ret (T_r ?_)))
  obtain ⟨Z1, P1, H1⟩ : ∃ A cap, Value.slice none 0 0 = .slice A ([] : List TC0).length cap := ⟨none, 0, rfl⟩
  have N1 : Hp w0 M1 ((Ent.row 77 8 (.slice Z1 ([] : List TC0).length P1) ([] : List TC0).length []) :: H) w := by rw [← H1]; exact p0.nilRow 77 8
  have f := f.st 2 (H1)
  have D1 : RepSeq M1 (([] : List TC0).map emb_TC0) [] := rfl
  refine E_ret1 f rfl (by kernel_rfl : Vc.look _ 2 = some (.slice Z1 ([] : List TC0).length P1)) ?_
  obtain rfl := sI F1
  exact ⟨_, rfl, M1, _, (mR _), N1, ⟨Z1, P1, [], rfl, rfl, D1⟩⟩
 ·refine wp_skip (T_n (RR (V_allocS (k := 0) (c := 0) f p0 (.cells #[] 77 (0, 0)) (by kernel_rfl) (fun _ => by kernel_rfl) fun Q1 W1 N2 _ f => Y f 1 fun _ f => ?_)))
  have D2 : RepSeq M1 (([] : List TC0).map emb_TC0) [] := rfl
  have N3 : Hp w0 M1 ((Ent.row 77 8 (.slice (some ⟨Q1, 0, none⟩) 0 0) ([] : List TC0).length []) :: H) W1 := N2.objRow (n := 0) (cap := 0) (size := 8) (by decide) (by decide) (blk_eq (by decide) rfl) rfl rfl
  obtain ⟨O1, F3⟩ := nS F2
  refine Y24 (z := .agg #[S [], .bool false, .int .i8 0, .bool false, .int .i64 0, S [], .slice none 0 0, .slice none 0 0]) (f := emb_TC0) (xs := ([] : List TC0)) (ys := d0) (c := cap0) f N3 D2 h0 rfl rfl rfl O1 (by omega) fun Z2 P2 L1 W2 N4 D3 _ f => Y f 1 fun _ f => eT (wp_ret (E_ret1 f rfl (by kernel_rfl : Vc.look _ 2 = some (.slice Z2 (([] : List TC0) ++ d0).length P2)) ?_))
  obtain rfl := sI F3
  exact ⟨_, rfl, M1, _, (mR _), N4, ⟨Z2, P2, L1, rfl, rfl, D3⟩⟩
def slices_Cloneapi_Given_api_Given (_ : Nat) (d0 : List TC0) : Option (List TC0) := need (d0.length * 104 ≤ 140737488355328) (some d0)
theorem slices_Cloneapi_Given_api_Given_ok (n : Nat) (M : Mem) (A0 : Option Addr) (cap0 : Nat) (d0 : List TC0) (h0 : Sli M 8 emb_TC0 A0 cap0 d0) (r : List TC0) (hF : slices_Cloneapi_Given_api_Given n d0 = some r) : OkH Tryz.prog M [] 41 [.slice A0 d0.length cap0] (fun M' E' v => ∃ (A0 : Option Addr) (k0 : Nat) (s0 : List Value), v = .slice A0 r.length k0 ∧ E' = [.row 77 8 (.slice A0 r.length k0) r.length s0] ∧ RepSeq M' (r.map emb_TC0) s0) := by
 unfold slices_Cloneapi_Given_api_Given at hF
 obtain ⟨g, hF⟩ := nS hF
 obtain rfl := sI hF
 refine slices_Cloneapi_Given_api_Given_z_ok n M A0 cap0 d0 h0 A0.isNone rfl d0 ?_
 unfold slices_Cloneapi_Given_api_Given_z
 cases A0 with
 | none =>
  obtain ⟨h1, h2, _⟩ := h0
  have h3 := h2 rfl
  obtain rfl : d0 = [] := List.eq_nil_of_length_eq_zero (by omega)
  rfl
 | some a => simp [need]; omega
def cloud_Cloud_Submit (n : Nat) (d0_0 : List TD0) (d0_1 : Int) (d0_2 : List TF0) (d0_3 : List (Int × TB0)) (d0_4 : List TF0) (d0_5 : Int) (d1 : TF0) : Option (Int × List TD0 × Int × List TF0 × (List (Int × TB0)) × List TF0 × Int) :=
  (cloud_check n d1.fToken d1.fKind d1.fPhys d1.fType d1.fProps).bind fun X1 =>
  bif (!(decide (X1.1 = 0))) then
    (some ((X1.1, d0_0, d0_1, d0_2, d0_3, d0_4, d0_5)))
  else
    bif (!(mget d0_3 X1.2.1).isSome) then
      ((slices_Cloneapi_Given_api_Given n X1.2.2.2.2.2).bind fun X2 =>
      ((need ((d0_2.length + 1) * 72 ≤ 140737488355328) <|
        some ((X2, d0_2 ++ [(⟨X1.2.1, X1.2.2.1, X1.2.2.2.1, X1.2.2.2.2.1, X2⟩ : TF0)])) : Option (List TC0 × List TF0))).bind fun G1 =>
      ((need ((d0_4.length + 1) * 72 ≤ 140737488355328) <|
        some (d0_4 ++ [(⟨X1.2.1, X1.2.2.1, X1.2.2.2.1, X1.2.2.2.2.1, G1.1⟩ : TF0)]) : Option (List TF0))).bind fun G2 =>
      some (((0 : Int), d0_0, d0_1, G1.2, mput d0_3 X1.2.1 z_TB0, G2, d0_5)))
    else
      some (((0 : Int), d0_0, d0_1, d0_2, d0_3, d0_4, d0_5))
set_option maxRecDepth 20000 in
theorem cloud_Cloud_Submit_ok (n : Nat) (M : Mem) (hG : GL M) (b0 : Nat) (d0_0 : List TD0) (Z1 : Option Addr) (P1 : Nat) (B1 : Sli M 3 emb_TD0 Z1 P1 d0_0) (d0_1 : Int) (d0_2 : List TF0) (Z2 : Option Addr) (P2 : Nat) (L1 : List Value) (D1 : RepSeq M (d0_2.map emb_TF0) L1) (m0_3 : Nat) (d0_3 : List (Int × TB0)) (d0_4 : List TF0) (Z3 : Option Addr) (P3 : Nat) (L2 : List Value) (D2 : RepSeq M (d0_4.map emb_TF0) L2) (d0_5 : Int) (c1 : List Value) (d1 : TF0) (h1 : Rep M (emb_TF0 d1) c1) (r : Int × List TD0 × Int × List TF0 × (List (Int × TB0)) × List TF0 × Int) (hF : cloud_Cloud_Submit n d0_0 d0_1 d0_2 d0_3 d0_4 d0_5 d1 = some r) : OkH Tryz.prog M [Ent.obj b0 (.cells #[.slice Z1 d0_0.length P1, .int .i64 d0_1, .slice Z2 d0_2.length P2, .map (some m0_3), .slice Z3 d0_4.length P3, .int .i64 d0_5] 82 (0, 0)), Ent.row 42 5 (.slice Z2 d0_2.length P2) d0_2.length L1, Ent.obj m0_3 (mapO (Value.int .i64) (fun x : TB0 => Value.agg #[.bool x.fEnded, .bool x.fOk, S x.fPhys]) d0_3), Ent.row 42 5 (.slice Z3 d0_4.length P3) d0_4.length L2] 20 [.pointer (some (⟨b0, 0, none⟩)), .agg c1.toArray] (fun M' E' v => ∃ (Z21 : Option Addr) (P21 : Nat) (Z22 : Option Addr) (P22 : Nat) (L13 : List Value) (Z23 : Option Addr) (P23 : Nat) (L14 : List Value), v = .int .i64 r.1 ∧ E' = [Ent.obj b0 (.cells #[.slice Z21 r.2.1.length P21, .int .i64 r.2.2.1, .slice Z22 r.2.2.2.1.length P22, .map (some m0_3), .slice Z23 r.2.2.2.2.2.1.length P23, .int .i64 r.2.2.2.2.2.2] 82 (0, 0)), Ent.row 42 5 (.slice Z22 r.2.2.2.1.length P22) r.2.2.2.1.length L13, Ent.obj m0_3 (mapO (Value.int .i64) (fun x : TB0 => Value.agg #[.bool x.fEnded, .bool x.fOk, S x.fPhys]) r.2.2.2.2.1), Ent.row 42 5 (.slice Z23 r.2.2.2.2.2.1.length P23) r.2.2.2.2.2.1.length L14] ∧ Sli M' 3 emb_TD0 Z21 P21 r.2.1 ∧ RepSeq M' (r.2.2.2.1.map emb_TF0) L13 ∧ RepSeq M' (r.2.2.2.2.2.1.map emb_TF0) L14) := by
 unfold cloud_Cloud_Submit at hF
 intro M1 hM0 w0 H w p0
 replace hG := GL.mono hM0 hG
 replace B1 := B1.mono hM0
 replace D1 := RepSeq.mono hM0 _ _ D1
 replace D2 := RepSeq.mono hM0 _ _ D2
 replace h1 := Rep.mono hM0 _ _ h1
 obtain ⟨Z4, P4, rfl, B2⟩ := TF0.opn h1
 refine R_enter 57 Tryz.func20 rfl rfl (by simp) fun a0 f0 => RR (Y12 f0 p0 (.cells #[.int .i64 d1.fToken, .int .i8 d1.fKind, S d1.fPhys, S d1.fType, .slice Z4 d1.fProps.length P4] 42 (0, 0)) fun Q1 W1 N1 _ f => Y f 1 fun _ f => eT (R_seq (RR (Y f 1 fun _ f => Z (v := .bool false) f (X_ptrNil (q := some (⟨b0, 0, none⟩)) (e := 82) rfl (by kernel_rfl) (by kernel_rfl) (by kernel_rfl) _) fun _ f => eT (Y7 f (wp_skip (T_n (R_seq (RR ?_)))))))))
 obtain ⟨X1, S1, F1⟩ := bS hF
 refine Y17 (E := [Ent.obj Q1 (.cells #[.int .i64 d1.fToken, .int .i8 d1.fKind, S d1.fPhys, S d1.fType, .slice Z4 d1.fProps.length P4] 42 (0, 0))]) (H := ((Ent.obj b0 (.cells #[.slice Z1 d0_0.length P1, .int .i64 d0_1, .slice Z2 d0_2.length P2, .map (some m0_3), .slice Z3 d0_4.length P3, .int .i64 d0_5] 82 (0, 0))) :: (Ent.row 42 5 (.slice Z2 d0_2.length P2) d0_2.length L1) :: (Ent.obj m0_3 (mapO (Value.int .i64) (fun x : TB0 => Value.agg #[.bool x.fEnded, .bool x.fOk, S x.fPhys]) d0_3)) :: (Ent.row 42 5 (.slice Z3 d0_4.length P3) d0_4.length L2) :: H)) f N1 (cloud_check_ok n _ hG Q1 d1.fToken d1.fKind d1.fPhys d1.fType d1.fProps Z4 P4 B2 X1 S1) fun _ V1 E_1 W2 J1 N2 q_1 _ f => ?_
 obtain ⟨Z5, P5, rfl, rfl, B3⟩ := q_1
 refine Y f 1 fun _ f => eT (RR (Y f 2 fun _ f => eT (RcF f F1 (fun B4 F2 => ?_) fun B4 F3 => ?_)))
 ·have U1 : ¬ (X1.1 = 0) := (not_iff dI).1 B4
  refine RR (Y f 2 fun _ f => eT (wp_ret (T_r (E_ret1 f rfl (by kernel_rfl : Vc.look _ 4 = some (.int .i64 X1.1)) ?_))))
  obtain rfl := sI F2
  exact ⟨_, rfl, V1, _, J1, (N2.dropN 1), ⟨Z1, P1, Z2, P2, L1, Z3, P3, L2, rfl, rfl, (B1.mono J1), (RepSeq.mono J1 _ _ D1), (RepSeq.mono J1 _ _ D2)⟩⟩
 ·have U2 : ¬ (¬ (X1.1 = 0)) := iff_f (not_iff dI) B4
  refine wp_skip (T_n (R_seq (R_seq (R_mix (E := []) (Hr := ((Ent.obj Q1 (.cells #[.int .i64 X1.2.1, .int .i8 X1.2.2.1, S X1.2.2.2.1, S X1.2.2.2.2.1, .slice Z5 X1.2.2.2.2.2.length P5] 42 (0, 0))) :: (Ent.obj b0 (.cells #[.slice Z1 d0_0.length P1, .int .i64 d0_1, .slice Z2 d0_2.length P2, .map (some m0_3), .slice Z3 d0_4.length P3, .int .i64 d0_5] 82 (0, 0))) :: (Ent.row 42 5 (.slice Z2 d0_2.length P2) d0_2.length L1) :: (Ent.obj m0_3 (mapO (Value.int .i64) (fun x : TB0 => Value.agg #[.bool x.fEnded, .bool x.fOk, S x.fPhys]) d0_3)) :: (Ent.row 42 5 (.slice Z3 d0_4.length P3) d0_4.length L2) :: H)) [(0, true), (1, true), (2, true), (3, true), (4, true), (5, true), (6, true), (7, true), (8, true), (9, true), (10, false), (11, false), (12, true)] N2 (by kernel_rfl) (by kernel_rfl) rfl (by kernel_rfl) (Y0 default f 3 fun _ f => M_eq (v := .map (some m0_3)) f (by kernel_rfl) (by kernel_rfl) rfl rfl (fun _ pq => Y33 (v := .map (some m0_3)) rfl (ad := ⟨b0, 3, none⟩) (pq.ownCell 1 rfl 3)) fun _ f => Y0 default f 1 fun _ f => M_eq (v := .int .i64 X1.2.1) f (by kernel_rfl) (by kernel_rfl) rfl rfl (fun _ pq => Y33 (v := .int .i64 X1.2.1) rfl (ad := ⟨Q1, 0, none⟩) (pq.ownCell 0 rfl 0)) fun _ f => M_eq (v := .tuple #[.agg #[.bool ((mget d0_3 X1.2.1).getD z_TB0).fEnded, .bool ((mget d0_3 X1.2.1).getD z_TB0).fOk, S ((mget d0_3 X1.2.1).getD z_TB0).fPhys], .bool (mget d0_3 X1.2.1).isSome]) f (by kernel_rfl) (by kernel_rfl) rfl rfl (fun _ pq => Y35 (ek := (Value.int .i64)) (ev := (fun x : TB0 => Value.agg #[.bool x.fEnded, .bool x.fOk, S x.fPhys])) (m := d0_3) (k := X1.2.1) (z := z_TB0) (kt := 3) (et := 45) rfl (intKey (by kernel_rfl)) (pq.ownObj 3 rfl)) fun _ f => Y0 default f 3 fun _ f => M_fix (E := []) fun W3 N3 => Y12 f N3 (.cells #[.bool false, .bool false, S []] 45 (0, 0)) fun Q2 W4 N4 _ f => W_end rfl (M_go (M1 := V1) (E := [Ent.obj Q2 (.cells #[.bool false, .bool false, S []] 45 (0, 0))]) (mR _) N4 (M_fix (E := [Ent.obj Q2 (.cells #[.bool false, .bool false, S []] 45 (0, 0))]) fun W5 N5 => Y28 (vs := [.bool ((mget d0_3 X1.2.1).getD z_TB0).fEnded, .bool ((mget d0_3 X1.2.1).getD z_TB0).fOk, S ((mget d0_3 X1.2.1).getD z_TB0).fPhys]) (j := 0) f N5 rfl rfl (by simp [Value.oneCell', S]) (by simp) (by decide) (cs' := #[.bool ((mget d0_3 X1.2.1).getD z_TB0).fEnded, .bool ((mget d0_3 X1.2.1).getD z_TB0).fOk, S ((mget d0_3 X1.2.1).getD z_TB0).fPhys]) (by kernel_rfl) fun W6 N6 _ f => W_end rfl (M_go (M1 := V1) (E := [Ent.obj Q2 (.cells #[.bool ((mget d0_3 X1.2.1).getD z_TB0).fEnded, .bool ((mget d0_3 X1.2.1).getD z_TB0).fOk, S ((mget d0_3 X1.2.1).getD z_TB0).fPhys] 45 (0, 0))]) (mR _) N6 (Y0 default f 1 fun _ f => M_end rfl fun W7 N7 => T_n (RR (Y f 2 fun _ f => eT (RcF f F3 (fun B5 F4 => ?_) fun B5 F10 => ?_))))))))))))
  ·have U3 : ((mget d0_3 X1.2.1).isSome) = false := by simpa using B5
   refine RR (Y f 1 fun _ f => Z f (Y33 (v := .slice Z5 X1.2.2.2.2.2.length P5) rfl (ad := ⟨Q1, 4, none⟩) (N7.ownCell 1 rfl 4)) fun _ f => ?_)
   obtain ⟨X2, S2, F5⟩ := bS F4
   refine Y17 (E := []) (H := ((Ent.obj Q2 (.cells #[.bool ((mget d0_3 X1.2.1).getD z_TB0).fEnded, .bool ((mget d0_3 X1.2.1).getD z_TB0).fOk, S ((mget d0_3 X1.2.1).getD z_TB0).fPhys] 45 (0, 0))) :: (Ent.obj Q1 (.cells #[.int .i64 X1.2.1, .int .i8 X1.2.2.1, S X1.2.2.2.1, S X1.2.2.2.2.1, .slice Z5 X1.2.2.2.2.2.length P5] 42 (0, 0))) :: (Ent.obj b0 (.cells #[.slice Z1 d0_0.length P1, .int .i64 d0_1, .slice Z2 d0_2.length P2, .map (some m0_3), .slice Z3 d0_4.length P3, .int .i64 d0_5] 82 (0, 0))) :: (Ent.row 42 5 (.slice Z2 d0_2.length P2) d0_2.length L1) :: (Ent.obj m0_3 (mapO (Value.int .i64) (fun x : TB0 => Value.agg #[.bool x.fEnded, .bool x.fOk, S x.fPhys]) d0_3)) :: (Ent.row 42 5 (.slice Z3 d0_4.length P3) d0_4.length L2) :: H)) f N7 (slices_Cloneapi_Given_api_Given_ok n _ Z5 P5 X1.2.2.2.2.2 B3 X2 S2) fun _ V2 E_2 W8 J2 N8 q_2 _ f => ?_
   obtain ⟨Z6, P6, L3, rfl, rfl, D3⟩ := q_2
   refine Y f 1 fun _ f => Y27 f N8 2 rfl rfl (b := Q1) (j := 4) (v := .slice Z6 X2.length P6) rfl (by exact rfl) (by simp) (by simp) ((Ent.row 77 8 (.slice Z6 X2.length P6) X2.length L3) :: (Ent.obj Q2 (.cells #[.bool ((mget d0_3 X1.2.1).getD z_TB0).fEnded, .bool ((mget d0_3 X1.2.1).getD z_TB0).fOk, S ((mget d0_3 X1.2.1).getD z_TB0).fPhys] 45 (0, 0))) :: (Ent.obj Q1 (.cells #[.int .i64 X1.2.1, .int .i8 X1.2.2.1, S X1.2.2.2.1, S X1.2.2.2.2.1, .slice Z6 X2.length P6] 42 (0, 0))) :: (Ent.obj b0 (.cells #[.slice Z1 d0_0.length P1, .int .i64 d0_1, .slice Z2 d0_2.length P2, .map (some m0_3), .slice Z3 d0_4.length P3, .int .i64 d0_5] 82 (0, 0))) :: (Ent.row 42 5 (.slice Z2 d0_2.length P2) d0_2.length L1) :: (Ent.obj m0_3 (mapO (Value.int .i64) (fun x : TB0 => Value.agg #[.bool x.fEnded, .bool x.fOk, S x.fPhys]) d0_3)) :: (Ent.row 42 5 (.slice Z3 d0_4.length P3) d0_4.length L2) :: H) rfl fun W9 N9 _ f => eT (R_seq (R_drawT 7 N9 (by kernel_rfl) (by kernel_rfl) fun W10 N10 => ST_eq (v := .pointer (some (⟨b0, 0, none⟩))) f (by kernel_rfl) (by kernel_rfl) rfl rfl (by kernel_rfl) fun _ f => ST_eq (v := .pointer (some (⟨b0, 0, none⟩))) f (by kernel_rfl) (by kernel_rfl) rfl rfl (by kernel_rfl) fun _ f => ST_eq (v := .pointer (some (⟨b0, 3, none⟩))) f (by kernel_rfl) (by kernel_rfl) rfl rfl (by kernel_rfl) fun _ f => ST_eq (v := .map (some m0_3)) f (by kernel_rfl) (by kernel_rfl) rfl rfl (Y33 (v := .map (some m0_3)) rfl (ad := ⟨b0, 3, none⟩) (N10.ownCell 3 rfl 3)) fun _ f => ST_eq (v := .pointer (some (⟨Q1, 0, none⟩))) f (by kernel_rfl) (by kernel_rfl) rfl rfl (by kernel_rfl) fun _ f => ST_eq (v := .int .i64 X1.2.1) f (by kernel_rfl) (by kernel_rfl) rfl rfl (Y33 (v := .int .i64 X1.2.1) rfl (ad := ⟨Q1, 0, none⟩) (N10.ownCell 2 rfl 0)) fun _ f => ST_eq (v := .agg #[.bool false, .bool false, S []]) f (by kernel_rfl) (by kernel_rfl) rfl rfl (by kernel_rfl) fun _ f => ST_end rfl ?_))
   have N11 := N10.pl [5]
   refine W_mapput (ek := (Value.int .i64)) (ev := (fun x : TB0 => Value.agg #[.bool x.fEnded, .bool x.fOk, S x.fPhys])) (m := d0_3) (k := X1.2.1) (v := z_TB0) (kt := 3) (et := 45) f N11 (by kernel_rfl) (by kernel_rfl) rfl (.inl rfl) (by kernel_rfl) (by kernel_rfl) (by kernel_rfl) (by kernel_rfl) (intKey (by kernel_rfl)) fun W11 N12 _ f => eT (R_seq ?_)
   obtain ⟨j_1, hj_1, F6⟩ := bS F5
   refine R_mid (fun a_63 W41 => ∃ G1 : List TC0 × List TF0, j_1 = G1 ∧ ∃ V7 : Mem, V2.le V7 ∧ ∃ (Z15 : Option Addr), ∃ (P15 : Nat), ∃ (Z16 : Option Addr), ∃ (P16 : Nat), ∃ (L8 : List Value), Sli V7 8 emb_TC0 Z15 P15 G1.1 ∧ RepSeq V7 (G1.2.map emb_TF0) L8 ∧ Frm 57 [(0, .pointer (some (⟨b0, 0, none⟩))), (3, .pointer (some (⟨Q1, 0, none⟩)))] a_63 ∧ Hp w0 V7 ((Ent.row 42 5 (.slice Z16 G1.2.length P16) G1.2.length L8) :: (Ent.obj Q1 (.cells #[.int .i64 X1.2.1, .int .i8 X1.2.2.1, S X1.2.2.2.1, S X1.2.2.2.2.1, .slice Z15 G1.1.length P15] 42 (0, 0))) :: (Ent.obj b0 (.cells #[.slice Z1 d0_0.length P1, .int .i64 d0_1, .slice Z16 G1.2.length P16, .map (some m0_3), .slice Z3 d0_4.length P3, .int .i64 d0_5] 82 (0, 0))) :: (Ent.obj m0_3 (mapO (Value.int .i64) (fun x : TB0 => Value.agg #[.bool x.fEnded, .bool x.fOk, S x.fPhys]) (mput d0_3 X1.2.1 z_TB0))) :: (Ent.obj Q2 (.cells #[.bool ((mget d0_3 X1.2.1).getD z_TB0).fEnded, .bool ((mget d0_3 X1.2.1).getD z_TB0).fOk, S ((mget d0_3 X1.2.1).getD z_TB0).fPhys] 45 (0, 0))) :: (Ent.row 42 5 (.slice Z3 d0_4.length P3) d0_4.length L2) :: H) W41) ?_ ?_
   ·have N28 := N12.pl [6, 3, 2, 6, 6, 6, 6]
    obtain ⟨O1, F7⟩ := nS hj_1
    refine R_plan (ks := []) (E := [Ent.row 77 8 (.slice Z6 X2.length P6) X2.length L3, Ent.obj Q1 (.cells #[.int .i64 X1.2.1, .int .i8 X1.2.2.1, S X1.2.2.2.1, S X1.2.2.2.2.1, .slice Z6 X2.length P6] 42 (0, 0)), Ent.obj b0 (.cells #[.slice Z1 d0_0.length P1, .int .i64 d0_1, .slice Z2 d0_2.length P2, .map (some m0_3), .slice Z3 d0_4.length P3, .int .i64 d0_5] 82 (0, 0)), Ent.row 42 5 (.slice Z2 d0_2.length P2) d0_2.length L1]) (Hr := ((Ent.obj m0_3 (mapO (Value.int .i64) (fun x : TB0 => Value.agg #[.bool x.fEnded, .bool x.fOk, S x.fPhys]) (mput d0_3 X1.2.1 z_TB0))) :: (Ent.obj Q2 (.cells #[.bool ((mget d0_3 X1.2.1).getD z_TB0).fEnded, .bool ((mget d0_3 X1.2.1).getD z_TB0).fOk, S ((mget d0_3 X1.2.1).getD z_TB0).fPhys] 45 (0, 0))) :: (Ent.row 42 5 (.slice Z3 d0_4.length P3) d0_4.length L2) :: H)) (.quiet 0 (.quiet 1 (.quiet 2 (.quiet 3 (.alt 4 (.alt 5 (.alt 6 (.alt 7 (.quiet 8 (.quiet 9 (.alt 10 .done .none))) .none) .none) .none) (.alt 5 (.alt 4 (.alt 6 (.alt 7 (.quiet 8 (.quiet 9 (.alt 10 .done .none))) .none) .none) (.alt 6 (.alt 4 (.alt 7 (.quiet 8 (.quiet 9 (.alt 10 .done .none))) .none) .none) .none)) .none)))))) N28 (by kernel_rfl) (by kernel_rfl) (by kernel_rfl) (Y1 (v := .pointer (some (⟨b0, 0, none⟩))) rfl f rfl rfl (fun _ _ => by kernel_rfl) fun _ f => Y1 (v := .pointer (some (⟨b0, 0, none⟩))) rfl f rfl rfl (fun _ _ => by kernel_rfl) fun _ f => Y1 (v := .pointer (some (⟨b0, 0, none⟩))) rfl f rfl rfl (fun _ _ => by kernel_rfl) fun _ f => Y1 (v := .pointer (some (⟨b0, 2, none⟩))) rfl f rfl rfl (fun _ _ => by kernel_rfl) fun _ f => N_alt rfl (fun W15 N29 => ?_) ?_)
    ·refine Z f (Y33 (v := .slice Z2 d0_2.length P2) rfl (ad := ⟨b0, 2, none⟩) (N29.ownCell 2 rfl 2)) fun _ f => W_end rfl (N_goN 4 (mR _) N29 rfl (N_alt rfl (fun W16 N30 => ?_) ?_))
     ·refine Z (v := .agg #[.int .i64 X1.2.1, .int .i8 X1.2.2.1, S X1.2.2.2.1, S X1.2.2.2.2.1, .slice Z6 X2.length P6]) f (Y34 (cs := [.int .i64 X1.2.1, .int .i8 X1.2.2.1, S X1.2.2.2.1, S X1.2.2.2.2.1, .slice Z6 X2.length P6]) rfl (ad := ⟨Q1, 0, none⟩) (own_cells (N30.ownCell 1 rfl) 0 rfl)) fun _ f => W_end rfl (N_goN 4 (mR _) N30 rfl (N_alt rfl (fun W17 N31 => ?_) ?_))
      ·refine V_allocS (k := 1) (c := 1) f N31 (.cells #[.int .i64 X1.2.1, .int .i8 X1.2.2.1, S X1.2.2.2.1, S X1.2.2.2.2.1, .slice Z6 X2.length P6] 42 (0, 0)) (by kernel_rfl) (fun _ => by kernel_rfl) fun Q4 W18 N32 _ f => W_end rfl (N_goN 5 (mR _) N32 rfl (N_alt rfl (fun W19 N33 => ?_) ?_))
       ·have N34 := N33.pl [1]
        obtain ⟨Z9, P9, V4, H2, J4, N35, B7⟩ := N34.rowSli (f := emb_TC0) (xs := X2) szd_TC0 D3
        have f := Frm.set f 42 (v := .agg #[.int .i64 X1.2.1, .int .i8 X1.2.2.1, S X1.2.2.2.1, S X1.2.2.2.2.1, .slice Z6 X2.length P6]) (v' := .agg #[.int .i64 X1.2.1, .int .i8 X1.2.2.1, S X1.2.2.2.1, S X1.2.2.2.2.1, .slice Z9 X2.length P9]) (by kernel_rfl) (by rw [H2])
        have N36 : Hp w0 V4 ((Ent.obj Q4 (.cells #[.int .i64 X1.2.1, .int .i8 X1.2.2.1, S X1.2.2.2.1, S X1.2.2.2.2.1, .slice Z9 X2.length P9] 42 (0, 0))) :: (Ent.obj Q1 (.cells #[.int .i64 X1.2.1, .int .i8 X1.2.2.1, S X1.2.2.2.1, S X1.2.2.2.2.1, .slice Z9 X2.length P9] 42 (0, 0))) :: (Ent.obj b0 (.cells #[.slice Z1 d0_0.length P1, .int .i64 d0_1, .slice Z2 d0_2.length P2, .map (some m0_3), .slice Z3 d0_4.length P3, .int .i64 d0_5] 82 (0, 0))) :: (Ent.row 42 5 (.slice Z2 d0_2.length P2) d0_2.length L1) :: (Ent.obj m0_3 (mapO (Value.int .i64) (fun x : TB0 => Value.agg #[.bool x.fEnded, .bool x.fOk, S x.fPhys]) (mput d0_3 X1.2.1 z_TB0))) :: (Ent.obj Q2 (.cells #[.bool ((mget d0_3 X1.2.1).getD z_TB0).fEnded, .bool ((mget d0_3 X1.2.1).getD z_TB0).fOk, S ((mget d0_3 X1.2.1).getD z_TB0).fPhys] 45 (0, 0))) :: (Ent.row 42 5 (.slice Z3 d0_4.length P3) d0_4.length L2) :: H) W19 := by rw [H2] at N35; exact N35
        have N37 := N36.pl [3]
        refine Y22 (z := .agg #[.int .i64 0, .int .i8 0, S [], S [], .slice none 0 0]) (f := emb_TF0) (xs := d0_2) (ys := [(⟨X1.2.1, X1.2.2.1, X1.2.2.2.1, X1.2.2.2.2.1, X2⟩ : TF0)]) (news := [.int .i64 X1.2.1, .int .i8 X1.2.2.1, S X1.2.2.2.1, S X1.2.2.2.2.1, .slice Z9 X2.length P9]) (ad := ⟨Q4, 0, none⟩) (m := 1) (c := 1) f N37 (RepSeq.mono ((J1.trans J2).trans J4) _ _ D1) (by exact ⟨_, _, rfl, TF0.shut B7, rfl⟩) rfl rfl rfl rfl (own_cells (N37.ownCell 1 rfl) 0 rfl) (by exact O1) (by have hg_ := O1; first | omega | (simp only [List.length_cons, List.length_nil] at *; omega)) fun Z10 P10 L5 W20 N38 D5 _ f => ?_
        have N39 := N38.pl [1]
        have N40 := N39.drop
        refine W_end rfl (N_goN 3 J4 N40 rfl (Y1 (v := .pointer (some (⟨b0, 0, none⟩))) rfl f rfl rfl (fun _ _ => by kernel_rfl) fun _ f => Y1 (v := .pointer (some (⟨b0, 2, none⟩))) rfl f rfl rfl (fun _ _ => by kernel_rfl) fun _ f => N_alt rfl (fun W21 N41 => ?_) ?_))
        ·refine Y27 f N41 2 rfl rfl (b := b0) (j := 2) (v := .slice Z10 (d0_2 ++ [(⟨X1.2.1, X1.2.2.1, X1.2.2.2.1, X1.2.2.2.2.1, X2⟩ : TF0)]).length P10) rfl (by exact rfl) (by simp) (by simp) ((Ent.row 42 5 (.slice Z10 (d0_2 ++ [(⟨X1.2.1, X1.2.2.1, X1.2.2.2.1, X1.2.2.2.2.1, X2⟩ : TF0)]).length P10) (d0_2 ++ [(⟨X1.2.1, X1.2.2.1, X1.2.2.2.1, X1.2.2.2.2.1, X2⟩ : TF0)]).length L5) :: (Ent.obj Q1 (.cells #[.int .i64 X1.2.1, .int .i8 X1.2.2.1, S X1.2.2.2.1, S X1.2.2.2.2.1, .slice Z9 X2.length P9] 42 (0, 0))) :: (Ent.obj b0 (.cells #[.slice Z1 d0_0.length P1, .int .i64 d0_1, .slice Z10 (d0_2 ++ [(⟨X1.2.1, X1.2.2.1, X1.2.2.2.1, X1.2.2.2.2.1, X2⟩ : TF0)]).length P10, .map (some m0_3), .slice Z3 d0_4.length P3, .int .i64 d0_5] 82 (0, 0))) :: (Ent.obj m0_3 (mapO (Value.int .i64) (fun x : TB0 => Value.agg #[.bool x.fEnded, .bool x.fOk, S x.fPhys]) (mput d0_3 X1.2.1 z_TB0))) :: (Ent.obj Q2 (.cells #[.bool ((mget d0_3 X1.2.1).getD z_TB0).fEnded, .bool ((mget d0_3 X1.2.1).getD z_TB0).fOk, S ((mget d0_3 X1.2.1).getD z_TB0).fPhys] 45 (0, 0))) :: (Ent.row 42 5 (.slice Z3 d0_4.length P3) d0_4.length L2) :: H) rfl fun W22 N42 _ f => W_end rfl (N_goN 3 J4 N42 rfl (N_end fun W23 N43 => T_n ?_))
         exact ⟨(X2, d0_2 ++ [(⟨X1.2.1, X1.2.2.1, X1.2.2.2.1, X1.2.2.2.2.1, X2⟩ : TF0)]), (sI F7).symm, V4, J4, Z9, P9, Z10, P10, L5, B7, D5, f.kp, N43⟩
        exact N_none
       exact N_none
      exact N_none
     exact N_none
    refine N_alt rfl (fun W24 N44 => ?_) ?_
    ·refine Z (v := .agg #[.int .i64 X1.2.1, .int .i8 X1.2.2.1, S X1.2.2.2.1, S X1.2.2.2.2.1, .slice Z6 X2.length P6]) f (Y34 (cs := [.int .i64 X1.2.1, .int .i8 X1.2.2.1, S X1.2.2.2.1, S X1.2.2.2.2.1, .slice Z6 X2.length P6]) rfl (ad := ⟨Q1, 0, none⟩) (own_cells (N44.ownCell 1 rfl) 0 rfl)) fun _ f => W_end rfl (N_goN 4 (mR _) N44 rfl (N_alt rfl (fun W25 N45 => ?_) ?_))
     ·refine Z f (Y33 (v := .slice Z2 d0_2.length P2) rfl (ad := ⟨b0, 2, none⟩) (N45.ownCell 2 rfl 2)) fun _ f => W_end rfl (N_goN 4 (mR _) N45 rfl (N_alt rfl (fun W26 N46 => ?_) ?_))
      ·refine V_allocS (k := 1) (c := 1) f N46 (.cells #[.int .i64 X1.2.1, .int .i8 X1.2.2.1, S X1.2.2.2.1, S X1.2.2.2.2.1, .slice Z6 X2.length P6] 42 (0, 0)) (by kernel_rfl) (fun _ => by kernel_rfl) fun Q5 W27 N47 _ f => W_end rfl (N_goN 5 (mR _) N47 rfl (N_alt rfl (fun W28 N48 => ?_) ?_))
       ·have N49 := N48.pl [1]
        obtain ⟨Z11, P11, V5, H3, J5, N50, B8⟩ := N49.rowSli (f := emb_TC0) (xs := X2) szd_TC0 D3
        have f := Frm.set f 42 (v := .agg #[.int .i64 X1.2.1, .int .i8 X1.2.2.1, S X1.2.2.2.1, S X1.2.2.2.2.1, .slice Z6 X2.length P6]) (v' := .agg #[.int .i64 X1.2.1, .int .i8 X1.2.2.1, S X1.2.2.2.1, S X1.2.2.2.2.1, .slice Z11 X2.length P11]) (by kernel_rfl) (by rw [H3])
        have N51 : Hp w0 V5 ((Ent.obj Q5 (.cells #[.int .i64 X1.2.1, .int .i8 X1.2.2.1, S X1.2.2.2.1, S X1.2.2.2.2.1, .slice Z11 X2.length P11] 42 (0, 0))) :: (Ent.obj Q1 (.cells #[.int .i64 X1.2.1, .int .i8 X1.2.2.1, S X1.2.2.2.1, S X1.2.2.2.2.1, .slice Z11 X2.length P11] 42 (0, 0))) :: (Ent.obj b0 (.cells #[.slice Z1 d0_0.length P1, .int .i64 d0_1, .slice Z2 d0_2.length P2, .map (some m0_3), .slice Z3 d0_4.length P3, .int .i64 d0_5] 82 (0, 0))) :: (Ent.row 42 5 (.slice Z2 d0_2.length P2) d0_2.length L1) :: (Ent.obj m0_3 (mapO (Value.int .i64) (fun x : TB0 => Value.agg #[.bool x.fEnded, .bool x.fOk, S x.fPhys]) (mput d0_3 X1.2.1 z_TB0))) :: (Ent.obj Q2 (.cells #[.bool ((mget d0_3 X1.2.1).getD z_TB0).fEnded, .bool ((mget d0_3 X1.2.1).getD z_TB0).fOk, S ((mget d0_3 X1.2.1).getD z_TB0).fPhys] 45 (0, 0))) :: (Ent.row 42 5 (.slice Z3 d0_4.length P3) d0_4.length L2) :: H) W28 := by rw [H3] at N50; exact N50
        have N52 := N51.pl [3]
        refine Y22 (z := .agg #[.int .i64 0, .int .i8 0, S [], S [], .slice none 0 0]) (f := emb_TF0) (xs := d0_2) (ys := [(⟨X1.2.1, X1.2.2.1, X1.2.2.2.1, X1.2.2.2.2.1, X2⟩ : TF0)]) (news := [.int .i64 X1.2.1, .int .i8 X1.2.2.1, S X1.2.2.2.1, S X1.2.2.2.2.1, .slice Z11 X2.length P11]) (ad := ⟨Q5, 0, none⟩) (m := 1) (c := 1) f N52 (RepSeq.mono ((J1.trans J2).trans J5) _ _ D1) (by exact ⟨_, _, rfl, TF0.shut B8, rfl⟩) rfl rfl rfl rfl (own_cells (N52.ownCell 1 rfl) 0 rfl) (by exact O1) (by have hg_ := O1; first | omega | (simp only [List.length_cons, List.length_nil] at *; omega)) fun Z12 P12 L6 W29 N53 D6 _ f => ?_
        have N54 := N53.pl [1]
        have N55 := N54.drop
        refine W_end rfl (N_goN 3 J5 N55 rfl (Y1 (v := .pointer (some (⟨b0, 0, none⟩))) rfl f rfl rfl (fun _ _ => by kernel_rfl) fun _ f => Y1 (v := .pointer (some (⟨b0, 2, none⟩))) rfl f rfl rfl (fun _ _ => by kernel_rfl) fun _ f => N_alt rfl (fun W30 N56 => ?_) ?_))
        ·refine Y27 f N56 2 rfl rfl (b := b0) (j := 2) (v := .slice Z12 (d0_2 ++ [(⟨X1.2.1, X1.2.2.1, X1.2.2.2.1, X1.2.2.2.2.1, X2⟩ : TF0)]).length P12) rfl (by exact rfl) (by simp) (by simp) ((Ent.row 42 5 (.slice Z12 (d0_2 ++ [(⟨X1.2.1, X1.2.2.1, X1.2.2.2.1, X1.2.2.2.2.1, X2⟩ : TF0)]).length P12) (d0_2 ++ [(⟨X1.2.1, X1.2.2.1, X1.2.2.2.1, X1.2.2.2.2.1, X2⟩ : TF0)]).length L6) :: (Ent.obj Q1 (.cells #[.int .i64 X1.2.1, .int .i8 X1.2.2.1, S X1.2.2.2.1, S X1.2.2.2.2.1, .slice Z11 X2.length P11] 42 (0, 0))) :: (Ent.obj b0 (.cells #[.slice Z1 d0_0.length P1, .int .i64 d0_1, .slice Z12 (d0_2 ++ [(⟨X1.2.1, X1.2.2.1, X1.2.2.2.1, X1.2.2.2.2.1, X2⟩ : TF0)]).length P12, .map (some m0_3), .slice Z3 d0_4.length P3, .int .i64 d0_5] 82 (0, 0))) :: (Ent.obj m0_3 (mapO (Value.int .i64) (fun x : TB0 => Value.agg #[.bool x.fEnded, .bool x.fOk, S x.fPhys]) (mput d0_3 X1.2.1 z_TB0))) :: (Ent.obj Q2 (.cells #[.bool ((mget d0_3 X1.2.1).getD z_TB0).fEnded, .bool ((mget d0_3 X1.2.1).getD z_TB0).fOk, S ((mget d0_3 X1.2.1).getD z_TB0).fPhys] 45 (0, 0))) :: (Ent.row 42 5 (.slice Z3 d0_4.length P3) d0_4.length L2) :: H) rfl fun W31 N57 _ f => W_end rfl (N_goN 3 J5 N57 rfl (N_end fun W32 N58 => T_n ?_))
         exact ⟨(X2, d0_2 ++ [(⟨X1.2.1, X1.2.2.1, X1.2.2.2.1, X1.2.2.2.2.1, X2⟩ : TF0)]), (sI F7).symm, V5, J5, Z11, P11, Z12, P12, L6, B8, D6, f.kp, N58⟩
        exact N_none
       exact N_none
      exact N_none
     refine N_alt rfl (fun W33 N59 => ?_) ?_
     ·refine V_allocS (k := 1) (c := 1) f N59 (.cells #[.int .i64 X1.2.1, .int .i8 X1.2.2.1, S X1.2.2.2.1, S X1.2.2.2.2.1, .slice Z6 X2.length P6] 42 (0, 0)) (by kernel_rfl) (fun _ => by kernel_rfl) fun Q6 W34 N60 _ f => W_end rfl (N_goN 5 (mR _) N60 rfl (N_alt rfl (fun W35 N61 => ?_) ?_))
      ·refine Z f (Y33 (v := .slice Z2 d0_2.length P2) rfl (ad := ⟨b0, 2, none⟩) (N61.ownCell 3 rfl 2)) fun _ f => W_end rfl (N_goN 5 (mR _) N61 rfl (N_alt rfl (fun W36 N62 => ?_) ?_))
       ·have N63 := N62.pl [1]
        obtain ⟨Z13, P13, V6, H4, J6, N64, B9⟩ := N63.rowSli (f := emb_TC0) (xs := X2) szd_TC0 D3
        have f := Frm.set f 42 (v := .agg #[.int .i64 X1.2.1, .int .i8 X1.2.2.1, S X1.2.2.2.1, S X1.2.2.2.2.1, .slice Z6 X2.length P6]) (v' := .agg #[.int .i64 X1.2.1, .int .i8 X1.2.2.1, S X1.2.2.2.1, S X1.2.2.2.2.1, .slice Z13 X2.length P13]) (by kernel_rfl) (by rw [H4])
        have N65 : Hp w0 V6 ((Ent.obj Q6 (.cells #[.int .i64 X1.2.1, .int .i8 X1.2.2.1, S X1.2.2.2.1, S X1.2.2.2.2.1, .slice Z13 X2.length P13] 42 (0, 0))) :: (Ent.obj Q1 (.cells #[.int .i64 X1.2.1, .int .i8 X1.2.2.1, S X1.2.2.2.1, S X1.2.2.2.2.1, .slice Z13 X2.length P13] 42 (0, 0))) :: (Ent.obj b0 (.cells #[.slice Z1 d0_0.length P1, .int .i64 d0_1, .slice Z2 d0_2.length P2, .map (some m0_3), .slice Z3 d0_4.length P3, .int .i64 d0_5] 82 (0, 0))) :: (Ent.row 42 5 (.slice Z2 d0_2.length P2) d0_2.length L1) :: (Ent.obj m0_3 (mapO (Value.int .i64) (fun x : TB0 => Value.agg #[.bool x.fEnded, .bool x.fOk, S x.fPhys]) (mput d0_3 X1.2.1 z_TB0))) :: (Ent.obj Q2 (.cells #[.bool ((mget d0_3 X1.2.1).getD z_TB0).fEnded, .bool ((mget d0_3 X1.2.1).getD z_TB0).fOk, S ((mget d0_3 X1.2.1).getD z_TB0).fPhys] 45 (0, 0))) :: (Ent.row 42 5 (.slice Z3 d0_4.length P3) d0_4.length L2) :: H) W36 := by rw [H4] at N64; exact N64
        have N66 := N65.pl [3]
        refine Y22 (z := .agg #[.int .i64 0, .int .i8 0, S [], S [], .slice none 0 0]) (f := emb_TF0) (xs := d0_2) (ys := [(⟨X1.2.1, X1.2.2.1, X1.2.2.2.1, X1.2.2.2.2.1, X2⟩ : TF0)]) (news := [.int .i64 X1.2.1, .int .i8 X1.2.2.1, S X1.2.2.2.1, S X1.2.2.2.2.1, .slice Z13 X2.length P13]) (ad := ⟨Q6, 0, none⟩) (m := 1) (c := 1) f N66 (RepSeq.mono ((J1.trans J2).trans J6) _ _ D1) (by exact ⟨_, _, rfl, TF0.shut B9, rfl⟩) rfl rfl rfl rfl (own_cells (N66.ownCell 1 rfl) 0 rfl) (by exact O1) (by have hg_ := O1; first | omega | (simp only [List.length_cons, List.length_nil] at *; omega)) fun Z14 P14 L7 W37 N67 D7 _ f => ?_
        have N68 := N67.pl [1]
        have N69 := N68.drop
        refine W_end rfl (N_goN 3 J6 N69 rfl (Y1 (v := .pointer (some (⟨b0, 0, none⟩))) rfl f rfl rfl (fun _ _ => by kernel_rfl) fun _ f => Y1 (v := .pointer (some (⟨b0, 2, none⟩))) rfl f rfl rfl (fun _ _ => by kernel_rfl) fun _ f => N_alt rfl (fun W38 N70 => ?_) ?_))
        ·refine Y27 f N70 2 rfl rfl (b := b0) (j := 2) (v := .slice Z14 (d0_2 ++ [(⟨X1.2.1, X1.2.2.1, X1.2.2.2.1, X1.2.2.2.2.1, X2⟩ : TF0)]).length P14) rfl (by exact rfl) (by simp) (by simp) ((Ent.row 42 5 (.slice Z14 (d0_2 ++ [(⟨X1.2.1, X1.2.2.1, X1.2.2.2.1, X1.2.2.2.2.1, X2⟩ : TF0)]).length P14) (d0_2 ++ [(⟨X1.2.1, X1.2.2.1, X1.2.2.2.1, X1.2.2.2.2.1, X2⟩ : TF0)]).length L7) :: (Ent.obj Q1 (.cells #[.int .i64 X1.2.1, .int .i8 X1.2.2.1, S X1.2.2.2.1, S X1.2.2.2.2.1, .slice Z13 X2.length P13] 42 (0, 0))) :: (Ent.obj b0 (.cells #[.slice Z1 d0_0.length P1, .int .i64 d0_1, .slice Z14 (d0_2 ++ [(⟨X1.2.1, X1.2.2.1, X1.2.2.2.1, X1.2.2.2.2.1, X2⟩ : TF0)]).length P14, .map (some m0_3), .slice Z3 d0_4.length P3, .int .i64 d0_5] 82 (0, 0))) :: (Ent.obj m0_3 (mapO (Value.int .i64) (fun x : TB0 => Value.agg #[.bool x.fEnded, .bool x.fOk, S x.fPhys]) (mput d0_3 X1.2.1 z_TB0))) :: (Ent.obj Q2 (.cells #[.bool ((mget d0_3 X1.2.1).getD z_TB0).fEnded, .bool ((mget d0_3 X1.2.1).getD z_TB0).fOk, S ((mget d0_3 X1.2.1).getD z_TB0).fPhys] 45 (0, 0))) :: (Ent.row 42 5 (.slice Z3 d0_4.length P3) d0_4.length L2) :: H) rfl fun W39 N71 _ f => W_end rfl (N_goN 3 J6 N71 rfl (N_end fun W40 N72 => T_n ?_))
         exact ⟨(X2, d0_2 ++ [(⟨X1.2.1, X1.2.2.1, X1.2.2.2.1, X1.2.2.2.2.1, X2⟩ : TF0)]), (sI F7).symm, V6, J6, Z13, P13, Z14, P14, L7, B9, D7, f.kp, N72⟩
        exact N_none
       exact N_none
      exact N_none
     exact N_none
    exact N_none
   ·rintro a_63 W41 ⟨G1, hq_1, V7, J7, Z15, P15, Z16, P16, L8, B10, D8, f, N73⟩
    subst j_1
    refine T_n ?_
    obtain ⟨j_2, hj_2, F8⟩ := bS F6
    refine R_mid (fun a_88 W61 => ∃ G2 : List TF0, j_2 = G2 ∧ ∃ V8 : Mem, V7.le V8 ∧ ∃ (Z20 : Option Addr), ∃ (P20 : Nat), ∃ (L12 : List Value), RepSeq V8 (G2.map emb_TF0) L12 ∧ Frm 57 [] a_88 ∧ Hp w0 V8 ((Ent.row 42 5 (.slice Z20 G2.length P20) G2.length L12) :: (Ent.obj b0 (.cells #[.slice Z1 d0_0.length P1, .int .i64 d0_1, .slice Z16 G1.2.length P16, .map (some m0_3), .slice Z20 G2.length P20, .int .i64 d0_5] 82 (0, 0))) :: (Ent.row 42 5 (.slice Z16 G1.2.length P16) G1.2.length L8) :: (Ent.obj Q1 (.cells #[.int .i64 X1.2.1, .int .i8 X1.2.2.1, S X1.2.2.2.1, S X1.2.2.2.2.1, .slice Z15 G1.1.length P15] 42 (0, 0))) :: (Ent.obj m0_3 (mapO (Value.int .i64) (fun x : TB0 => Value.agg #[.bool x.fEnded, .bool x.fOk, S x.fPhys]) (mput d0_3 X1.2.1 z_TB0))) :: (Ent.obj Q2 (.cells #[.bool ((mget d0_3 X1.2.1).getD z_TB0).fEnded, .bool ((mget d0_3 X1.2.1).getD z_TB0).fOk, S ((mget d0_3 X1.2.1).getD z_TB0).fPhys] 45 (0, 0))) :: H) W61) ?_ ?_
    ·have N85 := N73.pl [4, 4, 3, 3, 5, 5]
     obtain ⟨O2, F9⟩ := nS hj_2
     refine R_plan (ks := []) (E := [Ent.obj b0 (.cells #[.slice Z1 d0_0.length P1, .int .i64 d0_1, .slice Z16 G1.2.length P16, .map (some m0_3), .slice Z3 d0_4.length P3, .int .i64 d0_5] 82 (0, 0)), Ent.row 42 5 (.slice Z3 d0_4.length P3) d0_4.length L2]) (Hr := ((Ent.row 42 5 (.slice Z16 G1.2.length P16) G1.2.length L8) :: (Ent.obj Q1 (.cells #[.int .i64 X1.2.1, .int .i8 X1.2.2.1, S X1.2.2.2.1, S X1.2.2.2.2.1, .slice Z15 G1.1.length P15] 42 (0, 0))) :: (Ent.obj m0_3 (mapO (Value.int .i64) (fun x : TB0 => Value.agg #[.bool x.fEnded, .bool x.fOk, S x.fPhys]) (mput d0_3 X1.2.1 z_TB0))) :: (Ent.obj Q2 (.cells #[.bool ((mget d0_3 X1.2.1).getD z_TB0).fEnded, .bool ((mget d0_3 X1.2.1).getD z_TB0).fOk, S ((mget d0_3 X1.2.1).getD z_TB0).fPhys] 45 (0, 0))) :: H)) (.quiet 0 (.quiet 1 (.quiet 2 (.quiet 3 (.quiet 5 (.alt 4 (.alt 6 (.alt 7 (.quiet 8 (.quiet 9 (.alt 10 .done .none))) .none) .none) (.alt 6 (.alt 4 (.alt 7 (.quiet 8 (.quiet 9 (.alt 10 .done .none))) .none) .none) .none))))))) N85 (by kernel_rfl) (by kernel_rfl) (by kernel_rfl) (Y1 (v := .pointer (some (⟨b0, 0, none⟩))) rfl f rfl rfl (fun _ _ => by kernel_rfl) fun _ f => Y1 (v := .pointer (some (⟨b0, 0, none⟩))) rfl f rfl rfl (fun _ _ => by kernel_rfl) fun _ f => Y1 (v := .pointer (some (⟨b0, 0, none⟩))) rfl f rfl rfl (fun _ _ => by kernel_rfl) fun _ f => Y1 (v := .pointer (some (⟨b0, 4, none⟩))) rfl f rfl rfl (fun _ _ => by kernel_rfl) fun _ f => Y1 (v := .agg #[.int .i64 X1.2.1, .int .i8 X1.2.2.1, S X1.2.2.2.1, S X1.2.2.2.2.1, .slice Z15 G1.1.length P15]) rfl f rfl rfl (fun _ pq => Y34 (cs := [.int .i64 X1.2.1, .int .i8 X1.2.2.1, S X1.2.2.2.1, S X1.2.2.2.2.1, .slice Z15 G1.1.length P15]) rfl (ad := ⟨Q1, 0, none⟩) (own_cells (pq.ownCell 1 rfl) 0 rfl)) fun _ f => N_alt rfl (fun W45 N86 => ?_) ?_)
     ·refine Z f (Y33 (v := .slice Z3 d0_4.length P3) rfl (ad := ⟨b0, 4, none⟩) (N86.ownCell 0 rfl 4)) fun _ f => W_end rfl (N_goN 2 (mR _) N86 rfl (N_alt rfl (fun W46 N87 => ?_) ?_))
      ·refine V_allocS (k := 1) (c := 1) f N87 (.cells #[.int .i64 X1.2.1, .int .i8 X1.2.2.1, S X1.2.2.2.1, S X1.2.2.2.2.1, .slice Z15 G1.1.length P15] 42 (0, 0)) (by kernel_rfl) (fun _ => by kernel_rfl) fun Q8 W47 N88 _ f => W_end rfl (N_goN 3 (mR _) N88 rfl (N_alt rfl (fun W48 N89 => ?_) ?_))
       ·have N90 := N89.pl [2]
        refine Y22 (z := .agg #[.int .i64 0, .int .i8 0, S [], S [], .slice none 0 0]) (f := emb_TF0) (xs := d0_4) (ys := [(⟨X1.2.1, X1.2.2.1, X1.2.2.2.1, X1.2.2.2.2.1, G1.1⟩ : TF0)]) (news := [.int .i64 X1.2.1, .int .i8 X1.2.2.1, S X1.2.2.2.1, S X1.2.2.2.2.1, .slice Z15 G1.1.length P15]) (ad := ⟨Q8, 0, none⟩) (m := 1) (c := 1) f N90 (RepSeq.mono ((J1.trans J2).trans J7) _ _ D2) (by exact ⟨_, _, rfl, TF0.shut B10, rfl⟩) rfl rfl rfl rfl (own_cells (N90.ownCell 1 rfl) 0 rfl) (by exact O2) (by have hg_ := O2; first | omega | (simp only [List.length_cons, List.length_nil] at *; omega)) fun Z18 P18 L10 W49 N91 D10 _ f => ?_
        have N92 := N91.pl [1]
        have N93 := N92.drop
        refine W_end rfl (N_goN 2 (mR _) N93 rfl (Y1 (v := .pointer (some (⟨b0, 0, none⟩))) rfl f rfl rfl (fun _ _ => by kernel_rfl) fun _ f => Y1 (v := .pointer (some (⟨b0, 4, none⟩))) rfl f rfl rfl (fun _ _ => by kernel_rfl) fun _ f => N_alt rfl (fun W50 N94 => ?_) ?_))
        ·refine Y27 f N94 1 rfl rfl (b := b0) (j := 4) (v := .slice Z18 (d0_4 ++ [(⟨X1.2.1, X1.2.2.1, X1.2.2.2.1, X1.2.2.2.2.1, G1.1⟩ : TF0)]).length P18) rfl (by exact rfl) (by simp) (by simp) ((Ent.row 42 5 (.slice Z18 (d0_4 ++ [(⟨X1.2.1, X1.2.2.1, X1.2.2.2.1, X1.2.2.2.2.1, G1.1⟩ : TF0)]).length P18) (d0_4 ++ [(⟨X1.2.1, X1.2.2.1, X1.2.2.2.1, X1.2.2.2.2.1, G1.1⟩ : TF0)]).length L10) :: (Ent.obj b0 (.cells #[.slice Z1 d0_0.length P1, .int .i64 d0_1, .slice Z16 G1.2.length P16, .map (some m0_3), .slice Z18 (d0_4 ++ [(⟨X1.2.1, X1.2.2.1, X1.2.2.2.1, X1.2.2.2.2.1, G1.1⟩ : TF0)]).length P18, .int .i64 d0_5] 82 (0, 0))) :: (Ent.row 42 5 (.slice Z16 G1.2.length P16) G1.2.length L8) :: (Ent.obj Q1 (.cells #[.int .i64 X1.2.1, .int .i8 X1.2.2.1, S X1.2.2.2.1, S X1.2.2.2.2.1, .slice Z15 G1.1.length P15] 42 (0, 0))) :: (Ent.obj m0_3 (mapO (Value.int .i64) (fun x : TB0 => Value.agg #[.bool x.fEnded, .bool x.fOk, S x.fPhys]) (mput d0_3 X1.2.1 z_TB0))) :: (Ent.obj Q2 (.cells #[.bool ((mget d0_3 X1.2.1).getD z_TB0).fEnded, .bool ((mget d0_3 X1.2.1).getD z_TB0).fOk, S ((mget d0_3 X1.2.1).getD z_TB0).fPhys] 45 (0, 0))) :: H) rfl fun W51 N95 _ f => W_end rfl (N_goN 2 (mR _) N95 rfl (N_end fun W52 N96 => T_n ?_))
         exact ⟨d0_4 ++ [(⟨X1.2.1, X1.2.2.1, X1.2.2.2.1, X1.2.2.2.2.1, G1.1⟩ : TF0)], (sI F9).symm, V7, (mR _), Z18, P18, L10, D10, f.kp, N96⟩
        exact N_none
       exact N_none
      exact N_none
     refine N_alt rfl (fun W53 N97 => ?_) ?_
     ·refine V_allocS (k := 1) (c := 1) f N97 (.cells #[.int .i64 X1.2.1, .int .i8 X1.2.2.1, S X1.2.2.2.1, S X1.2.2.2.2.1, .slice Z15 G1.1.length P15] 42 (0, 0)) (by kernel_rfl) (fun _ => by kernel_rfl) fun Q9 W54 N98 _ f => W_end rfl (N_goN 3 (mR _) N98 rfl (N_alt rfl (fun W55 N99 => ?_) ?_))
      ·refine Z f (Y33 (v := .slice Z3 d0_4.length P3) rfl (ad := ⟨b0, 4, none⟩) (N99.ownCell 1 rfl 4)) fun _ f => W_end rfl (N_goN 3 (mR _) N99 rfl (N_alt rfl (fun W56 N100 => ?_) ?_))
       ·have N101 := N100.pl [2]
        refine Y22 (z := .agg #[.int .i64 0, .int .i8 0, S [], S [], .slice none 0 0]) (f := emb_TF0) (xs := d0_4) (ys := [(⟨X1.2.1, X1.2.2.1, X1.2.2.2.1, X1.2.2.2.2.1, G1.1⟩ : TF0)]) (news := [.int .i64 X1.2.1, .int .i8 X1.2.2.1, S X1.2.2.2.1, S X1.2.2.2.2.1, .slice Z15 G1.1.length P15]) (ad := ⟨Q9, 0, none⟩) (m := 1) (c := 1) f N101 (RepSeq.mono ((J1.trans J2).trans J7) _ _ D2) (by exact ⟨_, _, rfl, TF0.shut B10, rfl⟩) rfl rfl rfl rfl (own_cells (N101.ownCell 1 rfl) 0 rfl) (by exact O2) (by have hg_ := O2; first | omega | (simp only [List.length_cons, List.length_nil] at *; omega)) fun Z19 P19 L11 W57 N102 D11 _ f => ?_
        have N103 := N102.pl [1]
        have N104 := N103.drop
        refine W_end rfl (N_goN 2 (mR _) N104 rfl (Y1 (v := .pointer (some (⟨b0, 0, none⟩))) rfl f rfl rfl (fun _ _ => by kernel_rfl) fun _ f => Y1 (v := .pointer (some (⟨b0, 4, none⟩))) rfl f rfl rfl (fun _ _ => by kernel_rfl) fun _ f => N_alt rfl (fun W58 N105 => ?_) ?_))
        ·refine Y27 f N105 1 rfl rfl (b := b0) (j := 4) (v := .slice Z19 (d0_4 ++ [(⟨X1.2.1, X1.2.2.1, X1.2.2.2.1, X1.2.2.2.2.1, G1.1⟩ : TF0)]).length P19) rfl (by exact rfl) (by simp) (by simp) ((Ent.row 42 5 (.slice Z19 (d0_4 ++ [(⟨X1.2.1, X1.2.2.1, X1.2.2.2.1, X1.2.2.2.2.1, G1.1⟩ : TF0)]).length P19) (d0_4 ++ [(⟨X1.2.1, X1.2.2.1, X1.2.2.2.1, X1.2.2.2.2.1, G1.1⟩ : TF0)]).length L11) :: (Ent.obj b0 (.cells #[.slice Z1 d0_0.length P1, .int .i64 d0_1, .slice Z16 G1.2.length P16, .map (some m0_3), .slice Z19 (d0_4 ++ [(⟨X1.2.1, X1.2.2.1, X1.2.2.2.1, X1.2.2.2.2.1, G1.1⟩ : TF0)]).length P19, .int .i64 d0_5] 82 (0, 0))) :: (Ent.row 42 5 (.slice Z16 G1.2.length P16) G1.2.length L8) :: (Ent.obj Q1 (.cells #[.int .i64 X1.2.1, .int .i8 X1.2.2.1, S X1.2.2.2.1, S X1.2.2.2.2.1, .slice Z15 G1.1.length P15] 42 (0, 0))) :: (Ent.obj m0_3 (mapO (Value.int .i64) (fun x : TB0 => Value.agg #[.bool x.fEnded, .bool x.fOk, S x.fPhys]) (mput d0_3 X1.2.1 z_TB0))) :: (Ent.obj Q2 (.cells #[.bool ((mget d0_3 X1.2.1).getD z_TB0).fEnded, .bool ((mget d0_3 X1.2.1).getD z_TB0).fOk, S ((mget d0_3 X1.2.1).getD z_TB0).fPhys] 45 (0, 0))) :: H) rfl fun W59 N106 _ f => W_end rfl (N_goN 2 (mR _) N106 rfl (N_end fun W60 N107 => T_n ?_))
         exact ⟨d0_4 ++ [(⟨X1.2.1, X1.2.2.1, X1.2.2.2.1, X1.2.2.2.2.1, G1.1⟩ : TF0)], (sI F9).symm, V7, (mR _), Z19, P19, L11, D11, f.kp, N107⟩
        exact N_none
       exact N_none
      exact N_none
     exact N_none
    ·rintro a_88 W61 ⟨G2, hq_2, V8, J8, Z20, P20, L12, D12, f, N108⟩
     subst j_2
     refine T_n (RR (Y f 1 fun _ f => eT (wp_ret (E_ret1 f rfl (by kernel_rfl : Vc.look _ 4 = some (.int .i64 0)) ?_))))
     obtain rfl := sI F8
     have N113 := N108.pl [4, 3, 3, 5, 5]
     exact ⟨_, rfl, V8, _, (((J1.trans J2).trans J7).trans J8), (N113.dropN 2), ⟨Z1, P1, Z16, P16, L8, Z20, P20, L12, rfl, rfl, (B1.mono (((J1.trans J2).trans J7).trans J8)), (RepSeq.mono J8 _ _ D8), D12⟩⟩
  ·have U4 : ((mget d0_3 X1.2.1).isSome) = true := by simpa using B5
   refine wp_skip (T_n (RR (Y f 1 fun _ f => eT (wp_ret (E_ret1 f rfl (by kernel_rfl : Vc.look _ 4 = some (.int .i64 0)) ?_)))))
   obtain rfl := sI F10
   exact ⟨_, rfl, V1, _, J1, (N7.dropN 2), ⟨Z1, P1, Z2, P2, L1, Z3, P3, L2, rfl, rfl, (B1.mono J1), (RepSeq.mono J1 _ _ D1), (RepSeq.mono J1 _ _ D2)⟩⟩
def cloud_Cloud_effect (n : Nat) (d0_0 : List TD0) (d0_1 : Int) (d0_2 : List TF0) (d0_3 : List (Int × TB0)) (d0_4 : List TF0) (d0_5 : Int) (d1_0 : Int) (d1_1 : Int) (d1_2 : List UInt8) (d1_3 : List UInt8) (d1_4 : List TC0) : Option (TB0 × List TD0 × Int × List TF0 × (List (Int × TB0)) × List TF0 × Int × Int × Int × List UInt8 × List UInt8 × List TC0) :=
  ((bif (decide (d1_1 = 0)) then
      ((store_Create n (⟨d0_0, d0_1⟩ : TA0) d1_3 d1_4).bind fun X1 =>
      some ((X1.2.1, X1.2.2, X1.1.fL, X1.1.fMade)))
    else
      bif (decide (d1_1 = 1)) then
        ((store_Update n (⟨d0_0, d0_1⟩ : TA0) d1_2 d1_4).bind fun X2 =>
        some ((([] : List UInt8), X2.2, X2.1.fL, X2.1.fMade)))
      else
        bif (decide (d1_1 = 2)) then
          ((store_Delete n (⟨d0_0, d0_1⟩ : TA0) d1_2).bind fun X3 =>
          some ((([] : List UInt8), X3.2, X3.1.fL, X3.1.fMade)))
        else
          some ((([] : List UInt8), (0 : Int), d0_0, d0_1)) : Option (List UInt8 × Int × List TD0 × Int))).bind fun G1 =>
  bif (!(decide (G1.2.1 = 0))) then
    (some (((⟨(true), (false), ([] : List UInt8)⟩ : TB0), d0_0, d0_1, d0_2, d0_3, d0_4, d0_5, d1_0, d1_1, d1_2, d1_3, d1_4)))
  else
    bif (decide (d1_1 = 0)) then
      (need (inR .i64 (d0_5 + 1)) <|
      some (((⟨(true), (true), G1.1⟩ : TB0), G1.2.2.1, G1.2.2.2, d0_2, d0_3, d0_4, d0_5 + 1, d1_0, d1_1, d1_2, d1_3, d1_4)))
    else
      some (((⟨(true), (true), G1.1⟩ : TB0), G1.2.2.1, G1.2.2.2, d0_2, d0_3, d0_4, d0_5, d1_0, d1_1, d1_2, d1_3, d1_4))
set_option maxRecDepth 20000 in
theorem cloud_Cloud_effect_ok (n : Nat) (M : Mem) (hG : GL M) (b0 : Nat) (d0_0 : List TD0) (Z1 : Option Addr) (P1 : Nat) (B1 : Sli M 3 emb_TD0 Z1 P1 d0_0) (d0_1 : Int) (d0_2 : List TF0) (Z2 : Option Addr) (P2 : Nat) (L1 : List Value) (D1 : RepSeq M (d0_2.map emb_TF0) L1) (m0_3 : Nat) (d0_3 : List (Int × TB0)) (d0_4 : List TF0) (Z3 : Option Addr) (P3 : Nat) (L2 : List Value) (D2 : RepSeq M (d0_4.map emb_TF0) L2) (d0_5 : Int) (b1 : Nat) (d1_0 : Int) (d1_1 : Int) (d1_2 : List UInt8) (d1_3 : List UInt8) (d1_4 : List TC0) (Z4 : Option Addr) (P4 : Nat) (B2 : Sli M 8 emb_TC0 Z4 P4 d1_4) (r : TB0 × List TD0 × Int × List TF0 × (List (Int × TB0)) × List TF0 × Int × Int × Int × List UInt8 × List UInt8 × List TC0) (hF : cloud_Cloud_effect n d0_0 d0_1 d0_2 d0_3 d0_4 d0_5 d1_0 d1_1 d1_2 d1_3 d1_4 = some r) : OkH Tryz.prog M [Ent.obj b0 (.cells #[.slice Z1 d0_0.length P1, .int .i64 d0_1, .slice Z2 d0_2.length P2, .map (some m0_3), .slice Z3 d0_4.length P3, .int .i64 d0_5] 82 (0, 0)), Ent.row 42 5 (.slice Z2 d0_2.length P2) d0_2.length L1, Ent.obj m0_3 (mapO (Value.int .i64) (fun x : TB0 => Value.agg #[.bool x.fEnded, .bool x.fOk, S x.fPhys]) d0_3), Ent.row 42 5 (.slice Z3 d0_4.length P3) d0_4.length L2, Ent.obj b1 (.cells #[.int .i64 d1_0, .int .i8 d1_1, S d1_2, S d1_3, .slice Z4 d1_4.length P4] 42 (0, 0))] 42 [.pointer (some (⟨b0, 0, none⟩)), .pointer (some (⟨b1, 0, none⟩))] (fun M' E' v => ∃ (c0 : List Value) (Z9 : Option Addr) (P9 : Nat) (Z10 : Option Addr) (P10 : Nat) (L3 : List Value) (Z11 : Option Addr) (P11 : Nat) (L4 : List Value) (Z12 : Option Addr) (P12 : Nat), v = .agg c0.toArray ∧ E' = [Ent.obj b0 (.cells #[.slice Z9 r.2.1.length P9, .int .i64 r.2.2.1, .slice Z10 r.2.2.2.1.length P10, .map (some m0_3), .slice Z11 r.2.2.2.2.2.1.length P11, .int .i64 r.2.2.2.2.2.2.1] 82 (0, 0)), Ent.row 42 5 (.slice Z10 r.2.2.2.1.length P10) r.2.2.2.1.length L3, Ent.obj m0_3 (mapO (Value.int .i64) (fun x : TB0 => Value.agg #[.bool x.fEnded, .bool x.fOk, S x.fPhys]) r.2.2.2.2.1), Ent.row 42 5 (.slice Z11 r.2.2.2.2.2.1.length P11) r.2.2.2.2.2.1.length L4, Ent.obj b1 (.cells #[.int .i64 r.2.2.2.2.2.2.2.1, .int .i8 r.2.2.2.2.2.2.2.2.1, S r.2.2.2.2.2.2.2.2.2.1, S r.2.2.2.2.2.2.2.2.2.2.1, .slice Z12 r.2.2.2.2.2.2.2.2.2.2.2.length P12] 42 (0, 0))] ∧ Rep M' (emb_TB0 r.1) c0 ∧ Sli M' 3 emb_TD0 Z9 P9 r.2.1 ∧ RepSeq M' (r.2.2.2.1.map emb_TF0) L3 ∧ RepSeq M' (r.2.2.2.2.2.1.map emb_TF0) L4 ∧ Sli M' 8 emb_TC0 Z12 P12 r.2.2.2.2.2.2.2.2.2.2.2) := by
 unfold cloud_Cloud_effect at hF
 intro M1 hM0 w0 H w p0
 replace hG := GL.mono hM0 hG
 replace B1 := B1.mono hM0
 replace D1 := RepSeq.mono hM0 _ _ D1
 replace D2 := RepSeq.mono hM0 _ _ D2
 replace B2 := B2.mono hM0
 refine R_enter 91 Tryz.func42 rfl rfl (by simp) fun a0 f0 => RR (Y12 f0 p0 (.cells #[.bool false, .bool false, S []] 45 (0, 0)) fun Q1 W1 N1 _ f => eT (RR (Y f 1 fun _ f => Y27 f N1 0 rfl rfl (b := Q1) (j := 0) (v := .bool true) rfl (by exact rfl) (by simp) (by simp) ((Ent.obj Q1 (.cells #[.bool true, .bool false, S []] 45 (0, 0))) :: (Ent.obj b0 (.cells #[.slice Z1 d0_0.length P1, .int .i64 d0_1, .slice Z2 d0_2.length P2, .map (some m0_3), .slice Z3 d0_4.length P3, .int .i64 d0_5] 82 (0, 0))) :: (Ent.row 42 5 (.slice Z2 d0_2.length P2) d0_2.length L1) :: (Ent.obj m0_3 (mapO (Value.int .i64) (fun x : TB0 => Value.agg #[.bool x.fEnded, .bool x.fOk, S x.fPhys]) d0_3)) :: (Ent.row 42 5 (.slice Z3 d0_4.length P3) d0_4.length L2) :: (Ent.obj b1 (.cells #[.int .i64 d1_0, .int .i8 d1_1, S d1_2, S d1_3, .slice Z4 d1_4.length P4] 42 (0, 0))) :: H) rfl fun W2 N2 _ f => eT (RR (Y f 3 fun _ f => Z (v := .agg #[.slice Z1 d0_0.length P1, .int .i64 d0_1]) f (Y34 (cs := [.slice Z1 d0_0.length P1, .int .i64 d0_1]) rfl (ad := ⟨b0, 0, none⟩) (own_cells (N2.ownCell 1 rfl) 0 rfl)) fun _ f => Y12 f N2 (.cells #[.slice none 0 0, .int .i64 0] 80 (0, 0)) fun Q2 W3 N3 _ f => Y28 (vs := [.slice Z1 d0_0.length P1, .int .i64 d0_1]) (j := 0) f N3 rfl rfl (by simp [Value.oneCell', S]) (by simp) (by decide) (cs' := #[.slice Z1 d0_0.length P1, .int .i64 d0_1]) (by kernel_rfl) fun W4 N4 _ f => Y f 2 fun _ f => eT (R_seq (RR (Y f 3 fun _ f => Z f (Y33 (v := .int .i8 d1_1) rfl (ad := ⟨b1, 1, none⟩) (N4.ownCell 6 rfl 1)) fun _ f => eT ?_))))))))
 obtain ⟨j_1, hj_1, F1⟩ := bS hF
 refine R_mid (fun a_42 W20 => ∃ G1 : List UInt8 × Int × List TD0 × Int, j_1 = G1 ∧ ∃ V4 : Mem, M1.le V4 ∧ ∃ (Z8 : Option Addr), ∃ (P8 : Nat), Sli V4 3 emb_TD0 Z8 P8 G1.2.2.1 ∧ Frm 91 [(0, .pointer (some (⟨b0, 0, none⟩))), (1, .pointer (some (⟨b1, 0, none⟩))), (4, .pointer (some (⟨Q1, 0, none⟩))), (5, .pointer (some (⟨Q2, 0, none⟩))), (6, S G1.1), (7, .int .i64 G1.2.1)] a_42 ∧ Hp w0 V4 ((Ent.obj Q2 (.cells #[.slice Z8 G1.2.2.1.length P8, .int .i64 G1.2.2.2] 80 (0, 0))) :: (Ent.obj Q1 (.cells #[.bool true, .bool false, S []] 45 (0, 0))) :: (Ent.obj b0 (.cells #[.slice Z1 d0_0.length P1, .int .i64 d0_1, .slice Z2 d0_2.length P2, .map (some m0_3), .slice Z3 d0_4.length P3, .int .i64 d0_5] 82 (0, 0))) :: (Ent.row 42 5 (.slice Z2 d0_2.length P2) d0_2.length L1) :: (Ent.obj m0_3 (mapO (Value.int .i64) (fun x : TB0 => Value.agg #[.bool x.fEnded, .bool x.fOk, S x.fPhys]) d0_3)) :: (Ent.row 42 5 (.slice Z3 d0_4.length P3) d0_4.length L2) :: (Ent.obj b1 (.cells #[.int .i64 d1_0, .int .i8 d1_1, S d1_2, S d1_3, .slice Z4 d1_4.length P4] 42 (0, 0))) :: H) W20) ?_ ?_
 ·refine wp_block (RR (Y f 2 fun _ f => eT (RcF f hj_1 (fun B3 F2 => ?_) fun B3 F4 => ?_)))
  ·have U1 := dI.1 B3
   refine R_mix (E := [Ent.obj Q2 (.cells #[.slice Z1 d0_0.length P1, .int .i64 d0_1] 80 (0, 0))]) (Hr := ((Ent.obj Q1 (.cells #[.bool true, .bool false, S []] 45 (0, 0))) :: (Ent.obj b0 (.cells #[.slice Z1 d0_0.length P1, .int .i64 d0_1, .slice Z2 d0_2.length P2, .map (some m0_3), .slice Z3 d0_4.length P3, .int .i64 d0_5] 82 (0, 0))) :: (Ent.row 42 5 (.slice Z2 d0_2.length P2) d0_2.length L1) :: (Ent.obj m0_3 (mapO (Value.int .i64) (fun x : TB0 => Value.agg #[.bool x.fEnded, .bool x.fOk, S x.fPhys]) d0_3)) :: (Ent.row 42 5 (.slice Z3 d0_4.length P3) d0_4.length L2) :: (Ent.obj b1 (.cells #[.int .i64 d1_0, .int .i8 d1_1, S d1_2, S d1_3, .slice Z4 d1_4.length P4] 42 (0, 0))) :: H)) [(0, true), (1, true), (2, true), (3, true), (4, true), (5, true), (6, true), (7, true), (8, true), (9, true), (10, true), (11, true), (12, false), (13, true), (14, true), (15, true), (16, true), (17, false), (18, true), (19, true)] N4 (by kernel_rfl) (by kernel_rfl) rfl (by kernel_rfl) (Y0 default f 3 fun _ f => M_eq (v := .agg #[.slice Z1 d0_0.length P1, .int .i64 d0_1]) f (by kernel_rfl) (by kernel_rfl) rfl rfl (fun _ pq => Y34 (cs := [.slice Z1 d0_0.length P1, .int .i64 d0_1]) rfl (ad := ⟨b0, 0, none⟩) (own_cells (pq.ownCell 1 rfl) 0 rfl)) fun _ f => Y0 default f 3 fun _ f => M_eq (v := S d1_3) f (by kernel_rfl) (by kernel_rfl) rfl rfl (fun _ pq => Y33 (v := S d1_3) rfl (ad := ⟨b1, 3, none⟩) (pq.ownCell 5 rfl 3)) fun _ f => Y0 default f 3 fun _ f => M_eq (v := .slice Z4 d1_4.length P4) f (by kernel_rfl) (by kernel_rfl) rfl rfl (fun _ pq => Y33 (v := .slice Z4 d1_4.length P4) rfl (ad := ⟨b1, 4, none⟩) (pq.ownCell 5 rfl 4)) fun _ f => M_fix (E := [Ent.obj Q2 (.cells #[.slice Z1 d0_0.length P1, .int .i64 d0_1] 80 (0, 0))]) fun W5 N5 => ?_)
   obtain ⟨X1, S1, F3⟩ := bS F2
   refine Y16 f N5 (store_Create_ok n _ hG _ (⟨d0_0, d0_1⟩ : TA0) (TA0.shut B1) d1_3 Z4 P4 d1_4 B2 X1 S1) fun _ V1 W6 J1 N6 q_1 _ f => ?_
   obtain ⟨c_1, rfl, D3⟩ := q_1
   obtain ⟨Z5, P5, rfl, B4⟩ := TA0.opn D3
   refine W_end rfl (M_go (M1 := V1) (E := [Ent.obj Q2 (.cells #[.slice Z1 d0_0.length P1, .int .i64 d0_1] 80 (0, 0))]) J1 N6 (Y0 default f 4 fun _ f => M_fix (E := [Ent.obj Q2 (.cells #[.slice Z1 d0_0.length P1, .int .i64 d0_1] 80 (0, 0))]) fun W7 N7 => Y28 (vs := [.slice Z5 X1.1.fL.length P5, .int .i64 X1.1.fMade]) (j := 0) f N7 rfl rfl (by simp [Value.oneCell', S]) (by simp) (by decide) (cs' := #[.slice Z5 X1.1.fL.length P5, .int .i64 X1.1.fMade]) (by kernel_rfl) fun W8 N8 _ f => W_end rfl (M_go (M1 := V1) (E := [Ent.obj Q2 (.cells #[.slice Z5 X1.1.fL.length P5, .int .i64 X1.1.fMade] 80 (0, 0))]) J1 N8 (Y0 default f 2 fun _ f => M_end rfl fun W9 N9 => B_n (T_n ?_)))))
   exact ⟨(X1.2.1, X1.2.2, X1.1.fL, X1.1.fMade), (sI F3).symm, V1, J1, Z5, P5, B4, f.kp, N9⟩
  ·have U2 := iff_f dI B3
   refine RR (Y f 2 fun _ f => eT (RcF f F4 (fun B5 F5 => ?_) fun B5 F7 => ?_))
   ·have U3 := dI.1 B5
    refine R_mix (E := [Ent.obj Q2 (.cells #[.slice Z1 d0_0.length P1, .int .i64 d0_1] 80 (0, 0))]) (Hr := ((Ent.obj Q1 (.cells #[.bool true, .bool false, S []] 45 (0, 0))) :: (Ent.obj b0 (.cells #[.slice Z1 d0_0.length P1, .int .i64 d0_1, .slice Z2 d0_2.length P2, .map (some m0_3), .slice Z3 d0_4.length P3, .int .i64 d0_5] 82 (0, 0))) :: (Ent.row 42 5 (.slice Z2 d0_2.length P2) d0_2.length L1) :: (Ent.obj m0_3 (mapO (Value.int .i64) (fun x : TB0 => Value.agg #[.bool x.fEnded, .bool x.fOk, S x.fPhys]) d0_3)) :: (Ent.row 42 5 (.slice Z3 d0_4.length P3) d0_4.length L2) :: (Ent.obj b1 (.cells #[.int .i64 d1_0, .int .i8 d1_1, S d1_2, S d1_3, .slice Z4 d1_4.length P4] 42 (0, 0))) :: H)) [(0, true), (1, true), (2, true), (3, true), (4, true), (5, true), (6, true), (7, true), (8, true), (9, true), (10, true), (11, true), (12, false), (13, true), (14, true), (15, true), (16, false), (17, true)] N4 (by kernel_rfl) (by kernel_rfl) rfl (by kernel_rfl) (Y0 default f 3 fun _ f => M_eq (v := .agg #[.slice Z1 d0_0.length P1, .int .i64 d0_1]) f (by kernel_rfl) (by kernel_rfl) rfl rfl (fun _ pq => Y34 (cs := [.slice Z1 d0_0.length P1, .int .i64 d0_1]) rfl (ad := ⟨b0, 0, none⟩) (own_cells (pq.ownCell 1 rfl) 0 rfl)) fun _ f => Y0 default f 3 fun _ f => M_eq (v := S d1_2) f (by kernel_rfl) (by kernel_rfl) rfl rfl (fun _ pq => Y33 (v := S d1_2) rfl (ad := ⟨b1, 2, none⟩) (pq.ownCell 5 rfl 2)) fun _ f => Y0 default f 3 fun _ f => M_eq (v := .slice Z4 d1_4.length P4) f (by kernel_rfl) (by kernel_rfl) rfl rfl (fun _ pq => Y33 (v := .slice Z4 d1_4.length P4) rfl (ad := ⟨b1, 4, none⟩) (pq.ownCell 5 rfl 4)) fun _ f => M_fix (E := [Ent.obj Q2 (.cells #[.slice Z1 d0_0.length P1, .int .i64 d0_1] 80 (0, 0))]) fun W10 N10 => ?_)
    obtain ⟨X2, S2, F6⟩ := bS F5
    refine Y16 f N10 (store_Update_ok n _ hG _ (⟨d0_0, d0_1⟩ : TA0) (TA0.shut B1) d1_2 Z4 P4 d1_4 B2 X2 S2) fun _ V2 W11 J2 N11 q_2 _ f => ?_
    obtain ⟨c_2, rfl, D4⟩ := q_2
    obtain ⟨Z6, P6, rfl, B6⟩ := TA0.opn D4
    refine W_end rfl (M_go (M1 := V2) (E := [Ent.obj Q2 (.cells #[.slice Z1 d0_0.length P1, .int .i64 d0_1] 80 (0, 0))]) J2 N11 (Y0 default f 3 fun _ f => M_fix (E := [Ent.obj Q2 (.cells #[.slice Z1 d0_0.length P1, .int .i64 d0_1] 80 (0, 0))]) fun W12 N12 => Y28 (vs := [.slice Z6 X2.1.fL.length P6, .int .i64 X2.1.fMade]) (j := 0) f N12 rfl rfl (by simp [Value.oneCell', S]) (by simp) (by decide) (cs' := #[.slice Z6 X2.1.fL.length P6, .int .i64 X2.1.fMade]) (by kernel_rfl) fun W13 N13 _ f => W_end rfl (M_go (M1 := V2) (E := [Ent.obj Q2 (.cells #[.slice Z6 X2.1.fL.length P6, .int .i64 X2.1.fMade] 80 (0, 0))]) J2 N13 (Y0 default f 1 fun _ f => M_end rfl fun W14 N14 => B_n (T_n ?_)))))
    exact ⟨(([] : List UInt8), X2.2, X2.1.fL, X2.1.fMade), (sI F6).symm, V2, J2, Z6, P6, B6, f.kp, N14⟩
   ·have U4 := iff_f dI B5
    refine RR (Y f 2 fun _ f => eT (RcF f F7 (fun B7 F8 => ?_) fun B7 F10 => ?_))
    ·have U5 := dI.1 B7
     refine R_mix (E := [Ent.obj Q2 (.cells #[.slice Z1 d0_0.length P1, .int .i64 d0_1] 80 (0, 0))]) (Hr := ((Ent.obj Q1 (.cells #[.bool true, .bool false, S []] 45 (0, 0))) :: (Ent.obj b0 (.cells #[.slice Z1 d0_0.length P1, .int .i64 d0_1, .slice Z2 d0_2.length P2, .map (some m0_3), .slice Z3 d0_4.length P3, .int .i64 d0_5] 82 (0, 0))) :: (Ent.row 42 5 (.slice Z2 d0_2.length P2) d0_2.length L1) :: (Ent.obj m0_3 (mapO (Value.int .i64) (fun x : TB0 => Value.agg #[.bool x.fEnded, .bool x.fOk, S x.fPhys]) d0_3)) :: (Ent.row 42 5 (.slice Z3 d0_4.length P3) d0_4.length L2) :: (Ent.obj b1 (.cells #[.int .i64 d1_0, .int .i8 d1_1, S d1_2, S d1_3, .slice Z4 d1_4.length P4] 42 (0, 0))) :: H)) [(0, true), (1, true), (2, true), (3, true), (4, true), (5, true), (6, true), (7, true), (8, false), (9, true), (10, true), (11, true), (12, false), (13, true)] N4 (by kernel_rfl) (by kernel_rfl) rfl (by kernel_rfl) (Y0 default f 3 fun _ f => M_eq (v := .agg #[.slice Z1 d0_0.length P1, .int .i64 d0_1]) f (by kernel_rfl) (by kernel_rfl) rfl rfl (fun _ pq => Y34 (cs := [.slice Z1 d0_0.length P1, .int .i64 d0_1]) rfl (ad := ⟨b0, 0, none⟩) (own_cells (pq.ownCell 1 rfl) 0 rfl)) fun _ f => Y0 default f 3 fun _ f => M_eq (v := S d1_2) f (by kernel_rfl) (by kernel_rfl) rfl rfl (fun _ pq => Y33 (v := S d1_2) rfl (ad := ⟨b1, 2, none⟩) (pq.ownCell 5 rfl 2)) fun _ f => M_fix (E := [Ent.obj Q2 (.cells #[.slice Z1 d0_0.length P1, .int .i64 d0_1] 80 (0, 0))]) fun W15 N15 => ?_)
     obtain ⟨X3, S3, F9⟩ := bS F8
     refine Y16 f N15 (store_Delete_ok n _ hG _ (⟨d0_0, d0_1⟩ : TA0) (TA0.shut B1) d1_2 X3 S3) fun _ V3 W16 J3 N16 q_3 _ f => ?_
     obtain ⟨c_3, rfl, D5⟩ := q_3
     obtain ⟨Z7, P7, rfl, B8⟩ := TA0.opn D5
     refine W_end rfl (M_go (M1 := V3) (E := [Ent.obj Q2 (.cells #[.slice Z1 d0_0.length P1, .int .i64 d0_1] 80 (0, 0))]) J3 N16 (Y0 default f 3 fun _ f => M_fix (E := [Ent.obj Q2 (.cells #[.slice Z1 d0_0.length P1, .int .i64 d0_1] 80 (0, 0))]) fun W17 N17 => Y28 (vs := [.slice Z7 X3.1.fL.length P7, .int .i64 X3.1.fMade]) (j := 0) f N17 rfl rfl (by simp [Value.oneCell', S]) (by simp) (by decide) (cs' := #[.slice Z7 X3.1.fL.length P7, .int .i64 X3.1.fMade]) (by kernel_rfl) fun W18 N18 _ f => W_end rfl (M_go (M1 := V3) (E := [Ent.obj Q2 (.cells #[.slice Z7 X3.1.fL.length P7, .int .i64 X3.1.fMade] 80 (0, 0))]) J3 N18 (Y0 default f 1 fun _ f => M_end rfl fun W19 N19 => B_n (T_n ?_)))))
     exact ⟨(([] : List UInt8), X3.2, X3.1.fL, X3.1.fMade), (sI F9).symm, V3, J3, Z7, P7, B8, f.kp, N19⟩
    ·have U6 := iff_f dI B7
     refine wp_skip (B_n (T_n ?_))
     exact ⟨(([] : List UInt8), (0 : Int), d0_0, d0_1), (sI F10).symm, M1, (mR _), Z1, P1, B1, f.kp, N4⟩
 ·rintro a_42 W20 ⟨G1, hq_1, V4, J4, Z8, P8, B9, f, N20⟩
  subst j_1
  refine T_n (R_seq (RR (Y f 2 fun _ f => eT (RcF f F1 (fun B10 F11 => ?_) fun B10 F12 => ?_))))
  ·have U7 : ¬ (G1.2.1 = 0) := (not_iff dI).1 B10
   refine RR (Z (v := .agg #[.bool true, .bool false, S []]) f (Y34 (cs := [.bool true, .bool false, S []]) rfl (ad := ⟨Q1, 0, none⟩) (own_cells (N20.ownCell 1 rfl) 0 rfl)) fun _ f => ?_)
   have N21 := N20.pl [1]
   refine Y28 (vs := [.bool true, .bool false, S []]) (j := 0) f N21 rfl rfl (by simp [Value.oneCell', S]) (by simp) (by decide) (cs' := #[.bool true, .bool false, S []]) (by kernel_rfl) fun W21 N22 _ f => eT (wp_ret (T_r (E_rv1 f rfl (Y10 (cs := [.bool true, .bool false, S []]) (ad := ⟨Q1, 0, none⟩) f (own_cells (N22.ownCell 0 rfl) 0 rfl)) ?_)))
   obtain rfl := sI F11
   exact ⟨_, rfl, V4, _, J4, (N22.dropN 2), ⟨[.bool true, .bool false, S []], Z1, P1, Z2, P2, L1, Z3, P3, L2, Z4, P4, rfl, rfl, (TB0.shut), (B1.mono J4), (RepSeq.mono J4 _ _ D1), (RepSeq.mono J4 _ _ D2), (B2.mono J4)⟩⟩
  ·have U8 : ¬ (¬ (G1.2.1 = 0)) := iff_f (not_iff dI) B10
   refine wp_skip (T_n (RR (Y f 1 fun _ f => Z (v := .agg #[.slice Z8 G1.2.2.1.length P8, .int .i64 G1.2.2.2]) f (Y34 (cs := [.slice Z8 G1.2.2.1.length P8, .int .i64 G1.2.2.2]) rfl (ad := ⟨Q2, 0, none⟩) (own_cells (N20.ownCell 0 rfl) 0 rfl)) fun _ f => Y f 3 fun _ f => ?_)))
   have N23 := N20.pl [2]
   refine Y28 (vs := [.slice Z8 G1.2.2.1.length P8, .int .i64 G1.2.2.2]) (j := 0) f N23 rfl rfl (by simp [Value.oneCell', S]) (by simp) (by decide) (cs' := #[.slice Z8 G1.2.2.1.length P8, .int .i64 G1.2.2.2, .slice Z2 d0_2.length P2, .map (some m0_3), .slice Z3 d0_4.length P3, .int .i64 d0_5]) (by kernel_rfl) fun W22 N24 _ f => Y f 1 fun _ f => Y27 f N24 2 rfl rfl (b := Q1) (j := 1) (v := .bool true) rfl (by exact rfl) (by simp) (by simp) ((Ent.obj b0 (.cells #[.slice Z8 G1.2.2.1.length P8, .int .i64 G1.2.2.2, .slice Z2 d0_2.length P2, .map (some m0_3), .slice Z3 d0_4.length P3, .int .i64 d0_5] 82 (0, 0))) :: (Ent.obj Q2 (.cells #[.slice Z8 G1.2.2.1.length P8, .int .i64 G1.2.2.2] 80 (0, 0))) :: (Ent.obj Q1 (.cells #[.bool true, .bool true, S []] 45 (0, 0))) :: (Ent.row 42 5 (.slice Z2 d0_2.length P2) d0_2.length L1) :: (Ent.obj m0_3 (mapO (Value.int .i64) (fun x : TB0 => Value.agg #[.bool x.fEnded, .bool x.fOk, S x.fPhys]) d0_3)) :: (Ent.row 42 5 (.slice Z3 d0_4.length P3) d0_4.length L2) :: (Ent.obj b1 (.cells #[.int .i64 d1_0, .int .i8 d1_1, S d1_2, S d1_3, .slice Z4 d1_4.length P4] 42 (0, 0))) :: H) rfl fun W23 N25 _ f => Y f 1 fun _ f => Y27 f N25 2 rfl rfl (b := Q1) (j := 2) (v := S G1.1) rfl (by exact rfl) (by simp) (by simp) ((Ent.obj b0 (.cells #[.slice Z8 G1.2.2.1.length P8, .int .i64 G1.2.2.2, .slice Z2 d0_2.length P2, .map (some m0_3), .slice Z3 d0_4.length P3, .int .i64 d0_5] 82 (0, 0))) :: (Ent.obj Q2 (.cells #[.slice Z8 G1.2.2.1.length P8, .int .i64 G1.2.2.2] 80 (0, 0))) :: (Ent.obj Q1 (.cells #[.bool true, .bool true, S G1.1] 45 (0, 0))) :: (Ent.row 42 5 (.slice Z2 d0_2.length P2) d0_2.length L1) :: (Ent.obj m0_3 (mapO (Value.int .i64) (fun x : TB0 => Value.agg #[.bool x.fEnded, .bool x.fOk, S x.fPhys]) d0_3)) :: (Ent.row 42 5 (.slice Z3 d0_4.length P3) d0_4.length L2) :: (Ent.obj b1 (.cells #[.int .i64 d1_0, .int .i8 d1_1, S d1_2, S d1_3, .slice Z4 d1_4.length P4] 42 (0, 0))) :: H) rfl fun W24 N26 _ f => eT (R_seq (RR (Y f 3 fun _ f => Z f (Y33 (v := .int .i8 d1_1) rfl (ad := ⟨b1, 1, none⟩) (N26.ownCell 6 rfl 1)) fun _ f => Y f 1 fun _ f => eT (RcF f F12 (fun B11 F13 => ?_) fun B11 F15 => ?_))))
   ·have U9 := dI.1 B11
    refine R_reg (Y f 3 fun _ f => Z f (Y33 (v := .int .i64 d0_5) rfl (ad := ⟨b0, 5, none⟩) (N26.ownCell 0 rfl 5)) fun _ f => ?_)
    obtain ⟨O1, F14⟩ := nS F13
    refine Y f 1 fun _ f => ?_
    have f := f.st 87 (iW O1)
    refine Y f 2 fun _ f => Y27 f N26 0 rfl rfl (b := b0) (j := 5) (v := .int .i64 (d0_5 + 1)) rfl (by exact rfl) (by simp) (by simp) ((Ent.obj b0 (.cells #[.slice Z8 G1.2.2.1.length P8, .int .i64 G1.2.2.2, .slice Z2 d0_2.length P2, .map (some m0_3), .slice Z3 d0_4.length P3, .int .i64 (d0_5 + 1)] 82 (0, 0))) :: (Ent.obj Q2 (.cells #[.slice Z8 G1.2.2.1.length P8, .int .i64 G1.2.2.2] 80 (0, 0))) :: (Ent.obj Q1 (.cells #[.bool true, .bool true, S G1.1] 45 (0, 0))) :: (Ent.row 42 5 (.slice Z2 d0_2.length P2) d0_2.length L1) :: (Ent.obj m0_3 (mapO (Value.int .i64) (fun x : TB0 => Value.agg #[.bool x.fEnded, .bool x.fOk, S x.fPhys]) d0_3)) :: (Ent.row 42 5 (.slice Z3 d0_4.length P3) d0_4.length L2) :: (Ent.obj b1 (.cells #[.int .i64 d1_0, .int .i8 d1_1, S d1_2, S d1_3, .slice Z4 d1_4.length P4] 42 (0, 0))) :: H) rfl fun W25 N27 _ f => eT (RR (Z (v := .agg #[.bool true, .bool true, S G1.1]) f (Y34 (cs := [.bool true, .bool true, S G1.1]) rfl (ad := ⟨Q1, 0, none⟩) (own_cells (N27.ownCell 2 rfl) 0 rfl)) fun _ f => ?_))
    have N28 := N27.pl [2]
    refine Y28 (vs := [.bool true, .bool true, S G1.1]) (j := 0) f N28 rfl rfl (by simp [Value.oneCell', S]) (by simp) (by decide) (cs' := #[.bool true, .bool true, S G1.1]) (by kernel_rfl) fun W26 N29 _ f => eT (wp_ret (E_rv1 f rfl (Y10 (cs := [.bool true, .bool true, S G1.1]) (ad := ⟨Q1, 0, none⟩) f (own_cells (N29.ownCell 0 rfl) 0 rfl)) ?_))
    obtain rfl := sI F14
    have N36 := N29.pl [6, 6, 6, 6, 5, 6, 6]
    exact ⟨_, rfl, V4, _, J4, (N36.dropN 2), ⟨[.bool true, .bool true, S G1.1], Z8, P8, Z2, P2, L1, Z3, P3, L2, Z4, P4, rfl, rfl, (TB0.shut), B9, (RepSeq.mono J4 _ _ D1), (RepSeq.mono J4 _ _ D2), (B2.mono J4)⟩⟩
   ·have U10 := iff_f dI B11
    refine wp_skip (T_n (RR (Z (v := .agg #[.bool true, .bool true, S G1.1]) f (Y34 (cs := [.bool true, .bool true, S G1.1]) rfl (ad := ⟨Q1, 0, none⟩) (own_cells (N26.ownCell 2 rfl) 0 rfl)) fun _ f => ?_)))
    have N37 := N26.pl [2]
    refine Y28 (vs := [.bool true, .bool true, S G1.1]) (j := 0) f N37 rfl rfl (by simp [Value.oneCell', S]) (by simp) (by decide) (cs' := #[.bool true, .bool true, S G1.1]) (by kernel_rfl) fun W27 N38 _ f => eT (wp_ret (E_rv1 f rfl (Y10 (cs := [.bool true, .bool true, S G1.1]) (ad := ⟨Q1, 0, none⟩) f (own_cells (N38.ownCell 0 rfl) 0 rfl)) ?_))
    obtain rfl := sI F15
    have N45 := N38.pl [6, 6, 6, 6, 5, 6, 6]
    exact ⟨_, rfl, V4, _, J4, (N45.dropN 2), ⟨[.bool true, .bool true, S G1.1], Z8, P8, Z2, P2, L1, Z3, P3, L2, Z4, P4, rfl, rfl, (TB0.shut), B9, (RepSeq.mono J4 _ _ D1), (RepSeq.mono J4 _ _ D2), (B2.mono J4)⟩⟩
def cloud_Cloud_End (n : Nat) (d0_0 : List TD0) (d0_1 : Int) (d0_2 : List TF0) (d0_3 : List (Int × TB0)) (d0_4 : List TF0) (d0_5 : Int) (d1 : Int) (d2 : Bool) : Option (Int × TB0 × Int × List TD0 × Int × List TF0 × (List (Int × TB0)) × List TF0 × Int) :=
  ((bif (decide (d1 < 0)) then
      (some ((true)))
    else
      some ((decide (((d0_4.length : Nat) : Int) ≤ d1))) : Option Bool)).bind fun G1 =>
  bif G1 then
    (some (((0 : Int), z_TB0, (4 : Int), d0_0, d0_1, d0_2, d0_3, d0_4, d0_5)))
  else
    (getI d0_4 d1).bind fun X1 =>
    ((need (inR .i64 (d1 + 1)) <|
      need (0 ≤ d1 ∧ d1 ≤ (d0_4.length : Int)) <|
      need (0 ≤ (d1 + 1) ∧ (d1 + 1) ≤ (d0_4.length : Int)) <|
      need ((d1 + 1).toNat = d1.toNat + 1 ∧ d1.toNat < d0_4.length) <|
      need (d0_4.length * 72 ≤ 140737488355328) <|
      some (d0_4.take d1.toNat ++ d0_4.drop (d1.toNat + 1)) : Option (List TF0))).bind fun G2 =>
    ((bif d2 then
        ((cloud_Cloud_effect n d0_0 d0_1 d0_2 d0_3 G2 d0_5 X1.fToken X1.fKind X1.fPhys X1.fType X1.fProps).bind fun X2 =>
        some (((X2.1.fEnded), (X2.1.fOk), X2.1.fPhys, X2.2.1, X2.2.2.1, X2.2.2.2.1, X2.2.2.2.2.2.1, X2.2.2.2.2.2.2.1, X2.2.2.2.2.2.2.2.1, X2.2.2.2.2.2.2.2.2.1, X2.2.2.2.2.2.2.2.2.2.1, X2.2.2.2.2.2.2.2.2.2.2.1, X2.2.2.2.2.2.2.2.2.2.2.2, X2.2.2.2.2.1)))
      else
        some (((true), (false), ([] : List UInt8), d0_0, d0_1, d0_2, G2, d0_5, X1.fToken, X1.fKind, X1.fPhys, X1.fType, X1.fProps, d0_3)) : Option (Bool × Bool × List UInt8 × List TD0 × Int × List TF0 × List TF0 × Int × Int × Int × List UInt8 × List UInt8 × List TC0 × (List (Int × TB0))))).bind fun G3 =>
    some ((G3.2.2.2.2.2.2.2.2.1, (⟨(G3.1), (G3.2.1), G3.2.2.1⟩ : TB0), (0 : Int), G3.2.2.2.1, G3.2.2.2.2.1, G3.2.2.2.2.2.1, mput G3.2.2.2.2.2.2.2.2.2.2.2.2.2 G3.2.2.2.2.2.2.2.2.1 (⟨(G3.1), (G3.2.1), G3.2.2.1⟩ : TB0), G3.2.2.2.2.2.2.1, G3.2.2.2.2.2.2.2.1))
set_option maxRecDepth 20000 in
theorem cloud_Cloud_End_ok (n : Nat) (M : Mem) (hG : GL M) (b0 : Nat) (d0_0 : List TD0) (Z1 : Option Addr) (P1 : Nat) (B1 : Sli M 3 emb_TD0 Z1 P1 d0_0) (d0_1 : Int) (d0_2 : List TF0) (Z2 : Option Addr) (P2 : Nat) (L1 : List Value) (D1 : RepSeq M (d0_2.map emb_TF0) L1) (m0_3 : Nat) (d0_3 : List (Int × TB0)) (d0_4 : List TF0) (Z3 : Option Addr) (P3 : Nat) (L2 : List Value) (D2 : RepSeq M (d0_4.map emb_TF0) L2) (d0_5 : Int) (d1 : Int) (d2 : Bool) (r : Int × TB0 × Int × List TD0 × Int × List TF0 × (List (Int × TB0)) × List TF0 × Int) (hF : cloud_Cloud_End n d0_0 d0_1 d0_2 d0_3 d0_4 d0_5 d1 d2 = some r) : OkH Tryz.prog M [Ent.obj b0 (.cells #[.slice Z1 d0_0.length P1, .int .i64 d0_1, .slice Z2 d0_2.length P2, .map (some m0_3), .slice Z3 d0_4.length P3, .int .i64 d0_5] 82 (0, 0)), Ent.row 42 5 (.slice Z2 d0_2.length P2) d0_2.length L1, Ent.obj m0_3 (mapO (Value.int .i64) (fun x : TB0 => Value.agg #[.bool x.fEnded, .bool x.fOk, S x.fPhys]) d0_3), Ent.row 42 5 (.slice Z3 d0_4.length P3) d0_4.length L2] 21 [.pointer (some (⟨b0, 0, none⟩)), .int .i64 d1, .bool d2] (fun M' E' v => ∃ (c1 : List Value) (Z35 : Option Addr) (P36 : Nat) (Z36 : Option Addr) (P37 : Nat) (L15 : List Value) (Z37 : Option Addr) (P38 : Nat) (L16 : List Value), v = .tuple #[.int .i64 r.1, .agg c1.toArray, .int .i64 r.2.2.1] ∧ E' = [Ent.obj b0 (.cells #[.slice Z35 r.2.2.2.1.length P36, .int .i64 r.2.2.2.2.1, .slice Z36 r.2.2.2.2.2.1.length P37, .map (some m0_3), .slice Z37 r.2.2.2.2.2.2.2.1.length P38, .int .i64 r.2.2.2.2.2.2.2.2] 82 (0, 0)), Ent.row 42 5 (.slice Z36 r.2.2.2.2.2.1.length P37) r.2.2.2.2.2.1.length L15, Ent.obj m0_3 (mapO (Value.int .i64) (fun x : TB0 => Value.agg #[.bool x.fEnded, .bool x.fOk, S x.fPhys]) r.2.2.2.2.2.2.1), Ent.row 42 5 (.slice Z37 r.2.2.2.2.2.2.2.1.length P38) r.2.2.2.2.2.2.2.1.length L16] ∧ Rep M' (emb_TB0 r.2.1) c1 ∧ Sli M' 3 emb_TD0 Z35 P36 r.2.2.2.1 ∧ RepSeq M' (r.2.2.2.2.2.1.map emb_TF0) L15 ∧ RepSeq M' (r.2.2.2.2.2.2.2.1.map emb_TF0) L16) := by
 unfold cloud_Cloud_End at hF
 intro M1 hM0 w0 H w p0
 replace hG := GL.mono hM0 hG
 replace B1 := B1.mono hM0
 replace D1 := RepSeq.mono hM0 _ _ D1
 replace D2 := RepSeq.mono hM0 _ _ D2
 refine R_enter 64 Tryz.func21 rfl rfl (by simp) fun a0 f0 => RR (Y f0 1 fun _ f => Y12 f p0 (.cells #[.bool false, .bool false, S []] 45 (0, 0)) fun Q1 W1 N1 _ f => Y f 1 fun _ f => eT (R_seq (RR (Y f 1 fun _ f => Z (v := .bool false) f (X_ptrNil (q := some (⟨b0, 0, none⟩)) (e := 82) rfl (by kernel_rfl) (by kernel_rfl) (by kernel_rfl) _) fun _ f => eT (Y7 f (wp_skip (T_n (R_seq (R_seq ?_)))))))))
 obtain ⟨j_1, hj_1, F1⟩ := bS hF
 refine R_mid (fun a_11 W2 => ∃ G1 : Bool, j_1 = G1 ∧ ∃ V1 : Mem, M1.le V1 ∧ Frm 64 [(0, .pointer (some (⟨b0, 0, none⟩))), (1, .int .i64 d1), (2, .bool d2), (7, .pointer (some (⟨Q1, 0, none⟩))), (23, .bool G1)] a_11 ∧ Hp w0 V1 ((Ent.obj Q1 (.cells #[.bool false, .bool false, S []] 45 (0, 0))) :: (Ent.obj b0 (.cells #[.slice Z1 d0_0.length P1, .int .i64 d0_1, .slice Z2 d0_2.length P2, .map (some m0_3), .slice Z3 d0_4.length P3, .int .i64 d0_5] 82 (0, 0))) :: (Ent.row 42 5 (.slice Z2 d0_2.length P2) d0_2.length L1) :: (Ent.obj m0_3 (mapO (Value.int .i64) (fun x : TB0 => Value.agg #[.bool x.fEnded, .bool x.fOk, S x.fPhys]) d0_3)) :: (Ent.row 42 5 (.slice Z3 d0_4.length P3) d0_4.length L2) :: H) W2) ?_ ?_
 ·refine R_reg (Y f 3 fun _ f => ?_)
  rcases cE hj_1 with ⟨B2, F2⟩ | ⟨B2, F3⟩
  ·have U1 := dI.1 B2
   have f := f.st 15 (cB B2)
   refine Y f 8 fun _ f => eT ?_
   exact ⟨(true), (sI F2).symm, M1, (mR _), f.kp, N1⟩
  ·have U2 := iff_f dI B2
   have f := f.st 15 (cB B2)
   refine Y f 4 fun _ f => Z f (Y33 (v := .slice Z3 d0_4.length P3) rfl (ad := ⟨b0, 4, none⟩) (N1.ownCell 1 rfl 4)) fun _ f => Y f 3 fun _ f => eT ?_
   exact ⟨(decide (((d0_4.length : Nat) : Int) ≤ d1)), (sI F3).symm, M1, (mR _), f.kp, N1⟩
 ·rintro a_11 W2 ⟨G1, hq_1, V1, J1, f, N2⟩
  subst j_1
  refine T_n (RcF f F1 (fun B3 F4 => ?_) fun B3 F5 => ?_)
  ·refine R_seq (R_drawT 2 N2 (by kernel_rfl) (by kernel_rfl) fun W3 N3 => ST_eq (v := .agg #[.bool false, .bool false, S []]) f (by kernel_rfl) (by kernel_rfl) rfl rfl (Y34 (cs := [.bool false, .bool false, S []]) rfl (ad := ⟨Q1, 0, none⟩) (own_cells (N3.ownCell 0 rfl) 0 rfl)) fun _ f => ST_eq (v := .int .i64 0) f (by kernel_rfl) (by kernel_rfl) rfl rfl (by kernel_rfl) fun _ f => ST_end rfl (Y28 (vs := [.bool false, .bool false, S []]) (j := 0) f N3 rfl rfl (by simp [Value.oneCell', S]) (by simp) (by decide) (cs' := #[.bool false, .bool false, S []]) (by kernel_rfl) fun W4 N4 _ f => Y f 1 fun _ f => eT (wp_ret (T_r (E_rv3 f rfl (Y11 (v := .int .i64 0) f) (Y10 (cs := [.bool false, .bool false, S []]) (ad := ⟨Q1, 0, none⟩) f (own_cells (N4.ownCell 0 rfl) 0 rfl)) (Y11 (v := .int .i64 4) f) ?_)))))
   obtain rfl := sI F4
   exact ⟨_, rfl, V1, _, J1, (N4.dropN 1), ⟨[.bool false, .bool false, S []], Z1, P1, Z2, P2, L1, Z3, P3, L2, rfl, rfl, (TB0.shut), (B1.mono J1), (RepSeq.mono J1 _ _ D1), (RepSeq.mono J1 _ _ D2)⟩⟩
  ·refine wp_skip (T_n (RR (Y f 3 fun _ f => Z f (Y33 (v := .slice Z3 d0_4.length P3) rfl (ad := ⟨b0, 4, none⟩) (N2.ownCell 1 rfl 4)) fun _ f => Y f 1 fun _ f => ?_)))
   obtain ⟨X1, S1, F6⟩ := bS F5
   obtain ⟨Q2, P4, H1, hcap_1⟩ := N2.rowAddr 4 rfl (getI_pos S1)
   have f := f.st 28 (H1)
   refine Z f (Y31 rfl (ad := ⟨Q2, 0, none⟩) (len := d0_4.length) (cap := P4) (k := .i64) (i := d1) (e := 42) (sz := 5) (getI_nn S1) (getI_lt S1)) fun _ f => ?_
   have f := f.st 28 (H1.symm)
   obtain ⟨c_1, -, D3, R1⟩ := RepSeq.get d1.toNat (szd_all szd_TF0) (RepSeq.mono J1 _ _ D2) (getI_map S1)
   obtain ⟨Z4, P5, rfl, B4⟩ := TF0.opn D3
   refine Z (v := .agg #[.int .i64 X1.fToken, .int .i8 X1.fKind, S X1.fPhys, S X1.fType, .slice Z4 X1.fProps.length P5]) f (Y34 (cs := [.int .i64 X1.fToken, .int .i8 X1.fKind, S X1.fPhys, S X1.fType, .slice Z4 X1.fProps.length P5]) rfl (ad := (⟨Q2, 0, none⟩ : Addr).add (d1.toNat * 5)) (fun j v h => row_at (N2.rowCell 4 rfl H1) R1 j v h)) fun _ f => Y12 f N2 (.cells #[.int .i64 0, .int .i8 0, S [], S [], .slice none 0 0] 42 (0, 0)) fun Q3 W5 N5 _ f => Y28 (vs := [.int .i64 X1.fToken, .int .i8 X1.fKind, S X1.fPhys, S X1.fType, .slice Z4 X1.fProps.length P5]) (j := 0) f N5 rfl rfl (by simp [Value.oneCell', S]) (by simp) (by decide) (cs' := #[.int .i64 X1.fToken, .int .i8 X1.fKind, S X1.fPhys, S X1.fType, .slice Z4 X1.fProps.length P5]) (by kernel_rfl) fun W6 N6 _ f => eT (R_seq ?_)
   obtain ⟨j_2, hj_2, F7⟩ := bS F6
   refine R_mid (fun a_85 W57 => ∃ G2 : List TF0, j_2 = G2 ∧ ∃ V2 : Mem, V1.le V2 ∧ ∃ (Z26 : Option Addr), ∃ (P27 : Nat), ∃ (L10 : List Value), RepSeq V2 (G2.map emb_TF0) L10 ∧ Frm 64 [(0, .pointer (some (⟨b0, 0, none⟩))), (2, .bool d2), (7, .pointer (some (⟨Q1, 0, none⟩))), (9, .pointer (some (⟨Q3, 0, none⟩)))] a_85 ∧ Hp w0 V2 ((Ent.row 42 5 (.slice Z26 G2.length P27) G2.length L10) :: (Ent.obj b0 (.cells #[.slice Z1 d0_0.length P1, .int .i64 d0_1, .slice Z2 d0_2.length P2, .map (some m0_3), .slice Z26 G2.length P27, .int .i64 d0_5] 82 (0, 0))) :: (Ent.obj Q3 (.cells #[.int .i64 X1.fToken, .int .i8 X1.fKind, S X1.fPhys, S X1.fType, .slice Z4 X1.fProps.length P5] 42 (0, 0))) :: (Ent.obj Q1 (.cells #[.bool false, .bool false, S []] 45 (0, 0))) :: (Ent.row 42 5 (.slice Z2 d0_2.length P2) d0_2.length L1) :: (Ent.obj m0_3 (mapO (Value.int .i64) (fun x : TB0 => Value.agg #[.bool x.fEnded, .bool x.fOk, S x.fPhys]) d0_3)) :: H) W57) ?_ ?_
   ·have N15 := N6.pl [4, 4, 3, 3, 5, 5]
    obtain ⟨O1, F8⟩ := nS hj_2
    obtain ⟨O2, F9⟩ := nS F8
    obtain ⟨O3, F10⟩ := nS F9
    obtain ⟨O4, F11⟩ := nS F10
    obtain ⟨O5, F12⟩ := nS F11
    refine R_plan (ks := []) (E := [Ent.obj b0 (.cells #[.slice Z1 d0_0.length P1, .int .i64 d0_1, .slice Z2 d0_2.length P2, .map (some m0_3), .slice Z3 d0_4.length P3, .int .i64 d0_5] 82 (0, 0)), Ent.row 42 5 (.slice Z3 d0_4.length P3) d0_4.length L2]) (Hr := ((Ent.obj Q3 (.cells #[.int .i64 X1.fToken, .int .i8 X1.fKind, S X1.fPhys, S X1.fType, .slice Z4 X1.fProps.length P5] 42 (0, 0))) :: (Ent.obj Q1 (.cells #[.bool false, .bool false, S []] 45 (0, 0))) :: (Ent.row 42 5 (.slice Z2 d0_2.length P2) d0_2.length L1) :: (Ent.obj m0_3 (mapO (Value.int .i64) (fun x : TB0 => Value.agg #[.bool x.fEnded, .bool x.fOk, S x.fPhys]) d0_3)) :: H)) (.quiet 0 (.quiet 1 (.quiet 2 (.quiet 3 (.quiet 5 (.quiet 6 (.quiet 8 (.quiet 9 (.quiet 10 (.quiet 12 (.quiet 13 (.alt 4 (.alt 7 (.alt 11 (.alt 14 (.alt 15 (.quiet 16 (.quiet 17 (.alt 18 .done .none))) .none) .none) .none) (.alt 11 (.alt 7 (.alt 14 (.alt 15 (.quiet 16 (.quiet 17 (.alt 18 .done .none))) .none) .none) (.alt 14 (.alt 7 (.alt 15 (.quiet 16 (.quiet 17 (.alt 18 .done .none))) .none) .none) .none)) .none)) (.alt 11 (.alt 4 (.alt 7 (.alt 14 (.alt 15 (.quiet 16 (.quiet 17 (.alt 18 .done .none))) .none) .none) (.alt 14 (.alt 7 (.alt 15 (.quiet 16 (.quiet 17 (.alt 18 .done .none))) .none) .none) .none)) (.alt 14 (.alt 4 (.alt 7 (.alt 15 (.quiet 16 (.quiet 17 (.alt 18 .done .none))) .none) .none) .none) .none)) .none))))))))))))) N15 (by kernel_rfl) (by kernel_rfl) (by kernel_rfl) (Y1 (v := .pointer (some (⟨b0, 0, none⟩))) rfl f rfl rfl (fun _ _ => by kernel_rfl) fun _ f => Y1 (v := .pointer (some (⟨b0, 0, none⟩))) rfl f rfl rfl (fun _ _ => by kernel_rfl) fun _ f => Y1 (v := .pointer (some (⟨b0, 0, none⟩))) rfl f rfl rfl (fun _ _ => by kernel_rfl) fun _ f => Y1 (v := .pointer (some (⟨b0, 4, none⟩))) rfl f rfl rfl (fun _ _ => by kernel_rfl) fun _ f => Y1 (v := .int .i64 d1) rfl f rfl rfl (fun _ _ => by kernel_rfl) fun _ f => Y1 (v := .int .i64 d1) rfl f rfl rfl (fun _ _ => by kernel_rfl) fun _ f => Y1 (v := .pointer (some (⟨b0, 0, none⟩))) rfl f rfl rfl (fun _ _ => by kernel_rfl) fun _ f => Y1 (v := .pointer (some (⟨b0, 0, none⟩))) rfl f rfl rfl (fun _ _ => by kernel_rfl) fun _ f => Y1 (v := .pointer (some (⟨b0, 4, none⟩))) rfl f rfl rfl (fun _ _ => by kernel_rfl) fun _ f => Y1 (v := .int .i64 d1) rfl f rfl rfl (fun _ _ => by kernel_rfl) fun _ f => Y1 (v := .int .i64 (IntKind.wrap .i64 (d1 + 1))) rfl f rfl rfl (fun _ pq => by kernel_rfl) fun _ f => ?_)
    have f := f.st 45 (iW O1)
    refine N_alt rfl (fun W9 N16 => ?_) ?_
    ·refine Z f (Y33 (v := .slice Z3 d0_4.length P3) rfl (ad := ⟨b0, 4, none⟩) (N16.ownCell 0 rfl 4)) fun _ f => W_end rfl (N_goN 2 (mR _) N16 rfl (N_alt rfl (fun W10 N17 => ?_) ?_))
     ·obtain ⟨Z8, P9, H4, hcap_4, hcn_3⟩ := N17.rowShape 1 rfl
      have f := f.st 36 (H4)
      refine Z (v := .slice (cutA Z8 5 0 d1.toNat) d1.toNat d1.toNat) f (Y36 rfl (A := Z8) (len := d0_4.length) (cap := P9) (k := .i64) (k' := .i64) (b := d1) (e := 42) (sz := 5) O2.1 (by omega)) fun _ f => ?_
      have f := f.st 36 (H4.symm)
      refine W_end rfl (N_goN 2 (mR _) N17 rfl (N_alt rfl (fun W11 N18 => ?_) ?_))
      ·refine Z f (Y33 (v := .slice Z3 d0_4.length P3) rfl (ad := ⟨b0, 4, none⟩) (N18.ownCell 0 rfl 4)) fun _ f => W_end rfl (N_goN 2 (mR _) N18 rfl (N_alt rfl (fun W12 N19 => ?_) ?_))
       ·obtain ⟨Z9, P10, H5, hcap_5, hcn_4⟩ := N19.rowShape 1 rfl
        have f := f.st 43 (H5)
        refine Z f (Y37 rfl (A := Z9) (len := d0_4.length) (cap := P10) (k := .i64) (a := d1 + 1) (e := 42) (sz := 5) (by omega) (by omega)) fun _ f => ?_
        have f := f.st 43 (H5.symm)
        refine W_end rfl (N_goN 2 (mR _) N19 rfl (N_alt rfl (fun W13 N20 => ?_) ?_))
        ·have N21 := N20.pl [1]
         have he_2 := Value.slice.inj (H5.symm.trans H4)
         have f := Frm.set f 46 (v := .slice (cutA Z9 5 (d1 + 1).toNat P10) (d0_4.length - (d1 + 1).toNat) (P10 - (d1 + 1).toNat)) (v' := .slice (cutA Z8 5 (d1.toNat + 1) P9) (d0_4.length - (d1.toNat + 1)) (P9 - (d1.toNat + 1))) (by kernel_rfl) (by rw [O4.1, he_2.1, he_2.2.2])
         refine W_rowRemove3 (z := .agg #[.int .i64 0, .int .i8 0, S [], S [], .slice none 0 0]) (bytes := 72) (f := emb_TF0) (xs := d0_4) (k := d1.toNat) f N21 szd_TF0 (RepSeq.mono J1 _ _ D2) H4 O4.2 (by kernel_rfl) (by kernel_rfl) rfl rfl rfl (by kernel_rfl) (by kernel_rfl) (by kernel_rfl) (by kernel_rfl) O5 (by omega) fun Z10 P11 L4 W14 N22 D5 _ f => W_end rfl (N_goN 2 (mR _) N22 rfl (Y1 (v := .pointer (some (⟨b0, 0, none⟩))) rfl f rfl rfl (fun _ _ => by kernel_rfl) fun _ f => Y1 (v := .pointer (some (⟨b0, 4, none⟩))) rfl f rfl rfl (fun _ _ => by kernel_rfl) fun _ f => N_alt rfl (fun W15 N23 => ?_) ?_))
         ·refine Y27 f N23 1 rfl rfl (b := b0) (j := 4) (v := .slice Z10 (d0_4.take d1.toNat ++ d0_4.drop (d1.toNat + 1)).length P11) rfl (by exact rfl) (by simp) (by simp) ((Ent.row 42 5 (.slice Z10 (d0_4.take d1.toNat ++ d0_4.drop (d1.toNat + 1)).length P11) (d0_4.take d1.toNat ++ d0_4.drop (d1.toNat + 1)).length L4) :: (Ent.obj b0 (.cells #[.slice Z1 d0_0.length P1, .int .i64 d0_1, .slice Z2 d0_2.length P2, .map (some m0_3), .slice Z10 (d0_4.take d1.toNat ++ d0_4.drop (d1.toNat + 1)).length P11, .int .i64 d0_5] 82 (0, 0))) :: (Ent.obj Q3 (.cells #[.int .i64 X1.fToken, .int .i8 X1.fKind, S X1.fPhys, S X1.fType, .slice Z4 X1.fProps.length P5] 42 (0, 0))) :: (Ent.obj Q1 (.cells #[.bool false, .bool false, S []] 45 (0, 0))) :: (Ent.row 42 5 (.slice Z2 d0_2.length P2) d0_2.length L1) :: (Ent.obj m0_3 (mapO (Value.int .i64) (fun x : TB0 => Value.agg #[.bool x.fEnded, .bool x.fOk, S x.fPhys]) d0_3)) :: H) rfl fun W16 N24 _ f => W_end rfl (N_goN 2 (mR _) N24 rfl (N_end fun W17 N25 => T_n ?_))
          exact ⟨d0_4.take d1.toNat ++ d0_4.drop (d1.toNat + 1), (sI F12).symm, V1, (mR _), Z10, P11, L4, D5, f.kp, N25⟩
         exact N_none
        exact N_none
       exact N_none
      exact N_none
     refine N_alt rfl (fun W18 N26 => ?_) ?_
     ·refine Z f (Y33 (v := .slice Z3 d0_4.length P3) rfl (ad := ⟨b0, 4, none⟩) (N26.ownCell 0 rfl 4)) fun _ f => W_end rfl (N_goN 2 (mR _) N26 rfl (N_alt rfl (fun W19 N27 => ?_) ?_))
      ·obtain ⟨Z11, P12, H6, hcap_6, hcn_5⟩ := N27.rowShape 1 rfl
       have f := f.st 36 (H6)
       refine Z (v := .slice (cutA Z11 5 0 d1.toNat) d1.toNat d1.toNat) f (Y36 rfl (A := Z11) (len := d0_4.length) (cap := P12) (k := .i64) (k' := .i64) (b := d1) (e := 42) (sz := 5) O2.1 (by omega)) fun _ f => ?_
       have f := f.st 36 (H6.symm)
       refine W_end rfl (N_goN 2 (mR _) N27 rfl (N_alt rfl (fun W20 N28 => ?_) ?_))
       ·obtain ⟨Z12, P13, H7, hcap_7, hcn_6⟩ := N28.rowShape 1 rfl
        have f := f.st 43 (H7)
        refine Z f (Y37 rfl (A := Z12) (len := d0_4.length) (cap := P13) (k := .i64) (a := d1 + 1) (e := 42) (sz := 5) (by omega) (by omega)) fun _ f => ?_
        have f := f.st 43 (H7.symm)
        refine W_end rfl (N_goN 2 (mR _) N28 rfl (N_alt rfl (fun W21 N29 => ?_) ?_))
        ·have N30 := N29.pl [1]
         have he_3 := Value.slice.inj (H7.symm.trans H6)
         have f := Frm.set f 46 (v := .slice (cutA Z12 5 (d1 + 1).toNat P13) (d0_4.length - (d1 + 1).toNat) (P13 - (d1 + 1).toNat)) (v' := .slice (cutA Z11 5 (d1.toNat + 1) P12) (d0_4.length - (d1.toNat + 1)) (P12 - (d1.toNat + 1))) (by kernel_rfl) (by rw [O4.1, he_3.1, he_3.2.2])
         refine W_rowRemove3 (z := .agg #[.int .i64 0, .int .i8 0, S [], S [], .slice none 0 0]) (bytes := 72) (f := emb_TF0) (xs := d0_4) (k := d1.toNat) f N30 szd_TF0 (RepSeq.mono J1 _ _ D2) H6 O4.2 (by kernel_rfl) (by kernel_rfl) rfl rfl rfl (by kernel_rfl) (by kernel_rfl) (by kernel_rfl) (by kernel_rfl) O5 (by omega) fun Z13 P14 L5 W22 N31 D6 _ f => W_end rfl (N_goN 2 (mR _) N31 rfl (Y1 (v := .pointer (some (⟨b0, 0, none⟩))) rfl f rfl rfl (fun _ _ => by kernel_rfl) fun _ f => Y1 (v := .pointer (some (⟨b0, 4, none⟩))) rfl f rfl rfl (fun _ _ => by kernel_rfl) fun _ f => N_alt rfl (fun W23 N32 => ?_) ?_))
         ·refine Y27 f N32 1 rfl rfl (b := b0) (j := 4) (v := .slice Z13 (d0_4.take d1.toNat ++ d0_4.drop (d1.toNat + 1)).length P14) rfl (by exact rfl) (by simp) (by simp) ((Ent.row 42 5 (.slice Z13 (d0_4.take d1.toNat ++ d0_4.drop (d1.toNat + 1)).length P14) (d0_4.take d1.toNat ++ d0_4.drop (d1.toNat + 1)).length L5) :: (Ent.obj b0 (.cells #[.slice Z1 d0_0.length P1, .int .i64 d0_1, .slice Z2 d0_2.length P2, .map (some m0_3), .slice Z13 (d0_4.take d1.toNat ++ d0_4.drop (d1.toNat + 1)).length P14, .int .i64 d0_5] 82 (0, 0))) :: (Ent.obj Q3 (.cells #[.int .i64 X1.fToken, .int .i8 X1.fKind, S X1.fPhys, S X1.fType, .slice Z4 X1.fProps.length P5] 42 (0, 0))) :: (Ent.obj Q1 (.cells #[.bool false, .bool false, S []] 45 (0, 0))) :: (Ent.row 42 5 (.slice Z2 d0_2.length P2) d0_2.length L1) :: (Ent.obj m0_3 (mapO (Value.int .i64) (fun x : TB0 => Value.agg #[.bool x.fEnded, .bool x.fOk, S x.fPhys]) d0_3)) :: H) rfl fun W24 N33 _ f => W_end rfl (N_goN 2 (mR _) N33 rfl (N_end fun W25 N34 => T_n ?_))
          exact ⟨d0_4.take d1.toNat ++ d0_4.drop (d1.toNat + 1), (sI F12).symm, V1, (mR _), Z13, P14, L5, D6, f.kp, N34⟩
         exact N_none
        exact N_none
       exact N_none
      refine N_alt rfl (fun W26 N35 => ?_) ?_
      ·obtain ⟨Z14, P15, H8, hcap_8, hcn_7⟩ := N35.rowShape 1 rfl
       have f := f.st 43 (H8)
       refine Z f (Y37 rfl (A := Z14) (len := d0_4.length) (cap := P15) (k := .i64) (a := d1 + 1) (e := 42) (sz := 5) (by omega) (by omega)) fun _ f => ?_
       have f := f.st 43 (H8.symm)
       refine W_end rfl (N_goN 2 (mR _) N35 rfl (N_alt rfl (fun W27 N36 => ?_) ?_))
       ·obtain ⟨Z15, P16, H9, hcap_9, hcn_8⟩ := N36.rowShape 1 rfl
        have f := f.st 36 (H9)
        refine Z (v := .slice (cutA Z15 5 0 d1.toNat) d1.toNat d1.toNat) f (Y36 rfl (A := Z15) (len := d0_4.length) (cap := P16) (k := .i64) (k' := .i64) (b := d1) (e := 42) (sz := 5) O2.1 (by omega)) fun _ f => ?_
        have f := f.st 36 (H9.symm)
        refine W_end rfl (N_goN 2 (mR _) N36 rfl (N_alt rfl (fun W28 N37 => ?_) ?_))
        ·have N38 := N37.pl [1]
         have he_4 := Value.slice.inj (H8.symm.trans H9)
         have f := Frm.set f 46 (v := .slice (cutA Z14 5 (d1 + 1).toNat P15) (d0_4.length - (d1 + 1).toNat) (P15 - (d1 + 1).toNat)) (v' := .slice (cutA Z15 5 (d1.toNat + 1) P16) (d0_4.length - (d1.toNat + 1)) (P16 - (d1.toNat + 1))) (by kernel_rfl) (by rw [O4.1, he_4.1, he_4.2.2])
         refine W_rowRemove3 (z := .agg #[.int .i64 0, .int .i8 0, S [], S [], .slice none 0 0]) (bytes := 72) (f := emb_TF0) (xs := d0_4) (k := d1.toNat) f N38 szd_TF0 (RepSeq.mono J1 _ _ D2) H9 O4.2 (by kernel_rfl) (by kernel_rfl) rfl rfl rfl (by kernel_rfl) (by kernel_rfl) (by kernel_rfl) (by kernel_rfl) O5 (by omega) fun Z16 P17 L6 W29 N39 D7 _ f => W_end rfl (N_goN 2 (mR _) N39 rfl (Y1 (v := .pointer (some (⟨b0, 0, none⟩))) rfl f rfl rfl (fun _ _ => by kernel_rfl) fun _ f => Y1 (v := .pointer (some (⟨b0, 4, none⟩))) rfl f rfl rfl (fun _ _ => by kernel_rfl) fun _ f => N_alt rfl (fun W30 N40 => ?_) ?_))
         ·refine Y27 f N40 1 rfl rfl (b := b0) (j := 4) (v := .slice Z16 (d0_4.take d1.toNat ++ d0_4.drop (d1.toNat + 1)).length P17) rfl (by exact rfl) (by simp) (by simp) ((Ent.row 42 5 (.slice Z16 (d0_4.take d1.toNat ++ d0_4.drop (d1.toNat + 1)).length P17) (d0_4.take d1.toNat ++ d0_4.drop (d1.toNat + 1)).length L6) :: (Ent.obj b0 (.cells #[.slice Z1 d0_0.length P1, .int .i64 d0_1, .slice Z2 d0_2.length P2, .map (some m0_3), .slice Z16 (d0_4.take d1.toNat ++ d0_4.drop (d1.toNat + 1)).length P17, .int .i64 d0_5] 82 (0, 0))) :: (Ent.obj Q3 (.cells #[.int .i64 X1.fToken, .int .i8 X1.fKind, S X1.fPhys, S X1.fType, .slice Z4 X1.fProps.length P5] 42 (0, 0))) :: (Ent.obj Q1 (.cells #[.bool false, .bool false, S []] 45 (0, 0))) :: (Ent.row 42 5 (.slice Z2 d0_2.length P2) d0_2.length L1) :: (Ent.obj m0_3 (mapO (Value.int .i64) (fun x : TB0 => Value.agg #[.bool x.fEnded, .bool x.fOk, S x.fPhys]) d0_3)) :: H) rfl fun W31 N41 _ f => W_end rfl (N_goN 2 (mR _) N41 rfl (N_end fun W32 N42 => T_n ?_))
          exact ⟨d0_4.take d1.toNat ++ d0_4.drop (d1.toNat + 1), (sI F12).symm, V1, (mR _), Z16, P17, L6, D7, f.kp, N42⟩
         exact N_none
        exact N_none
       exact N_none
      exact N_none
     exact N_none
    refine N_alt rfl (fun W33 N43 => ?_) ?_
    ·refine Z f (Y33 (v := .slice Z3 d0_4.length P3) rfl (ad := ⟨b0, 4, none⟩) (N43.ownCell 0 rfl 4)) fun _ f => W_end rfl (N_goN 2 (mR _) N43 rfl (N_alt rfl (fun W34 N44 => ?_) ?_))
     ·refine Z f (Y33 (v := .slice Z3 d0_4.length P3) rfl (ad := ⟨b0, 4, none⟩) (N44.ownCell 0 rfl 4)) fun _ f => W_end rfl (N_goN 2 (mR _) N44 rfl (N_alt rfl (fun W35 N45 => ?_) ?_))
      ·obtain ⟨Z17, P18, H10, hcap_10, hcn_9⟩ := N45.rowShape 1 rfl
       have f := f.st 36 (H10)
       refine Z (v := .slice (cutA Z17 5 0 d1.toNat) d1.toNat d1.toNat) f (Y36 rfl (A := Z17) (len := d0_4.length) (cap := P18) (k := .i64) (k' := .i64) (b := d1) (e := 42) (sz := 5) O2.1 (by omega)) fun _ f => ?_
       have f := f.st 36 (H10.symm)
       refine W_end rfl (N_goN 2 (mR _) N45 rfl (N_alt rfl (fun W36 N46 => ?_) ?_))
       ·obtain ⟨Z18, P19, H11, hcap_11, hcn_10⟩ := N46.rowShape 1 rfl
        have f := f.st 43 (H11)
        refine Z f (Y37 rfl (A := Z18) (len := d0_4.length) (cap := P19) (k := .i64) (a := d1 + 1) (e := 42) (sz := 5) (by omega) (by omega)) fun _ f => ?_
        have f := f.st 43 (H11.symm)
        refine W_end rfl (N_goN 2 (mR _) N46 rfl (N_alt rfl (fun W37 N47 => ?_) ?_))
        ·have N48 := N47.pl [1]
         have he_5 := Value.slice.inj (H11.symm.trans H10)
         have f := Frm.set f 46 (v := .slice (cutA Z18 5 (d1 + 1).toNat P19) (d0_4.length - (d1 + 1).toNat) (P19 - (d1 + 1).toNat)) (v' := .slice (cutA Z17 5 (d1.toNat + 1) P18) (d0_4.length - (d1.toNat + 1)) (P18 - (d1.toNat + 1))) (by kernel_rfl) (by rw [O4.1, he_5.1, he_5.2.2])
         refine W_rowRemove3 (z := .agg #[.int .i64 0, .int .i8 0, S [], S [], .slice none 0 0]) (bytes := 72) (f := emb_TF0) (xs := d0_4) (k := d1.toNat) f N48 szd_TF0 (RepSeq.mono J1 _ _ D2) H10 O4.2 (by kernel_rfl) (by kernel_rfl) rfl rfl rfl (by kernel_rfl) (by kernel_rfl) (by kernel_rfl) (by kernel_rfl) O5 (by omega) fun Z19 P20 L7 W38 N49 D8 _ f => W_end rfl (N_goN 2 (mR _) N49 rfl (Y1 (v := .pointer (some (⟨b0, 0, none⟩))) rfl f rfl rfl (fun _ _ => by kernel_rfl) fun _ f => Y1 (v := .pointer (some (⟨b0, 4, none⟩))) rfl f rfl rfl (fun _ _ => by kernel_rfl) fun _ f => N_alt rfl (fun W39 N50 => ?_) ?_))
         ·refine Y27 f N50 1 rfl rfl (b := b0) (j := 4) (v := .slice Z19 (d0_4.take d1.toNat ++ d0_4.drop (d1.toNat + 1)).length P20) rfl (by exact rfl) (by simp) (by simp) ((Ent.row 42 5 (.slice Z19 (d0_4.take d1.toNat ++ d0_4.drop (d1.toNat + 1)).length P20) (d0_4.take d1.toNat ++ d0_4.drop (d1.toNat + 1)).length L7) :: (Ent.obj b0 (.cells #[.slice Z1 d0_0.length P1, .int .i64 d0_1, .slice Z2 d0_2.length P2, .map (some m0_3), .slice Z19 (d0_4.take d1.toNat ++ d0_4.drop (d1.toNat + 1)).length P20, .int .i64 d0_5] 82 (0, 0))) :: (Ent.obj Q3 (.cells #[.int .i64 X1.fToken, .int .i8 X1.fKind, S X1.fPhys, S X1.fType, .slice Z4 X1.fProps.length P5] 42 (0, 0))) :: (Ent.obj Q1 (.cells #[.bool false, .bool false, S []] 45 (0, 0))) :: (Ent.row 42 5 (.slice Z2 d0_2.length P2) d0_2.length L1) :: (Ent.obj m0_3 (mapO (Value.int .i64) (fun x : TB0 => Value.agg #[.bool x.fEnded, .bool x.fOk, S x.fPhys]) d0_3)) :: H) rfl fun W40 N51 _ f => W_end rfl (N_goN 2 (mR _) N51 rfl (N_end fun W41 N52 => T_n ?_))
          exact ⟨d0_4.take d1.toNat ++ d0_4.drop (d1.toNat + 1), (sI F12).symm, V1, (mR _), Z19, P20, L7, D8, f.kp, N52⟩
         exact N_none
        exact N_none
       exact N_none
      refine N_alt rfl (fun W42 N53 => ?_) ?_
      ·obtain ⟨Z20, P21, H12, hcap_12, hcn_11⟩ := N53.rowShape 1 rfl
       have f := f.st 43 (H12)
       refine Z f (Y37 rfl (A := Z20) (len := d0_4.length) (cap := P21) (k := .i64) (a := d1 + 1) (e := 42) (sz := 5) (by omega) (by omega)) fun _ f => ?_
       have f := f.st 43 (H12.symm)
       refine W_end rfl (N_goN 2 (mR _) N53 rfl (N_alt rfl (fun W43 N54 => ?_) ?_))
       ·obtain ⟨Z21, P22, H13, hcap_13, hcn_12⟩ := N54.rowShape 1 rfl
        have f := f.st 36 (H13)
        refine Z (v := .slice (cutA Z21 5 0 d1.toNat) d1.toNat d1.toNat) f (Y36 rfl (A := Z21) (len := d0_4.length) (cap := P22) (k := .i64) (k' := .i64) (b := d1) (e := 42) (sz := 5) O2.1 (by omega)) fun _ f => ?_
        have f := f.st 36 (H13.symm)
        refine W_end rfl (N_goN 2 (mR _) N54 rfl (N_alt rfl (fun W44 N55 => ?_) ?_))
        ·have N56 := N55.pl [1]
         have he_6 := Value.slice.inj (H12.symm.trans H13)
         have f := Frm.set f 46 (v := .slice (cutA Z20 5 (d1 + 1).toNat P21) (d0_4.length - (d1 + 1).toNat) (P21 - (d1 + 1).toNat)) (v' := .slice (cutA Z21 5 (d1.toNat + 1) P22) (d0_4.length - (d1.toNat + 1)) (P22 - (d1.toNat + 1))) (by kernel_rfl) (by rw [O4.1, he_6.1, he_6.2.2])
         refine W_rowRemove3 (z := .agg #[.int .i64 0, .int .i8 0, S [], S [], .slice none 0 0]) (bytes := 72) (f := emb_TF0) (xs := d0_4) (k := d1.toNat) f N56 szd_TF0 (RepSeq.mono J1 _ _ D2) H13 O4.2 (by kernel_rfl) (by kernel_rfl) rfl rfl rfl (by kernel_rfl) (by kernel_rfl) (by kernel_rfl) (by kernel_rfl) O5 (by omega) fun Z22 P23 L8 W45 N57 D9 _ f => W_end rfl (N_goN 2 (mR _) N57 rfl (Y1 (v := .pointer (some (⟨b0, 0, none⟩))) rfl f rfl rfl (fun _ _ => by kernel_rfl) fun _ f => Y1 (v := .pointer (some (⟨b0, 4, none⟩))) rfl f rfl rfl (fun _ _ => by kernel_rfl) fun _ f => N_alt rfl (fun W46 N58 => ?_) ?_))
         ·refine Y27 f N58 1 rfl rfl (b := b0) (j := 4) (v := .slice Z22 (d0_4.take d1.toNat ++ d0_4.drop (d1.toNat + 1)).length P23) rfl (by exact rfl) (by simp) (by simp) ((Ent.row 42 5 (.slice Z22 (d0_4.take d1.toNat ++ d0_4.drop (d1.toNat + 1)).length P23) (d0_4.take d1.toNat ++ d0_4.drop (d1.toNat + 1)).length L8) :: (Ent.obj b0 (.cells #[.slice Z1 d0_0.length P1, .int .i64 d0_1, .slice Z2 d0_2.length P2, .map (some m0_3), .slice Z22 (d0_4.take d1.toNat ++ d0_4.drop (d1.toNat + 1)).length P23, .int .i64 d0_5] 82 (0, 0))) :: (Ent.obj Q3 (.cells #[.int .i64 X1.fToken, .int .i8 X1.fKind, S X1.fPhys, S X1.fType, .slice Z4 X1.fProps.length P5] 42 (0, 0))) :: (Ent.obj Q1 (.cells #[.bool false, .bool false, S []] 45 (0, 0))) :: (Ent.row 42 5 (.slice Z2 d0_2.length P2) d0_2.length L1) :: (Ent.obj m0_3 (mapO (Value.int .i64) (fun x : TB0 => Value.agg #[.bool x.fEnded, .bool x.fOk, S x.fPhys]) d0_3)) :: H) rfl fun W47 N59 _ f => W_end rfl (N_goN 2 (mR _) N59 rfl (N_end fun W48 N60 => T_n ?_))
          exact ⟨d0_4.take d1.toNat ++ d0_4.drop (d1.toNat + 1), (sI F12).symm, V1, (mR _), Z22, P23, L8, D9, f.kp, N60⟩
         exact N_none
        exact N_none
       exact N_none
      exact N_none
     refine N_alt rfl (fun W49 N61 => ?_) ?_
     ·obtain ⟨Z23, P24, H14, hcap_14, hcn_13⟩ := N61.rowShape 1 rfl
      have f := f.st 43 (H14)
      refine Z f (Y37 rfl (A := Z23) (len := d0_4.length) (cap := P24) (k := .i64) (a := d1 + 1) (e := 42) (sz := 5) (by omega) (by omega)) fun _ f => ?_
      have f := f.st 43 (H14.symm)
      refine W_end rfl (N_goN 2 (mR _) N61 rfl (N_alt rfl (fun W50 N62 => ?_) ?_))
      ·refine Z f (Y33 (v := .slice Z3 d0_4.length P3) rfl (ad := ⟨b0, 4, none⟩) (N62.ownCell 0 rfl 4)) fun _ f => W_end rfl (N_goN 2 (mR _) N62 rfl (N_alt rfl (fun W51 N63 => ?_) ?_))
       ·obtain ⟨Z24, P25, H15, hcap_15, hcn_14⟩ := N63.rowShape 1 rfl
        have f := f.st 36 (H15)
        refine Z (v := .slice (cutA Z24 5 0 d1.toNat) d1.toNat d1.toNat) f (Y36 rfl (A := Z24) (len := d0_4.length) (cap := P25) (k := .i64) (k' := .i64) (b := d1) (e := 42) (sz := 5) O2.1 (by omega)) fun _ f => ?_
        have f := f.st 36 (H15.symm)
        refine W_end rfl (N_goN 2 (mR _) N63 rfl (N_alt rfl (fun W52 N64 => ?_) ?_))
        ·have N65 := N64.pl [1]
         have he_7 := Value.slice.inj (H14.symm.trans H15)
         have f := Frm.set f 46 (v := .slice (cutA Z23 5 (d1 + 1).toNat P24) (d0_4.length - (d1 + 1).toNat) (P24 - (d1 + 1).toNat)) (v' := .slice (cutA Z24 5 (d1.toNat + 1) P25) (d0_4.length - (d1.toNat + 1)) (P25 - (d1.toNat + 1))) (by kernel_rfl) (by rw [O4.1, he_7.1, he_7.2.2])
         refine W_rowRemove3 (z := .agg #[.int .i64 0, .int .i8 0, S [], S [], .slice none 0 0]) (bytes := 72) (f := emb_TF0) (xs := d0_4) (k := d1.toNat) f N65 szd_TF0 (RepSeq.mono J1 _ _ D2) H15 O4.2 (by kernel_rfl) (by kernel_rfl) rfl rfl rfl (by kernel_rfl) (by kernel_rfl) (by kernel_rfl) (by kernel_rfl) O5 (by omega) fun Z25 P26 L9 W53 N66 D10 _ f => W_end rfl (N_goN 2 (mR _) N66 rfl (Y1 (v := .pointer (some (⟨b0, 0, none⟩))) rfl f rfl rfl (fun _ _ => by kernel_rfl) fun _ f => Y1 (v := .pointer (some (⟨b0, 4, none⟩))) rfl f rfl rfl (fun _ _ => by kernel_rfl) fun _ f => N_alt rfl (fun W54 N67 => ?_) ?_))
         ·refine Y27 f N67 1 rfl rfl (b := b0) (j := 4) (v := .slice Z25 (d0_4.take d1.toNat ++ d0_4.drop (d1.toNat + 1)).length P26) rfl (by exact rfl) (by simp) (by simp) ((Ent.row 42 5 (.slice Z25 (d0_4.take d1.toNat ++ d0_4.drop (d1.toNat + 1)).length P26) (d0_4.take d1.toNat ++ d0_4.drop (d1.toNat + 1)).length L9) :: (Ent.obj b0 (.cells #[.slice Z1 d0_0.length P1, .int .i64 d0_1, .slice Z2 d0_2.length P2, .map (some m0_3), .slice Z25 (d0_4.take d1.toNat ++ d0_4.drop (d1.toNat + 1)).length P26, .int .i64 d0_5] 82 (0, 0))) :: (Ent.obj Q3 (.cells #[.int .i64 X1.fToken, .int .i8 X1.fKind, S X1.fPhys, S X1.fType, .slice Z4 X1.fProps.length P5] 42 (0, 0))) :: (Ent.obj Q1 (.cells #[.bool false, .bool false, S []] 45 (0, 0))) :: (Ent.row 42 5 (.slice Z2 d0_2.length P2) d0_2.length L1) :: (Ent.obj m0_3 (mapO (Value.int .i64) (fun x : TB0 => Value.agg #[.bool x.fEnded, .bool x.fOk, S x.fPhys]) d0_3)) :: H) rfl fun W55 N68 _ f => W_end rfl (N_goN 2 (mR _) N68 rfl (N_end fun W56 N69 => T_n ?_))
          exact ⟨d0_4.take d1.toNat ++ d0_4.drop (d1.toNat + 1), (sI F12).symm, V1, (mR _), Z25, P26, L9, D10, f.kp, N69⟩
         exact N_none
        exact N_none
       exact N_none
      exact N_none
     exact N_none
    exact N_none
   ·rintro a_85 W57 ⟨G2, hq_2, V2, J2, Z26, P27, L10, D11, f, N70⟩
    subst j_2
    refine T_n (R_seq (RR (Y f 1 fun _ f => Y27 f N70 3 rfl rfl (b := Q1) (j := 0) (v := .bool true) rfl (by exact rfl) (by simp) (by simp) ((Ent.row 42 5 (.slice Z26 G2.length P27) G2.length L10) :: (Ent.obj b0 (.cells #[.slice Z1 d0_0.length P1, .int .i64 d0_1, .slice Z2 d0_2.length P2, .map (some m0_3), .slice Z26 G2.length P27, .int .i64 d0_5] 82 (0, 0))) :: (Ent.obj Q3 (.cells #[.int .i64 X1.fToken, .int .i8 X1.fKind, S X1.fPhys, S X1.fType, .slice Z4 X1.fProps.length P5] 42 (0, 0))) :: (Ent.obj Q1 (.cells #[.bool true, .bool false, S []] 45 (0, 0))) :: (Ent.row 42 5 (.slice Z2 d0_2.length P2) d0_2.length L1) :: (Ent.obj m0_3 (mapO (Value.int .i64) (fun x : TB0 => Value.agg #[.bool x.fEnded, .bool x.fOk, S x.fPhys]) d0_3)) :: H) rfl fun W58 N71 _ f => eT (RR (Y f 1 fun _ f => eT ?_)))))
    obtain ⟨j_3, hj_3, F13⟩ := bS F7
    refine R_mid (fun a_92 W61 => ∃ G3 : Bool × Bool × List UInt8 × List TD0 × Int × List TF0 × List TF0 × Int × Int × Int × List UInt8 × List UInt8 × List TC0 × (List (Int × TB0)), j_3 = G3 ∧ ∃ V4 : Mem, V2.le V4 ∧ ∃ (Z31 : Option Addr), ∃ (P32 : Nat), ∃ (Z32 : Option Addr), ∃ (P33 : Nat), ∃ (L13 : List Value), ∃ (Z33 : Option Addr), ∃ (P34 : Nat), ∃ (L14 : List Value), ∃ (Z34 : Option Addr), ∃ (P35 : Nat), Sli V4 3 emb_TD0 Z31 P32 G3.2.2.2.1 ∧ RepSeq V4 (G3.2.2.2.2.2.1.map emb_TF0) L13 ∧ RepSeq V4 (G3.2.2.2.2.2.2.1.map emb_TF0) L14 ∧ Sli V4 8 emb_TC0 Z34 P35 G3.2.2.2.2.2.2.2.2.2.2.2.2.1 ∧ Frm 64 [(0, .pointer (some (⟨b0, 0, none⟩))), (7, .pointer (some (⟨Q1, 0, none⟩))), (9, .pointer (some (⟨Q3, 0, none⟩)))] a_92 ∧ Hp w0 V4 ((Ent.row 42 5 (.slice Z32 G3.2.2.2.2.2.1.length P33) G3.2.2.2.2.2.1.length L13) :: (Ent.row 42 5 (.slice Z33 G3.2.2.2.2.2.2.1.length P34) G3.2.2.2.2.2.2.1.length L14) :: (Ent.obj m0_3 (mapO (Value.int .i64) (fun x : TB0 => Value.agg #[.bool x.fEnded, .bool x.fOk, S x.fPhys]) G3.2.2.2.2.2.2.2.2.2.2.2.2.2)) :: (Ent.obj Q1 (.cells #[.bool G3.1, .bool G3.2.1, S G3.2.2.1] 45 (0, 0))) :: (Ent.obj b0 (.cells #[.slice Z31 G3.2.2.2.1.length P32, .int .i64 G3.2.2.2.2.1, .slice Z32 G3.2.2.2.2.2.1.length P33, .map (some m0_3), .slice Z33 G3.2.2.2.2.2.2.1.length P34, .int .i64 G3.2.2.2.2.2.2.2.1] 82 (0, 0))) :: (Ent.obj Q3 (.cells #[.int .i64 G3.2.2.2.2.2.2.2.2.1, .int .i8 G3.2.2.2.2.2.2.2.2.2.1, S G3.2.2.2.2.2.2.2.2.2.2.1, S G3.2.2.2.2.2.2.2.2.2.2.2.1, .slice Z34 G3.2.2.2.2.2.2.2.2.2.2.2.2.1.length P35] 42 (0, 0))) :: H) W61) ?_ ?_
    ·refine RcF f hj_3 (fun B5 F14 => ?_) fun B5 F16 => ?_
     ·refine R_reg (Y f 1 fun _ f => ?_)
      obtain ⟨X2, S2, F15⟩ := bS F14
      have N77 := N71.pl [2, 1, 5, 5, 4]
      refine Y17 (E := [Ent.obj b0 (.cells #[.slice Z1 d0_0.length P1, .int .i64 d0_1, .slice Z2 d0_2.length P2, .map (some m0_3), .slice Z26 G2.length P27, .int .i64 d0_5] 82 (0, 0)), Ent.row 42 5 (.slice Z2 d0_2.length P2) d0_2.length L1, Ent.obj m0_3 (mapO (Value.int .i64) (fun x : TB0 => Value.agg #[.bool x.fEnded, .bool x.fOk, S x.fPhys]) d0_3), Ent.row 42 5 (.slice Z26 G2.length P27) G2.length L10, Ent.obj Q3 (.cells #[.int .i64 X1.fToken, .int .i8 X1.fKind, S X1.fPhys, S X1.fType, .slice Z4 X1.fProps.length P5] 42 (0, 0))]) (H := ((Ent.obj Q1 (.cells #[.bool true, .bool false, S []] 45 (0, 0))) :: H)) f N77 (cloud_Cloud_effect_ok n _ (GL.mono (J1.trans J2) hG) b0 d0_0 Z1 P1 (B1.mono (J1.trans J2)) d0_1 d0_2 Z2 P2 L1 (RepSeq.mono (J1.trans J2) _ _ D1) m0_3 d0_3 G2 Z26 P27 L10 D11 d0_5 Q3 X1.fToken X1.fKind X1.fPhys X1.fType X1.fProps Z4 P5 (B4.mono J2) X2 S2) fun _ V3 E_1 W59 J3 N72 q_1 _ f => ?_
      obtain ⟨c_2, Z27, P28, Z28, P29, L11, Z29, P30, L12, Z30, P31, rfl, rfl, D12, B6, D13, D14, B7⟩ := q_1
      obtain rfl := TB0.opn D12
      have N78 := N72.pl [5]
      refine Y28 (vs := [.bool X2.1.fEnded, .bool X2.1.fOk, S X2.1.fPhys]) (j := 0) f N78 rfl rfl (by simp [Value.oneCell', S]) (by simp) (by decide) (cs' := #[.bool X2.1.fEnded, .bool X2.1.fOk, S X2.1.fPhys]) (by kernel_rfl) fun W60 N79 _ f => W_end rfl ?_
      have N86 := N79.pl [5, 2, 2, 4, 5, 5]
      refine T_n ?_
      exact ⟨((X2.1.fEnded), (X2.1.fOk), X2.1.fPhys, X2.2.1, X2.2.2.1, X2.2.2.2.1, X2.2.2.2.2.2.1, X2.2.2.2.2.2.2.1, X2.2.2.2.2.2.2.2.1, X2.2.2.2.2.2.2.2.2.1, X2.2.2.2.2.2.2.2.2.2.1, X2.2.2.2.2.2.2.2.2.2.2.1, X2.2.2.2.2.2.2.2.2.2.2.2, X2.2.2.2.2.1), (sI F15).symm, V3, J3, Z27, P28, Z28, P29, L11, Z29, P30, L12, Z30, P31, B6, D13, D14, B7, f.kp, N86⟩
     ·refine wp_skip ?_
      have N92 := N71.pl [2, 2, 3, 5, 4, 5]
      refine T_n ?_
      exact ⟨((true), (false), ([] : List UInt8), d0_0, d0_1, d0_2, G2, d0_5, X1.fToken, X1.fKind, X1.fPhys, X1.fType, X1.fProps, d0_3), (sI F16).symm, V2, (mR _), Z1, P1, Z2, P2, L1, Z26, P27, L10, Z4, P5, (B1.mono (J1.trans J2)), (RepSeq.mono (J1.trans J2) _ _ D1), D11, (B4.mono J2), f.kp, N92⟩
    ·rintro a_92 W61 ⟨G3, hq_3, V4, J4, Z31, P32, Z32, P33, L13, Z33, P34, L14, Z34, P35, B8, D15, D16, B9, f, N80⟩
     subst j_3
     refine T_n (R_seq (R_drawT 7 N80 (by kernel_rfl) (by kernel_rfl) fun W62 N93 => ST_eq (v := .pointer (some (⟨b0, 0, none⟩))) f (by kernel_rfl) (by kernel_rfl) rfl rfl (by kernel_rfl) fun _ f => ST_eq (v := .pointer (some (⟨b0, 0, none⟩))) f (by kernel_rfl) (by kernel_rfl) rfl rfl (by kernel_rfl) fun _ f => ST_eq (v := .pointer (some (⟨b0, 3, none⟩))) f (by kernel_rfl) (by kernel_rfl) rfl rfl (by kernel_rfl) fun _ f => ST_eq (v := .map (some m0_3)) f (by kernel_rfl) (by kernel_rfl) rfl rfl (Y33 (v := .map (some m0_3)) rfl (ad := ⟨b0, 3, none⟩) (N93.ownCell 4 rfl 3)) fun _ f => ST_eq (v := .pointer (some (⟨Q3, 0, none⟩))) f (by kernel_rfl) (by kernel_rfl) rfl rfl (by kernel_rfl) fun _ f => ST_eq (v := .int .i64 G3.2.2.2.2.2.2.2.2.1) f (by kernel_rfl) (by kernel_rfl) rfl rfl (Y33 (v := .int .i64 G3.2.2.2.2.2.2.2.2.1) rfl (ad := ⟨Q3, 0, none⟩) (N93.ownCell 5 rfl 0)) fun _ f => ST_eq (v := .agg #[.bool G3.1, .bool G3.2.1, S G3.2.2.1]) f (by kernel_rfl) (by kernel_rfl) rfl rfl (Y34 (cs := [.bool G3.1, .bool G3.2.1, S G3.2.2.1]) rfl (ad := ⟨Q1, 0, none⟩) (own_cells (N93.ownCell 3 rfl) 0 rfl)) fun _ f => ST_end rfl ?_))
     have N94 := N93.pl [2]
     refine W_mapput (ek := (Value.int .i64)) (ev := (fun x : TB0 => Value.agg #[.bool x.fEnded, .bool x.fOk, S x.fPhys])) (m := G3.2.2.2.2.2.2.2.2.2.2.2.2.2) (k := G3.2.2.2.2.2.2.2.2.1) (v := (⟨(G3.1), (G3.2.1), G3.2.2.1⟩ : TB0)) (kt := 3) (et := 45) f N94 (by kernel_rfl) (by kernel_rfl) rfl (.inl rfl) (by kernel_rfl) (by kernel_rfl) (by kernel_rfl) (by kernel_rfl) (intKey (by kernel_rfl)) fun W63 N95 _ f => eT (R_seq (R_drawT 4 N95 (by kernel_rfl) (by kernel_rfl) fun W64 N96 => ST_eq (v := .pointer (some (⟨Q3, 0, none⟩))) f (by kernel_rfl) (by kernel_rfl) rfl rfl (by kernel_rfl) fun _ f => ST_eq (v := .int .i64 G3.2.2.2.2.2.2.2.2.1) f (by kernel_rfl) (by kernel_rfl) rfl rfl (Y33 (v := .int .i64 G3.2.2.2.2.2.2.2.2.1) rfl (ad := ⟨Q3, 0, none⟩) (N96.ownCell 5 rfl 0)) fun _ f => ST_eq (v := .agg #[.bool G3.1, .bool G3.2.1, S G3.2.2.1]) f (by kernel_rfl) (by kernel_rfl) rfl rfl (Y34 (cs := [.bool G3.1, .bool G3.2.1, S G3.2.2.1]) rfl (ad := ⟨Q1, 0, none⟩) (own_cells (N96.ownCell 3 rfl) 0 rfl)) fun _ f => ST_eq (v := .int .i64 G3.2.2.2.2.2.2.2.2.1) f (by kernel_rfl) (by kernel_rfl) rfl rfl (by kernel_rfl) fun _ f => ST_end rfl ?_))
     have N97 := N96.pl [3]
     refine Y28 (vs := [.bool G3.1, .bool G3.2.1, S G3.2.2.1]) (j := 0) f N97 rfl rfl (by simp [Value.oneCell', S]) (by simp) (by decide) (cs' := #[.bool G3.1, .bool G3.2.1, S G3.2.2.1]) (by kernel_rfl) fun W65 N98 _ f => Y f 1 fun _ f => eT (wp_ret (E_rv3 f rfl (Y11 (v := .int .i64 G3.2.2.2.2.2.2.2.2.1) f) (Y10 (cs := [.bool G3.1, .bool G3.2.1, S G3.2.2.1]) (ad := ⟨Q1, 0, none⟩) f (own_cells (N98.ownCell 0 rfl) 0 rfl)) (Y11 (v := .int .i64 0) f) ?_))
     obtain rfl := sI F13
     have N104 := N98.pl [3, 2, 3, 4, 5, 5]
     exact ⟨_, rfl, V4, _, ((J1.trans J2).trans J4), (N104.dropN 2), ⟨[.bool G3.1, .bool G3.2.1, S G3.2.2.1], Z31, P32, Z32, P33, L13, Z33, P34, L14, rfl, rfl, (TB0.shut), B8, D15, D16⟩⟩
def cloud_Cloud_Made (n : Nat) (d0_0 : List TD0) (d0_1 : Int) (d0_2 : List TF0) (d0_3 : List (Int × TB0)) (d0_4 : List TF0) (d0_5 : Int) : Option (Int × List TD0 × Int × List TF0 × (List (Int × TB0)) × List TF0 × Int) :=
  some ((d0_5, d0_0, d0_1, d0_2, d0_3, d0_4, d0_5))
theorem cloud_Cloud_Made_ok (n : Nat) (M : Mem) (hG : GL M) (b0 : Nat) (d0_0 : List TD0) (Z1 : Option Addr) (P1 : Nat) (B1 : Sli M 3 emb_TD0 Z1 P1 d0_0) (d0_1 : Int) (d0_2 : List TF0) (Z2 : Option Addr) (P2 : Nat) (L1 : List Value) (D1 : RepSeq M (d0_2.map emb_TF0) L1) (m0_3 : Nat) (d0_3 : List (Int × TB0)) (d0_4 : List TF0) (Z3 : Option Addr) (P3 : Nat) (L2 : List Value) (D2 : RepSeq M (d0_4.map emb_TF0) L2) (d0_5 : Int) (r : Int × List TD0 × Int × List TF0 × (List (Int × TB0)) × List TF0 × Int) (hF : cloud_Cloud_Made n d0_0 d0_1 d0_2 d0_3 d0_4 d0_5 = some r) : OkH Tryz.prog M [Ent.obj b0 (.cells #[.slice Z1 d0_0.length P1, .int .i64 d0_1, .slice Z2 d0_2.length P2, .map (some m0_3), .slice Z3 d0_4.length P3, .int .i64 d0_5] 82 (0, 0)), Ent.row 42 5 (.slice Z2 d0_2.length P2) d0_2.length L1, Ent.obj m0_3 (mapO (Value.int .i64) (fun x : TB0 => Value.agg #[.bool x.fEnded, .bool x.fOk, S x.fPhys]) d0_3), Ent.row 42 5 (.slice Z3 d0_4.length P3) d0_4.length L2] 24 [.pointer (some (⟨b0, 0, none⟩))] (fun M' E' v => ∃ (Z4 : Option Addr) (P4 : Nat) (Z5 : Option Addr) (P5 : Nat) (L3 : List Value) (Z6 : Option Addr) (P6 : Nat) (L4 : List Value), v = .int .i64 r.1 ∧ E' = [Ent.obj b0 (.cells #[.slice Z4 r.2.1.length P4, .int .i64 r.2.2.1, .slice Z5 r.2.2.2.1.length P5, .map (some m0_3), .slice Z6 r.2.2.2.2.2.1.length P6, .int .i64 r.2.2.2.2.2.2] 82 (0, 0)), Ent.row 42 5 (.slice Z5 r.2.2.2.1.length P5) r.2.2.2.1.length L3, Ent.obj m0_3 (mapO (Value.int .i64) (fun x : TB0 => Value.agg #[.bool x.fEnded, .bool x.fOk, S x.fPhys]) r.2.2.2.2.1), Ent.row 42 5 (.slice Z6 r.2.2.2.2.2.1.length P6) r.2.2.2.2.2.1.length L4] ∧ Sli M' 3 emb_TD0 Z4 P4 r.2.1 ∧ RepSeq M' (r.2.2.2.1.map emb_TF0) L3 ∧ RepSeq M' (r.2.2.2.2.2.1.map emb_TF0) L4) := by
 unfold cloud_Cloud_Made at hF
 intro M1 hM0 w0 H w p0
 replace hG := GL.mono hM0 hG
 replace B1 := B1.mono hM0
 replace D1 := RepSeq.mono hM0 _ _ D1
 replace D2 := RepSeq.mono hM0 _ _ D2
 refine R_enter 9 Tryz.func24 rfl rfl (by simp) fun a0 f0 => RR (Y f0 1 fun _ f => eT (R_seq (RR (Y f 1 fun _ f => Z (v := .bool false) f (X_ptrNil (q := some (⟨b0, 0, none⟩)) (e := 82) rfl (by kernel_rfl) (by kernel_rfl) (by kernel_rfl) _) fun _ f => eT (Y7 f (wp_skip (T_n (RR (Y f 3 fun _ f => Z f (Y33 (v := .int .i64 d0_5) rfl (ad := ⟨b0, 5, none⟩) (p0.ownCell 0 rfl 5)) fun _ f => Y f 1 fun _ f => eT (wp_ret (E_ret1 f rfl (by kernel_rfl : Vc.look _ 2 = some (.int .i64 d0_5)) ?_)))))))))))
 obtain rfl := sI hF
 exact ⟨_, rfl, M1, _, (mR _), p0, ⟨Z1, P1, Z2, P2, L1, Z3, P3, L2, rfl, rfl, B1, D1, D2⟩⟩
def slices_Cloneapi_Thing_api_Thing_z (n : Nat) (d0 : List TD0) (z0 : Bool) : Option (List TD0) :=
  bif z0 then
    (some (([] : List TD0)))
  else
    need ((([] : List TD0).length + d0.length) * 56 ≤ 140737488355328) <|
    some (([] : List TD0) ++ d0)
theorem slices_Cloneapi_Thing_api_Thing_z_ok (n : Nat) (M : Mem) (A0 : Option Addr) (cap0 : Nat) (d0 : List TD0) (h0 : Sli M 3 emb_TD0 A0 cap0 d0) (z0 : Bool) (hz0 : A0.isNone = z0) (r : List TD0) (hF : slices_Cloneapi_Thing_api_Thing_z n d0 z0 = some r) : OkH Tryz.prog M [] 43 [.slice A0 d0.length cap0] (fun M' E' v => ∃ (A0 : Option Addr) (k0 : Nat) (s0 : List Value), v = .slice A0 r.length k0 ∧ E' = [.row 54 3 (.slice A0 r.length k0) r.length s0] ∧ RepSeq M' (r.map emb_TD0) s0) := by
 unfold slices_Cloneapi_Thing_api_Thing_z at hF
 intro M1 hM0 w0 H w p0
 replace h0 := h0.mono hM0
 refine R_enter 8 Tryz.func43 rfl rfl (by simp) fun a0 f0 => RR (Y f0 1 fun _ f => eT (R_seq (RR (Y f 1 fun _ f => Z (v := .bool A0.isNone) f (X_slicenil (A := A0) (n := d0.length) (c := cap0) (e := 54) rfl (by kernel_rfl) (by kernel_rfl) (by kernel_rfl) _) fun _ f => ?_))))
 have f := Frm.set f 4 (v := .bool A0.isNone) (v' := .bool z0) (by kernel_rfl) (cB hz0)
 refine eT (RcF f hF (fun B1 F1 => ?_) fun B1 F2 => ?_)
 ·refine RR (Y f 1 fun _ f => eT (wp_ret (T_r ?_)))
  obtain ⟨Z1, P1, H1⟩ : ∃ A cap, Value.slice none 0 0 = .slice A ([] : List TD0).length cap := ⟨none, 0, rfl⟩
  have N1 : Hp w0 M1 ((Ent.row 54 3 (.slice Z1 ([] : List TD0).length P1) ([] : List TD0).length []) :: H) w := by rw [← H1]; exact p0.nilRow 54 3
  have f := f.st 2 (H1)
  have D1 : RepSeq M1 (([] : List TD0).map emb_TD0) [] := rfl
  refine E_ret1 f rfl (by kernel_rfl : Vc.look _ 2 = some (.slice Z1 ([] : List TD0).length P1)) ?_
  obtain rfl := sI F1
  exact ⟨_, rfl, M1, _, (mR _), N1, ⟨Z1, P1, [], rfl, rfl, D1⟩⟩
 ·refine wp_skip (T_n (RR (V_allocS (k := 0) (c := 0) f p0 (.cells #[] 54 (0, 0)) (by kernel_rfl) (fun _ => by kernel_rfl) fun Q1 W1 N2 _ f => Y f 1 fun _ f => ?_)))
  have D2 : RepSeq M1 (([] : List TD0).map emb_TD0) [] := rfl
  have N3 : Hp w0 M1 ((Ent.row 54 3 (.slice (some ⟨Q1, 0, none⟩) 0 0) ([] : List TD0).length []) :: H) W1 := N2.objRow (n := 0) (cap := 0) (size := 3) (by decide) (by decide) (blk_eq (by decide) rfl) rfl rfl
  obtain ⟨O1, F3⟩ := nS F2
  refine Y24 (z := .agg #[S [], S [], .slice none 0 0]) (f := emb_TD0) (xs := ([] : List TD0)) (ys := d0) (c := cap0) f N3 D2 h0 rfl rfl rfl O1 (by omega) fun Z2 P2 L1 W2 N4 D3 _ f => Y f 1 fun _ f => eT (wp_ret (E_ret1 f rfl (by kernel_rfl : Vc.look _ 2 = some (.slice Z2 (([] : List TD0) ++ d0).length P2)) ?_))
  obtain rfl := sI F3
  exact ⟨_, rfl, M1, _, (mR _), N4, ⟨Z2, P2, L1, rfl, rfl, D3⟩⟩
def slices_Cloneapi_Thing_api_Thing (_ : Nat) (d0 : List TD0) : Option (List TD0) := need (d0.length * 56 ≤ 140737488355328) (some d0)
theorem slices_Cloneapi_Thing_api_Thing_ok (n : Nat) (M : Mem) (A0 : Option Addr) (cap0 : Nat) (d0 : List TD0) (h0 : Sli M 3 emb_TD0 A0 cap0 d0) (r : List TD0) (hF : slices_Cloneapi_Thing_api_Thing n d0 = some r) : OkH Tryz.prog M [] 43 [.slice A0 d0.length cap0] (fun M' E' v => ∃ (A0 : Option Addr) (k0 : Nat) (s0 : List Value), v = .slice A0 r.length k0 ∧ E' = [.row 54 3 (.slice A0 r.length k0) r.length s0] ∧ RepSeq M' (r.map emb_TD0) s0) := by
 unfold slices_Cloneapi_Thing_api_Thing at hF
 obtain ⟨g, hF⟩ := nS hF
 obtain rfl := sI hF
 refine slices_Cloneapi_Thing_api_Thing_z_ok n M A0 cap0 d0 h0 A0.isNone rfl d0 ?_
 unfold slices_Cloneapi_Thing_api_Thing_z
 cases A0 with
 | none =>
  obtain ⟨h1, h2, _⟩ := h0
  have h3 := h2 rfl
  obtain rfl : d0 = [] := List.eq_nil_of_length_eq_zero (by omega)
  rfl
 | some a => simp [need]; omega
def cloud_Cloud_Things (n : Nat) (d0_0 : List TD0) (d0_1 : Int) (d0_2 : List TF0) (d0_3 : List (Int × TB0)) (d0_4 : List TF0) (d0_5 : Int) : Option (List TD0 × List TD0 × Int × List TF0 × (List (Int × TB0)) × List TF0 × Int) :=
  (slices_Cloneapi_Thing_api_Thing n d0_0).bind fun X1 =>
  some ((X1, d0_0, d0_1, d0_2, d0_3, d0_4, d0_5))
theorem cloud_Cloud_Things_ok (n : Nat) (M : Mem) (hG : GL M) (b0 : Nat) (d0_0 : List TD0) (Z1 : Option Addr) (P1 : Nat) (B1 : Sli M 3 emb_TD0 Z1 P1 d0_0) (d0_1 : Int) (d0_2 : List TF0) (Z2 : Option Addr) (P2 : Nat) (L1 : List Value) (D1 : RepSeq M (d0_2.map emb_TF0) L1) (m0_3 : Nat) (d0_3 : List (Int × TB0)) (d0_4 : List TF0) (Z3 : Option Addr) (P3 : Nat) (L2 : List Value) (D2 : RepSeq M (d0_4.map emb_TF0) L2) (d0_5 : Int) (r : List TD0 × List TD0 × Int × List TF0 × (List (Int × TB0)) × List TF0 × Int) (hF : cloud_Cloud_Things n d0_0 d0_1 d0_2 d0_3 d0_4 d0_5 = some r) : OkH Tryz.prog M [Ent.obj b0 (.cells #[.slice Z1 d0_0.length P1, .int .i64 d0_1, .slice Z2 d0_2.length P2, .map (some m0_3), .slice Z3 d0_4.length P3, .int .i64 d0_5] 82 (0, 0)), Ent.row 42 5 (.slice Z2 d0_2.length P2) d0_2.length L1, Ent.obj m0_3 (mapO (Value.int .i64) (fun x : TB0 => Value.agg #[.bool x.fEnded, .bool x.fOk, S x.fPhys]) d0_3), Ent.row 42 5 (.slice Z3 d0_4.length P3) d0_4.length L2] 22 [.pointer (some (⟨b0, 0, none⟩))] (fun M' E' v => ∃ (A0 : Option Addr) (k0 : Nat) (s0 : List Value) (Z5 : Option Addr) (P5 : Nat) (Z6 : Option Addr) (P6 : Nat) (L4 : List Value) (Z7 : Option Addr) (P7 : Nat) (L5 : List Value), v = .slice A0 r.1.length k0 ∧ E' = [.row 54 3 (.slice A0 r.1.length k0) r.1.length s0, Ent.obj b0 (.cells #[.slice Z5 r.2.1.length P5, .int .i64 r.2.2.1, .slice Z6 r.2.2.2.1.length P6, .map (some m0_3), .slice Z7 r.2.2.2.2.2.1.length P7, .int .i64 r.2.2.2.2.2.2] 82 (0, 0)), Ent.row 42 5 (.slice Z6 r.2.2.2.1.length P6) r.2.2.2.1.length L4, Ent.obj m0_3 (mapO (Value.int .i64) (fun x : TB0 => Value.agg #[.bool x.fEnded, .bool x.fOk, S x.fPhys]) r.2.2.2.2.1), Ent.row 42 5 (.slice Z7 r.2.2.2.2.2.1.length P7) r.2.2.2.2.2.1.length L5] ∧ RepSeq M' (r.1.map emb_TD0) s0 ∧ Sli M' 3 emb_TD0 Z5 P5 r.2.1 ∧ RepSeq M' (r.2.2.2.1.map emb_TF0) L4 ∧ RepSeq M' (r.2.2.2.2.2.1.map emb_TF0) L5) := by
 unfold cloud_Cloud_Things at hF
 intro M1 hM0 w0 H w p0
 replace hG := GL.mono hM0 hG
 replace B1 := B1.mono hM0
 replace D1 := RepSeq.mono hM0 _ _ D1
 replace D2 := RepSeq.mono hM0 _ _ D2
 refine R_enter 11 Tryz.func22 rfl rfl (by simp) fun a0 f0 => RR (Y f0 1 fun _ f => eT (R_seq (RR (Y f 1 fun _ f => Z (v := .bool false) f (X_ptrNil (q := some (⟨b0, 0, none⟩)) (e := 82) rfl (by kernel_rfl) (by kernel_rfl) (by kernel_rfl) _) fun _ f => eT (Y7 f (wp_skip (T_n (RR (Y f 4 fun _ f => Z f (Y33 (v := .slice Z1 d0_0.length P1) rfl (ad := ⟨b0, 0, none⟩) (p0.ownCell 0 rfl 0)) fun _ f => ?_)))))))))
 obtain ⟨X1, S1, F1⟩ := bS hF
 refine Y17 (E := []) (H := ((Ent.obj b0 (.cells #[.slice Z1 d0_0.length P1, .int .i64 d0_1, .slice Z2 d0_2.length P2, .map (some m0_3), .slice Z3 d0_4.length P3, .int .i64 d0_5] 82 (0, 0))) :: (Ent.row 42 5 (.slice Z2 d0_2.length P2) d0_2.length L1) :: (Ent.obj m0_3 (mapO (Value.int .i64) (fun x : TB0 => Value.agg #[.bool x.fEnded, .bool x.fOk, S x.fPhys]) d0_3)) :: (Ent.row 42 5 (.slice Z3 d0_4.length P3) d0_4.length L2) :: H)) f p0 (slices_Cloneapi_Thing_api_Thing_ok n _ Z1 P1 d0_0 B1 X1 S1) fun _ V1 E_1 W1 J1 N1 q_1 _ f => ?_
 obtain ⟨Z4, P4, L3, rfl, rfl, D3⟩ := q_1
 refine Y f 1 fun _ f => eT (wp_ret (E_ret1 f rfl (by kernel_rfl : Vc.look _ 2 = some (.slice Z4 X1.length P4)) ?_))
 obtain rfl := sI F1
 exact ⟨_, rfl, V1, _, J1, N1, ⟨Z4, P4, L3, Z1, P1, Z2, P2, L1, Z3, P3, L2, rfl, rfl, D3, (B1.mono J1), (RepSeq.mono J1 _ _ D1), (RepSeq.mono J1 _ _ D2)⟩⟩
def law11_wakes (n : Nat) : Option Bool :=
  (cloud_New n).bind fun X1 =>
  (cloud_Cloud_Submit n ([] : List TD0) (0 : Int) ([] : List TF0) ([] : List (Int × TB0)) ([] : List TF0) (0 : Int) (⟨(1 : Int), (0 : Int), ([] : List UInt8), [68, 105, 115, 107], ([] : List TC0)⟩ : TF0)).bind fun X2 =>
  (cloud_Cloud_Submit n X2.2.1 X2.2.2.1 X2.2.2.2.1 X2.2.2.2.2.1 X2.2.2.2.2.2.1 X2.2.2.2.2.2.2 (⟨(1 : Int), (0 : Int), ([] : List UInt8), [68, 105, 115, 107], ([] : List TC0)⟩ : TF0)).bind fun X3 =>
  (cloud_Cloud_End n X3.2.1 X3.2.2.1 X3.2.2.2.1 X3.2.2.2.2.1 X3.2.2.2.2.2.1 X3.2.2.2.2.2.2 (0 : Int) (true)).bind fun X4 =>
  bif (decide (X2.1 = 0)) then
    (bif (decide (X3.1 = 0)) then
      (bif (decide (X4.1 = 1)) then
        (bif (andL [(X4.2.1.fEnded == true), (X4.2.1.fOk == true), decide (X4.2.1.fPhys = [112, 49])]) then
          (bif (decide (X4.2.2.1 = 0)) then
            ((cloud_Cloud_Made n X4.2.2.2.1 X4.2.2.2.2.1 X4.2.2.2.2.2.1 X4.2.2.2.2.2.2.1 X4.2.2.2.2.2.2.2.1 X4.2.2.2.2.2.2.2.2).bind fun X5 =>
            bif (decide (X5.1 = 1)) then
              ((cloud_Cloud_Things n X5.2.1 X5.2.2.1 X5.2.2.2.1 X5.2.2.2.2.1 X5.2.2.2.2.2.1 X5.2.2.2.2.2.2).bind fun X6 =>
              some ((decide (((X6.1.length : Nat) : Int) = 1))))
            else
              some ((false)))
          else
            some ((false)))
        else
          some ((false)))
      else
        some ((false)))
    else
      some ((false)))
  else
    some ((false))
set_option maxRecDepth 20000 in
theorem law11_wakes_ok (n : Nat) (M : Mem) (hG : GL M) (r : Bool) (hF : law11_wakes n = some r) : Ok Tryz.prog M 17 [] (fun _ v => v = .bool r) := by
 unfold law11_wakes at hF
 intro M1 hM0 w0 H w p0
 replace hG := GL.mono hM0 hG
 refine R_enter 52 Tryz.func17 rfl rfl (by simp) fun a0 f0 => RR (Y f0 1 fun _ f => eT (RR ?_))
 obtain ⟨X1, S1, F1⟩ := bS hF
 refine Y17 (E := []) (H := (H)) f p0 (cloud_New_ok n _ hG X1 S1) fun _ V1 E_1 W1 J1 N1 q_1 _ f => ?_
 obtain ⟨y1, nb_1m0, rfl, rfl⟩ := q_1
 refine Y f 1 fun _ f => eT (RR (Y f 1 fun _ f => Y12 f N1 (.cells #[.int .i64 0, .int .i8 0, S [], S [], .slice none 0 0] 42 (0, 0)) fun Q1 W2 N2 _ f => Y28 (vs := [.int .i64 1, .int .i8 0, S [], S [68, 105, 115, 107], .slice none 0 0]) (j := 0) f N2 rfl rfl (by simp [Value.oneCell', S]) (by simp) (by decide) (cs' := #[.int .i64 1, .int .i8 0, S [], S [68, 105, 115, 107], .slice none 0 0]) (by kernel_rfl) fun W3 N3 _ f => eT (R_seq ?_)))
 have N5 := N3.pl [2, 2]
 refine R_mix (E := [Ent.obj y1 (.cells #[.slice none 0 0, .int .i64 0, .slice none 0 0, .map (some nb_1m0), .slice none 0 0, .int .i64 0] 82 (0, 0)), Ent.obj nb_1m0 (mapO (Value.int .i64) (fun x : TB0 => Value.agg #[.bool x.fEnded, .bool x.fOk, S x.fPhys]) ([] : List (Int × TB0)))]) (Hr := ((Ent.obj Q1 (.cells #[.int .i64 1, .int .i8 0, S [], S [68, 105, 115, 107], .slice none 0 0] 42 (0, 0))) :: H)) [(0, true), (1, true), (3, true), (4, true), (2, false), (5, false), (6, true), (7, true)] N5 (by kernel_rfl) (by kernel_rfl) rfl (by kernel_rfl) (Y0 default f 1 fun _ f => M_eq (v := .agg #[.int .i64 1, .int .i8 0, S [], S [68, 105, 115, 107], .slice none 0 0]) f (by kernel_rfl) (by kernel_rfl) rfl rfl (fun _ pq => Y34 (cs := [.int .i64 1, .int .i8 0, S [], S [68, 105, 115, 107], .slice none 0 0]) rfl (ad := ⟨Q1, 0, none⟩) (own_cells (pq.ownCell 0 rfl) 0 rfl)) fun _ f => Y0 default f 1 fun _ f => M_eq (v := .agg #[.int .i64 1, .int .i8 0, S [], S [68, 105, 115, 107], .slice none 0 0]) f (by kernel_rfl) (by kernel_rfl) rfl rfl (fun _ pq => Y34 (cs := [.int .i64 1, .int .i8 0, S [], S [68, 105, 115, 107], .slice none 0 0]) rfl (ad := ⟨Q1, 0, none⟩) (own_cells (pq.ownCell 0 rfl) 0 rfl)) fun _ f => M_fix (E := [Ent.obj y1 (.cells #[.slice none 0 0, .int .i64 0, .slice none 0 0, .map (some nb_1m0), .slice none 0 0, .int .i64 0] 82 (0, 0)), Ent.obj nb_1m0 (mapO (Value.int .i64) (fun x : TB0 => Value.agg #[.bool x.fEnded, .bool x.fOk, S x.fPhys]) ([] : List (Int × TB0)))]) fun W4 N6 => ?_)
 obtain ⟨Z1, P1, H1⟩ : ∃ A cap, Value.slice none 0 0 = .slice A ([] : List TF0).length cap := ⟨none, 0, rfl⟩
 have N7 : Hp w0 V1 ((Ent.row 42 5 (.slice Z1 ([] : List TF0).length P1) ([] : List TF0).length []) :: (Ent.obj y1 (.cells #[.slice none 0 0, .int .i64 0, .slice Z1 ([] : List TF0).length P1, .map (some nb_1m0), .slice none 0 0, .int .i64 0] 82 (0, 0))) :: (Ent.obj nb_1m0 (mapO (Value.int .i64) (fun x : TB0 => Value.agg #[.bool x.fEnded, .bool x.fOk, S x.fPhys]) ([] : List (Int × TB0)))) :: (Ent.obj Q1 (.cells #[.int .i64 1, .int .i8 0, S [], S [68, 105, 115, 107], .slice none 0 0] 42 (0, 0))) :: H) W4 := by rw [← H1]; exact N6.nilRow 42 5
 have D1 : RepSeq V1 (([] : List TF0).map emb_TF0) [] := rfl
 obtain ⟨Z2, P2, H2⟩ : ∃ A cap, Value.slice none 0 0 = .slice A ([] : List TF0).length cap := ⟨none, 0, rfl⟩
 have N8 : Hp w0 V1 ((Ent.row 42 5 (.slice Z2 ([] : List TF0).length P2) ([] : List TF0).length []) :: (Ent.row 42 5 (.slice Z1 ([] : List TF0).length P1) ([] : List TF0).length []) :: (Ent.obj y1 (.cells #[.slice none 0 0, .int .i64 0, .slice Z1 ([] : List TF0).length P1, .map (some nb_1m0), .slice Z2 ([] : List TF0).length P2, .int .i64 0] 82 (0, 0))) :: (Ent.obj nb_1m0 (mapO (Value.int .i64) (fun x : TB0 => Value.agg #[.bool x.fEnded, .bool x.fOk, S x.fPhys]) ([] : List (Int × TB0)))) :: (Ent.obj Q1 (.cells #[.int .i64 1, .int .i8 0, S [], S [68, 105, 115, 107], .slice none 0 0] 42 (0, 0))) :: H) W4 := by rw [← H2]; exact N7.nilRow 42 5
 have D2 : RepSeq V1 (([] : List TF0).map emb_TF0) [] := rfl
 obtain ⟨X2, S2, F2⟩ := bS F1
 have N12 := N8.pl [3, 2, 3]
 refine Y17 (E := [Ent.obj y1 (.cells #[.slice none 0 0, .int .i64 0, .slice Z1 ([] : List TF0).length P1, .map (some nb_1m0), .slice Z2 ([] : List TF0).length P2, .int .i64 0] 82 (0, 0)), Ent.row 42 5 (.slice Z1 ([] : List TF0).length P1) ([] : List TF0).length [], Ent.obj nb_1m0 (mapO (Value.int .i64) (fun x : TB0 => Value.agg #[.bool x.fEnded, .bool x.fOk, S x.fPhys]) ([] : List (Int × TB0))), Ent.row 42 5 (.slice Z2 ([] : List TF0).length P2) ([] : List TF0).length []]) (H := ((Ent.obj Q1 (.cells #[.int .i64 1, .int .i8 0, S [], S [68, 105, 115, 107], .slice none 0 0] 42 (0, 0))) :: H)) f N12 (cloud_Cloud_Submit_ok n _ (GL.mono J1 hG) y1 ([] : List TD0) none 0 Sli.nil (0 : Int) ([] : List TF0) Z1 P1 [] D1 nb_1m0 ([] : List (Int × TB0)) ([] : List TF0) Z2 P2 [] D2 (0 : Int) _ (⟨(1 : Int), (0 : Int), ([] : List UInt8), [68, 105, 115, 107], ([] : List TC0)⟩ : TF0) (TF0.shut Sli.nil) X2 S2) fun _ V2 E_2 W5 J2 N9 q_2 _ f => ?_
 obtain ⟨Z3, P3, Z4, P4, L1, Z5, P5, L2, rfl, rfl, B1, D3, D4⟩ := q_2
 refine W_end rfl (M_go (M1 := V2) (E := [Ent.obj y1 (.cells #[.slice Z3 X2.2.1.length P3, .int .i64 X2.2.2.1, .slice Z4 X2.2.2.2.1.length P4, .map (some nb_1m0), .slice Z5 X2.2.2.2.2.2.1.length P5, .int .i64 X2.2.2.2.2.2.2] 82 (0, 0)), Ent.row 42 5 (.slice Z4 X2.2.2.2.1.length P4) X2.2.2.2.1.length L1, Ent.obj nb_1m0 (mapO (Value.int .i64) (fun x : TB0 => Value.agg #[.bool x.fEnded, .bool x.fOk, S x.fPhys]) X2.2.2.2.2.1), Ent.row 42 5 (.slice Z5 X2.2.2.2.2.2.1.length P5) X2.2.2.2.2.2.1.length L2]) J2 N9 (M_fix (E := [Ent.obj y1 (.cells #[.slice Z3 X2.2.1.length P3, .int .i64 X2.2.2.1, .slice Z4 X2.2.2.2.1.length P4, .map (some nb_1m0), .slice Z5 X2.2.2.2.2.2.1.length P5, .int .i64 X2.2.2.2.2.2.2] 82 (0, 0)), Ent.row 42 5 (.slice Z4 X2.2.2.2.1.length P4) X2.2.2.2.1.length L1, Ent.obj nb_1m0 (mapO (Value.int .i64) (fun x : TB0 => Value.agg #[.bool x.fEnded, .bool x.fOk, S x.fPhys]) X2.2.2.2.2.1), Ent.row 42 5 (.slice Z5 X2.2.2.2.2.2.1.length P5) X2.2.2.2.2.2.1.length L2]) fun W6 N13 => ?_))
 obtain ⟨X3, S3, F3⟩ := bS F2
 refine Y17 (E := [Ent.obj y1 (.cells #[.slice Z3 X2.2.1.length P3, .int .i64 X2.2.2.1, .slice Z4 X2.2.2.2.1.length P4, .map (some nb_1m0), .slice Z5 X2.2.2.2.2.2.1.length P5, .int .i64 X2.2.2.2.2.2.2] 82 (0, 0)), Ent.row 42 5 (.slice Z4 X2.2.2.2.1.length P4) X2.2.2.2.1.length L1, Ent.obj nb_1m0 (mapO (Value.int .i64) (fun x : TB0 => Value.agg #[.bool x.fEnded, .bool x.fOk, S x.fPhys]) X2.2.2.2.2.1), Ent.row 42 5 (.slice Z5 X2.2.2.2.2.2.1.length P5) X2.2.2.2.2.2.1.length L2]) (H := ((Ent.obj Q1 (.cells #[.int .i64 1, .int .i8 0, S [], S [68, 105, 115, 107], .slice none 0 0] 42 (0, 0))) :: H)) f N13 (cloud_Cloud_Submit_ok n _ (GL.mono (J1.trans J2) hG) y1 X2.2.1 Z3 P3 B1 X2.2.2.1 X2.2.2.2.1 Z4 P4 L1 D3 nb_1m0 X2.2.2.2.2.1 X2.2.2.2.2.2.1 Z5 P5 L2 D4 X2.2.2.2.2.2.2 _ (⟨(1 : Int), (0 : Int), ([] : List UInt8), [68, 105, 115, 107], ([] : List TC0)⟩ : TF0) (TF0.shut Sli.nil) X3 S3) fun _ V3 E_3 W7 J3 N14 q_3 _ f => ?_
 obtain ⟨Z6, P6, Z7, P7, L3, Z8, P8, L4, rfl, rfl, B2, D5, D6⟩ := q_3
 refine W_end rfl (M_go (M1 := V3) (E := [Ent.obj y1 (.cells #[.slice Z6 X3.2.1.length P6, .int .i64 X3.2.2.1, .slice Z7 X3.2.2.2.1.length P7, .map (some nb_1m0), .slice Z8 X3.2.2.2.2.2.1.length P8, .int .i64 X3.2.2.2.2.2.2] 82 (0, 0)), Ent.row 42 5 (.slice Z7 X3.2.2.2.1.length P7) X3.2.2.2.1.length L3, Ent.obj nb_1m0 (mapO (Value.int .i64) (fun x : TB0 => Value.agg #[.bool x.fEnded, .bool x.fOk, S x.fPhys]) X3.2.2.2.2.1), Ent.row 42 5 (.slice Z8 X3.2.2.2.2.2.1.length P8) X3.2.2.2.2.2.1.length L4]) (J2.trans J3) N14 (Y0 default f 2 fun _ f => M_end rfl fun W8 N15 => T_n (RR (Y f 1 fun _ f => ?_))))
 obtain ⟨X4, S4, F4⟩ := bS F3
 refine Y17 (E := [Ent.obj y1 (.cells #[.slice Z6 X3.2.1.length P6, .int .i64 X3.2.2.1, .slice Z7 X3.2.2.2.1.length P7, .map (some nb_1m0), .slice Z8 X3.2.2.2.2.2.1.length P8, .int .i64 X3.2.2.2.2.2.2] 82 (0, 0)), Ent.row 42 5 (.slice Z7 X3.2.2.2.1.length P7) X3.2.2.2.1.length L3, Ent.obj nb_1m0 (mapO (Value.int .i64) (fun x : TB0 => Value.agg #[.bool x.fEnded, .bool x.fOk, S x.fPhys]) X3.2.2.2.2.1), Ent.row 42 5 (.slice Z8 X3.2.2.2.2.2.1.length P8) X3.2.2.2.2.2.1.length L4]) (H := ((Ent.obj Q1 (.cells #[.int .i64 1, .int .i8 0, S [], S [68, 105, 115, 107], .slice none 0 0] 42 (0, 0))) :: H)) f N15 (cloud_Cloud_End_ok n _ (GL.mono ((J1.trans J2).trans J3) hG) y1 X3.2.1 Z6 P6 B2 X3.2.2.1 X3.2.2.2.1 Z7 P7 L3 D5 nb_1m0 X3.2.2.2.2.1 X3.2.2.2.2.2.1 Z8 P8 L4 D6 X3.2.2.2.2.2.2 (0 : Int) (true) X4 S4) fun _ V4 E_4 W9 J4 N16 q_4 _ f => ?_
 obtain ⟨c_1, Z9, P9, Z10, P10, L5, Z11, P11, L6, rfl, rfl, D7, B3, D8, D9⟩ := q_4
 obtain rfl := TB0.opn D7
 refine Y f 4 fun _ f => Y12 f N16 (.cells #[.bool false, .bool false, S []] 45 (0, 0)) fun Q2 W10 N17 _ f => Y f 1 fun _ f => Y28 (vs := [.bool X4.2.1.fEnded, .bool X4.2.1.fOk, S X4.2.1.fPhys]) (j := 0) f N17 rfl rfl (by simp [Value.oneCell', S]) (by simp) (by decide) (cs' := #[.bool X4.2.1.fEnded, .bool X4.2.1.fOk, S X4.2.1.fPhys]) (by kernel_rfl) fun W11 N18 _ f => Y f 1 fun _ f => eT (RR (Y f 3 fun _ f => ?_))
 rcases cE F4 with ⟨B4, F5⟩ | ⟨B4, F18⟩
 ·have U1 := dI.1 B4
  have f := f.st 24 (cB B4)
  refine Y f 4 fun _ f => ?_
  rcases cE F5 with ⟨B5, F6⟩ | ⟨B5, F17⟩
  ·have U2 := dI.1 B5
   have f := f.st 28 (cB B5)
   refine Y f 4 fun _ f => ?_
   rcases cE F6 with ⟨B6, F7⟩ | ⟨B6, F16⟩
   ·have U3 := dI.1 B6
    have f := f.st 32 (cB B6)
    refine Z (v := .agg #[.bool X4.2.1.fEnded, .bool X4.2.1.fOk, S X4.2.1.fPhys]) f (Y34 (cs := [.bool X4.2.1.fEnded, .bool X4.2.1.fOk, S X4.2.1.fPhys]) rfl (ad := ⟨Q2, 0, none⟩) (own_cells (N18.ownCell 0 rfl) 0 rfl)) fun _ f => Y f 1 fun _ f => Z (v := .bool (andL [(X4.2.1.fEnded == true), (X4.2.1.fOk == true), decide (X4.2.1.fPhys = [112, 49])])) f (Y29 rfl (xs := #[.bool X4.2.1.fEnded, .bool X4.2.1.fOk, S X4.2.1.fPhys]) (ys := #[.bool true, .bool true, S [112, 49]]) (s := [(4, 0), (4, 1), (9, 2)]) (rs := [(X4.2.1.fEnded == true), (X4.2.1.fOk == true), decide (X4.2.1.fPhys = [112, 49])]) (fun w => ⟨⟨.bool X4.2.1.fEnded, .bool true, by kernel_rfl, by kernel_rfl, EqB (by kernel_rfl)⟩, ⟨.bool X4.2.1.fOk, .bool true, by kernel_rfl, by kernel_rfl, EqB (by kernel_rfl)⟩, ⟨S X4.2.1.fPhys, S [112, 49], by kernel_rfl, by kernel_rfl, EqS (by kernel_rfl)⟩, trivial⟩) _) fun _ f => Y f 2 fun _ f => ?_
    rcases cE F7 with ⟨B7, F8⟩ | ⟨B7, F15⟩
    ·have f := f.st 37 (cB B7)
     refine Y f 4 fun _ f => ?_
     rcases cE F8 with ⟨B8, F9⟩ | ⟨B8, F14⟩
     ·have U5 := dI.1 B8
      have f := f.st 41 (cB B8)
      refine Y f 1 fun _ f => ?_
      obtain ⟨X5, S5, F10⟩ := bS F9
      have N23 := N18.pl [4, 4, 4, 4]
      refine Y17 (E := [Ent.obj y1 (.cells #[.slice Z9 X4.2.2.2.1.length P9, .int .i64 X4.2.2.2.2.1, .slice Z10 X4.2.2.2.2.2.1.length P10, .map (some nb_1m0), .slice Z11 X4.2.2.2.2.2.2.2.1.length P11, .int .i64 X4.2.2.2.2.2.2.2.2] 82 (0, 0)), Ent.row 42 5 (.slice Z10 X4.2.2.2.2.2.1.length P10) X4.2.2.2.2.2.1.length L5, Ent.obj nb_1m0 (mapO (Value.int .i64) (fun x : TB0 => Value.agg #[.bool x.fEnded, .bool x.fOk, S x.fPhys]) X4.2.2.2.2.2.2.1), Ent.row 42 5 (.slice Z11 X4.2.2.2.2.2.2.2.1.length P11) X4.2.2.2.2.2.2.2.1.length L6]) (H := ((Ent.obj Q2 (.cells #[.bool X4.2.1.fEnded, .bool X4.2.1.fOk, S X4.2.1.fPhys] 45 (0, 0))) :: (Ent.obj Q1 (.cells #[.int .i64 1, .int .i8 0, S [], S [68, 105, 115, 107], .slice none 0 0] 42 (0, 0))) :: H)) f N23 (cloud_Cloud_Made_ok n _ (GL.mono (((J1.trans J2).trans J3).trans J4) hG) y1 X4.2.2.2.1 Z9 P9 B3 X4.2.2.2.2.1 X4.2.2.2.2.2.1 Z10 P10 L5 D8 nb_1m0 X4.2.2.2.2.2.2.1 X4.2.2.2.2.2.2.2.1 Z11 P11 L6 D9 X4.2.2.2.2.2.2.2.2 X5 S5) fun _ V5 E_5 W12 J5 N19 q_5 _ f => ?_
      obtain ⟨Z12, P12, Z13, P13, L7, Z14, P14, L8, rfl, rfl, B9, D10, D11⟩ := q_5
      refine Y f 3 fun _ f => ?_
      rcases cE F10 with ⟨B10, F11⟩ | ⟨B10, F13⟩
      ·have U6 := dI.1 B10
       have f := f.st 46 (cB B10)
       refine Y f 1 fun _ f => ?_
       obtain ⟨X6, S6, F12⟩ := bS F11
       refine Y17 (E := [Ent.obj y1 (.cells #[.slice Z12 X5.2.1.length P12, .int .i64 X5.2.2.1, .slice Z13 X5.2.2.2.1.length P13, .map (some nb_1m0), .slice Z14 X5.2.2.2.2.2.1.length P14, .int .i64 X5.2.2.2.2.2.2] 82 (0, 0)), Ent.row 42 5 (.slice Z13 X5.2.2.2.1.length P13) X5.2.2.2.1.length L7, Ent.obj nb_1m0 (mapO (Value.int .i64) (fun x : TB0 => Value.agg #[.bool x.fEnded, .bool x.fOk, S x.fPhys]) X5.2.2.2.2.1), Ent.row 42 5 (.slice Z14 X5.2.2.2.2.2.1.length P14) X5.2.2.2.2.2.1.length L8]) (H := ((Ent.obj Q2 (.cells #[.bool X4.2.1.fEnded, .bool X4.2.1.fOk, S X4.2.1.fPhys] 45 (0, 0))) :: (Ent.obj Q1 (.cells #[.int .i64 1, .int .i8 0, S [], S [68, 105, 115, 107], .slice none 0 0] 42 (0, 0))) :: H)) f N19 (cloud_Cloud_Things_ok n _ (GL.mono ((((J1.trans J2).trans J3).trans J4).trans J5) hG) y1 X5.2.1 Z12 P12 B9 X5.2.2.1 X5.2.2.2.1 Z13 P13 L7 D10 nb_1m0 X5.2.2.2.2.1 X5.2.2.2.2.2.1 Z14 P14 L8 D11 X5.2.2.2.2.2.2 X6 S6) fun _ V6 E_6 W13 J6 N24 q_6 _ f => ?_
       obtain ⟨Z15, P15, L9, Z16, P16, Z17, P17, L10, Z18, P18, L11, rfl, rfl, D12, B11, D13, D14⟩ := q_6
       refine Y f 4 fun _ f => eT (wp_ret (E_ret1 f rfl (by kernel_rfl : Vc.look _ 0 = some (.bool (decide (((X6.1.length : Nat) : Int) = 1)))) ?_))
       obtain rfl := sI F12
       exact ⟨_, rfl, V6, (((((J1.trans J2).trans J3).trans J4).trans J5).trans J6), (N24.dropN 7), rfl⟩
      ·have U7 := iff_f dI B10
       have f := f.st 46 (cB B10)
       refine Y f 6 fun _ f => eT (wp_ret (E_ret1 f rfl (by kernel_rfl : Vc.look _ 0 = some (.bool false)) ?_))
       obtain rfl := sI F13
       exact ⟨_, rfl, V5, ((((J1.trans J2).trans J3).trans J4).trans J5), (N19.dropN 6), rfl⟩
     ·have U8 := iff_f dI B8
      have f := f.st 41 (cB B8)
      refine Y f 11 fun _ f => eT (wp_ret (E_ret1 f rfl (by kernel_rfl : Vc.look _ 0 = some (.bool false)) ?_))
      obtain rfl := sI F14
      exact ⟨_, rfl, V4, (((J1.trans J2).trans J3).trans J4), (N18.dropN 6), rfl⟩
    ·have f := f.st 37 (cB B7)
     refine Y f 15 fun _ f => eT (wp_ret (E_ret1 f rfl (by kernel_rfl : Vc.look _ 0 = some (.bool false)) ?_))
     obtain rfl := sI F15
     exact ⟨_, rfl, V4, (((J1.trans J2).trans J3).trans J4), (N18.dropN 6), rfl⟩
   ·have U10 := iff_f dI B6
    have f := f.st 32 (cB B6)
    refine Y f 20 fun _ f => eT (wp_ret (E_ret1 f rfl (by kernel_rfl : Vc.look _ 0 = some (.bool false)) ?_))
    obtain rfl := sI F16
    exact ⟨_, rfl, V4, (((J1.trans J2).trans J3).trans J4), (N18.dropN 6), rfl⟩
  ·have U11 := iff_f dI B5
   have f := f.st 28 (cB B5)
   refine Y f 24 fun _ f => eT (wp_ret (E_ret1 f rfl (by kernel_rfl : Vc.look _ 0 = some (.bool false)) ?_))
   obtain rfl := sI F17
   exact ⟨_, rfl, V4, (((J1.trans J2).trans J3).trans J4), (N18.dropN 6), rfl⟩
 ·have U12 := iff_f dI B4
  have f := f.st 24 (cB B4)
  refine Y f 28 fun _ f => eT (wp_ret (E_ret1 f rfl (by kernel_rfl : Vc.look _ 0 = some (.bool false)) ?_))
  obtain rfl := sI F18
  exact ⟨_, rfl, V4, (((J1.trans J2).trans J3).trans J4), (N18.dropN 6), rfl⟩
end Go.Proofs.YtocefedhenhbfaaGreatDoor
end
