/-
  Texts of this claim, packed (what nothing names is left out): PrintLLines, Vo2, Op. Own work, partly printed by own programs. No condition.
-/
import Derived.Test.YtfaedhhjamaniaaDoorPkL3
import Derived.Test.YtfaedhhjamaniaaDoorPkL1
import Derived.Test.YtfaedhhjamaniaaDoorRows
set_option linter.unusedVariables false
set_option linter.unusedSimpArgs false
set_option maxHeartbeats 2000000
section
namespace Go.Proofs.YtfaedhhjamaniaaDoor
open Go Go.Vc
def keepB (c : UInt8) : Bool := !decide ((c.toNat : Int) = 32) && !decide ((c.toNat : Int) = 10)
def NoSpT (s : List UInt8) : Prop := ∀ c ∈ s, (c.toNat : Int) ≠ 32
def NoSpV (v : TA0) : Prop := NoSpT v.fText ∧ ∀ k ∈ v.fKeys, NoSpT k
def NoSp (v : TA0) : Prop := ∀ x ∈ walkV v, NoSpV x
theorem NoSp.self {v : TA0} (h : NoSp v) : NoSpV v := h v (by rw [walkV_eq]; exact List.mem_cons_self)
theorem NoSp.part {v x : TA0} (h : NoSp v) (hx : x ∈ v.fList) : NoSp x := fun y hy => h y (by
 rw [walkV_eq]
 exact List.mem_cons_of_mem _ (mem_walkVs.2 ⟨x, hx, hy⟩))
theorem NoSp.of {v : TA0} (h1 : NoSpV v) (h2 : ∀ x ∈ v.fList, NoSp x) : NoSp v := fun y hy => by
 rw [walkV_eq] at hy
 rcases List.mem_cons.1 hy with rfl | hy
 ·exact h1
 ·obtain ⟨x, hx, hy⟩ := mem_walkVs.1 hy
  exact h2 x hx y hy
theorem NoSp.sort_gen : ∀ (m : Nat) (v : TA0), SizeOf.sizeOf v < m → OkV v → NoSp v → NoSp (sortV v)
 | 0, _, h, _, _ => absurd h (Nat.not_lt_zero _)
 | m + 1, v, hm, hok, h => by
  refine NoSp.of ⟨by rw [sort_text]; exact h.self.1, fun k hk => h.self.2 k ((sort_keys hok.plain).mem_iff.1 hk)⟩ fun x hx => ?_
  obtain ⟨y, hy, rfl⟩ := List.mem_map.1 ((sort_perm hok.plain).mem_iff.1 hx)
  exact NoSp.sort_gen m y (by have := part_small hy; omega) (hok.part hy) (h.part hy)
theorem NoSp.sort {v : TA0} (hok : OkV v) (h : NoSp v) : NoSp (sortV v) := NoSp.sort_gen _ v (Nat.lt_succ_self _) hok h
def keepsQ (i : Nat) : Bool := if i = 32 then true else (qb (UInt8.ofNat i)).all keepB
theorem keepsQ_all : (List.range 256).all keepsQ = true := by decide +kernel
theorem keep_qb {c : UInt8} (h : (c.toNat : Int) ≠ 32) : (qb c).filter keepB = qb c := by
 have h1 := List.all_eq_true.1 keepsQ_all c.toNat (List.mem_range.2 c.toNat_lt)
 unfold keepsQ at h1
 have ec : UInt8.ofNat c.toNat = c := UInt8.ofNat_toNat
 rw [if_neg (by omega), ec] at h1
 exact List.filter_eq_self.2 (List.all_eq_true.1 h1)
theorem keep_flat : ∀ {s : List UInt8}, NoSpT s → (s.flatMap qb).filter keepB = s.flatMap qb
 | [], _ => rfl
 | c :: r, h => by
  rw [List.flatMap_cons, List.filter_append, keep_qb (h c List.mem_cons_self), keep_flat fun x hx => h x (List.mem_cons_of_mem _ hx)]
theorem keep_quote {s : List UInt8} (h : NoSpT s) : (quoteV s).filter keepB = quoteV s := by
 unfold quoteV
 rw [List.filter_cons, if_pos (by decide), List.filter_append, keep_flat h]; rfl
theorem keep_num (x : Int) : (numB x).filter keepB = numB x := by
 refine List.filter_eq_self.2 fun c hc => ?_
 have hd : ∀ n, ∀ c ∈ Go.Num.digs n, keepB c = true := fun n c hc => by
  have := (Go.Num.dig_iff c).1 (Go.Num.digs_dig n c hc)
  unfold keepB
  rw [decide_eq_false (by omega), decide_eq_false (by omega)]; rfl
 unfold numB at hc
 cases hf : Go.Num.fitsB x with
 | false => rw [Go.Num.text_no hf] at hc; cases hc
 | true =>
  by_cases h0 : x < 0
  ·rw [Go.Num.text_neg hf h0] at hc
   rcases List.mem_cons.1 hc with rfl | hc
   ·decide
   ·exact hd _ c hc
  ·rw [Go.Num.text_pos hf h0] at hc
   exact hd _ c hc
theorem keep_line (br : Bool) (d : Nat) : (lineV br d).filter keepB = [] := by
 unfold lineV
 cases br with
 | false => rfl
 | true =>
  rw [if_pos rfl, List.filter_cons, if_neg (by decide), List.filter_eq_nil_iff]
  intro c hc
  rw [List.eq_of_mem_replicate hc]; decide
theorem keep_lead (br : Bool) (d : Nat) (o first : Bool) {k : List UInt8} (hk : NoSpT k) : (leadV br d o first k).filter keepB = leadV false d o first k := by
 unfold leadV
 rw [List.filter_append, List.filter_append, keep_line]
 have e1 : (if first = true then ([] : List UInt8) else [44]).filter keepB = if first = true then [] else [44] := by cases first <;> rfl
 have e2 : (headV br o k).filter keepB = headV false o k := by
  unfold headV
  cases o with
  | false => rfl
  | true =>
   rw [if_pos rfl, if_pos rfl, List.filter_append, keep_quote hk]
   congr 1
   cases br <;> rfl
 rw [e1, e2]; rfl
theorem keep_text (br : Bool) : ∀ (m d : Nat) (v : TA0), SizeOf.sizeOf v < m → NoSp v → (textV br d v).filter keepB = textV false d v
 | 0, _, _, h, _ => absurd h (Nat.not_lt_zero _)
 | m + 1, d, v, hm, h => by
  have parts : ∀ (l : List TA0) (o first : Bool) (ks : List (List UInt8)), (∀ x ∈ l, SizeOf.sizeOf x < m ∧ NoSp x) → (∀ k ∈ ks, NoSpT k) → (partsV br (d + 1) o first ks l).filter keepB = partsV false (d + 1) o first ks l := by
   intro l
   induction l with
   | nil => intro o first ks _ _; rw [partsV_nil, partsV_nil]; rfl
   | cons x r ih =>
    intro o first ks hx hk
    have hk0 : NoSpT (ks.headD []) := by
     cases ks with
     | nil => intro c hc; cases hc
     | cons k r => exact hk k List.mem_cons_self
    rw [partsV_cons, partsV_cons, List.filter_append, List.filter_append, keep_lead br (d + 1) o first hk0, keep_text br m (d + 1) x (hx x List.mem_cons_self).1 (hx x List.mem_cons_self).2,
     ih o false ks.tail (fun y hy => hx y (List.mem_cons_of_mem _ hy)) (fun k hk' => hk k (List.mem_of_mem_tail hk'))]
  have hp : ∀ x ∈ v.fList, SizeOf.sizeOf x < m ∧ NoSp x := fun x hx => ⟨by have := part_small hx; omega, h.part hx⟩
  have e2 : (if v.fList.length = 0 then ([] : List UInt8) else lineV br d).filter keepB = if v.fList.length = 0 then [] else lineV false d := by
   split
   ·rfl
   ·rw [keep_line]; rfl
  rw [textV_eq, textV_eq]
  split
  ·split <;> rfl
  ·split
   ·exact keep_num _
   ·split
    ·exact keep_quote h.self.1
    ·split
     ·rw [List.filter_cons, if_pos (by decide), List.filter_append, List.filter_append, parts v.fList false true v.fKeys hp h.self.2, e2]; rfl
     ·split
      ·rw [List.filter_cons, if_pos (by decide), List.filter_append, List.filter_append, parts v.fList true true v.fKeys hp h.self.2, e2]; rfl
      ·rfl
theorem Walk_run {n : Nat} (hn : 6000 < n) {v : TA0} (h : Fine v) (hw : (walkV v).length ≤ 5000) : ref03_Walk n v = some (walkV v) := walk_k_ok (by omega) n 60 v (by omega) h.small hw
theorem wakes5b : law05_wakes 50000 = some true := by decide +kernel
theorem filter_loop {n : Nat} (b : List UInt8 × Int) (hb : b.1.length ≤ 40000) (hn : 40001 < n) : loopF (law05_PrintLines_s4 n b) n (([] : List UInt8), (0 : Int)) = some (b.1.filter keepB) := by
 have key := loop_all (n := n) (step := law05_PrintLines_s4 n b) (fun k : Nat => ((b.1.take k).filter keepB, (k : Int))) b.1.length (b.1.filter keepB) (fun k hk => ?_) ?_ (by omega)
 ·simpa using key
 ·have hi : inR .i64 ((k : Int) + 1) := inR_small (by omega) (by omega)
  have hfl : ((b.1.take k).filter keepB).length ≤ k := Nat.le_trans (List.length_filter_le _ _) (by rw [List.length_take]; omega)
  have e1 : (b.1.take (k + 1)).filter keepB = (b.1.take k).filter keepB ++ (if keepB (b.1.getD k 0) = true then [b.1.getD k 0] else []) := by
   rw [List.take_add_one, List.filter_append]
   congr 1
   have : b.1[k]?.toList = [b.1.getD k 0] := by simp [List.getD, hk]
   rw [this, List.filter_cons]
   split <;> rfl
  show law05_PrintLines_s4 n b ((b.1.take k).filter keepB, (k : Int)) = some (.nx ((b.1.take (k + 1)).filter keepB, ((k + 1 : Nat) : Int)))
  rw [e1]
  unfold law05_PrintLines_s4
  simp only [decide_eq_true (by omega : (k : Int) < (b.1.length : Int)), cT, getI_at 0 hk, bnd]
  have e2 : (bif (!(decide (((b.1.getD k 0).toNat : Int) = 32))) then some (!(decide (((b.1.getD k 0).toNat : Int) = 10))) else some false) = some (keepB (b.1.getD k 0)) := by
   unfold keepB
   cases decide (((b.1.getD k 0).toNat : Int) = 32) <;> simp
  rw [e2, bnd]
  cases hq : keepB (b.1.getD k 0) with
  | true => rw [cT, need_t (by omega), need_t hi, if_pos rfl]; simp
  | false => rw [cF, need_t hi, if_neg (by simp)]; simp
 ·show law05_PrintLines_s4 n b (_, (b.1.length : Int)) = _
  unfold law05_PrintLines_s4
  simp
theorem sp_text {s : List UInt8} (hs : s.length ≤ 5000) : ∃ r, loopF (law05_PrintLines_s3 50000 s) 50000 (0 : Int) = some r ∧ (r = .inl true ∨ (r = .inr () ∧ NoSpT s)) := by
 refine loop_inv (n := 50000) (step := law05_PrintLines_s3 50000 s) (fun (k : Nat) (q : Int) => q = (k : Int) ∧ ∀ j, j < k → ((s.getD j 0).toNat : Int) ≠ 32) (fun (r : Sum Bool Unit) => r = .inl true ∨ (r = .inr () ∧ NoSpT s)) s.length ⟨rfl, fun j hj => absurd hj (Nat.not_lt_zero j)⟩ (fun k q hk ⟨i1, i2⟩ => ?_) (fun q ⟨i1, i2⟩ => ⟨.inr (), by unfold law05_PrintLines_s3; simp [i1], .inr ⟨rfl, fun c hc => ?_⟩⟩) (by omega)
 ·subst i1
  have hi : inR .i64 ((k : Int) + 1) := inR_small (by omega) (by omega)
  unfold law05_PrintLines_s3
  simp only [decide_eq_true (by omega : (k : Int) < (s.length : Int)), cT, getI_at 0 hk, bnd, wakes5b]
  by_cases h : ((s.getD k 0).toNat : Int) = 32
  ·right
   rw [decide_eq_true h, cT]
   exact ⟨_, rfl, .inl rfl⟩
  ·left
   rw [decide_eq_false h, cF, need_t hi]
   refine ⟨_, rfl, by simp, fun j hj => ?_⟩
   rcases Nat.lt_succ_iff_lt_or_eq.1 hj with h1 | rfl
   ·exact i2 j h1
   ·exact h
 ·obtain ⟨j, hj, rfl⟩ := List.mem_iff_getElem.1 hc
  have := i2 j hj
  simpa [List.getD, hj] using this
theorem sp_texts {x : TA0} (hx : Wide x) : ∃ r, loopF (law05_PrintLines_s2 50000 x) 50000 (0 : Int) = some r ∧ (r = .inl true ∨ (r = .inr () ∧ NoSpV x)) := by
 have hl : ([x.fText] ++ x.fKeys).length = x.fKeys.length + 1 := by simp
 have hall : ∀ s ∈ [x.fText] ++ x.fKeys, s.length ≤ 5000 := fun s hs => by
  rcases List.mem_append.1 hs with h | h
  ·rw [List.mem_singleton.1 h]; exact hx.2.2.1
  ·exact hx.2.2.2 s h
 generalize hL : [x.fText] ++ x.fKeys = L at *
 have hkk := hx.2.1
 obtain ⟨r, g1, g2⟩ := loop_inv (n := 50000) (step := law05_PrintLines_s2 50000 x) (s0 := (0 : Int)) (fun (k : Nat) (q : Int) => q = (k : Int) ∧ ∀ j, j < k → NoSpT (L.getD j [])) (fun (r : Sum Bool Unit) => r = .inl true ∨ (r = .inr () ∧ ∀ s ∈ L, NoSpT s)) L.length ⟨rfl, fun j hj => absurd hj (Nat.not_lt_zero j)⟩
  (fun k q hk ⟨i1, i2⟩ => by
   subst i1
   have hi : inR .i64 ((k : Int) + 1) := inR_small (by omega) (by omega)
   have hm : L.getD k [] ∈ L := by simp [List.getD, hk]
   obtain ⟨r, h1, h2⟩ := sp_text (hall _ hm)
   unfold law05_PrintLines_s2
   simp only [hL, decide_eq_true (by omega : (k : Int) < ((L.length : Nat) : Int)), cT, getI_at [] hk, bnd, h1]
   rcases h2 with rfl | ⟨rfl, h2⟩
   ·right; exact ⟨_, rfl, .inl rfl⟩
   ·left
    refine ⟨_, need_t hi, by simp, fun j hj => ?_⟩
    rcases Nat.lt_succ_iff_lt_or_eq.1 hj with h3 | rfl
    ·exact i2 j h3
    ·exact h2)
  (fun q ⟨i1, i2⟩ => ⟨.inr (), by unfold law05_PrintLines_s2; simp [i1, hL], .inr ⟨rfl, fun s hs => by
   obtain ⟨j, hj, rfl⟩ := List.mem_iff_getElem.1 hs
   have := i2 j hj
   simpa [List.getD, hj] using this⟩⟩) (by omega)
 refine ⟨r, g1, ?_⟩
 rcases g2 with h | ⟨h, h2⟩
 ·exact .inl h
 ·refine .inr ⟨h, h2 _ (by rw [← hL]; simp), fun k hk => h2 k (by rw [← hL]; simp [hk])⟩
theorem sp_all {l : List TA0} (hl : l.length ≤ 5000) (hw : ∀ x ∈ l, Wide x) : ∃ r, loopF (law05_PrintLines_s1 50000 l) 50000 (0 : Int) = some r ∧ (r = .inl true ∨ (r = .inr () ∧ ∀ x ∈ l, NoSpV x)) := by
 refine loop_inv (n := 50000) (step := law05_PrintLines_s1 50000 l) (fun (k : Nat) (q : Int) => q = (k : Int) ∧ ∀ x ∈ l.take k, NoSpV x) (fun (r : Sum Bool Unit) => r = .inl true ∨ (r = .inr () ∧ ∀ x ∈ l, NoSpV x)) l.length ⟨rfl, by simp⟩ (fun k q hk ⟨i1, i2⟩ => ?_) (fun q ⟨i1, i2⟩ => ⟨.inr (), by unfold law05_PrintLines_s1; simp [i1], .inr ⟨rfl, by simpa using i2⟩⟩) (by omega)
 subst i1
 have hi : inR .i64 ((k : Int) + 1) := inR_small (by omega) (by omega)
 have hm : l[k] ∈ l := List.getElem_mem hk
 have hg : getI l (k : Int) = some l[k] := by
  unfold getI
  rw [if_pos (by omega)]
  simp
 have hwx := hw _ hm
 have hwk := hwx.2.1
 obtain ⟨r, h1, h2⟩ := sp_texts hwx
 have l1 : ([l[k].fText] : List (List UInt8)).length = 1 := rfl
 unfold law05_PrintLines_s1
 simp only [decide_eq_true (by omega : (k : Int) < ((l.length : Nat) : Int)), cT, hg, bnd, need_t (by omega : (([l[k].fText] : List (List UInt8)).length + l[k].fKeys.length) * 16 ≤ 140737488355328), h1]
 rcases h2 with rfl | ⟨rfl, h2⟩
 ·right; exact ⟨_, rfl, .inl rfl⟩
 ·left
  refine ⟨_, need_t hi, by simp, fun x hx => ?_⟩
  rw [List.take_add_one, List.getElem?_eq_getElem hk] at hx
  rcases List.mem_append.1 hx with h | h
  ·exact i2 x h
  ·have : x = l[k] := by simpa using h
   rw [this]; exact h2
theorem lines_law5 (v : TA0) : law05_PrintLines 50000 v = some true := by
 have hn : 6000 < 50000 := by decide
 obtain ⟨g, h1, h2⟩ := great_fine hn v
 unfold law05_PrintLines
 rw [h1, bnd]
 cases g with
 | true => simp only [cT, bnd, wakes5b]
 | false =>
  obtain ⟨hf, -, hwl⟩ := h2 rfl
  obtain ⟨r, g1, g2⟩ := sp_all hwl (fun x hx => (small_walk hf.small hx).wide)
  simp only [cF, Walk_run hn hf hwl, bnd, g1]
  rcases g2 with rfl | ⟨rfl, hsp⟩
  ·rfl
  ·simp only [Print_run hn hf, Broad_run hn hf, bnd]
   by_cases a0 : (printV false v).2 = 0
   ·obtain ⟨c1, e1, e2⟩ := printV_ok a0
    rw [decide_eq_true a0]
    simp only [Bool.not_true, cF, bnd]
    by_cases b0 : (printV true v).2 = 0
    ·obtain ⟨-, f1, f2⟩ := printV_ok b0
     rw [decide_eq_true b0]
     simp only [Bool.not_true, cF]
     rw [filter_loop _ (by rw [f1]; omega) (by decide), bnd]
     have hok := (checkV_ok c1).1
     have : (printV true v).1.filter keepB = (printV false v).1 := by
      rw [f1, e1]
      exact keep_text true _ 0 (sortV v) (Nat.lt_succ_self _) (NoSp.sort hok hsp)
     rw [decide_eq_true this, cT, wakes5b, bnd]
    ·rw [decide_eq_false b0, decide_eq_true (printV_long c1 b0)]
     simp only [Bool.not_false, cT, wakes5b, bnd]
   ·rw [decide_eq_false a0]
    simp only [Bool.not_false, cT, wakes5b, bnd]
end Go.Proofs.YtfaedhhjamaniaaDoor
end

section
namespace Go.Vc
open Go
mutual
def dsz : Dat → Nat
  | .int _ _ => 1
  | .bool _ => 1
  | .str l => l.length + 1
  | .list _ ds => dszs ds + 1
  | .struct ds => dszs ds + 1
def dszs : List Dat → Nat
  | [] => 0
  | d :: ds => dsz d + dszs ds
end
theorem dszs_app : ∀ (a b : List Dat), dszs (a ++ b) = dszs a + dszs b
 | [], b => by simp [dszs]
 | d :: a, b => by simp only [List.cons_append, dszs, dszs_app a b]; omega
theorem le_sum : ∀ {l : List Nat} {x : Nat}, x ∈ l → x ≤ l.sum
 | y :: l, x, h => by
  rcases List.mem_cons.1 h with rfl | h
  ·simp
  ·have := le_sum h; simp only [List.sum_cons]; omega
section
variable {H : Type}
structure BulkOk (B : DataW H → Nat) : Prop where
  one : ∀ d, 1 ≤ B d
  str : ∀ l, B (.lit (.string l)) = l.length + 1
  slice : ∀ e s, (e.map B).sum + 1 ≤ B (.slice e s)
  agg : ∀ e, (e.map B).sum + 1 ≤ B (.agg e)
variable {enc : TypeId × Value → H} {P : Program} {w : World} {t : TypeId} {α : Type} {f : α → Dat} {m : Nat} {B : DataW H → Nat}
def OpnAt (enc : TypeId × Value → H) (P : Program) (w : World) (t : TypeId) {α : Type} (f : α → Dat) (B : DataW H → Nat) (m : Nat) : Prop :=
  ∀ cs x, DataW.trod enc P w 0 (fun _ => true) true m t cs = some x → ∃ a, Rep (Mem.of w) (f a) cs ∧ Vld (f a) ∧ dsz (f a) ≤ B x.1
theorem OpnAt.zero : OpnAt enc P w t f B 0 := fun cs x h => by simp [DataW.trod] at h
theorem opa_int {k : IntKind} (hB : BulkOk B) (ht : P.underlying t = some (.int k)) : OpnAt enc P w t (Dat.int k) B m := fun cs x h => by
 obtain ⟨a, rfl, _, hw⟩ := DataW.trod_int ht h
 exact ⟨a, rfl, hw, hB.one _⟩
theorem opa_bool (hB : BulkOk B) (ht : P.underlying t = some .bool) : OpnAt enc P w t Dat.bool B m := fun cs x h => by
 obtain ⟨a, rfl, _⟩ := DataW.trod_bool ht h
 exact ⟨a, rfl, trivial, hB.one _⟩
theorem opa_str (hB : BulkOk B) (ht : P.underlying t = some .string) : OpnAt enc P w t Dat.str B m := fun cs x h => by
 obtain ⟨s, rfl, hx, hw⟩ := DataW.trod_string ht h
 refine ⟨s.data.toList, (by show [Value.string s] = _; rw [S_eta]), by show s.data.toList.length ≤ maxLen; simpa using hw, ?_⟩
 rw [hx]
 show s.data.toList.length + 1 ≤ B (.lit (.string s.data.toList))
 rw [hB.str]
 exact Nat.le_refl _
theorem opa_slice {e : TypeId} {sz : Nat} (hB : BulkOk B) (ht : P.underlying t = some (.slice e)) (hsz : P.cellsOf e = sz) (h : OpnAt enc P w e f B m) : OpnAt enc P w t (eL sz f) B (m + 1) := fun cs x hx => by
 rcases DataW.trod_slice ht hx with ⟨rfl, hx⟩ | ⟨ad, len, cap, elems, rest, n', hn', rfl, hxe, _, hlc, hcm, hel, hat, _⟩
 ·refine ⟨[], Sli.rep (Sli.nil (sz := sz) (f := f)), by simp [Vld, eL, VldAll], ?_⟩
  have := hB.one x.1
  simpa [eL, dsz, dszs] using this
 ·obtain rfl : n' = m := by omega
  have key : ∀ k, k ≤ len → ∃ xs : List α, xs.length = k ∧ RepArr (Mem.of w) sz (xs.map f) ad ∧ (∀ x ∈ xs, Vld (f x)) ∧ dszs (xs.map f) ≤ ((elems.take k).map fun x => B x.1).sum := by
   intro k
   induction k with
   | zero => intro _; exact ⟨[], rfl, trivial, fun x hx => (by cases hx), by simp [dszs]⟩
   | succ k ih =>
    intro hk
    obtain ⟨xs, h1, h2, h3, h3b⟩ := ih (by omega)
    have hk' : k < elems.length := by omega
    have := hat k (by omega)
    rw [List.getElem?_eq_getElem hk'] at this
    obtain ⟨cs', g1, g2⟩ := Option.bind_eq_some_iff.1 this
    obtain ⟨a, g3, g4, g4b⟩ := h cs' _ g2
    obtain ⟨g5, g6⟩ := cells_of g1
    rw [hsz] at g5 g6
    refine ⟨xs ++ [a], by simp [h1], ?_, fun x hx => ?_, ?_⟩
    ·rw [List.map_append]
     have app : ∀ (ds : List Dat) (ad : Addr), RepArr (Mem.of w) sz ds ad → RepArr (Mem.of w) sz [f a] (ad.add (ds.length * sz)) → RepArr (Mem.of w) sz (ds ++ [f a]) ad := by
      intro ds
      induction ds with
      | nil => intro ad _ hh; simpa [Addr.add] using hh
      | cons d ds ih =>
       intro ad h1 h2
       refine ⟨h1.1, ih _ h1.2 ?_⟩
       rw [add_of_add]
       rw [List.length_cons, show (ds.length + 1) * sz = sz + ds.length * sz by rw [Nat.add_mul]; omega] at h2
       exact h2
     refine app _ _ h2 ⟨⟨cs', g5, g3, ?_⟩, trivial⟩
     rw [List.length_map, h1]
     exact g6
    ·rcases List.mem_append.1 hx with hx | hx
     ·exact h3 x hx
     ·simp at hx; subst hx; exact g4
    ·rw [List.map_append, dszs_app, List.take_add_one, List.getElem?_eq_getElem hk', List.map_append, List.sum_append]
     simp only [List.map_cons, List.map_nil, dszs, Option.toList_some, List.sum_cons, List.sum_nil]
     omega
  obtain ⟨xs, h1, h2, h3, h3b⟩ := key len (Nat.le_refl _)
  subst h1
  refine ⟨xs, Sli.rep ⟨hlc, fun e => (by cases e), .inr ⟨ad, rfl, h2⟩⟩, ?_, ?_⟩
  ·refine ⟨by rw [List.length_map]; omega, VldAll.mk fun d hd => ?_⟩
   obtain ⟨x, hx, rfl⟩ := List.mem_map.1 hd
   exact h3 x hx
  ·rw [hxe]
   show dszs (xs.map f) + 1 ≤ _
   have := hB.slice (elems.map (·.1)) (rest.map (·.1))
   rw [← hel, List.take_length] at h3b
   rw [List.map_map] at this
   have e : (elems.map (B ∘ fun x => x.1)) = elems.map fun x => B x.1 := rfl
   rw [e] at this
   show _ ≤ B (.slice (elems.map (·.1)) (rest.map (·.1)))
   omega
theorem opa_slice0 {e : TypeId} {sz : Nat} (hB : BulkOk B) (ht : P.underlying t = some (.slice e)) (hsz : P.cellsOf e = sz) (h : ∀ k, k < m → OpnAt enc P w e f B k) : OpnAt enc P w t (eL sz f) B m := by
 cases m with
 | zero => exact OpnAt.zero
 | succ m => exact opa_slice hB ht hsz (h m (Nat.lt_succ_self m))
theorem OpnAt.arg (h : ∀ n, OpnAt enc P w t f B n) {v : Value} {d : DataW H} {ps : List MemPlace} (ht : DataW.Trod enc P w 0 (fun _ => true) true t v d ps) : ∃ a, Rep (Mem.of w) (f a) v.cells.toList ∧ Vld (f a) ∧ dsz (f a) ≤ B d := by
 obtain ⟨fuel, hf⟩ := ht
 exact h fuel _ _ hf
theorem OpnAt.struct_arg (h : ∀ n, OpnAt enc P w t f B n) {v : Value} {d : DataW H} {ps : List MemPlace} (hv : ∃ cs : Array Value, v = .agg cs) (ht : DataW.Trod enc P w 0 (fun _ => true) true t v d ps) :
  ∃ (c : List Value) (a : α), v = .agg c.toArray ∧ Rep (Mem.of w) (f a) c ∧ Vld (f a) ∧ dsz (f a) ≤ B d := by
 obtain ⟨cs, rfl⟩ := hv
 obtain ⟨a, h1, h2⟩ := OpnAt.arg h ht
 exact ⟨cs.toList, a, by simp, h1, h2⟩
end
end Go.Vc
end

section
namespace Go.Proofs.YtfaedhhjamaniaaDoor
open Go Go.Vc Go.RowKit
theorem opa_TA0 {H : Type} {enc : TypeId × Value → H} {w : World} {B : DataW H → Nat} (hB : BulkOk B) : ∀ m, OpnAt enc Tryd.prog w 26 emb_TA0 B m := by
 intro m
 induction m using Nat.strongRecOn with
 | ind m ih =>
 intro cs x h
 obtain ⟨xs, n, rfl, rfl, hlen, hxl, hf⟩ := DataW.trod_struct Tryd.underlying26 h
 have hct : Tryd.prog.cellsOf 26 = 6 := by kernel_rfl
 rw [hct] at hlen
 obtain ⟨x0, x1, x2, x3, x4, x5, rfl⟩ : ∃ x0 x1 x2 x3 x4 x5, xs = [x0, x1, x2, x3, x4, x5] := by
  match xs, hxl with
  | [x0, x1, x2, x3, x4, x5], _ => exact ⟨x0, x1, x2, x3, x4, x5, rfl⟩
 have f0 : DataW.trod enc Tryd.prog w 0 (fun _ => true) true n 23 ((cs.drop 0).take (Tryd.prog.cellsOf 23)) = some x0 := hf 0 _ rfl
 rw [show Tryd.prog.cellsOf 23 = 1 by kernel_rfl] at f0
 obtain ⟨a0, r0, v0, b0⟩ := (fun _ => opa_int hB Tryd.underlying23) n _ _ f0
 have f1 : DataW.trod enc Tryd.prog w 0 (fun _ => true) true n 4 ((cs.drop 1).take (Tryd.prog.cellsOf 4)) = some x1 := hf 1 _ rfl
 rw [show Tryd.prog.cellsOf 4 = 1 by kernel_rfl] at f1
 obtain ⟨a1, r1, v1, b1⟩ := (fun _ => opa_bool hB Tryd.underlying4) n _ _ f1
 have f2 : DataW.trod enc Tryd.prog w 0 (fun _ => true) true n 3 ((cs.drop 2).take (Tryd.prog.cellsOf 3)) = some x2 := hf 2 _ rfl
 rw [show Tryd.prog.cellsOf 3 = 1 by kernel_rfl] at f2
 obtain ⟨a2, r2, v2, b2⟩ := (fun _ => opa_int hB Tryd.underlying3) n _ _ f2
 have f3 : DataW.trod enc Tryd.prog w 0 (fun _ => true) true n 9 ((cs.drop 3).take (Tryd.prog.cellsOf 9)) = some x3 := hf 3 _ rfl
 rw [show Tryd.prog.cellsOf 9 = 1 by kernel_rfl] at f3
 obtain ⟨a3, r3, v3, b3⟩ := (fun _ => opa_str hB Tryd.underlying9) n _ _ f3
 have f4 : DataW.trod enc Tryd.prog w 0 (fun _ => true) true n 22 ((cs.drop 4).take (Tryd.prog.cellsOf 22)) = some x4 := hf 4 _ rfl
 rw [show Tryd.prog.cellsOf 22 = 1 by kernel_rfl] at f4
 obtain ⟨a4, r4, v4, b4⟩ := (opa_slice0 (m := n) (e := 26) (sz := 6) hB Tryd.underlying22 (by kernel_rfl) (fun k hk => ih k (by omega))) _ _ f4
 have f5 : DataW.trod enc Tryd.prog w 0 (fun _ => true) true n 24 ((cs.drop 5).take (Tryd.prog.cellsOf 24)) = some x5 := hf 5 _ rfl
 rw [show Tryd.prog.cellsOf 24 = 1 by kernel_rfl] at f5
 obtain ⟨a5, r5, v5, b5⟩ := (opa_slice0 (m := n) (e := 9) (sz := 1) hB Tryd.underlying24 (by kernel_rfl) (fun k _ => (fun _ => opa_str hB Tryd.underlying9) k)) _ _ f5
 refine ⟨⟨a0, a1, a2, a3, a4, a5⟩, ?_, ?_, ?_⟩
 ·rw [emb_TA0_eq]
  have hcs : RepSeq (Mem.of w) _ (cs.drop 0) := (RepSeq.cut (k := 1) r0 (by rw [List.drop_drop]; exact (RepSeq.cut (k := 1) r1 (by rw [List.drop_drop]; exact (RepSeq.cut (k := 1) r2 (by rw [List.drop_drop]; exact (RepSeq.cut (k := 1) r3 (by rw [List.drop_drop]; exact (RepSeq.cut (k := 1) r4 (by rw [List.drop_drop]; exact (RepSeq.cut (k := 1) r5 (by rw [List.drop_drop]; exact (show RepSeq (Mem.of w) [] (cs.drop 6) from List.drop_eq_nil_of_le (by omega))))))))))))))
  exact hcs
 ·rw [emb_TA0_eq]; exact ⟨v0, ⟨v1, ⟨v2, ⟨v3, ⟨v4, ⟨v5, trivial⟩⟩⟩⟩⟩⟩
 ·rw [emb_TA0_eq]
  have := hB.agg ([x0, x1, x2, x3, x4, x5].map (·.1))
  simp only [List.map_cons, List.map_nil, List.sum_cons, List.sum_nil] at this ⊢
  simp only [dsz, dszs] at *
  omega
theorem bulk_all {H : Type} (l : List (DataW H)) : Rows.uptoBulkAll l = (l.map Rows.uptoBulk).sum := by
 induction l with
 | nil => simp [Rows.uptoBulkAll]
 | cons x l ih => simp only [Rows.uptoBulkAll, List.map_cons, List.sum_cons, ih]
theorem bulk_ok {H : Type} : BulkOk (H := H) Rows.uptoBulk where
 one d := by
  cases d with
  | lit l => cases l <;> simp [Rows.uptoBulk]
  | nil => simp [Rows.uptoBulk]
  | ptr d => simp [Rows.uptoBulk]
  | slice elems spare => simp [Rows.uptoBulk]
  | agg parts => simp [Rows.uptoBulk]
  | iface t d => simp [Rows.uptoBulk]
  | map entries => simp [Rows.uptoBulk]
  | held h => simp [Rows.uptoBulk]
 str l := by simp [Rows.uptoBulk]
 slice e s := by
  simp only [Rows.uptoBulk]
  rw [bulk_all e]
  omega
 agg e := by
  simp only [Rows.uptoBulk]
  rw [bulk_all e]
  exact Nat.le_refl _
theorem bulk_one {H : Type} {d : DataW H} {l : List (DataW H)} (h : Rows.uptoSmall H l = true) (hd : d ∈ l) : Rows.uptoBulk d ≤ 1048576 := by
 unfold Rows.uptoSmall at h
 have h := of_decide_eq_true h
 rw [bulk_all] at h
 have := le_sum (List.mem_map_of_mem (f := Rows.uptoBulk) hd)
 omega
end Go.Proofs.YtfaedhhjamaniaaDoor
end
