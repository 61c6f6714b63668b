/-
  Texts of this claim, packed (what nothing names is left out): CloudLBooks, Vo2, Op. Own work, partly printed by own programs. No condition.
-/
import Derived.Test.YtocefedhenhbfaaDoorPkK5
import Derived.Test.YtocefedhenhbfaaDoorPkK1
import Derived.Test.YtocefedhenhbfaaDoorPkK2
import Derived.Test.YtocefedhenhbfaaDoorRows
set_option linter.unusedVariables false
set_option linter.unusedSimpArgs false
set_option maxHeartbeats 2000000
section
namespace Go.Proofs.YtocefedhenhbfaaDoor
open Go Go.Vc Go.RowKit
theorem books_loop {l : List TA0} (hl : l.length ≤ 100) (hp : ∀ x ∈ l, GoodP x.fX.fProps) :
  loopF (law11_CloudBooks_s1 10000 l) 10000 ((0 : Int), ([] : List TF0), (0 : Int), ([] : List TH0), ([] : List TH0), (0 : Int), ([] : List (Int × TC0))) = some ((actsC new11 l).L, (actsC new11 l).made, (actsC new11 l).calls, (actsC new11 l).inn, (actsC new11 l).good, (actsC new11 l).ans) := by
 have h := loop_all (step := law11_CloudBooks_s1 10000 l) (n := 10000) (fun k => ((k : Int), (actsC new11 (l.take k)).L, (actsC new11 (l.take k)).made, (actsC new11 (l.take k)).calls, (actsC new11 (l.take k)).inn, (actsC new11 (l.take k)).good, (actsC new11 (l.take k)).ans)) l.length ((actsC new11 l).L, (actsC new11 l).made, (actsC new11 l).calls, (actsC new11 l).inn, (actsC new11 l).good, (actsC new11 l).ans) (fun k hk => by
  have ok := OkC.acts hl hp k (by omega)
  have hg : l.getD k z_TA0 = l[k] := by simp [List.getD, hk]
  have hpk := hp _ (List.getElem_mem hk)
  have g1 := ok.g1
  have f1 := ok.calls
  have f2 := ok.inn
  rw [actsC_take hk]
  generalize actsC new11 (l.take k) = c at ok g1 f1 f2
  unfold law11_CloudBooks_s1
  dsimp only
  rw [decide_eq_true (by omega), cT, getI_at z_TA0 hk, bnd, hg, evC]
  generalize l[k] = x at hpk
  unfold actC
  by_cases d0 : x.fDo = 0
  ·rw [decide_eq_true d0, cT, submit_run (by omega) hpk (by omega) (by omega), bnd, need_i (by omega) (by omega), if_pos d0]
   rfl
  ·rw [decide_eq_false d0, cF, if_neg d0]
   have e : (bif decide (x.fDo = 1) then some (decide (x.fDo = 1)) else some (decide (x.fDo = 2)) : Option Bool) = some (decide (x.fDo = 1 ∨ x.fDo = 2)) := by
    by_cases h1 : x.fDo = 1
    ·rw [decide_eq_true h1, cT, decide_eq_true (.inl h1)]
    ·rw [decide_eq_false h1, cF]
     congr 1
     exact decide_eq_decide.2 ⟨.inr, fun h => h.resolve_left h1⟩
   rw [e, bnd]
   by_cases d1 : x.fDo = 1 ∨ x.fDo = 2
   ·rw [decide_eq_true d1, cT, end_run (by omega) _ _ ok.props ok.good (by omega) ok.g0 (by omega), bnd, need_i (by omega) (by omega), if_pos d1]
    rfl
   ·rw [decide_eq_false d1, cF, need_i (by omega) (by omega), if_neg d1]
    rfl) (by
  unfold law11_CloudBooks_s1
  dsimp only
  rw [decide_eq_false (by omega), cF, List.take_length]) (by omega)
 exact h
def ansAt (ans : List (Int × TC0)) (t : Int) : TC0 := (mget ans t).getD z_TC0
def sumB (g : TH0 → TC0 → Int) (calls : List TH0) (ans : List (Int × TC0)) : Int := (calls.map fun x => g x (ansAt ans x.fToken)).sum
def conB (p : List UInt8) (x : TH0) (a : TC0) : Int := (if a.fOk = true ∧ x.fKind = 0 ∧ a.fPhys = p then 1 else 0) - (if a.fOk = true ∧ x.fKind = 2 ∧ x.fPhys = p then 1 else 0)
def cntB (x : TH0) (a : TC0) : Int := if a.fOk = true ∧ x.fKind = 0 then 1 else 0
theorem conB_no {p : List UInt8} {x : TH0} {a : TC0} (h : a.fOk = false) : conB p x a = 0 := by
 unfold conB
 rw [if_neg (fun e => by rw [h] at e; exact absurd e.1 (by decide)), if_neg (fun e => by rw [h] at e; exact absurd e.1 (by decide))]; rfl
theorem cntB_no {x : TH0} {a : TC0} (h : a.fOk = false) : cntB x a = 0 := by
 unfold cntB
 rw [if_neg (fun e => by rw [h] at e; exact absurd e.1 (by decide))]
theorem conB_new {p : List UInt8} {x : TH0} {a : TC0} (h : a.fOk = true) (hk : x.fKind = 0) : conB p x a = if a.fPhys = p then 1 else 0 := by
 unfold conB
 rw [if_neg (c := a.fOk = true ∧ x.fKind = 2 ∧ x.fPhys = p) (fun e => by omega)]
 by_cases e : a.fPhys = p
 ·rw [if_pos ⟨h, hk, e⟩, if_pos e]; rfl
 ·rw [if_neg (fun e2 => e e2.2.2), if_neg e]; rfl
theorem conB_del {p : List UInt8} {x : TH0} {a : TC0} (h : a.fOk = true) (hk : x.fKind = 2) : conB p x a = if x.fPhys = p then -1 else 0 := by
 unfold conB
 rw [if_neg (c := a.fOk = true ∧ x.fKind = 0 ∧ a.fPhys = p) (fun e => by omega)]
 by_cases e : x.fPhys = p
 ·rw [if_pos ⟨h, hk, e⟩, if_pos e]; rfl
 ·rw [if_neg (fun e2 => e e2.2.2), if_neg e]; rfl
theorem conB_else {p : List UInt8} {x : TH0} {a : TC0} (h0 : x.fKind ≠ 0) (h2 : x.fKind ≠ 2) : conB p x a = 0 := by
 unfold conB
 rw [if_neg (fun e => h0 e.2.1), if_neg (fun e => h2 e.2.1)]; rfl
theorem cntB_new {x : TH0} {a : TC0} (h : a.fOk = true) (hk : x.fKind = 0) : cntB x a = 1 := by
 unfold cntB; rw [if_pos ⟨h, hk⟩]
theorem cntB_else {x : TH0} {a : TC0} (h0 : x.fKind ≠ 0) : cntB x a = 0 := by
 unfold cntB; rw [if_neg (fun e => h0 e.2)]
theorem conB_bd (p : List UInt8) (x : TH0) (a : TC0) : -1 ≤ conB p x a ∧ conB p x a ≤ 1 := by
 unfold conB
 split <;> split <;> omega
theorem cntB_bd (x : TH0) (a : TC0) : -1 ≤ cntB x a ∧ cntB x a ≤ 1 := by
 unfold cntB
 split <;> omega
theorem ansAt_put {ans : List (Int × TC0)} {t u : Int} {a : TC0} : ansAt (mput ans t a) u = if t = u then a else ansAt ans u := by
 unfold ansAt
 rw [mget_mput]
 by_cases h : t = u
 ·rw [if_pos h, if_pos h]; rfl
 ·rw [if_neg h, if_neg h]
theorem sumB_cons {g : TH0 → TC0 → Int} {x : TH0} {l : List TH0} {ans : List (Int × TC0)} : sumB g (x :: l) ans = g x (ansAt ans x.fToken) + sumB g l ans := by
 unfold sumB; rw [List.map_cons, List.sum_cons]
theorem sumB_snoc {g : TH0 → TC0 → Int} {x : TH0} {ans : List (Int × TC0)} : ∀ {l : List TH0}, sumB g (l ++ [x]) ans = sumB g l ans + g x (ansAt ans x.fToken)
 | [] => by rw [List.nil_append, sumB_cons]; show _ + (0 : Int) = (0 : Int) + _; omega
 | y :: l => by rw [List.cons_append, sumB_cons, sumB_cons, sumB_snoc (l := l)]; omega
theorem sumB_same {g : TH0 → TC0 → Int} {calls : List TH0} {ans ans' : List (Int × TC0)} (h : ∀ x ∈ calls, ansAt ans' x.fToken = ansAt ans x.fToken) : sumB g calls ans' = sumB g calls ans := by
 unfold sumB; rw [List.map_congr_left (fun x hx => by rw [h x hx])]
theorem sumB_off {g : TH0 → TC0 → Int} {calls : List TH0} {ans : List (Int × TC0)} {t : Int} {a : TC0} (h : t ∉ tokens calls) : sumB g calls (mput ans t a) = sumB g calls ans :=
 sumB_same fun z hz => by rw [ansAt_put, if_neg (fun e => h (by rw [e]; exact tok_mem hz))]
theorem sumB_bd {g : TH0 → TC0 → Int} (hg : ∀ x a, -1 ≤ g x a ∧ g x a ≤ 1) {ans : List (Int × TC0)} : ∀ {l : List TH0}, -(l.length : Int) ≤ sumB g l ans ∧ sumB g l ans ≤ (l.length : Int)
 | [] => by simp [sumB]
 | x :: l => by
  have := sumB_bd hg (ans := ans) (l := l)
  have := hg x (ansAt ans x.fToken)
  rw [sumB_cons, List.length_cons]
  omega
theorem sumB_upd {g : TH0 → TC0 → Int} {ans : List (Int × TC0)} {a : TC0} : ∀ {calls : List TH0} {y : TH0}, (tokens calls).Nodup → y ∈ calls → sumB g calls (mput ans y.fToken a) = sumB g calls ans - g y (ansAt ans y.fToken) + g y a
 | [], y, _, hy => by cases hy
 | x :: l, y, hn, hy => by
  have hn' : x.fToken ∉ tokens l ∧ (tokens l).Nodup := List.nodup_cons.1 hn
  rw [sumB_cons, sumB_cons]
  by_cases e : y = x
  ·subst e
   rw [ansAt_put, if_pos rfl, sumB_off hn'.1]
   omega
  ·have hy' : y ∈ l := (List.mem_cons.1 hy).resolve_left e
   have ht : ¬ y.fToken = x.fToken := fun e2 => hn'.1 (by rw [← e2]; exact tok_mem hy')
   rw [ansAt_put, if_neg ht, sumB_upd hn'.2 hy']
   omega
def hasB (L : List TF0) (p : List UInt8) : Int := if p ∈ L.map (·.fPhys) then 1 else 0
structure BkB (c : CS) : Prop where
  ok : checkS c.L c.made = 0
  bal : ∀ p, sumB (conB p) c.calls c.ans = hasB c.L p
  cnt : sumB cntB c.calls c.ans = c.good
theorem BkB.new : BkB new11 := ⟨by decide +kernel, fun p => by unfold hasB; rw [if_neg (by simp [new11])]; rfl, rfl⟩
theorem BkB.submit {c : CS} (h : BkB c) (hb : Bk c) (x : TH0) : BkB (submitC c x).2 := by
 unfold submitC
 split
 ·exact h
 ·split
  ·exact h
  ·rename_i hm
   have hf := hb.fresh hm
   have key : ∀ (g : TH0 → TC0 → Int), g x z_TC0 = 0 → sumB g (c.calls ++ [x]) (mput c.ans x.fToken z_TC0) = sumB g c.calls c.ans := fun g hg => by
    rw [sumB_snoc, ansAt_put, if_pos rfl, hg, sumB_off hf]
    omega
   exact ⟨h.ok, fun p => by rw [← h.bal p]; exact key _ (conB_no rfl), by rw [← h.cnt]; exact key _ (cntB_no rfl)⟩
theorem eff_books {c : CS} (h : checkS c.L c.made = 0) (x : TH0) :
  checkS (effC c x).2.L (effC c x).2.made = 0 ∧ (∀ p, hasB (effC c x).2.L p = hasB c.L p + conB p x (effC c x).1) ∧ (effC c x).2.good = c.good + cntB x (effC c x).1 := by
 have stay : checkS c.L c.made = 0 ∧ (∀ p, hasB c.L p = hasB c.L p + conB p x bad11) ∧ c.good = c.good + cntB x bad11 := ⟨h, fun p => by rw [conB_no rfl]; omega, by rw [cntB_no rfl]; omega⟩
 unfold effC
 by_cases k0 : x.fKind = 0
 ·rw [if_pos k0]
  by_cases e0 : (createS ⟨c.L, c.made⟩ x.fType x.fProps).2.2 = 0
  ·rw [if_pos e0]
   obtain ⟨last, hs, h0, h1, h2, h3, h5, hc⟩ := create_ok11 e0
   dsimp only at hs h1 h2
   rw [hc]
   dsimp only at hc ⊢
   refine ⟨checkS_of (scan_new11 hs h1 h0 h2 h3 h5) (Int.le_refl _) h2, fun p => ?_, by rw [cntB_new rfl k0]⟩
   rw [conB_new rfl k0]
   have hf := new_fresh11 hs h1 h0 h2
   unfold hasB
   rw [List.map_append, List.map_singleton]
   dsimp only
   by_cases e : physV (c.made + 1) = p
   ·rw [if_pos e, if_pos (List.mem_append_right _ (by rw [e]; simp)), if_neg (by rw [← e]; exact hf)]; rfl
   ·rw [if_neg e]
    by_cases hm : p ∈ c.L.map (·.fPhys)
    ·rw [if_pos (List.mem_append_left _ hm), if_pos hm]; rfl
    ·rw [if_neg (fun h2 => (List.mem_append.1 h2).elim hm (fun h3 => e (List.mem_singleton.1 h3).symm)), if_neg hm]; rfl
  ·rw [if_neg e0]; exact stay
 ·rw [if_neg k0]
  by_cases k1 : x.fKind = 1
  ·rw [if_pos k1]
   by_cases e0 : (updateS ⟨c.L, c.made⟩ x.fPhys x.fProps).2 = 0
   ·rw [if_pos e0]
    obtain ⟨last, t, hs, h0, h1, h2, h3, h4, h5, hc⟩ := update_ok11 e0
    dsimp only at hs h1 h2 h3
    obtain ⟨hm, hp, _⟩ := findT_some h3
    have hd := scanS_nodup hs
    have hk : knownV x.fProps = true := by
     unfold badU at h5
     simp only [Bool.or_eq_false_iff] at h5
     revert h5
     cases knownV x.fProps <;> simp
    rw [hc]
    dsimp only
    refine ⟨checkS_of (scan_upd11 hk hs (fun w hw he => ?_)) h1 h2, fun p => ?_, by rw [cntB_else k0]; omega⟩
    ·have := find_of_mem hd hw
     rw [he, h3] at this
     rw [← Option.some.inj this]; exact h4
    ·rw [conB_else k0 (by omega)]
     unfold hasB
     rw [upd_phys11]; omega
   ·rw [if_neg e0]; exact stay
  ·rw [if_neg k1]
   by_cases k2 : x.fKind = 2
   ·rw [if_pos k2]
    by_cases e0 : (deleteS ⟨c.L, c.made⟩ x.fPhys).2 = 0
    ·rw [if_pos e0]
     obtain ⟨t, h3, hc⟩ := delete_ok11 e0
     obtain ⟨last, hs, h0, h1, h2⟩ := checkS_zero h
     dsimp only at h3
     obtain ⟨hm, hp, _⟩ := findT_some h3
     obtain ⟨y', hy, hle⟩ := scan_del11 (phys := x.fPhys) (Int.le_refl 0) hs
     rw [hc]
     dsimp only
     refine ⟨checkS_of hy (by omega) h2, fun p => ?_, by rw [cntB_else k0]; omega⟩
     rw [conB_del rfl k2]
     have hmem : ∀ p, p ∈ (delT c.L x.fPhys).map (·.fPhys) ↔ p ∈ c.L.map (·.fPhys) ∧ ¬ x.fPhys = p := fun p => by
      unfold delT
      constructor
      ·intro h
       obtain ⟨y, hy, e⟩ := List.mem_map.1 h
       obtain ⟨h1, h2⟩ := List.mem_filter.1 hy
       exact ⟨List.mem_map.2 ⟨y, h1, e⟩, fun e2 => by simp at h2; exact h2 (e.trans e2.symm)⟩
      ·rintro ⟨h, hne⟩
       obtain ⟨y, hy, e⟩ := List.mem_map.1 h
       exact List.mem_map.2 ⟨y, List.mem_filter.2 ⟨hy, by simp; exact fun e2 => hne (e2.symm.trans e)⟩, e⟩
     unfold hasB
     simp only [hmem]
     by_cases e : x.fPhys = p
     ·rw [if_pos e, if_neg (fun h => h.2 e), if_pos (by rw [← e]; exact List.mem_map.2 ⟨t, hm, hp⟩)]; rfl
     ·rw [if_neg e]
      by_cases hm : p ∈ c.L.map (·.fPhys)
      ·rw [if_pos ⟨hm, e⟩, if_pos hm]; rfl
      ·rw [if_neg (fun h2 => hm h2.1), if_neg hm]; rfl
    ·rw [if_neg e0]; exact stay
   ·rw [if_neg k2]
    exact ⟨h, fun p => by rw [conB_else k0 k2, Int.add_zero], by rw [cntB_else k0, Int.add_zero]⟩
theorem BkB.end_ {c : CS} (h : BkB c) (hb : Bk c) (k : Int) (well : Bool) : BkB (endC c k well).2.2.2 := by
 unfold endC
 split
 ·rename_i hk
  obtain ⟨m, rfl⟩ := Int.eq_ofNat_of_zero_le hk.1
  have hm : m < c.inn.length := by omega
  have em : (m : Int).toNat = m := by omega
  rw [em]
  obtain ⟨k1, k2, k3, k4⟩ := out_keep c m well
  have hx : c.inn.getD m z_TH0 = c.inn[m] := by simp [List.getD, hm]
  have hin := hb.sub _ (List.getElem_mem hm)
  have hz := hb.zero _ (tok_mem (List.getElem_mem hm))
  have hans : ansAt c.ans (c.inn[m]).fToken = z_TC0 := by unfold ansAt; rw [hz]; rfl
  have key : ∀ (g : TH0 → TC0 → Int), g c.inn[m] z_TC0 = 0 → sumB g (outC c m well).2.calls (mput (outC c m well).2.ans (c.inn[m]).fToken (outC c m well).1) = sumB g c.calls c.ans + g c.inn[m] (outC c m well).1 := fun g hg => by
   rw [k1, k2, sumB_upd hb.nd hin, hans, hg]; omega
  have hbk : checkS (outC c m well).2.L (outC c m well).2.made = 0 ∧ (∀ p, hasB (outC c m well).2.L p = hasB c.L p + conB p c.inn[m] (outC c m well).1) ∧ (outC c m well).2.good = c.good + cntB c.inn[m] (outC c m well).1 := by
   unfold outC
   cases well with
   | false => exact ⟨h.ok, fun p => by rw [cF, conB_no rfl]; show hasB c.L p = _; omega, by rw [cF, cntB_no rfl]; show c.good = _; omega⟩
   | true =>
    have := eff_books (c := cutC c m) h.ok c.inn[m]
    rw [cT, hx]
    exact this
  rw [hx]
  exact ⟨hbk.1, fun p => by
   show sumB (conB p) (outC c m well).2.calls (mput (outC c m well).2.ans _ _) = hasB (outC c m well).2.L p
   rw [hbk.2.1 p, key _ (conB_no rfl), h.bal p], by
   show sumB cntB (outC c m well).2.calls (mput (outC c m well).2.ans _ _) = (outC c m well).2.good
   rw [hbk.2.2, key _ (cntB_no rfl), h.cnt]⟩
 ·exact h
theorem books_acts {l : List TA0} : ∀ k, k ≤ l.length → Bk (actsC new11 (l.take k)) ∧ BkB (actsC new11 (l.take k))
 | 0, _ => ⟨Bk.new, BkB.new⟩
 | k + 1, hk => by
  rw [actsC_take (by omega)]
  obtain ⟨h1, h2⟩ := books_acts (l := l) k (by omega)
  unfold actC
  split
  ·exact ⟨h1.submit _, h2.submit h1 _⟩
  ·split
   ·exact ⟨h1.end_ _ _, h2.end_ h1 _ _⟩
   ·exact ⟨h1, h2⟩
theorem mput_keysB {V : Type} : ∀ (m : List (List UInt8 × V)) (k : List UInt8) (v : V), (mput m k v).map (·.1) = if k ∈ m.map (·.1) then m.map (·.1) else m.map (·.1) ++ [k]
 | [], k, v => by simp [mput]
 | p :: r, k, v => by
  unfold mput
  by_cases h : p.1 = k
  ·simp [h]
  ·rw [if_neg h, List.map_cons, mput_keysB r k v]
   have hk : ¬ k = p.1 := fun e => h e.symm
   by_cases hr : k ∈ r.map (·.1)
   ·rw [if_pos hr, if_pos (by simp only [List.map_cons, List.mem_cons]; exact .inr hr)]; rfl
   ·rw [if_neg hr, if_neg (by simp only [List.map_cons, List.mem_cons, not_or]; exact ⟨hk, hr⟩)]; rfl
theorem mput_nodupB {V : Type} {m : List (List UInt8 × V)} (h : (m.map (·.1)).Nodup) (k : List UInt8) (v : V) : ((mput m k v).map (·.1)).Nodup := by
 rw [mput_keysB]
 split
 ·exact h
 ·rename_i hk
  rw [List.nodup_append]
  exact ⟨h, by simp, fun a ha b hb e => by rw [List.mem_singleton.1 hb] at e; subst e; exact hk ha⟩
theorem mput_lenB {V : Type} (m : List (List UInt8 × V)) (k : List UInt8) (v : V) : (mput m k v).length ≤ m.length + 1 := by
 have := congrArg List.length (mput_keysB m k v)
 rw [List.length_map] at this
 rw [this]
 split <;> simp
theorem mget_ofB {V : Type} : ∀ {m : List (List UInt8 × V)} {p : List UInt8 × V}, (m.map (·.1)).Nodup → p ∈ m → mget m p.1 = some p.2
 | [], p, _, h => by cases h
 | q :: r, p, hd, h => by
  have hd' : q.1 ∉ r.map (·.1) ∧ (r.map (·.1)).Nodup := List.nodup_cons.1 hd
  unfold mget
  rcases List.mem_cons.1 h with rfl | h
  ·rw [if_pos rfl]
  ·rw [if_neg (fun e => hd'.1 (by rw [e]; exact List.mem_map.2 ⟨p, h, rfl⟩))]
   exact mget_ofB hd'.2 h
structure LiveB (c : CS) (k : Nat) (m : Int) (live : List (List UInt8 × Int)) : Prop where
  cnt : m = sumB cntB (c.calls.take k) c.ans
  bal : ∀ p, (mget live p).getD 0 = sumB (conB p) (c.calls.take k) c.ans
  nd : (live.map (·.1)).Nodup
  few : live.length ≤ k
theorem live_loop {c : CS} {m : Nat} (ok : OkC m c) (hm : m ≤ 200) : ∃ made live, LiveB c c.calls.length made live ∧
  loopF (law11_CloudBooks_s2 10000 (c.calls, c.L, c.made, c.calls, c.ans, c.inn, c.good)) 10000 ((0 : Int), (0 : Int), ([] : List ((List UInt8) × Int)), c.L, c.made, c.calls, c.inn, c.good, c.ans) = some (made, c.L, c.made, c.calls, c.inn, c.good, live, c.ans) := by
 have f1 := ok.calls
 obtain ⟨b, hb, made, live, rfl, hp⟩ := loop_inv (step := law11_CloudBooks_s2 10000 (c.calls, c.L, c.made, c.calls, c.ans, c.inn, c.good)) (n := 10000) (s0 := ((0 : Int), (0 : Int), ([] : List ((List UInt8) × Int)), c.L, c.made, c.calls, c.inn, c.good, c.ans))
  (fun k s => ∃ made live, s = (made, (k : Int), live, c.L, c.made, c.calls, c.inn, c.good, c.ans) ∧ LiveB c k made live)
  (fun b => ∃ made live, b = (made, c.L, c.made, c.calls, c.inn, c.good, live, c.ans) ∧ LiveB c c.calls.length made live) c.calls.length ⟨0, [], rfl, rfl, fun p => rfl, by simp, by simp⟩
  (fun k s hk hI => by
   obtain ⟨made, live, rfl, hI⟩ := hI
   have hg : c.calls.getD k z_TH0 = c.calls[k] := by simp [List.getD, hk]
   have hts : ∀ g : TH0 → TC0 → Int, sumB g (c.calls.take (k + 1)) c.ans = sumB g (c.calls.take k) c.ans + g c.calls[k] (ansAt c.ans (c.calls[k]).fToken) := fun g => by
    rw [List.take_add_one, List.getElem?_eq_getElem hk]; exact sumB_snoc
   have hlt : (c.calls.take k).length = k := by rw [List.length_take]; omega
   have bd := sumB_bd cntB_bd (l := c.calls.take k) (ans := c.ans)
   have bp := fun p => sumB_bd (conB_bd p) (l := c.calls.take k) (ans := c.ans)
   rw [hlt] at bd
   simp only [hlt] at bp
   have hc := hI.cnt
   have hb := hI.bal
   have hn := hI.nd
   have hf := hI.few
   unfold law11_CloudBooks_s2
   dsimp only
   rw [decide_eq_true (by omega), cT, getI_at z_TH0 hk, bnd, hg, ask_run, bnd]
   dsimp only [tupE]
   have ea : (mget c.ans (c.calls[k]).fToken).getD z_TC0 = ansAt c.ans (c.calls[k]).fToken := rfl
   rw [ea]
   generalize ansAt c.ans (c.calls[k]).fToken = a at hts
   generalize c.calls[k] = x at hts
   cases ho : a.fOk with
   | false =>
    rw [Bool.not_false, cT, need_i (by omega) (by omega)]
    exact .inl ⟨_, rfl, made, live, rfl, by rw [hts, cntB_no ho, hc]; omega, fun p => by rw [hts, conB_no ho, hb]; omega, hn, by omega⟩
   | true =>
    rw [Bool.not_true, cF]
    by_cases k0 : x.fKind = 0
    ·have := bp a.fPhys
     rw [← hb] at this
     rw [decide_eq_true k0, cT, need_i (by omega) (by omega), need_i (by omega) (by omega), bnd, decide_eq_false (by omega), cF, need_i (by omega) (by omega)]
     have := mput_lenB live a.fPhys ((mget live a.fPhys).getD (0 : Int) + 1)
     refine .inl ⟨_, rfl, made + 1, mput live a.fPhys ((mget live a.fPhys).getD (0 : Int) + 1), rfl, by rw [hts, cntB_new ho k0, hc], fun p => ?_, mput_nodupB hn _ _, by omega⟩
     rw [hts, conB_new ho k0, mget_mput]
     by_cases e : a.fPhys = p
     ·rw [if_pos e, if_pos e, ← e, ← hb]; rfl
     ·rw [if_neg e, if_neg e, hb]; omega
    ·rw [decide_eq_false k0, cF, bnd]
     dsimp only
     by_cases k2 : x.fKind = 2
     ·have := bp x.fPhys
      rw [← hb] at this
      rw [decide_eq_true k2, cT, need_i (by omega) (by omega), need_i (by omega) (by omega)]
      have := mput_lenB live x.fPhys ((mget live x.fPhys).getD (0 : Int) - 1)
      refine .inl ⟨_, rfl, made, mput live x.fPhys ((mget live x.fPhys).getD (0 : Int) - 1), rfl, by rw [hts, cntB_else k0, hc]; omega, fun p => ?_, mput_nodupB hn _ _, by omega⟩
      rw [hts, conB_del ho k2, mget_mput]
      by_cases e : x.fPhys = p
      ·rw [if_pos e, if_pos e, ← e, ← hb]; rfl
      ·rw [if_neg e, if_neg e, hb]; omega
     ·rw [decide_eq_false k2, cF, need_i (by omega) (by omega)]
      exact .inl ⟨_, rfl, made, live, rfl, by rw [hts, cntB_else k0, hc]; omega, fun p => by rw [hts, conB_else k0 k2, hb]; omega, hn, by omega⟩)
  (fun s hI => by
   obtain ⟨made, live, rfl, hI⟩ := hI
   unfold law11_CloudBooks_s2
   dsimp only
   rw [decide_eq_false (by omega), cF]
   exact ⟨_, rfl, made, live, rfl, hI⟩) (by omega)
 exact ⟨made, live, hp, hb⟩
theorem fold_books {n : Nat} : ∀ (l : List (List UInt8 × Int)) (z : Int), (∀ p ∈ l, 0 ≤ p.2 ∧ p.2 ≤ 1) → 0 ≤ z → z + l.length ≤ 100000 → foldO (law11_CloudBooks_s3_e n) (law11_CloudBooks_s3_y n) l z = some (.inl (z + (l.map (·.2)).sum))
 | [], z, _, _, _ => by
  unfold foldO law11_CloudBooks_s3_e
  rw [bnd, List.map_nil, List.sum_nil, Int.add_zero]
 | p :: l, z, h, h0, hl => by
  obtain ⟨a1, a2⟩ := h p List.mem_cons_self
  rw [List.length_cons] at hl
  have hY : law11_CloudBooks_s3_y n p z = some (.nx (z + p.2)) := by
   unfold law11_CloudBooks_s3_y
   rw [decide_eq_false (by omega), cF, decide_eq_false (by omega), cF, need_i (by omega) (by omega)]
  unfold foldO
  rw [hY, bnd]
  dsimp only
  rw [fold_books l (z + p.2) (fun q hq => h q (List.mem_cons_of_mem _ hq)) (by omega) (by omega), List.map_cons, List.sum_cons, Int.add_assoc]
theorem perm_sum {l l' : List Int} (h : l.Perm l') : l.sum = l'.sum := by
 induction h with
 | nil => rfl
 | cons x _ ih => rw [List.sum_cons, List.sum_cons, ih]
 | swap x y l => rw [List.sum_cons, List.sum_cons, List.sum_cons, List.sum_cons]; omega
 | trans _ _ h1 h2 => rw [h1, h2]
theorem sum_ind (P : List (List UInt8)) : ∀ K : List (List UInt8), (K.map fun p => if p ∈ P then (1 : Int) else 0).sum = ((K.filter fun p => decide (p ∈ P)).length : Int)
 | [] => rfl
 | k :: K => by
  rw [List.map_cons, List.sum_cons, sum_ind P K]
  by_cases h : k ∈ P
  ·rw [if_pos h, List.filter_cons_of_pos (by simpa using h), List.length_cons]; omega
  ·rw [if_neg h, List.filter_cons_of_neg (by simpa using h)]; omega
theorem sum_all {P K : List (List UInt8)} (hK : K.Nodup) (hP : P.Nodup) (h : ∀ p ∈ P, p ∈ K) : (K.map fun p => if p ∈ P then (1 : Int) else 0).sum = (P.length : Int) := by
 rw [sum_ind]
 have : (K.filter fun p => decide (p ∈ P)).Perm P := (List.perm_ext_iff_of_nodup (hK.sublist List.filter_sublist) hP).2 fun a => by
  rw [List.mem_filter]
  exact ⟨fun h2 => by simpa using h2.2, fun h2 => ⟨h a h2, by simpa using h2⟩⟩
 rw [this.length_eq]
theorem cloudBooks_true (l : List TA0) : law11_CloudBooks 10000 l = some true := by
 unfold law11_CloudBooks
 obtain ⟨g, hg, hf⟩ := greatL11 (n := 10000) (by omega) l
 rw [hg, bnd]
 cases g with
 | true => rw [cT, wakes11b]
 | false =>
  obtain ⟨hl, hp⟩ := hf rfl
  rw [cF]
  unfold cloud_New
  rw [bnd, books_loop hl hp, bnd]
  have ok := OkC.acts hl hp l.length (Nat.le_refl _)
  obtain ⟨_, bk⟩ := books_acts (l := l) l.length (Nat.le_refl _)
  rw [List.take_length] at ok bk
  generalize actsC new11 l = c at ok bk
  have f0 := ok.few
  have f1 := ok.calls
  have f2 := ok.inn
  have hgood := ok.good
  obtain ⟨last, hs, h0, h1, h2⟩ := checkS_zero bk.ok
  have hd := scanS_nodup hs
  dsimp only
  rw [calls_run (by omega), bnd]
  dsimp only [tupE]
  obtain ⟨made, live, hL, hrun⟩ := live_loop ok (by omega)
  rw [hrun, bnd]
  dsimp only
  have hbal := hL.bal
  have hcnt := hL.cnt
  have hnd := hL.nd
  have hfew := hL.few
  rw [List.take_length] at hcnt
  simp only [List.take_length, bk.bal] at hbal
  rw [bk.cnt] at hcnt
  have hval : ∀ p ∈ live, p.2 = hasB c.L p.1 := fun p hp => by
   rw [← hbal, mget_ofB hnd hp]; rfl
  have hsub : ∀ p ∈ c.L.map (·.fPhys), p ∈ live.map (·.1) := fun p hp => by
   have h1 := hbal p
   unfold hasB at h1
   rw [if_pos hp] at h1
   have hs : (mget live p).isSome = true := by
    cases e : mget live p with
    | none => rw [e] at h1; exact absurd h1 (by decide)
    | some v => rfl
   obtain ⟨v, hv, _⟩ := mget_mem hs
   exact List.mem_map.2 ⟨_, hv, rfl⟩
  have hsum : (live.map (·.2)).sum = (c.L.length : Int) := by
   have e1 : live.map (·.2) = (live.map (·.1)).map fun p => if p ∈ c.L.map (·.fPhys) then (1 : Int) else 0 := by
    rw [List.map_map]
    exact List.map_congr_left fun p hp => hval p hp
   rw [e1, sum_all hnd hd hsub, List.length_map]
  rw [foldP_run (b := .inl (c.L.length : Int)) (fun q hq => by
   rw [fold_books q 0 (fun p hp => by
    rw [hval p (hq.subset hp)]
    unfold hasB
    split <;> omega) (by omega) (by rw [hq.length_eq]; omega), perm_sum (hq.map _), hsum, Int.zero_add]), bnd]
  dsimp only
  rw [things_run hgood, bnd]
  dsimp only [tupE]
  have l1 := loop_all (step := law11_CloudBooks_s4 10000 (made, c.L, c.made, c.calls, c.inn, c.good, live, c.ans) (c.L, c.L, c.made, c.calls, c.ans, c.inn, c.good)) (n := 10000) (fun k => (k : Int)) c.L.length (.inr ()) (fun k hk => by
   unfold law11_CloudBooks_s4
   dsimp only
   have e : (mget live (c.L[k]).fPhys).getD 0 = 1 := by
    rw [hbal]; unfold hasB
    rw [if_pos (List.mem_map.2 ⟨_, List.getElem_mem hk, rfl⟩)]
   rw [decide_eq_true (by omega), cT, getI_at z_TF0 hk, bnd, getT hk, decide_eq_true e, Bool.not_true, cF, need_i (by omega) (by omega)]
   rfl) (by
   unfold law11_CloudBooks_s4
   dsimp only
   rw [decide_eq_false (by omega), cF]) (by omega)
  have e0 : ((0 : Nat) : Int) = 0 := rfl
  simp only [e0] at l1
  rw [l1, bnd]
  dsimp only
  rw [things_run hgood, bnd]
  dsimp only [tupE]
  rw [decide_eq_true rfl, cT, made_run, bnd]
  dsimp only [tupE]
  rw [decide_eq_true hcnt, cT, wakes11b]
end Go.Proofs.YtocefedhenhbfaaDoor
end

section
namespace Go.Vc
open Go
mutual
def dsz : Dat → Nat
  | .int _ _ => 1
  | .bool _ => 1
  | .str l => l.length + 1
  | .list _ ds => dszs ds + 1
  | .struct ds => dszs ds + 1
def dszs : List Dat → Nat
  | [] => 0
  | d :: ds => dsz d + dszs ds
end
theorem dszs_app : ∀ (a b : List Dat), dszs (a ++ b) = dszs a + dszs b
 | [], b => by simp [dszs]
 | d :: a, b => by simp only [List.cons_append, dszs, dszs_app a b]; omega
theorem le_sum : ∀ {l : List Nat} {x : Nat}, x ∈ l → x ≤ l.sum
 | y :: l, x, h => by
  rcases List.mem_cons.1 h with rfl | h
  ·simp
  ·have := le_sum h; simp only [List.sum_cons]; omega
section
variable {H : Type}
structure BulkOk (B : DataW H → Nat) : Prop where
  one : ∀ d, 1 ≤ B d
  str : ∀ l, B (.lit (.string l)) = l.length + 1
  slice : ∀ e s, (e.map B).sum + 1 ≤ B (.slice e s)
  agg : ∀ e, (e.map B).sum + 1 ≤ B (.agg e)
variable {enc : TypeId × Value → H} {P : Program} {w : World} {t : TypeId} {α : Type} {f : α → Dat} {m : Nat} {B : DataW H → Nat}
def OpnAt (enc : TypeId × Value → H) (P : Program) (w : World) (t : TypeId) {α : Type} (f : α → Dat) (B : DataW H → Nat) (m : Nat) : Prop :=
  ∀ cs x, DataW.trod enc P w 0 (fun _ => true) true m t cs = some x → ∃ a, Rep (Mem.of w) (f a) cs ∧ Vld (f a) ∧ dsz (f a) ≤ B x.1
theorem OpnAt.zero : OpnAt enc P w t f B 0 := fun cs x h => by simp [DataW.trod] at h
theorem opa_int {k : IntKind} (hB : BulkOk B) (ht : P.underlying t = some (.int k)) : OpnAt enc P w t (Dat.int k) B m := fun cs x h => by
 obtain ⟨a, rfl, _, hw⟩ := DataW.trod_int ht h
 exact ⟨a, rfl, hw, hB.one _⟩
theorem opa_bool (hB : BulkOk B) (ht : P.underlying t = some .bool) : OpnAt enc P w t Dat.bool B m := fun cs x h => by
 obtain ⟨a, rfl, _⟩ := DataW.trod_bool ht h
 exact ⟨a, rfl, trivial, hB.one _⟩
theorem opa_str (hB : BulkOk B) (ht : P.underlying t = some .string) : OpnAt enc P w t Dat.str B m := fun cs x h => by
 obtain ⟨s, rfl, hx, hw⟩ := DataW.trod_string ht h
 refine ⟨s.data.toList, (by show [Value.string s] = _; rw [S_eta]), by show s.data.toList.length ≤ maxLen; simpa using hw, ?_⟩
 rw [hx]
 show s.data.toList.length + 1 ≤ B (.lit (.string s.data.toList))
 rw [hB.str]
 exact Nat.le_refl _
theorem opa_slice {e : TypeId} {sz : Nat} (hB : BulkOk B) (ht : P.underlying t = some (.slice e)) (hsz : P.cellsOf e = sz) (h : OpnAt enc P w e f B m) : OpnAt enc P w t (eL sz f) B (m + 1) := fun cs x hx => by
 rcases DataW.trod_slice ht hx with ⟨rfl, hx⟩ | ⟨ad, len, cap, elems, rest, n', hn', rfl, hxe, _, hlc, hcm, hel, hat, _⟩
 ·refine ⟨[], Sli.rep (Sli.nil (sz := sz) (f := f)), by simp [Vld, eL, VldAll], ?_⟩
  have := hB.one x.1
  simpa [eL, dsz, dszs] using this
 ·obtain rfl : n' = m := by omega
  have key : ∀ k, k ≤ len → ∃ xs : List α, xs.length = k ∧ RepArr (Mem.of w) sz (xs.map f) ad ∧ (∀ x ∈ xs, Vld (f x)) ∧ dszs (xs.map f) ≤ ((elems.take k).map fun x => B x.1).sum := by
   intro k
   induction k with
   | zero => intro _; exact ⟨[], rfl, trivial, fun x hx => (by cases hx), by simp [dszs]⟩
   | succ k ih =>
    intro hk
    obtain ⟨xs, h1, h2, h3, h3b⟩ := ih (by omega)
    have hk' : k < elems.length := by omega
    have := hat k (by omega)
    rw [List.getElem?_eq_getElem hk'] at this
    obtain ⟨cs', g1, g2⟩ := Option.bind_eq_some_iff.1 this
    obtain ⟨a, g3, g4, g4b⟩ := h cs' _ g2
    obtain ⟨g5, g6⟩ := cells_of g1
    rw [hsz] at g5 g6
    refine ⟨xs ++ [a], by simp [h1], ?_, fun x hx => ?_, ?_⟩
    ·rw [List.map_append]
     have app : ∀ (ds : List Dat) (ad : Addr), RepArr (Mem.of w) sz ds ad → RepArr (Mem.of w) sz [f a] (ad.add (ds.length * sz)) → RepArr (Mem.of w) sz (ds ++ [f a]) ad := by
      intro ds
      induction ds with
      | nil => intro ad _ hh; simpa [Addr.add] using hh
      | cons d ds ih =>
       intro ad h1 h2
       refine ⟨h1.1, ih _ h1.2 ?_⟩
       rw [add_of_add]
       rw [List.length_cons, show (ds.length + 1) * sz = sz + ds.length * sz by rw [Nat.add_mul]; omega] at h2
       exact h2
     refine app _ _ h2 ⟨⟨cs', g5, g3, ?_⟩, trivial⟩
     rw [List.length_map, h1]
     exact g6
    ·rcases List.mem_append.1 hx with hx | hx
     ·exact h3 x hx
     ·simp at hx; subst hx; exact g4
    ·rw [List.map_append, dszs_app, List.take_add_one, List.getElem?_eq_getElem hk', List.map_append, List.sum_append]
     simp only [List.map_cons, List.map_nil, dszs, Option.toList_some, List.sum_cons, List.sum_nil]
     omega
  obtain ⟨xs, h1, h2, h3, h3b⟩ := key len (Nat.le_refl _)
  subst h1
  refine ⟨xs, Sli.rep ⟨hlc, fun e => (by cases e), .inr ⟨ad, rfl, h2⟩⟩, ?_, ?_⟩
  ·refine ⟨by rw [List.length_map]; omega, VldAll.mk fun d hd => ?_⟩
   obtain ⟨x, hx, rfl⟩ := List.mem_map.1 hd
   exact h3 x hx
  ·rw [hxe]
   show dszs (xs.map f) + 1 ≤ _
   have := hB.slice (elems.map (·.1)) (rest.map (·.1))
   rw [← hel, List.take_length] at h3b
   rw [List.map_map] at this
   have e : (elems.map (B ∘ fun x => x.1)) = elems.map fun x => B x.1 := rfl
   rw [e] at this
   show _ ≤ B (.slice (elems.map (·.1)) (rest.map (·.1)))
   omega
theorem opa_slice0 {e : TypeId} {sz : Nat} (hB : BulkOk B) (ht : P.underlying t = some (.slice e)) (hsz : P.cellsOf e = sz) (h : ∀ k, k < m → OpnAt enc P w e f B k) : OpnAt enc P w t (eL sz f) B m := by
 cases m with
 | zero => exact OpnAt.zero
 | succ m => exact opa_slice hB ht hsz (h m (Nat.lt_succ_self m))
theorem OpnAt.arg (h : ∀ n, OpnAt enc P w t f B n) {v : Value} {d : DataW H} {ps : List MemPlace} (ht : DataW.Trod enc P w 0 (fun _ => true) true t v d ps) : ∃ a, Rep (Mem.of w) (f a) v.cells.toList ∧ Vld (f a) ∧ dsz (f a) ≤ B d := by
 obtain ⟨fuel, hf⟩ := ht
 exact h fuel _ _ hf
theorem OpnAt.slice_arg {e : TypeId} {sz : Nat} (hB : BulkOk B) (hu : P.underlying t = some (.slice e)) (hsz : P.cellsOf e = sz) (h : ∀ n, OpnAt enc P w e f B n) {v : Value} {d : DataW H} {ps : List MemPlace} (hv : ∃ A len cap, v = .slice A len cap) (ht : DataW.Trod enc P w 0 (fun _ => true) true t v d ps) :
  ∃ A cap xs, v = .slice A xs.length cap ∧ Sli (Mem.of w) sz f A cap xs ∧ Vld (eL sz f xs) ∧ dsz (eL sz f xs) ≤ B d := by
 obtain ⟨A, len, cap, rfl⟩ := hv
 obtain ⟨xs, h1, h2⟩ := OpnAt.arg (f := eL sz f) (fun n => opa_slice0 hB hu hsz fun k _ => h k) ht
 obtain ⟨A', cap', e, hs⟩ := Rep.sli h1
 simp only [Value.cells] at e
 have e' : Value.slice A len cap = Value.slice A' xs.length cap' := by simpa using e
 cases e'
 exact ⟨A, cap, xs, rfl, hs, h2⟩
end
end Go.Vc
end

section
namespace Go.Proofs.YtocefedhenhbfaaDoor
open Go Go.Vc Go.RowKit
theorem opa_TD0 {H : Type} {enc : TypeId × Value → H} {w : World} {B : DataW H → Nat} (hB : BulkOk B) : ∀ m, OpnAt enc Tryd.prog w 26 emb_TD0 B m := by
 intro m
 induction m using Nat.strongRecOn with
 | ind m ih =>
 intro cs x h
 obtain ⟨xs, n, rfl, rfl, hlen, hxl, hf⟩ := DataW.trod_struct Tryd.underlying26 h
 have hct : Tryd.prog.cellsOf 26 = 6 := by kernel_rfl
 rw [hct] at hlen
 obtain ⟨x0, x1, x2, x3, x4, x5, rfl⟩ : ∃ x0 x1 x2 x3 x4 x5, xs = [x0, x1, x2, x3, x4, x5] := by
  match xs, hxl with
  | [x0, x1, x2, x3, x4, x5], _ => exact ⟨x0, x1, x2, x3, x4, x5, rfl⟩
 have f0 : DataW.trod enc Tryd.prog w 0 (fun _ => true) true n 23 ((cs.drop 0).take (Tryd.prog.cellsOf 23)) = some x0 := hf 0 _ rfl
 rw [show Tryd.prog.cellsOf 23 = 1 by kernel_rfl] at f0
 obtain ⟨a0, r0, v0, b0⟩ := (fun _ => opa_int hB Tryd.underlying23) n _ _ f0
 have f1 : DataW.trod enc Tryd.prog w 0 (fun _ => true) true n 4 ((cs.drop 1).take (Tryd.prog.cellsOf 4)) = some x1 := hf 1 _ rfl
 rw [show Tryd.prog.cellsOf 4 = 1 by kernel_rfl] at f1
 obtain ⟨a1, r1, v1, b1⟩ := (fun _ => opa_bool hB Tryd.underlying4) n _ _ f1
 have f2 : DataW.trod enc Tryd.prog w 0 (fun _ => true) true n 3 ((cs.drop 2).take (Tryd.prog.cellsOf 3)) = some x2 := hf 2 _ rfl
 rw [show Tryd.prog.cellsOf 3 = 1 by kernel_rfl] at f2
 obtain ⟨a2, r2, v2, b2⟩ := (fun _ => opa_int hB Tryd.underlying3) n _ _ f2
 have f3 : DataW.trod enc Tryd.prog w 0 (fun _ => true) true n 9 ((cs.drop 3).take (Tryd.prog.cellsOf 9)) = some x3 := hf 3 _ rfl
 rw [show Tryd.prog.cellsOf 9 = 1 by kernel_rfl] at f3
 obtain ⟨a3, r3, v3, b3⟩ := (fun _ => opa_str hB Tryd.underlying9) n _ _ f3
 have f4 : DataW.trod enc Tryd.prog w 0 (fun _ => true) true n 22 ((cs.drop 4).take (Tryd.prog.cellsOf 22)) = some x4 := hf 4 _ rfl
 rw [show Tryd.prog.cellsOf 22 = 1 by kernel_rfl] at f4
 obtain ⟨a4, r4, v4, b4⟩ := (opa_slice0 (m := n) (e := 26) (sz := 6) hB Tryd.underlying22 (by kernel_rfl) (fun k hk => ih k (by omega))) _ _ f4
 have f5 : DataW.trod enc Tryd.prog w 0 (fun _ => true) true n 24 ((cs.drop 5).take (Tryd.prog.cellsOf 24)) = some x5 := hf 5 _ rfl
 rw [show Tryd.prog.cellsOf 24 = 1 by kernel_rfl] at f5
 obtain ⟨a5, r5, v5, b5⟩ := (opa_slice0 (m := n) (e := 9) (sz := 1) hB Tryd.underlying24 (by kernel_rfl) (fun k _ => (fun _ => opa_str hB Tryd.underlying9) k)) _ _ f5
 refine ⟨⟨a0, a1, a2, a3, a4, a5⟩, ?_, ?_, ?_⟩
 ·rw [emb_TD0_eq]
  have hcs : RepSeq (Mem.of w) _ (cs.drop 0) := (RepSeq.cut (k := 1) r0 (by rw [List.drop_drop]; exact (RepSeq.cut (k := 1) r1 (by rw [List.drop_drop]; exact (RepSeq.cut (k := 1) r2 (by rw [List.drop_drop]; exact (RepSeq.cut (k := 1) r3 (by rw [List.drop_drop]; exact (RepSeq.cut (k := 1) r4 (by rw [List.drop_drop]; exact (RepSeq.cut (k := 1) r5 (by rw [List.drop_drop]; exact (show RepSeq (Mem.of w) [] (cs.drop 6) from List.drop_eq_nil_of_le (by omega))))))))))))))
  exact hcs
 ·rw [emb_TD0_eq]; exact ⟨v0, ⟨v1, ⟨v2, ⟨v3, ⟨v4, ⟨v5, trivial⟩⟩⟩⟩⟩⟩
 ·rw [emb_TD0_eq]
  have := hB.agg ([x0, x1, x2, x3, x4, x5].map (·.1))
  simp only [List.map_cons, List.map_nil, List.sum_cons, List.sum_nil] at this ⊢
  simp only [dsz, dszs] at *
  omega
theorem opa_TE0 {H : Type} {enc : TypeId × Value → H} {w : World} {B : DataW H → Nat} (hB : BulkOk B) : ∀ m, OpnAt enc Tryd.prog w 79 emb_TE0 B m := by
 intro m
 induction m using Nat.strongRecOn with
 | ind m ih =>
 intro cs x h
 obtain ⟨xs, n, rfl, rfl, hlen, hxl, hf⟩ := DataW.trod_struct Tryd.underlying79 h
 have hct : Tryd.prog.cellsOf 79 = 8 := by kernel_rfl
 rw [hct] at hlen
 obtain ⟨x0, x1, x2, rfl⟩ : ∃ x0 x1 x2, xs = [x0, x1, x2] := by
  match xs, hxl with
  | [x0, x1, x2], _ => exact ⟨x0, x1, x2, rfl⟩
 have f0 : DataW.trod enc Tryd.prog w 0 (fun _ => true) true n 9 ((cs.drop 0).take (Tryd.prog.cellsOf 9)) = some x0 := hf 0 _ rfl
 rw [show Tryd.prog.cellsOf 9 = 1 by kernel_rfl] at f0
 obtain ⟨a0, r0, v0, b0⟩ := (fun _ => opa_str hB Tryd.underlying9) n _ _ f0
 have f1 : DataW.trod enc Tryd.prog w 0 (fun _ => true) true n 4 ((cs.drop 1).take (Tryd.prog.cellsOf 4)) = some x1 := hf 1 _ rfl
 rw [show Tryd.prog.cellsOf 4 = 1 by kernel_rfl] at f1
 obtain ⟨a1, r1, v1, b1⟩ := (fun _ => opa_bool hB Tryd.underlying4) n _ _ f1
 have f2 : DataW.trod enc Tryd.prog w 0 (fun _ => true) true n 26 ((cs.drop 2).take (Tryd.prog.cellsOf 26)) = some x2 := hf 2 _ rfl
 rw [show Tryd.prog.cellsOf 26 = 6 by kernel_rfl] at f2
 obtain ⟨a2, r2, v2, b2⟩ := (opa_TD0 hB) n _ _ f2
 refine ⟨⟨a0, a1, a2⟩, ?_, ?_, ?_⟩
 ·rw [emb_TE0_eq]
  have hcs : RepSeq (Mem.of w) _ (cs.drop 0) := (RepSeq.cut (k := 1) r0 (by rw [List.drop_drop]; exact (RepSeq.cut (k := 1) r1 (by rw [List.drop_drop]; exact (RepSeq.cut (k := 6) r2 (by rw [List.drop_drop]; exact (show RepSeq (Mem.of w) [] (cs.drop 8) from List.drop_eq_nil_of_le (by omega))))))))
  exact hcs
 ·rw [emb_TE0_eq]; exact ⟨v0, ⟨v1, ⟨v2, trivial⟩⟩⟩
 ·rw [emb_TE0_eq]
  have := hB.agg ([x0, x1, x2].map (·.1))
  simp only [List.map_cons, List.map_nil, List.sum_cons, List.sum_nil] at this ⊢
  simp only [dsz, dszs] at *
  omega
theorem opa_TH0 {H : Type} {enc : TypeId × Value → H} {w : World} {B : DataW H → Nat} (hB : BulkOk B) : ∀ m, OpnAt enc Tryd.prog w 44 emb_TH0 B m := by
 intro m
 induction m using Nat.strongRecOn with
 | ind m ih =>
 intro cs x h
 obtain ⟨xs, n, rfl, rfl, hlen, hxl, hf⟩ := DataW.trod_struct Tryd.underlying44 h
 have hct : Tryd.prog.cellsOf 44 = 5 := by kernel_rfl
 rw [hct] at hlen
 obtain ⟨x0, x1, x2, x3, x4, rfl⟩ : ∃ x0 x1 x2 x3 x4, xs = [x0, x1, x2, x3, x4] := by
  match xs, hxl with
  | [x0, x1, x2, x3, x4], _ => exact ⟨x0, x1, x2, x3, x4, rfl⟩
 have f0 : DataW.trod enc Tryd.prog w 0 (fun _ => true) true n 3 ((cs.drop 0).take (Tryd.prog.cellsOf 3)) = some x0 := hf 0 _ rfl
 rw [show Tryd.prog.cellsOf 3 = 1 by kernel_rfl] at f0
 obtain ⟨a0, r0, v0, b0⟩ := (fun _ => opa_int hB Tryd.underlying3) n _ _ f0
 have f1 : DataW.trod enc Tryd.prog w 0 (fun _ => true) true n 23 ((cs.drop 1).take (Tryd.prog.cellsOf 23)) = some x1 := hf 1 _ rfl
 rw [show Tryd.prog.cellsOf 23 = 1 by kernel_rfl] at f1
 obtain ⟨a1, r1, v1, b1⟩ := (fun _ => opa_int hB Tryd.underlying23) n _ _ f1
 have f2 : DataW.trod enc Tryd.prog w 0 (fun _ => true) true n 9 ((cs.drop 2).take (Tryd.prog.cellsOf 9)) = some x2 := hf 2 _ rfl
 rw [show Tryd.prog.cellsOf 9 = 1 by kernel_rfl] at f2
 obtain ⟨a2, r2, v2, b2⟩ := (fun _ => opa_str hB Tryd.underlying9) n _ _ f2
 have f3 : DataW.trod enc Tryd.prog w 0 (fun _ => true) true n 9 ((cs.drop 3).take (Tryd.prog.cellsOf 9)) = some x3 := hf 3 _ rfl
 rw [show Tryd.prog.cellsOf 9 = 1 by kernel_rfl] at f3
 obtain ⟨a3, r3, v3, b3⟩ := (fun _ => opa_str hB Tryd.underlying9) n _ _ f3
 have f4 : DataW.trod enc Tryd.prog w 0 (fun _ => true) true n 42 ((cs.drop 4).take (Tryd.prog.cellsOf 42)) = some x4 := hf 4 _ rfl
 rw [show Tryd.prog.cellsOf 42 = 1 by kernel_rfl] at f4
 obtain ⟨a4, r4, v4, b4⟩ := (fun m => opa_slice0 (e := 79) (sz := 8) hB Tryd.underlying42 (by kernel_rfl) (fun k _ => (opa_TE0 hB) k)) n _ _ f4
 refine ⟨⟨a0, a1, a2, a3, a4⟩, ?_, ?_, ?_⟩
 ·rw [emb_TH0_eq]
  have hcs : RepSeq (Mem.of w) _ (cs.drop 0) := (RepSeq.cut (k := 1) r0 (by rw [List.drop_drop]; exact (RepSeq.cut (k := 1) r1 (by rw [List.drop_drop]; exact (RepSeq.cut (k := 1) r2 (by rw [List.drop_drop]; exact (RepSeq.cut (k := 1) r3 (by rw [List.drop_drop]; exact (RepSeq.cut (k := 1) r4 (by rw [List.drop_drop]; exact (show RepSeq (Mem.of w) [] (cs.drop 5) from List.drop_eq_nil_of_le (by omega))))))))))))
  exact hcs
 ·rw [emb_TH0_eq]; exact ⟨v0, ⟨v1, ⟨v2, ⟨v3, ⟨v4, trivial⟩⟩⟩⟩⟩
 ·rw [emb_TH0_eq]
  have := hB.agg ([x0, x1, x2, x3, x4].map (·.1))
  simp only [List.map_cons, List.map_nil, List.sum_cons, List.sum_nil] at this ⊢
  simp only [dsz, dszs] at *
  omega
theorem opa_TA0 {H : Type} {enc : TypeId × Value → H} {w : World} {B : DataW H → Nat} (hB : BulkOk B) : ∀ m, OpnAt enc Tryd.prog w 46 emb_TA0 B m := by
 intro m
 induction m using Nat.strongRecOn with
 | ind m ih =>
 intro cs x h
 obtain ⟨xs, n, rfl, rfl, hlen, hxl, hf⟩ := DataW.trod_struct Tryd.underlying46 h
 have hct : Tryd.prog.cellsOf 46 = 7 := by kernel_rfl
 rw [hct] at hlen
 obtain ⟨x0, x1, x2, rfl⟩ : ∃ x0 x1 x2, xs = [x0, x1, x2] := by
  match xs, hxl with
  | [x0, x1, x2], _ => exact ⟨x0, x1, x2, rfl⟩
 have f0 : DataW.trod enc Tryd.prog w 0 (fun _ => true) true n 3 ((cs.drop 0).take (Tryd.prog.cellsOf 3)) = some x0 := hf 0 _ rfl
 rw [show Tryd.prog.cellsOf 3 = 1 by kernel_rfl] at f0
 obtain ⟨a0, r0, v0, b0⟩ := (fun _ => opa_int hB Tryd.underlying3) n _ _ f0
 have f1 : DataW.trod enc Tryd.prog w 0 (fun _ => true) true n 3 ((cs.drop 1).take (Tryd.prog.cellsOf 3)) = some x1 := hf 1 _ rfl
 rw [show Tryd.prog.cellsOf 3 = 1 by kernel_rfl] at f1
 obtain ⟨a1, r1, v1, b1⟩ := (fun _ => opa_int hB Tryd.underlying3) n _ _ f1
 have f2 : DataW.trod enc Tryd.prog w 0 (fun _ => true) true n 44 ((cs.drop 2).take (Tryd.prog.cellsOf 44)) = some x2 := hf 2 _ rfl
 rw [show Tryd.prog.cellsOf 44 = 5 by kernel_rfl] at f2
 obtain ⟨a2, r2, v2, b2⟩ := (opa_TH0 hB) n _ _ f2
 refine ⟨⟨a0, a1, a2⟩, ?_, ?_, ?_⟩
 ·rw [emb_TA0_eq]
  have hcs : RepSeq (Mem.of w) _ (cs.drop 0) := (RepSeq.cut (k := 1) r0 (by rw [List.drop_drop]; exact (RepSeq.cut (k := 1) r1 (by rw [List.drop_drop]; exact (RepSeq.cut (k := 5) r2 (by rw [List.drop_drop]; exact (show RepSeq (Mem.of w) [] (cs.drop 7) from List.drop_eq_nil_of_le (by omega))))))))
  exact hcs
 ·rw [emb_TA0_eq]; exact ⟨v0, ⟨v1, ⟨v2, trivial⟩⟩⟩
 ·rw [emb_TA0_eq]
  have := hB.agg ([x0, x1, x2].map (·.1))
  simp only [List.map_cons, List.map_nil, List.sum_cons, List.sum_nil] at this ⊢
  simp only [dsz, dszs] at *
  omega
theorem bulk_all {H : Type} (l : List (DataW H)) : Rows.uptoBulkAll l = (l.map Rows.uptoBulk).sum := by
 induction l with
 | nil => simp [Rows.uptoBulkAll]
 | cons x l ih => simp only [Rows.uptoBulkAll, List.map_cons, List.sum_cons, ih]
theorem bulk_ok {H : Type} : BulkOk (H := H) Rows.uptoBulk where
 one d := by
  cases d with
  | lit l => cases l <;> simp [Rows.uptoBulk]
  | nil => simp [Rows.uptoBulk]
  | ptr d => simp [Rows.uptoBulk]
  | slice elems spare => simp [Rows.uptoBulk]
  | agg parts => simp [Rows.uptoBulk]
  | iface t d => simp [Rows.uptoBulk]
  | map entries => simp [Rows.uptoBulk]
  | held h => simp [Rows.uptoBulk]
 str l := by simp [Rows.uptoBulk]
 slice e s := by
  simp only [Rows.uptoBulk]
  rw [bulk_all e]
  omega
 agg e := by
  simp only [Rows.uptoBulk]
  rw [bulk_all e]
  exact Nat.le_refl _
theorem bulk_one {H : Type} {d : DataW H} {l : List (DataW H)} (h : Rows.uptoSmall H l = true) (hd : d ∈ l) : Rows.uptoBulk d ≤ 1048576 := by
 unfold Rows.uptoSmall at h
 have h := of_decide_eq_true h
 rw [bulk_all] at h
 have := le_sum (List.mem_map_of_mem (f := Rows.uptoBulk) hd)
 omega
end Go.Proofs.YtocefedhenhbfaaDoor
end
