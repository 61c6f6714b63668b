/-
  Texts of this claim, packed (what nothing names is left out): StoreLOnce, Vo2, Op. Own work, partly printed by own programs. No condition.
-/
import Derived.Test.YtalifkcchfkgmaaGreatDoorPkE5
import Derived.Test.YtalifkcchfkgmaaGreatDoorPkE1
import Derived.Test.YtalifkcchfkgmaaGreatDoorPkE2
import Derived.Test.YtalifkcchfkgmaaGreatDoorRows
set_option linter.unusedVariables false
set_option linter.unusedSimpArgs false
set_option maxHeartbeats 2000000
section
namespace Go.Proofs.YtalifkcchfkgmaaGreatDoor
open Go Go.Vc Go.RowKit
theorem place41 (x : Int) : -1000 ≤ x.tmod 41 + 41 ∧ x.tmod 41 + 41 ≤ 1000 ∧ 0 ≤ (x.tmod 41 + 41).tmod 41 ∧ (x.tmod 41 + 41).tmod 41 < 41 := by
 have a1 := Int.tmod_lt_of_pos x (show (0 : Int) < 41 by omega)
 have a2 : -41 < x.tmod 41 := by
  rcases Int.le_total 0 x with h | h
  ·have := Int.tmod_nonneg (b := 41) h; omega
  ·have e : x.tmod 41 = -((-x).tmod 41) := by rw [Int.neg_tmod]; omega
   have := Int.tmod_lt_of_pos (-x) (show (0 : Int) < 41 by omega)
   omega
 have b0 : 0 ≤ x.tmod 41 + 41 := by omega
 exact ⟨by omega, by omega, Int.tmod_nonneg _ b0, Int.tmod_lt_of_pos _ (by omega)⟩
theorem acts10 {n : Nat} (hn : 6000 < n) (l : List TB0) : ∃ g, law10_acts n l = some g ∧ (g = false → l.length ≤ 40 ∧ ∀ x ∈ l, GoodP x.fProps) := by
 unfold law10_acts
 obtain ⟨b, hb, hp⟩ := loop_inv (n := n) (step := law10_acts_s1 n l) (s0 := (0 : Int)) (fun k q => q = (k : Int) ∧ ∀ x ∈ l.take k, GoodP x.fProps)
  (fun b => match b with | .inl _ => True | .inr _ => ∀ x ∈ l.take (min l.length 41), GoodP x.fProps) (min l.length 41) ⟨rfl, by simp⟩ (fun k q hk hI => by
   obtain ⟨rfl, hf⟩ := hI
   have hk1 : k < l.length := by omega
   have hx : l[k]? = some l[k] := List.getElem?_eq_getElem hk1
   have hget : getI l (k : Int) = some l[k] := by unfold getI; rw [if_pos (by omega), Int.toNat_natCast]; exact hx
   unfold law10_acts_s1
   rw [decide_eq_true (by omega), cT, decide_eq_true (by omega), bnd, cT, hget, bnd]
   by_cases h3 : (400 : Int) < (l[k].fKind.length : Int)
   ·exact .inr ⟨_, by rw [decide_eq_true h3, cT], trivial⟩
   ·obtain ⟨g, hg1, hg2⟩ := great9 hn l[k].fProps
    rw [decide_eq_false h3, cF, bnd, hg1, bnd]
    cases g with
    | true => exact .inr ⟨_, cT _ _, trivial⟩
    | false =>
     obtain ⟨h1, h2⟩ := hg2 rfl
     refine .inl ⟨_, by rw [cF, need_i (by omega) (by omega)], by omega, fun y hy => ?_⟩
     rcases (mem_take_succ hx y).1 hy with h | h
     ·exact hf y h
     ·rw [h]; exact ⟨h1, fun g hg => (h2 g hg).2⟩) (fun q hI => by
   obtain ⟨rfl, hf⟩ := hI
   unfold law10_acts_s1
   by_cases h : l.length < 41
   ·rw [decide_eq_false (by omega), cF, bnd, cF]
    exact ⟨_, rfl, hf⟩
   ·rcases Nat.lt_or_ge 41 l.length with h' | h'
    ·rw [decide_eq_true (by omega), cT, decide_eq_false (by omega), bnd, cF]
     exact ⟨_, rfl, hf⟩
    ·rw [decide_eq_false (by omega), cF, bnd, cF]
     exact ⟨_, rfl, hf⟩) (by omega)
 rw [hb, bnd]
 cases b with
 | inl u => exact ⟨true, rfl, fun h => by cases h⟩
 | inr u =>
  refine ⟨_, rfl, fun h => ?_⟩
  have hl : l.length ≤ 40 := by
   have := of_decide_eq_false h
   omega
  refine ⟨hl, fun x hx => hp x ?_⟩
  have : min l.length 41 = l.length := by omega
  rw [this, List.take_length]; exact hx
def Keeps (L : List TF0) (phys : List UInt8) (M : List TF0) : Prop := ∀ y ∈ L, y.fPhys ≠ phys → findT M y.fPhys = some y
theorem keep_loop {n : Nat} (hn : 6000 < n) {q : Int × Int × List TF0 × Int} {y : Int × List UInt8 × Int × List TF0 × Int} (hg : GoodL q.2.2.1) (hg2 : GoodL y.2.2.2.1) (hk : Keeps q.2.2.1 y.2.1 y.2.2.2.1) : loopF (law10_StoreOnce_s2 n q y) n 0 = some (.inr ()) := by
 have hf := hg.few
 refine loop_all (n := n) (f := fun k => (k : Int)) q.2.2.1.length (Sum.inr ()) (fun k hkl => ?_) ?_ (by omega)
 ·unfold law10_StoreOnce_s2
  rw [decide_eq_true (by omega), cT, getI_at z_TF0 hkl, bnd, getT hkl, need_i (by omega) (by omega)]
  by_cases hp : q.2.2.1[k].fPhys = y.2.1
  ·rw [decide_eq_true hp, cT]; rfl
  ·rw [decide_eq_false hp, cF, Get_run10 hn (s := ⟨y.2.2.2.1, y.2.2.2.2⟩) hg2.few, bnd, hk _ (List.getElem_mem hkl) hp]
   dsimp only [Option.getD_some, Option.isSome_some]
   rw [Bool.not_true, cF, decide_eq_true rfl, Bool.not_true, cF, SameR_self hn (hg.each _ (List.getElem_mem hkl)).props, bnd, Bool.not_true, cF]
   rfl
 ·unfold law10_StoreOnce_s2
  rw [decide_eq_false (by omega), cF]
structure Inv (k : Nat) (q : Int × Int × List TF0 × Int) : Prop where
  at_ : q.2.1 = (k : Int)
  made : q.1 = q.2.2.2
  few : q.2.2.1.length ≤ k
  each : ∀ x ∈ q.2.2.1, GoodT x
  ok : checkS q.2.2.1 q.2.2.2 = 0
  low : q.2.2.2 ≤ k
theorem Inv.good {k : Nat} {q : Int × Int × List TF0 × Int} (h : Inv k q) (hk : k ≤ 40) : GoodL q.2.2.1 := ⟨by have := h.few; omega, h.each⟩
theorem scan_del {phys : List UInt8} : ∀ {L : List TF0} {z z' y : Int}, z' ≤ z → scanS L z = some y → ∃ y', scanS (delT L phys) z' = some y' ∧ y' ≤ y
 | [], z, z', y, hz, h => by cases h; exact ⟨z', rfl, hz⟩
 | x :: L, z, z', y, hz, h => by
  rw [scanS] at h
  cases hok : okT x z with
  | false => rw [hok] at h; cases h
  | true =>
   rw [hok, cT] at h
   obtain ⟨h1, h2, h3, h4⟩ := okT_spec hok
   by_cases hx : x.fPhys = phys
   ·have e : delT (x :: L) phys = delT L phys := by unfold delT; rw [List.filter_cons_of_neg (by simp [hx])]
    rw [e]
    exact scan_del (by omega) h
   ·have e : delT (x :: L) phys = x :: delT L phys := by unfold delT; rw [List.filter_cons_of_pos (by simp [hx])]
    have hok' : okT x z' = true := by
     unfold okT
     rw [h1, decide_eq_true (show z' < (numV x.fPhys).1 by omega), decide_eq_true h3, h4]; rfl
    rw [e, scanS, hok', cT]
    exact scan_del (Int.le_refl _) h
theorem delete_ok {s : TC0} {phys : List UInt8} (h : (deleteS s phys).2 = 0) : ∃ x, findT s.fL phys = some x ∧ deleteS s phys = (⟨delT s.fL phys, s.fMade⟩, 0) := by
 unfold deleteS at h ⊢
 by_cases h1 : checkS s.fL s.fMade = 0
 ·rw [if_neg (fun h => h h1)] at h ⊢
  cases hf : findT s.fL phys with
  | none => rw [hf] at h; cases h
  | some x => exact ⟨x, rfl, rfl⟩
 ·rw [if_pos h1] at h; cases h
theorem del_len {L : List TF0} {phys : List UInt8} {x : TF0} (hd : (L.map (·.fPhys)).Nodup) (h : findT L phys = some x) : (delT L phys).length + 1 = L.length := by
 obtain ⟨_, _, k, hk, _⟩ := findT_some h
 have hkl := placeT_lt hk
 rw [← (place_upd (props := []) hd hk).2, List.length_append, List.length_take, List.length_drop]
 omega
theorem del_gone {L : List TF0} {phys : List UInt8} : findT (delT L phys) phys = none := by
 rw [← find_place, List.find?_eq_none]
 intro x hx
 unfold delT at hx
 have := (List.mem_filter.1 hx).2
 simpa using this
theorem sub_nodup {L : List TF0} {phys : List UInt8} (hd : (L.map (·.fPhys)).Nodup) : ((delT L phys).map (·.fPhys)).Nodup := List.Nodup.sublist (List.Sublist.map _ (by unfold delT; exact List.filter_sublist)) hd
theorem inv_stay {k : Nat} {q : Int × Int × List TF0 × Int} (h : Inv k q) : Inv (k + 1) (q.1, ((k + 1 : Nat) : Int), q.2.2.1, q.2.2.2) := ⟨rfl, h.made, by have := h.few; dsimp only; omega, h.each, h.ok, by have := h.low; dsimp only; omega⟩
theorem keeps_create {s : TC0} {x : TF0} {y : Int} (hs : scanS (s.fL ++ [x]) 0 = some y) : Keeps s.fL x.fPhys (s.fL ++ [x]) := fun w hw _ => find_of_mem (scanS_nodup hs) (List.mem_append.2 (.inl hw))
theorem keeps_update {L : List TF0} {phys : List UInt8} {props : List TD0} (hd : (L.map (·.fPhys)).Nodup) : Keeps L phys (updT L phys props) := fun w hw hne => by
 refine find_of_mem (by rw [upd_phys]; exact hd) ?_
 unfold updT
 exact List.mem_map.2 ⟨w, hw, by rw [if_neg hne]⟩
theorem keeps_delete {L : List TF0} {phys : List UInt8} (hd : (L.map (·.fPhys)).Nodup) : Keeps L phys (delT L phys) := fun w hw hne => by
 refine find_of_mem (sub_nodup hd) ?_
 unfold delT
 exact List.mem_filter.2 ⟨hw, by simp [hne]⟩
theorem turn {n : Nat} (hn : 6000 < n) {l : List TB0} (hl : l.length ≤ 40) (hp : ∀ x ∈ l, GoodP x.fProps) {k : Nat} (hk : k < l.length) {q : Int × Int × List TF0 × Int} (hI : Inv k q) : ∃ s', law10_StoreOnce_s1 n l q = some (.nx s') ∧ Inv (k + 1) s' := by
 have hx : l[k]? = some l[k] := List.getElem?_eq_getElem hk
 have hget : getI l (k : Int) = some l[k] := by unfold getI; rw [if_pos (by omega), Int.toNat_natCast]; exact hx
 have gp := hp _ (List.getElem_mem hk)
 have hg := hI.good (by omega)
 have hfew := hI.few
 obtain ⟨last, hs, hl0, hl1, hl2⟩ := checkS_zero hI.ok
 have hd := scanS_nodup hs
 have esame : law10_same n (⟨q.2.2.1, q.2.2.2⟩ : TC0) (⟨q.2.2.1, q.2.2.2⟩ : TA0) = some true := same10_own hn (s := ⟨q.2.2.1, q.2.2.2⟩) hg
 have ek : (k : Int) + 1 = ((k + 1 : Nat) : Int) := by omega
 obtain ⟨p1, p2, p3, p4⟩ := place41 l[k].fN
 unfold law10_StoreOnce_s1 law10_own
 rw [hI.at_, decide_eq_true (by omega), cT, hget, bnd, bnd, need_t (by decide), need_i (by omega) (by omega), need_t (by decide), need_i (by omega) (by omega)]
 generalize hph : (1 : Int) + ((l[k].fN.tmod 41) + 41).tmod 41 = num
 rw [Phys_run (by omega) (by omega), bnd]
 dsimp only
 have el : need (inR .i64 (((q.2.2.1.length : Nat) : Int) + 1)) = fun (y : Option (Lp (Int × List UInt8 × Int × List TF0 × Int) (Lp (Int × Int × List TF0 × Int) (Sum (List TF0 × Int) (List TF0 × Int))))) => y := funext fun y => need_i (by omega) (by omega)
 by_cases d0 : l[k].fDo = 0
 ·rw [decide_eq_true d0, cT, Create_run hn (s := ⟨q.2.2.1, q.2.2.2⟩) hg _ gp, bnd]
  by_cases he : (createS ⟨q.2.2.1, q.2.2.2⟩ l[k].fKind l[k].fProps).2.2 = 0
  ·obtain ⟨last', hs', h0, h1, h2, h3, h5, hc⟩ := create_ok he
   dsimp only at hs' h1 h2
   have hsn := scan_new hs' h1 h0 h2 h3 h5
   have hnp := num_phys (m := q.2.2.2 + 1) (by omega) h2
   have hpl := phys_len (m := q.2.2.2 + 1) (by omega) h2
   have hmade := hI.made
   have hlow := hI.low
   have elen : (((q.2.2.1 ++ [(⟨physV (q.2.2.2 + 1), l[k].fKind, l[k].fProps⟩ : TF0)]).length : Nat) : Int) = ((q.2.2.1.length : Nat) : Int) + 1 := by simp
   rw [hc]
   dsimp only
   rw [decide_eq_true rfl, cT, need_i (by omega) (by omega), bnd, number_run (by omega), bnd, hnp]
   dsimp only
   have em : q.2.2.2 + 1 = q.1 + 1 := by omega
   rw [cT, Bool.not_true, cF, decide_eq_true em, Bool.not_true, cF, cF, el, elen, decide_eq_true rfl, Bool.not_true, cF, bnd]
   unfold joinF
   dsimp only
   have hI2 : Inv (k + 1) (q.1 + 1, ((k + 1 : Nat) : Int), q.2.2.1 ++ [(⟨physV (q.2.2.2 + 1), l[k].fKind, l[k].fProps⟩ : TF0)], q.2.2.2 + 1) := ⟨rfl, by dsimp only; omega, by dsimp only; rw [List.length_append, List.length_singleton]; omega, fun x hx => by
    rcases List.mem_append.1 hx with h | h
    ·exact hI.each x h
    ·rw [List.mem_singleton.1 h]
     exact ⟨gp.few, gp.fine, by show (physV (q.2.2.2 + 1)).length ≤ 1000; omega⟩, checkS_of hsn (Int.le_refl _) h2, by dsimp only; omega⟩
   have hg2 := hI2.good (by omega)
   have hks : Keeps q.2.2.1 ((q.1 + 1, physV (q.2.2.2 + 1), 0, q.2.2.1 ++ [(⟨physV (q.2.2.2 + 1), l[k].fKind, l[k].fProps⟩ : TF0)], q.2.2.2 + 1) : Int × List UInt8 × Int × List TF0 × Int).2.1 ((q.1 + 1, physV (q.2.2.2 + 1), 0, q.2.2.1 ++ [(⟨physV (q.2.2.2 + 1), l[k].fKind, l[k].fProps⟩ : TF0)], q.2.2.2 + 1) : Int × List UInt8 × Int × List TF0 × Int).2.2.2.1 := keeps_create (s := ⟨q.2.2.1, q.2.2.2⟩) hsn
   have hok2 := hI2.ok
   have hm2 := hI2.made
   dsimp only at hg2 hok2 hm2
   have hlp := keep_loop hn (y := (q.1 + 1, physV (q.2.2.2 + 1), 0, q.2.2.1 ++ [(⟨physV (q.2.2.2 + 1), l[k].fKind, l[k].fProps⟩ : TF0)], q.2.2.2 + 1)) hg hg2 hks
   rw [esame, bnd, Bool.not_true, cF, decide_eq_true rfl, Bool.not_true, cF, Check_run hn (s := ⟨q.2.2.1 ++ [(⟨physV (q.2.2.2 + 1), l[k].fKind, l[k].fProps⟩ : TF0)], q.2.2.2 + 1⟩) hg2, bnd]
   dsimp only
   rw [hok2, decide_eq_true rfl, Bool.not_true, cF, decide_eq_true hm2.symm, Bool.not_true, bnd, cF, hlp, bnd]
   dsimp only
   rw [need_i (by omega) (by omega), ek]
   exact ⟨_, rfl, hI2⟩
  ·have hlen : (createS ⟨q.2.2.1, q.2.2.2⟩ l[k].fKind l[k].fProps).2.1 = [] := by
    unfold createS at he ⊢
    split
    ·rfl
    ·split
     ·rfl
     ·split
      ·rfl
      ·split
       ·rfl
       ·rename_i a b c d
        rw [if_neg a, if_neg b, if_neg c, if_neg d] at he
        exact absurd rfl he
   rw [decide_eq_false he, cF, bnd, number_run (by rw [hlen]; simp), bnd, cF, bnd]
   unfold joinF
   dsimp only
   rw [esame, bnd, Bool.not_true, cF, decide_eq_false he, Bool.not_false, cT, need_i (by omega) (by omega), ek]
   exact ⟨_, rfl, inv_stay hI⟩
 ·rw [decide_eq_false d0, cF]
  by_cases d1 : l[k].fDo = 1
  ·rw [decide_eq_true d1, cT, Update_run hn (s := ⟨q.2.2.1, q.2.2.2⟩) hg _ gp, bnd]
   by_cases he : (updateS ⟨q.2.2.1, q.2.2.2⟩ (physV num) l[k].fProps).2 = 0
   ·obtain ⟨last', x, hs', h0, h1, h2, hf, hcx, hb, hc⟩ := update_ok he
    dsimp only at hs' h1 h2 hf
    obtain ⟨hkn, _, _⟩ := bad_spec hb
    have hcs : ∀ w ∈ q.2.2.1, w.fPhys = physV num → checkG w.fType l[k].fProps = 0 := fun w hw e => by
     have h3 := find_of_mem hd hw
     rw [e, hf] at h3
     obtain rfl := Option.some.inj h3
     exact hcx
    have hs2 := scan_upd hkn hs' hcs
    have gu := good_upd hg (physV num) gp
    have elen : (updT q.2.2.1 (physV num) l[k].fProps).length = q.2.2.1.length := by unfold updT; rw [List.length_map]
    rw [hc]
    dsimp only
    rw [decide_eq_true rfl, cT, elen, decide_eq_true rfl, Bool.not_true, cF, bnd]
    unfold joinF
    dsimp only
    have hlow := hI.low
    have hI2 : Inv (k + 1) (q.1, ((k + 1 : Nat) : Int), updT q.2.2.1 (physV num) l[k].fProps, q.2.2.2) := ⟨rfl, hI.made, by dsimp only; omega, gu.each, checkS_of hs2 h1 h2, by dsimp only; omega⟩
    have hg2 := hI2.good (by omega)
    have hks : Keeps q.2.2.1 ((q.1, physV num, 0, updT q.2.2.1 (physV num) l[k].fProps, q.2.2.2) : Int × List UInt8 × Int × List TF0 × Int).2.1 ((q.1, physV num, 0, updT q.2.2.1 (physV num) l[k].fProps, q.2.2.2) : Int × List UInt8 × Int × List TF0 × Int).2.2.2.1 := keeps_update hd
    have hok2 := hI2.ok
    have hm2 := hI2.made
    dsimp only at hg2 hok2 hm2
    have hlp := keep_loop hn (y := (q.1, physV num, 0, updT q.2.2.1 (physV num) l[k].fProps, q.2.2.2)) hg hg2 hks
    rw [esame, bnd, Bool.not_true, cF, decide_eq_true rfl, Bool.not_true, cF, Check_run hn (s := ⟨updT q.2.2.1 (physV num) l[k].fProps, q.2.2.2⟩) hg2, bnd]
    dsimp only
    rw [hok2, decide_eq_true rfl, Bool.not_true, cF, decide_eq_true hm2.symm, Bool.not_true, bnd, cF, hlp, bnd]
    dsimp only
    rw [need_i (by omega) (by omega), ek]
    exact ⟨_, rfl, hI2⟩
   ·rw [decide_eq_false he, cF, bnd]
    unfold joinF
    dsimp only
    rw [esame, bnd, Bool.not_true, cF, decide_eq_false he, Bool.not_false, cT, need_i (by omega) (by omega), ek]
    exact ⟨_, rfl, inv_stay hI⟩
  ·rw [decide_eq_false d1, cF, Delete_run hn (s := ⟨q.2.2.1, q.2.2.2⟩) hg, bnd, Get_run10 hn (good_delete (s := ⟨q.2.2.1, q.2.2.2⟩) hg _).few, bnd]
   by_cases he : (deleteS ⟨q.2.2.1, q.2.2.2⟩ (physV num)).2 = 0
   ·obtain ⟨x, hf, hc⟩ := delete_ok he
    dsimp only at hf
    have hlen := del_len hd hf
    have gd := good_del hg (physV num)
    obtain ⟨y', hy1, hy2⟩ := scan_del (phys := physV num) (Int.le_refl 0) hs
    rw [hc]
    dsimp only
    rw [decide_eq_true rfl, cT, need_i (by omega) (by omega), decide_eq_true (by omega), Bool.not_true, cF, del_gone]
    dsimp only [Option.isSome_none]
    rw [cF, bnd]
    unfold joinF
    dsimp only
    have hlow := hI.low
    have hI2 : Inv (k + 1) (q.1, ((k + 1 : Nat) : Int), delT q.2.2.1 (physV num), q.2.2.2) := ⟨rfl, hI.made, by dsimp only; omega, gd.each, checkS_of hy1 (by dsimp only; omega) (by dsimp only; omega), by dsimp only; omega⟩
    have hg2 := hI2.good (by omega)
    have hks : Keeps q.2.2.1 ((q.1, physV num, 0, delT q.2.2.1 (physV num), q.2.2.2) : Int × List UInt8 × Int × List TF0 × Int).2.1 ((q.1, physV num, 0, delT q.2.2.1 (physV num), q.2.2.2) : Int × List UInt8 × Int × List TF0 × Int).2.2.2.1 := keeps_delete hd
    have hok2 := hI2.ok
    have hm2 := hI2.made
    dsimp only at hg2 hok2 hm2
    have hlp := keep_loop hn (y := (q.1, physV num, 0, delT q.2.2.1 (physV num), q.2.2.2)) hg hg2 hks
    rw [esame, bnd, Bool.not_true, cF, decide_eq_true rfl, Bool.not_true, cF, Check_run hn (s := ⟨delT q.2.2.1 (physV num), q.2.2.2⟩) hg2, bnd]
    dsimp only
    rw [hok2, decide_eq_true rfl, Bool.not_true, cF, decide_eq_true hm2.symm, Bool.not_true, bnd, cF, hlp, bnd]
    dsimp only
    rw [need_i (by omega) (by omega), ek]
    exact ⟨_, rfl, hI2⟩
   ·rw [decide_eq_false he, cF, bnd]
    unfold joinF
    dsimp only
    rw [esame, bnd, Bool.not_true, cF, decide_eq_false he, Bool.not_false, cT, need_i (by omega) (by omega), ek]
    exact ⟨_, rfl, inv_stay hI⟩
theorem storeOnce_true (l : List TB0) : law10_StoreOnce 10000 l = some true := by
 unfold law10_StoreOnce
 obtain ⟨g, hg1, hg2⟩ := acts10 (n := 10000) (by omega) l
 rw [hg1, bnd]
 cases g with
 | true => rw [cT, wakes10b]
 | false =>
  obtain ⟨hl, hp⟩ := hg2 rfl
  rw [cF]
  obtain ⟨b, hb, hpost⟩ := loop_inv (n := 10000) (step := law10_StoreOnce_s1 10000 l) (s0 := ((0 : Int), (0 : Int), ([] : List TF0), (0 : Int))) Inv (fun b => match b with | .inl _ => False | .inr _ => True) l.length ⟨rfl, rfl, by simp, fun x hx => (by cases hx), by decide, by decide⟩ (fun k q hk hI => .inl (turn (by omega) hl hp hk hI)) (fun q hI => by
   unfold law10_StoreOnce_s1
   rw [hI.at_, decide_eq_false (by omega), cF]
   exact ⟨_, rfl, trivial⟩) (by omega)
  rw [hb, bnd]
  cases b with
  | inl u => exact hpost.elim
  | inr u => exact wakes10b
end Go.Proofs.YtalifkcchfkgmaaGreatDoor
end

section
namespace Go.Vc
open Go
mutual
def dsz : Dat → Nat
  | .int _ _ => 1
  | .bool _ => 1
  | .str l => l.length + 1
  | .list _ ds => dszs ds + 1
  | .struct ds => dszs ds + 1
def dszs : List Dat → Nat
  | [] => 0
  | d :: ds => dsz d + dszs ds
end
theorem dszs_app : ∀ (a b : List Dat), dszs (a ++ b) = dszs a + dszs b
 | [], b => by simp [dszs]
 | d :: a, b => by simp only [List.cons_append, dszs, dszs_app a b]; omega
theorem le_sum : ∀ {l : List Nat} {x : Nat}, x ∈ l → x ≤ l.sum
 | y :: l, x, h => by
  rcases List.mem_cons.1 h with rfl | h
  ·simp
  ·have := le_sum h; simp only [List.sum_cons]; omega
section
variable {H : Type}
structure BulkOk (B : DataW H → Nat) : Prop where
  one : ∀ d, 1 ≤ B d
  str : ∀ l, B (.lit (.string l)) = l.length + 1
  slice : ∀ e s, (e.map B).sum + 1 ≤ B (.slice e s)
  agg : ∀ e, (e.map B).sum + 1 ≤ B (.agg e)
variable {enc : TypeId × Value → H} {P : Program} {w : World} {t : TypeId} {α : Type} {f : α → Dat} {m : Nat} {B : DataW H → Nat}
def OpnAt (enc : TypeId × Value → H) (P : Program) (w : World) (t : TypeId) {α : Type} (f : α → Dat) (B : DataW H → Nat) (m : Nat) : Prop :=
  ∀ cs x, DataW.trod enc P w 0 (fun _ => true) true m t cs = some x → ∃ a, Rep (Mem.of w) (f a) cs ∧ Vld (f a) ∧ dsz (f a) ≤ B x.1
theorem OpnAt.zero : OpnAt enc P w t f B 0 := fun cs x h => by simp [DataW.trod] at h
theorem opa_int {k : IntKind} (hB : BulkOk B) (ht : P.underlying t = some (.int k)) : OpnAt enc P w t (Dat.int k) B m := fun cs x h => by
 obtain ⟨a, rfl, _, hw⟩ := DataW.trod_int ht h
 exact ⟨a, rfl, hw, hB.one _⟩
theorem opa_bool (hB : BulkOk B) (ht : P.underlying t = some .bool) : OpnAt enc P w t Dat.bool B m := fun cs x h => by
 obtain ⟨a, rfl, _⟩ := DataW.trod_bool ht h
 exact ⟨a, rfl, trivial, hB.one _⟩
theorem opa_str (hB : BulkOk B) (ht : P.underlying t = some .string) : OpnAt enc P w t Dat.str B m := fun cs x h => by
 obtain ⟨s, rfl, hx, hw⟩ := DataW.trod_string ht h
 refine ⟨s.data.toList, (by show [Value.string s] = _; rw [S_eta]), by show s.data.toList.length ≤ maxLen; simpa using hw, ?_⟩
 rw [hx]
 show s.data.toList.length + 1 ≤ B (.lit (.string s.data.toList))
 rw [hB.str]
 exact Nat.le_refl _
theorem opa_slice {e : TypeId} {sz : Nat} (hB : BulkOk B) (ht : P.underlying t = some (.slice e)) (hsz : P.cellsOf e = sz) (h : OpnAt enc P w e f B m) : OpnAt enc P w t (eL sz f) B (m + 1) := fun cs x hx => by
 rcases DataW.trod_slice ht hx with ⟨rfl, hx⟩ | ⟨ad, len, cap, elems, rest, n', hn', rfl, hxe, _, hlc, hcm, hel, hat, _⟩
 ·refine ⟨[], Sli.rep (Sli.nil (sz := sz) (f := f)), by simp [Vld, eL, VldAll], ?_⟩
  have := hB.one x.1
  simpa [eL, dsz, dszs] using this
 ·obtain rfl : n' = m := by omega
  have key : ∀ k, k ≤ len → ∃ xs : List α, xs.length = k ∧ RepArr (Mem.of w) sz (xs.map f) ad ∧ (∀ x ∈ xs, Vld (f x)) ∧ dszs (xs.map f) ≤ ((elems.take k).map fun x => B x.1).sum := by
   intro k
   induction k with
   | zero => intro _; exact ⟨[], rfl, trivial, fun x hx => (by cases hx), by simp [dszs]⟩
   | succ k ih =>
    intro hk
    obtain ⟨xs, h1, h2, h3, h3b⟩ := ih (by omega)
    have hk' : k < elems.length := by omega
    have := hat k (by omega)
    rw [List.getElem?_eq_getElem hk'] at this
    obtain ⟨cs', g1, g2⟩ := Option.bind_eq_some_iff.1 this
    obtain ⟨a, g3, g4, g4b⟩ := h cs' _ g2
    obtain ⟨g5, g6⟩ := cells_of g1
    rw [hsz] at g5 g6
    refine ⟨xs ++ [a], by simp [h1], ?_, fun x hx => ?_, ?_⟩
    ·rw [List.map_append]
     have app : ∀ (ds : List Dat) (ad : Addr), RepArr (Mem.of w) sz ds ad → RepArr (Mem.of w) sz [f a] (ad.add (ds.length * sz)) → RepArr (Mem.of w) sz (ds ++ [f a]) ad := by
      intro ds
      induction ds with
      | nil => intro ad _ hh; simpa [Addr.add] using hh
      | cons d ds ih =>
       intro ad h1 h2
       refine ⟨h1.1, ih _ h1.2 ?_⟩
       rw [add_of_add]
       rw [List.length_cons, show (ds.length + 1) * sz = sz + ds.length * sz by rw [Nat.add_mul]; omega] at h2
       exact h2
     refine app _ _ h2 ⟨⟨cs', g5, g3, ?_⟩, trivial⟩
     rw [List.length_map, h1]
     exact g6
    ·rcases List.mem_append.1 hx with hx | hx
     ·exact h3 x hx
     ·simp at hx; subst hx; exact g4
    ·rw [List.map_append, dszs_app, List.take_add_one, List.getElem?_eq_getElem hk', List.map_append, List.sum_append]
     simp only [List.map_cons, List.map_nil, dszs, Option.toList_some, List.sum_cons, List.sum_nil]
     omega
  obtain ⟨xs, h1, h2, h3, h3b⟩ := key len (Nat.le_refl _)
  subst h1
  refine ⟨xs, Sli.rep ⟨hlc, fun e => (by cases e), .inr ⟨ad, rfl, h2⟩⟩, ?_, ?_⟩
  ·refine ⟨by rw [List.length_map]; omega, VldAll.mk fun d hd => ?_⟩
   obtain ⟨x, hx, rfl⟩ := List.mem_map.1 hd
   exact h3 x hx
  ·rw [hxe]
   show dszs (xs.map f) + 1 ≤ _
   have := hB.slice (elems.map (·.1)) (rest.map (·.1))
   rw [← hel, List.take_length] at h3b
   rw [List.map_map] at this
   have e : (elems.map (B ∘ fun x => x.1)) = elems.map fun x => B x.1 := rfl
   rw [e] at this
   show _ ≤ B (.slice (elems.map (·.1)) (rest.map (·.1)))
   omega
theorem opa_slice0 {e : TypeId} {sz : Nat} (hB : BulkOk B) (ht : P.underlying t = some (.slice e)) (hsz : P.cellsOf e = sz) (h : ∀ k, k < m → OpnAt enc P w e f B k) : OpnAt enc P w t (eL sz f) B m := by
 cases m with
 | zero => exact OpnAt.zero
 | succ m => exact opa_slice hB ht hsz (h m (Nat.lt_succ_self m))
theorem OpnAt.arg (h : ∀ n, OpnAt enc P w t f B n) {v : Value} {d : DataW H} {ps : List MemPlace} (ht : DataW.Trod enc P w 0 (fun _ => true) true t v d ps) : ∃ a, Rep (Mem.of w) (f a) v.cells.toList ∧ Vld (f a) ∧ dsz (f a) ≤ B d := by
 obtain ⟨fuel, hf⟩ := ht
 exact h fuel _ _ hf
theorem OpnAt.slice_arg {e : TypeId} {sz : Nat} (hB : BulkOk B) (hu : P.underlying t = some (.slice e)) (hsz : P.cellsOf e = sz) (h : ∀ n, OpnAt enc P w e f B n) {v : Value} {d : DataW H} {ps : List MemPlace} (hv : ∃ A len cap, v = .slice A len cap) (ht : DataW.Trod enc P w 0 (fun _ => true) true t v d ps) :
  ∃ A cap xs, v = .slice A xs.length cap ∧ Sli (Mem.of w) sz f A cap xs ∧ Vld (eL sz f xs) ∧ dsz (eL sz f xs) ≤ B d := by
 obtain ⟨A, len, cap, rfl⟩ := hv
 obtain ⟨xs, h1, h2⟩ := OpnAt.arg (f := eL sz f) (fun n => opa_slice0 hB hu hsz fun k _ => h k) ht
 obtain ⟨A', cap', e, hs⟩ := Rep.sli h1
 simp only [Value.cells] at e
 have e' : Value.slice A len cap = Value.slice A' xs.length cap' := by simpa using e
 cases e'
 exact ⟨A, cap, xs, rfl, hs, h2⟩
end
end Go.Vc
end

section
namespace Go.Proofs.YtalifkcchfkgmaaGreatDoor
open Go Go.Vc Go.RowKit
theorem opa_TE0 {H : Type} {enc : TypeId × Value → H} {w : World} {B : DataW H → Nat} (hB : BulkOk B) : ∀ m, OpnAt enc Tryz.prog w 76 emb_TE0 B m := by
 intro m
 induction m using Nat.strongRecOn with
 | ind m ih =>
 intro cs x h
 obtain ⟨xs, n, rfl, rfl, hlen, hxl, hf⟩ := DataW.trod_struct Tryz.underlying76 h
 have hct : Tryz.prog.cellsOf 76 = 6 := by kernel_rfl
 rw [hct] at hlen
 obtain ⟨x0, x1, x2, x3, x4, x5, rfl⟩ : ∃ x0 x1 x2 x3 x4 x5, xs = [x0, x1, x2, x3, x4, x5] := by
  match xs, hxl with
  | [x0, x1, x2, x3, x4, x5], _ => exact ⟨x0, x1, x2, x3, x4, x5, rfl⟩
 have f0 : DataW.trod enc Tryz.prog w 0 (fun _ => true) true n 62 ((cs.drop 0).take (Tryz.prog.cellsOf 62)) = some x0 := hf 0 _ rfl
 rw [show Tryz.prog.cellsOf 62 = 1 by kernel_rfl] at f0
 obtain ⟨a0, r0, v0, b0⟩ := (fun _ => opa_int hB Tryz.underlying62) n _ _ f0
 have f1 : DataW.trod enc Tryz.prog w 0 (fun _ => true) true n 4 ((cs.drop 1).take (Tryz.prog.cellsOf 4)) = some x1 := hf 1 _ rfl
 rw [show Tryz.prog.cellsOf 4 = 1 by kernel_rfl] at f1
 obtain ⟨a1, r1, v1, b1⟩ := (fun _ => opa_bool hB Tryz.underlying4) n _ _ f1
 have f2 : DataW.trod enc Tryz.prog w 0 (fun _ => true) true n 3 ((cs.drop 2).take (Tryz.prog.cellsOf 3)) = some x2 := hf 2 _ rfl
 rw [show Tryz.prog.cellsOf 3 = 1 by kernel_rfl] at f2
 obtain ⟨a2, r2, v2, b2⟩ := (fun _ => opa_int hB Tryz.underlying3) n _ _ f2
 have f3 : DataW.trod enc Tryz.prog w 0 (fun _ => true) true n 9 ((cs.drop 3).take (Tryz.prog.cellsOf 9)) = some x3 := hf 3 _ rfl
 rw [show Tryz.prog.cellsOf 9 = 1 by kernel_rfl] at f3
 obtain ⟨a3, r3, v3, b3⟩ := (fun _ => opa_str hB Tryz.underlying9) n _ _ f3
 have f4 : DataW.trod enc Tryz.prog w 0 (fun _ => true) true n 73 ((cs.drop 4).take (Tryz.prog.cellsOf 73)) = some x4 := hf 4 _ rfl
 rw [show Tryz.prog.cellsOf 73 = 1 by kernel_rfl] at f4
 obtain ⟨a4, r4, v4, b4⟩ := (opa_slice0 (m := n) (e := 76) (sz := 6) hB Tryz.underlying73 (by kernel_rfl) (fun k hk => ih k (by omega))) _ _ f4
 have f5 : DataW.trod enc Tryz.prog w 0 (fun _ => true) true n 74 ((cs.drop 5).take (Tryz.prog.cellsOf 74)) = some x5 := hf 5 _ rfl
 rw [show Tryz.prog.cellsOf 74 = 1 by kernel_rfl] at f5
 obtain ⟨a5, r5, v5, b5⟩ := (opa_slice0 (m := n) (e := 9) (sz := 1) hB Tryz.underlying74 (by kernel_rfl) (fun k _ => (fun _ => opa_str hB Tryz.underlying9) k)) _ _ f5
 refine ⟨⟨a0, a1, a2, a3, a4, a5⟩, ?_, ?_, ?_⟩
 ·rw [emb_TE0_eq]
  have hcs : RepSeq (Mem.of w) _ (cs.drop 0) := (RepSeq.cut (k := 1) r0 (by rw [List.drop_drop]; exact (RepSeq.cut (k := 1) r1 (by rw [List.drop_drop]; exact (RepSeq.cut (k := 1) r2 (by rw [List.drop_drop]; exact (RepSeq.cut (k := 1) r3 (by rw [List.drop_drop]; exact (RepSeq.cut (k := 1) r4 (by rw [List.drop_drop]; exact (RepSeq.cut (k := 1) r5 (by rw [List.drop_drop]; exact (show RepSeq (Mem.of w) [] (cs.drop 6) from List.drop_eq_nil_of_le (by omega))))))))))))))
  exact hcs
 ·rw [emb_TE0_eq]; exact ⟨v0, ⟨v1, ⟨v2, ⟨v3, ⟨v4, ⟨v5, trivial⟩⟩⟩⟩⟩⟩
 ·rw [emb_TE0_eq]
  have := hB.agg ([x0, x1, x2, x3, x4, x5].map (·.1))
  simp only [List.map_cons, List.map_nil, List.sum_cons, List.sum_nil] at this ⊢
  simp only [dsz, dszs] at *
  omega
theorem opa_TD0 {H : Type} {enc : TypeId × Value → H} {w : World} {B : DataW H → Nat} (hB : BulkOk B) : ∀ m, OpnAt enc Tryz.prog w 78 emb_TD0 B m := by
 intro m
 induction m using Nat.strongRecOn with
 | ind m ih =>
 intro cs x h
 obtain ⟨xs, n, rfl, rfl, hlen, hxl, hf⟩ := DataW.trod_struct Tryz.underlying78 h
 have hct : Tryz.prog.cellsOf 78 = 8 := by kernel_rfl
 rw [hct] at hlen
 obtain ⟨x0, x1, x2, rfl⟩ : ∃ x0 x1 x2, xs = [x0, x1, x2] := by
  match xs, hxl with
  | [x0, x1, x2], _ => exact ⟨x0, x1, x2, rfl⟩
 have f0 : DataW.trod enc Tryz.prog w 0 (fun _ => true) true n 9 ((cs.drop 0).take (Tryz.prog.cellsOf 9)) = some x0 := hf 0 _ rfl
 rw [show Tryz.prog.cellsOf 9 = 1 by kernel_rfl] at f0
 obtain ⟨a0, r0, v0, b0⟩ := (fun _ => opa_str hB Tryz.underlying9) n _ _ f0
 have f1 : DataW.trod enc Tryz.prog w 0 (fun _ => true) true n 4 ((cs.drop 1).take (Tryz.prog.cellsOf 4)) = some x1 := hf 1 _ rfl
 rw [show Tryz.prog.cellsOf 4 = 1 by kernel_rfl] at f1
 obtain ⟨a1, r1, v1, b1⟩ := (fun _ => opa_bool hB Tryz.underlying4) n _ _ f1
 have f2 : DataW.trod enc Tryz.prog w 0 (fun _ => true) true n 76 ((cs.drop 2).take (Tryz.prog.cellsOf 76)) = some x2 := hf 2 _ rfl
 rw [show Tryz.prog.cellsOf 76 = 6 by kernel_rfl] at f2
 obtain ⟨a2, r2, v2, b2⟩ := (opa_TE0 hB) n _ _ f2
 refine ⟨⟨a0, a1, a2⟩, ?_, ?_, ?_⟩
 ·rw [emb_TD0_eq]
  have hcs : RepSeq (Mem.of w) _ (cs.drop 0) := (RepSeq.cut (k := 1) r0 (by rw [List.drop_drop]; exact (RepSeq.cut (k := 1) r1 (by rw [List.drop_drop]; exact (RepSeq.cut (k := 6) r2 (by rw [List.drop_drop]; exact (show RepSeq (Mem.of w) [] (cs.drop 8) from List.drop_eq_nil_of_le (by omega))))))))
  exact hcs
 ·rw [emb_TD0_eq]; exact ⟨v0, ⟨v1, ⟨v2, trivial⟩⟩⟩
 ·rw [emb_TD0_eq]
  have := hB.agg ([x0, x1, x2].map (·.1))
  simp only [List.map_cons, List.map_nil, List.sum_cons, List.sum_nil] at this ⊢
  simp only [dsz, dszs] at *
  omega
theorem opa_TB0 {H : Type} {enc : TypeId × Value → H} {w : World} {B : DataW H → Nat} (hB : BulkOk B) : ∀ m, OpnAt enc Tryz.prog w 46 emb_TB0 B m := by
 intro m
 induction m using Nat.strongRecOn with
 | ind m ih =>
 intro cs x h
 obtain ⟨xs, n, rfl, rfl, hlen, hxl, hf⟩ := DataW.trod_struct Tryz.underlying46 h
 have hct : Tryz.prog.cellsOf 46 = 4 := by kernel_rfl
 rw [hct] at hlen
 obtain ⟨x0, x1, x2, x3, rfl⟩ : ∃ x0 x1 x2 x3, xs = [x0, x1, x2, x3] := by
  match xs, hxl with
  | [x0, x1, x2, x3], _ => exact ⟨x0, x1, x2, x3, rfl⟩
 have f0 : DataW.trod enc Tryz.prog w 0 (fun _ => true) true n 3 ((cs.drop 0).take (Tryz.prog.cellsOf 3)) = some x0 := hf 0 _ rfl
 rw [show Tryz.prog.cellsOf 3 = 1 by kernel_rfl] at f0
 obtain ⟨a0, r0, v0, b0⟩ := (fun _ => opa_int hB Tryz.underlying3) n _ _ f0
 have f1 : DataW.trod enc Tryz.prog w 0 (fun _ => true) true n 9 ((cs.drop 1).take (Tryz.prog.cellsOf 9)) = some x1 := hf 1 _ rfl
 rw [show Tryz.prog.cellsOf 9 = 1 by kernel_rfl] at f1
 obtain ⟨a1, r1, v1, b1⟩ := (fun _ => opa_str hB Tryz.underlying9) n _ _ f1
 have f2 : DataW.trod enc Tryz.prog w 0 (fun _ => true) true n 25 ((cs.drop 2).take (Tryz.prog.cellsOf 25)) = some x2 := hf 2 _ rfl
 rw [show Tryz.prog.cellsOf 25 = 1 by kernel_rfl] at f2
 obtain ⟨a2, r2, v2, b2⟩ := (fun m => opa_slice0 (e := 78) (sz := 8) hB Tryz.underlying25 (by kernel_rfl) (fun k _ => (opa_TD0 hB) k)) n _ _ f2
 have f3 : DataW.trod enc Tryz.prog w 0 (fun _ => true) true n 3 ((cs.drop 3).take (Tryz.prog.cellsOf 3)) = some x3 := hf 3 _ rfl
 rw [show Tryz.prog.cellsOf 3 = 1 by kernel_rfl] at f3
 obtain ⟨a3, r3, v3, b3⟩ := (fun _ => opa_int hB Tryz.underlying3) n _ _ f3
 refine ⟨⟨a0, a1, a2, a3⟩, ?_, ?_, ?_⟩
 ·rw [emb_TB0_eq]
  have hcs : RepSeq (Mem.of w) _ (cs.drop 0) := (RepSeq.cut (k := 1) r0 (by rw [List.drop_drop]; exact (RepSeq.cut (k := 1) r1 (by rw [List.drop_drop]; exact (RepSeq.cut (k := 1) r2 (by rw [List.drop_drop]; exact (RepSeq.cut (k := 1) r3 (by rw [List.drop_drop]; exact (show RepSeq (Mem.of w) [] (cs.drop 4) from List.drop_eq_nil_of_le (by omega))))))))))
  exact hcs
 ·rw [emb_TB0_eq]; exact ⟨v0, ⟨v1, ⟨v2, ⟨v3, trivial⟩⟩⟩⟩
 ·rw [emb_TB0_eq]
  have := hB.agg ([x0, x1, x2, x3].map (·.1))
  simp only [List.map_cons, List.map_nil, List.sum_cons, List.sum_nil] at this ⊢
  simp only [dsz, dszs] at *
  omega
theorem bulk_all {H : Type} (l : List (DataW H)) : Rows.uptoBulkAll l = (l.map Rows.uptoBulk).sum := by
 induction l with
 | nil => simp [Rows.uptoBulkAll]
 | cons x l ih => simp only [Rows.uptoBulkAll, List.map_cons, List.sum_cons, ih]
theorem bulk_ok {H : Type} : BulkOk (H := H) Rows.uptoBulk where
 one d := by
  cases d with
  | lit l => cases l <;> simp [Rows.uptoBulk]
  | nil => simp [Rows.uptoBulk]
  | ptr d => simp [Rows.uptoBulk]
  | slice elems spare => simp [Rows.uptoBulk]
  | agg parts => simp [Rows.uptoBulk]
  | iface t d => simp [Rows.uptoBulk]
  | map entries => simp [Rows.uptoBulk]
  | held h => simp [Rows.uptoBulk]
 str l := by simp [Rows.uptoBulk]
 slice e s := by
  simp only [Rows.uptoBulk]
  rw [bulk_all e]
  omega
 agg e := by
  simp only [Rows.uptoBulk]
  rw [bulk_all e]
  exact Nat.le_refl _
theorem bulk_one {H : Type} {d : DataW H} {l : List (DataW H)} (h : Rows.uptoSmall H l = true) (hd : d ∈ l) : Rows.uptoBulk d ≤ 1048576 := by
 unfold Rows.uptoSmall at h
 have h := of_decide_eq_true h
 rw [bulk_all] at h
 have := le_sum (List.mem_map_of_mem (f := Rows.uptoBulk) hd)
 omega
end Go.Proofs.YtalifkcchfkgmaaGreatDoor
end
