/-
  Texts of this claim, packed (what nothing names is left out): CloudP1, LOnce, CloudP2, CloudLOnce, Vo2, Op. Own work, partly printed by own programs. No condition.
-/
import Derived.Test.YtocefedhenhbfaaGreatDoorPkO5
import Derived.Test.YtocefedhenhbfaaGreatDoorPkO1
import Derived.Test.YtocefedhenhbfaaGreatDoorPkO2
import Derived.Test.YtocefedhenhbfaaGreatDoorRows
set_option linter.unusedVariables false
set_option linter.unusedSimpArgs false
set_option maxHeartbeats 2000000
section
namespace Go.Proofs.YtocefedhenhbfaaGreatDoor
open Go Go.Vc Go.RowKit
structure CS where
  L : List TD0
  made : Int
  calls : List TG0
  ans : List (Int × TC0)
  inn : List TG0
  good : Int
def new11 : CS := ⟨[], 0, [], [], [], 0⟩
def CS.tup (c : CS) : List TD0 × Int × List TG0 × List (Int × TC0) × List TG0 × Int := (c.L, c.made, c.calls, c.ans, c.inn, c.good)
theorem evC (x : TG0) : (⟨x.fToken, x.fKind, x.fPhys, x.fType, x.fProps⟩ : TG0) = x := by cases x; rfl
set_option maxRecDepth 100000 in
theorem wakes11 : law11_wakes 10000 = some true := by decide +kernel
theorem wakes11b : ((law11_wakes 10000).bind fun x => some x) = some true := by rw [wakes11, bnd]
theorem unknown11 {n : Nat} {l : List TF0} (hl : l.length < n) (h6 : l.length ≤ 6000) : slices_ContainsFuncapi_Given_api_Given_2 n l = some (!knownV l) := by
 unfold slices_ContainsFuncapi_Given_api_Given_2 slices_IndexFuncapi_Given_api_Given_2 knownV
 obtain ⟨b, hb, hp⟩ := loop_inv (step := slices_IndexFuncapi_Given_api_Given_2_s1 n l) (n := n) (s0 := (0 : Int)) (fun k s => s = (k : Int) ∧ ∀ x ∈ l.take k, x.fUnknown = false)
  (fun b => match b with | .inl i => 0 ≤ i ∧ l.any (·.fUnknown) = true | .inr _ => l.any (·.fUnknown) = false) l.length ⟨rfl, by simp⟩
  (fun k s hk hI => by
   obtain ⟨rfl, hf⟩ := hI
   have hx : l[k]? = some l[k] := List.getElem?_eq_getElem hk
   have hg : l.getD k z_TF0 = l[k] := by simp [List.getD, hk]
   unfold slices_IndexFuncapi_Given_api_Given_2_s1 cloud_check_1
   rw [decide_eq_true (by omega), cT, getI_at z_TF0 hk, bnd, bnd, hg]
   cases hv : l[k].fUnknown with
   | true => exact .inr ⟨_, rfl, by omega, List.any_eq_true.2 ⟨_, List.getElem_mem hk, hv⟩⟩
   | false =>
    rw [cF, need_i (by omega) (by omega)]
    refine .inl ⟨_, rfl, rfl, fun y hy => ?_⟩
    rcases (mem_take_succ hx y).1 hy with h | h
    ·exact hf y h
    ·rw [h]; exact hv)
  (fun s hI => by
   obtain ⟨rfl, hf⟩ := hI
   rw [List.take_length] at hf
   unfold slices_IndexFuncapi_Given_api_Given_2_s1
   rw [decide_eq_false (by omega), cF]
   refine ⟨_, rfl, ?_⟩
   show l.any (·.fUnknown) = false
   rw [List.any_eq_false]
   intro x hx
   rw [hf x hx]; decide) hl
 rw [hb, bnd]
 cases b with
 | inl i =>
  rw [bnd, Bool.not_not, hp.2, decide_eq_true hp.1]
 | inr u =>
  have hp : l.any (·.fUnknown) = false := hp
  rw [bnd, Bool.not_not, hp]; rfl
def badC (x : TG0) : Bool := decide (x.fToken < 1) || (decide (x.fKind < 0) || (decide ((2 : Int) < x.fKind) || !(decide (x.fKind = 0) == decide (x.fPhys = []))))
def badD (x : TG0) : Bool := (decide (x.fKind = 2) && decide ((0 : Int) < ((x.fProps.length : Nat) : Int))) || (decide (x.fKind = 1) && decide (x.fType = []))
def checkC (x : TG0) : Int := bif badC x then 2 else bif badD x then 2 else bif decide (x.fKind = 2) then 0 else bif !knownV x.fProps then 2 else checkG x.fType x.fProps
theorem checkC_run {n : Nat} (hn : 6000 < n) {x : TG0} (hp : GoodP x.fProps) : cloud_check n x.fToken x.fKind x.fPhys x.fType x.fProps = some (checkC x, x.fToken, x.fKind, x.fPhys, x.fType, x.fProps) := by
 have e4 : ∀ a b c d : Bool, (bif a then some a else bif b then some b else bif c then some c else some d : Option Bool) = some (a || (b || (c || d))) := by intro a b c d; cases a <;> cases b <;> cases c <;> rfl
 have e2 : ∀ a b : Bool, (bif a then some b else some false : Option Bool) = some (a && b) := by intro a b; cases a <;> rfl
 have e3 : ∀ a b c : Bool, (bif a then some a else bif b then some c else some false : Option Bool) = some (a || (b && c)) := by intro a b c; cases a <;> cases b <;> rfl
 have h6 := hp.few
 unfold cloud_check checkC
 rw [e4, bnd, e2, bnd, e3, bnd, unknown11 (by omega) (by omega), bnd, schemaCheck_run hn x.fType hp.few hp.fine]
 show ((bif badC x then _ else bif badD x then _ else bif decide (x.fKind = 2) then _ else bif !knownV x.fProps then _ else _ : Option (Lp Unit _))).bind _ = _
 cases badC x <;> cases badD x <;> cases decide (x.fKind = 2) <;> cases knownV x.fProps <;> rfl
def submitC (c : CS) (x : TG0) : Int × CS :=
  if checkC x ≠ 0 then (checkC x, c) else if (mget c.ans x.fToken).isSome = true then (0, c)
  else (0, ⟨c.L, c.made, c.calls ++ [x], mput c.ans x.fToken z_TC0, c.inn ++ [x], c.good⟩)
theorem submit_run {n : Nat} (hn : 6000 < n) {c : CS} {x : TG0} (hp : GoodP x.fProps) (hc : c.calls.length ≤ 1000) (hi : c.inn.length ≤ 1000) :
  cloud_Cloud_Submit n c.L c.made c.calls c.ans c.inn c.good x = some ((submitC c x).1, (submitC c x).2.tup) := by
 have h6 := hp.few
 unfold cloud_Cloud_Submit submitC slices_Cloneapi_Given_api_Given
 rw [checkC_run hn hp, bnd]
 by_cases h0 : checkC x = 0
 ·rw [decide_eq_true h0, Bool.not_true, cF, if_neg (fun h => h h0)]
  cases hm : (mget c.ans x.fToken).isSome with
  | true => rw [Bool.not_true, cF, if_pos rfl]; rfl
  | false =>
   rw [Bool.not_false, cT, if_neg (by decide), need_t (by dsimp only; omega), bnd, need_t (by omega), bnd, need_t (by omega), bnd]
   rfl
 ·rw [decide_eq_false h0, Bool.not_false, cT, if_pos h0]; rfl
def bad11 : TC0 := ⟨true, false, []⟩
def effC (c : CS) (x : TG0) : TC0 × CS :=
  if x.fKind = 0 then if (createS ⟨c.L, c.made⟩ x.fType x.fProps).2.2 = 0 then (⟨true, true, (createS ⟨c.L, c.made⟩ x.fType x.fProps).2.1⟩, ⟨(createS ⟨c.L, c.made⟩ x.fType x.fProps).1.fL, (createS ⟨c.L, c.made⟩ x.fType x.fProps).1.fMade, c.calls, c.ans, c.inn, c.good + 1⟩) else (bad11, c)
  else if x.fKind = 1 then if (updateS ⟨c.L, c.made⟩ x.fPhys x.fProps).2 = 0 then (⟨true, true, []⟩, ⟨(updateS ⟨c.L, c.made⟩ x.fPhys x.fProps).1.fL, (updateS ⟨c.L, c.made⟩ x.fPhys x.fProps).1.fMade, c.calls, c.ans, c.inn, c.good⟩) else (bad11, c)
  else if x.fKind = 2 then if (deleteS ⟨c.L, c.made⟩ x.fPhys).2 = 0 then (⟨true, true, []⟩, ⟨(deleteS ⟨c.L, c.made⟩ x.fPhys).1.fL, (deleteS ⟨c.L, c.made⟩ x.fPhys).1.fMade, c.calls, c.ans, c.inn, c.good⟩) else (bad11, c)
  else (⟨true, true, []⟩, c)
theorem effect_run {n : Nat} (hn : 6000 < n) {c : CS} {x : TG0} (hp : GoodP x.fProps) (hg : GoodL c.L) (h0 : 0 ≤ c.good) (h1 : c.good ≤ 1000) :
  cloud_Cloud_effect n c.L c.made c.calls c.ans c.inn c.good x.fToken x.fKind x.fPhys x.fType x.fProps = some ((effC c x).1, (effC c x).2.L, (effC c x).2.made, (effC c x).2.calls, (effC c x).2.ans, (effC c x).2.inn, (effC c x).2.good, x.fToken, x.fKind, x.fPhys, x.fType, x.fProps) := by
 unfold cloud_Cloud_effect effC
 have hgs : GoodL (⟨c.L, c.made⟩ : TB0).fL := hg
 rw [Create_run hn hgs x.fType hp, bnd, Update_run hn hgs x.fPhys hp, bnd, Delete_run hn hgs x.fPhys, bnd]
 by_cases k0 : x.fKind = 0
 ·rw [decide_eq_true k0, cT, bnd, if_pos k0]
  dsimp only
  by_cases e0 : (createS ⟨c.L, c.made⟩ x.fType x.fProps).2.2 = 0
  ·rw [decide_eq_true e0, Bool.not_true, cF, if_pos e0, cT, need_i (by omega) (by omega)]
  ·rw [decide_eq_false e0, Bool.not_false, cT, if_neg e0]; rfl
 ·rw [decide_eq_false k0, cF, if_neg k0]
  by_cases k1 : x.fKind = 1
  ·rw [decide_eq_true k1, cT, bnd, if_pos k1]
   dsimp only
   by_cases e0 : (updateS ⟨c.L, c.made⟩ x.fPhys x.fProps).2 = 0
   ·rw [decide_eq_true e0, Bool.not_true, cF, if_pos e0, cF]
   ·rw [decide_eq_false e0, Bool.not_false, cT, if_neg e0]; rfl
  ·rw [decide_eq_false k1, cF, if_neg k1]
   by_cases k2 : x.fKind = 2
   ·rw [decide_eq_true k2, cT, bnd, if_pos k2]
    dsimp only
    by_cases e0 : (deleteS ⟨c.L, c.made⟩ x.fPhys).2 = 0
    ·rw [decide_eq_true e0, Bool.not_true, cF, if_pos e0, cF]
    ·rw [decide_eq_false e0, Bool.not_false, cT, if_neg e0]; rfl
   ·rw [decide_eq_false k2, cF, bnd, if_neg k2]
    dsimp only
    rw [decide_eq_true rfl, Bool.not_true, cF, cF]
def cutC (c : CS) (k : Nat) : CS := ⟨c.L, c.made, c.calls, c.ans, c.inn.take k ++ c.inn.drop (k + 1), c.good⟩
def outC (c : CS) (k : Nat) (well : Bool) : TC0 × CS := bif well then effC (cutC c k) (c.inn.getD k z_TG0) else (bad11, cutC c k)
def tellC (r : TC0 × CS) (t : Int) : CS := ⟨r.2.L, r.2.made, r.2.calls, mput r.2.ans t r.1, r.2.inn, r.2.good⟩
def endC (c : CS) (k : Int) (well : Bool) : Int × TC0 × Int × CS :=
  if 0 ≤ k ∧ k < c.inn.length then ((c.inn.getD k.toNat z_TG0).fToken, (outC c k.toNat well).1, 0, tellC (outC c k.toNat well) (c.inn.getD k.toNat z_TG0).fToken) else (0, z_TC0, 4, c)
theorem getD_memC {l : List TG0} {k : Nat} (hk : k < l.length) : l.getD k z_TG0 ∈ l := by simp [List.getD, hk]
theorem end_run {n : Nat} (hn : 6000 < n) {c : CS} (k : Int) (well : Bool) (hp : ∀ x ∈ c.inn, GoodP x.fProps) (hg : GoodL c.L) (hi : c.inn.length ≤ 1000) (h0 : 0 ≤ c.good) (h1 : c.good ≤ 1000) :
  cloud_Cloud_End n c.L c.made c.calls c.ans c.inn c.good k well = some ((endC c k well).1, (endC c k well).2.1, (endC c k well).2.2.1, (endC c k well).2.2.2.tup) := by
 unfold cloud_Cloud_End endC
 by_cases hk : 0 ≤ k ∧ k < c.inn.length
 ·obtain ⟨m, rfl⟩ := Int.eq_ofNat_of_zero_le hk.1
  have hm : m < c.inn.length := by omega
  have em : (m : Int).toNat = m := by omega
  rw [decide_eq_false (by omega), cF, decide_eq_false (by omega), bnd, cF, if_pos hk, getI_at z_TG0 hm, bnd, need_i (by omega) (by omega), need_t (by omega), need_t (by omega), need_t (by omega), need_t (by omega), bnd, em]
  cases well with
  | false => rw [cF, bnd]; rfl
  | true =>
   have := effect_run hn (c := cutC c m) (x := c.inn.getD m z_TG0) (hp _ (getD_memC hm)) hg h0 h1
   rw [cT]
   unfold cutC at this
   dsimp only at this
   rw [this, bnd, bnd]
   rfl
 ·rw [if_neg hk]
  have e : (bif decide (k < 0) then some true else some (decide (((c.inn.length : Nat) : Int) ≤ k)) : Option Bool) = some true := by
   by_cases h : k < 0
   ·rw [decide_eq_true h, cT]
   ·rw [decide_eq_false h, cF, decide_eq_true (by omega)]
  rw [e, bnd, cT]
  rfl
theorem clone11 {n : Nat} {L : List TD0} (hl : L.length ≤ 1000) : slices_Cloneapi_Thing_api_Thing n L = some L := by
 unfold slices_Cloneapi_Thing_api_Thing
 rw [need_t (by omega)]
theorem things_run {n : Nat} {c : CS} (hg : GoodL c.L) : cloud_Cloud_Things n c.L c.made c.calls c.ans c.inn c.good = some (c.L, c.tup) := by
 have := hg.few
 unfold cloud_Cloud_Things
 rw [clone11 (by omega), bnd]; rfl
theorem made_run {n : Nat} {c : CS} : cloud_Cloud_Made n c.L c.made c.calls c.ans c.inn c.good = some (c.good, c.tup) := rfl
structure OkC (m : Nat) (c : CS) : Prop where
  good : GoodL c.L
  few : c.L.length ≤ m
  calls : c.calls.length ≤ m
  inn : c.inn.length ≤ m
  props : ∀ x ∈ c.inn, GoodP x.fProps
  g0 : 0 ≤ c.good
  g1 : c.good ≤ m
theorem OkC.new : OkC 0 new11 := ⟨⟨by decide, fun x hx => (by cases hx)⟩, by decide, by decide, by decide, fun x hx => (by cases hx), by decide, by decide⟩
theorem OkC.le {m k : Nat} {c : CS} (h : OkC m c) (hmk : m ≤ k) : OkC k c := ⟨h.good, Nat.le_trans h.few hmk, Nat.le_trans h.calls hmk, Nat.le_trans h.inn hmk, h.props, h.g0, by have := h.g1; omega⟩
theorem OkC.submit {m : Nat} {c : CS} (h : OkC m c) {x : TG0} (hp : GoodP x.fProps) : OkC (m + 1) (submitC c x).2 := by
 unfold submitC
 split
 ·exact h.le (by omega)
 ·split
  ·exact h.le (by omega)
  ·refine ⟨h.good, by have := h.few; show c.L.length ≤ m + 1; omega, by have := h.calls; show (c.calls ++ [x]).length ≤ m + 1; simp; omega, by have := h.inn; show (c.inn ++ [x]).length ≤ m + 1; simp; omega, fun y hy => ?_, h.g0, by have := h.g1; show c.good ≤ ((m + 1 : Nat) : Int); omega⟩
   rcases List.mem_append.1 hy with hy | hy
   ·exact h.props y hy
   ·rw [List.mem_singleton.1 hy]; exact hp
theorem create_len {s : TB0} {kind : List UInt8} {props : List TF0} : (createS s kind props).1.fL.length ≤ s.fL.length + 1 := by
 unfold createS
 split
 ·exact Nat.zero_le _
 ·split
  ·exact Nat.zero_le _
  ·split
   ·exact Nat.zero_le _
   ·split
    ·exact Nat.zero_le _
    ·simp
theorem update_len {s : TB0} {phys : List UInt8} {props : List TF0} : (updateS s phys props).1.fL.length ≤ s.fL.length := by
 unfold updateS
 split
 ·exact Nat.zero_le _
 ·split
  ·exact Nat.zero_le _
  ·split
   ·exact Nat.zero_le _
   ·split
    ·exact Nat.zero_le _
    ·unfold updT; simp
theorem delete_len {s : TB0} {phys : List UInt8} : (deleteS s phys).1.fL.length ≤ s.fL.length := by
 unfold deleteS
 split
 ·exact Nat.zero_le _
 ·split
  ·exact Nat.zero_le _
  ·exact List.length_filter_le _ _
theorem OkC.eff {m : Nat} {c : CS} (h : OkC m c) (hm : m < 200) {x : TG0} (hp : GoodP x.fProps) : OkC (m + 1) (effC c x).2 := by
 have hf := h.few
 have hg := h.g1
 have hg0 := h.g0
 have hi := h.inn
 have hc := h.calls
 have key : ∀ (s : TB0) (g : Int), GoodL s.fL → s.fL.length ≤ m + 1 → 0 ≤ g → g ≤ ((m + 1 : Nat) : Int) → OkC (m + 1) ⟨s.fL, s.fMade, c.calls, c.ans, c.inn, g⟩ := fun s g a b d e => ⟨a, b, Nat.le_trans hc (by omega), Nat.le_trans hi (by omega), h.props, d, e⟩
 unfold effC
 split
 ·split
  ·have := create_len (s := ⟨c.L, c.made⟩) (kind := x.fType) (props := x.fProps)
   exact key _ _ (good_create (s := ⟨c.L, c.made⟩) h.good (by show c.L.length < 200; omega) _ hp) (by have e : (⟨c.L, c.made⟩ : TB0).fL = c.L := rfl; rw [e] at this; omega) (by omega) (by omega)
  ·exact h.le (by omega)
 ·split
  ·split
   ·have := update_len (s := ⟨c.L, c.made⟩) (phys := x.fPhys) (props := x.fProps)
    exact key _ _ (good_update (s := ⟨c.L, c.made⟩) h.good _ hp) (by have e : (⟨c.L, c.made⟩ : TB0).fL = c.L := rfl; rw [e] at this; omega) (by omega) (by omega)
   ·exact h.le (by omega)
  ·split
   ·split
    ·have := delete_len (s := ⟨c.L, c.made⟩) (phys := x.fPhys)
     exact key _ _ (good_delete (s := ⟨c.L, c.made⟩) h.good _) (by have e : (⟨c.L, c.made⟩ : TB0).fL = c.L := rfl; rw [e] at this; omega) (by omega) (by omega)
    ·exact h.le (by omega)
   ·exact h.le (by omega)
theorem mem_cut {α : Type} {l : List α} {k : Nat} {x : α} (h : x ∈ l.take k ++ l.drop (k + 1)) : x ∈ l := by
 rcases List.mem_append.1 h with h | h
 ·exact List.mem_of_mem_take h
 ·exact List.mem_of_mem_drop h
theorem OkC.cut {m : Nat} {c : CS} (h : OkC m c) (k : Nat) : OkC m (cutC c k) := ⟨h.good, h.few, h.calls, by have := h.inn; show (c.inn.take k ++ c.inn.drop (k + 1)).length ≤ m; simp; omega, fun x hx => h.props x (mem_cut hx), h.g0, h.g1⟩
theorem OkC.end_ {m : Nat} {c : CS} (h : OkC m c) (hm : m < 200) (k : Int) (well : Bool) : OkC (m + 1) (endC c k well).2.2.2 := by
 unfold endC
 split
 ·rename_i hk
  have hb : OkC (m + 1) (outC c k.toNat well).2 := by
   unfold outC
   cases well with
   | false => exact (h.cut _).le (by omega)
   | true => exact (h.cut _).eff hm (h.props _ (getD_memC (by omega)))
  exact ⟨hb.good, hb.few, hb.calls, hb.inn, hb.props, hb.g0, hb.g1⟩
 ·exact h.le (by omega)
theorem sameT_self {n : Nat} (hn : 6000 < n) {L : List TD0} (hg : GoodL L) : ref11_SameThings n L L = some true := by
 have hl := hg.few
 unfold ref11_SameThings
 rw [decide_eq_true rfl, Bool.not_true, cF]
 have l1 := loop_all (step := ref11_SameThings_s1 n L L) (n := n) (fun k => (k : Int)) L.length (.inr ()) (fun k hk => by
  unfold ref11_SameThings_s1
  rw [decide_eq_true (by omega), cT, getI_at z_TD0 hk, bnd, bnd, decide_eq_true rfl, Bool.not_true, cF, bnd, bnd, decide_eq_true rfl, Bool.not_true, cF, bnd, bnd, SameR_self hn ((hg.each _ (by simp [List.getD, hk])).props), bnd, Bool.not_true, cF, need_i (by omega) (by omega)]
  rfl) (by
  unfold ref11_SameThings_s1
  rw [decide_eq_false (by omega), cF]) (by omega)
 have e0 : ((0 : Nat) : Int) = 0 := rfl
 simp only [e0] at l1
 rw [l1, bnd]
theorem great11 {n : Nat} (hn : 6000 < n) (x : TG0) : ∃ g, ref11_Great n x = some g ∧ (g = false → GoodP x.fProps) := by
 unfold ref11_Great
 by_cases h1 : (200 : Int) < (x.fPhys.length : Int)
 ·exact ⟨true, by rw [decide_eq_true h1, cT], fun h => by cases h⟩
 rw [decide_eq_false h1, cF]
 by_cases h2 : (200 : Int) < (x.fType.length : Int)
 ·exact ⟨true, by rw [decide_eq_true h2, cT], fun h => by cases h⟩
 rw [decide_eq_false h2, cF]
 obtain ⟨g, hg, hf⟩ := great9 hn x.fProps
 exact ⟨g, by rw [hg, bnd], fun h => ⟨(hf h).1, fun y hy => ((hf h).2 y hy).2⟩⟩
theorem greatL11 {n : Nat} (hn : 6000 < n) (l : List TA0) : ∃ g, law11_great n l = some g ∧ (g = false → l.length ≤ 100 ∧ ∀ x ∈ l, GoodP x.fX.fProps) := by
 unfold law11_great
 by_cases hl : (100 : Int) < ((l.length : Nat) : Int)
 ·exact ⟨true, by rw [decide_eq_true hl, cT], fun h => by cases h⟩
 rw [decide_eq_false hl, cF]
 obtain ⟨b, hb, hp⟩ := loop_inv (step := law11_great_s1 n l) (n := n) (s0 := (0 : Int)) (fun k s => s = (k : Int) ∧ ∀ x ∈ l.take k, GoodP x.fX.fProps)
  (fun b => match b with | .inl _ => True | .inr _ => ∀ x ∈ l, GoodP x.fX.fProps) l.length ⟨rfl, by simp⟩
  (fun k s hk hI => by
   obtain ⟨rfl, hf⟩ := hI
   have hx : l[k]? = some l[k] := List.getElem?_eq_getElem hk
   have hg : l.getD k z_TA0 = l[k] := by simp [List.getD, hk]
   unfold law11_great_s1
   rw [decide_eq_true (by omega), cT, getI_at z_TA0 hk, bnd, hg, evC]
   obtain ⟨g, hgr, hgf⟩ := great11 hn l[k].fX
   rw [hgr, bnd]
   cases g with
   | true => exact .inr ⟨_, rfl, trivial⟩
   | false =>
    rw [cF, need_i (by omega) (by omega)]
    refine .inl ⟨_, rfl, rfl, fun y hy => ?_⟩
    rcases (mem_take_succ hx y).1 hy with h | h
    ·exact hf y h
    ·rw [h]; exact hgf rfl)
  (fun s hI => by
   obtain ⟨rfl, hf⟩ := hI
   rw [List.take_length] at hf
   unfold law11_great_s1
   rw [decide_eq_false (by omega), cF]
   exact ⟨_, rfl, hf⟩) (by omega)
 rw [hb, bnd]
 cases b with
 | inl u => exact ⟨true, rfl, fun h => by cases h⟩
 | inr u => exact ⟨false, rfl, fun _ => ⟨by omega, hp⟩⟩
def cloud_Cloud_Ask (n : Nat) (d0_0 : List TD0) (d0_1 : Int) (d0_2 : List TG0) (d0_3 : List (Int × TC0)) (d0_4 : List TG0) (d0_5 : Int) (d1 : Int) : Option (TC0 × Bool × List TD0 × Int × List TG0 × (List (Int × TC0)) × List TG0 × Int) :=
  some ((((mget d0_3 d1).getD z_TC0), ((mget d0_3 d1).isSome), d0_0, d0_1, d0_2, d0_3, d0_4, d0_5))
theorem cloud_Cloud_Ask_ok (n : Nat) (M : Mem) (hG : GL M) (b0 : Nat) (d0_0 : List TD0) (A_1 : Option Addr) (cap_1 : Nat) (h_1 : Sli M 3 emb_TD0 A_1 cap_1 d0_0) (d0_1 : Int) (d0_2 : List TG0) (A_2 : Option Addr) (cap_2 : Nat) (cs_1 : List Value) (hr_1 : RepSeq M (d0_2.map emb_TG0) cs_1) (m0_3 : Nat) (d0_3 : List (Int × TC0)) (d0_4 : List TG0) (A_3 : Option Addr) (cap_3 : Nat) (cs_2 : List Value) (hr_2 : RepSeq M (d0_4.map emb_TG0) cs_2) (d0_5 : Int) (d1 : Int) (r : TC0 × Bool × List TD0 × Int × List TG0 × (List (Int × TC0)) × List TG0 × Int) (hF : cloud_Cloud_Ask n d0_0 d0_1 d0_2 d0_3 d0_4 d0_5 d1 = some r) : OkH Tryz.prog M [Ent.obj b0 (.cells #[.slice A_1 d0_0.length cap_1, .int .i64 d0_1, .slice A_2 d0_2.length cap_2, .map (some m0_3), .slice A_3 d0_4.length cap_3, .int .i64 d0_5] 82 (0, 0)), Ent.row 42 5 (.slice A_2 d0_2.length cap_2) d0_2.length cs_1, Ent.obj m0_3 (mapO (Value.int .i64) (fun x : TC0 => Value.agg #[.bool x.fEnded, .bool x.fOk, S x.fPhys]) d0_3), Ent.row 42 5 (.slice A_3 d0_4.length cap_3) d0_4.length cs_2] 28 [.pointer (some (⟨b0, 0, none⟩)), .int .i64 d1] (fun M' E' v => ∃ (c0 : List Value) (A_4 : Option Addr) (cap_4 : Nat) (A_5 : Option Addr) (cap_5 : Nat) (cs_3 : List Value) (A_6 : Option Addr) (cap_6 : Nat) (cs_4 : List Value), v = .tuple #[.agg c0.toArray, .bool r.2.1] ∧ E' = [Ent.obj b0 (.cells #[.slice A_4 r.2.2.1.length cap_4, .int .i64 r.2.2.2.1, .slice A_5 r.2.2.2.2.1.length cap_5, .map (some m0_3), .slice A_6 r.2.2.2.2.2.2.1.length cap_6, .int .i64 r.2.2.2.2.2.2.2] 82 (0, 0)), Ent.row 42 5 (.slice A_5 r.2.2.2.2.1.length cap_5) r.2.2.2.2.1.length cs_3, Ent.obj m0_3 (mapO (Value.int .i64) (fun x : TC0 => Value.agg #[.bool x.fEnded, .bool x.fOk, S x.fPhys]) r.2.2.2.2.2.1), Ent.row 42 5 (.slice A_6 r.2.2.2.2.2.2.1.length cap_6) r.2.2.2.2.2.2.1.length cs_4] ∧ Rep M' (emb_TC0 r.1) c0 ∧ Sli M' 3 emb_TD0 A_4 cap_4 r.2.2.1 ∧ RepSeq M' (r.2.2.2.2.1.map emb_TG0) cs_3 ∧ RepSeq M' (r.2.2.2.2.2.2.1.map emb_TG0) cs_4) := by
 unfold cloud_Cloud_Ask at hF
 intro M1 hM0 w0 H w p0
 replace hG := GL.mono hM0 hG
 replace h_1 := h_1.mono hM0
 replace hr_1 := RepSeq.mono hM0 _ _ hr_1
 replace hr_2 := RepSeq.mono hM0 _ _ hr_2
 refine R_enter 22 Tryz.func28 rfl rfl (by simp) fun a0 f0 => RR (Y12 f0 p0 (.cells #[.bool false, .bool false, S []] 45 (0, 0)) fun b_1 w_1 p_1 _ f => Y f 1 fun _ f => eT (R_seq (RR (Y f 1 fun _ f => Z (v := .bool false) f (X_ptrNil (q := some (⟨b0, 0, none⟩)) (e := 82) rfl (by kernel_rfl) (by kernel_rfl) (by kernel_rfl) _) fun _ f => eT (Y7 f (wp_skip (T_n (RR (Y f 3 fun _ f => ?_)))))))))
 refine Z f (Y33 (v := .map (some m0_3)) rfl (ad := ⟨b0, 3, none⟩) (p_1.ownCell 1 rfl 3)) fun _ f => Y f 1 fun _ f => Z (v := .tuple #[.agg #[.bool ((mget d0_3 d1).getD z_TC0).fEnded, .bool ((mget d0_3 d1).getD z_TC0).fOk, S ((mget d0_3 d1).getD z_TC0).fPhys], .bool (mget d0_3 d1).isSome]) f (Y35 (ek := (Value.int .i64)) (ev := (fun x : TC0 => Value.agg #[.bool x.fEnded, .bool x.fOk, S x.fPhys])) (m := d0_3) (k := d1) (z := z_TC0) (kt := 3) (et := 45) rfl (intKey (by kernel_rfl)) (p_1.ownObj 3 rfl)) fun _ f => Y f 3 fun _ f => Y12 f p_1 (.cells #[.bool false, .bool false, S []] 45 (0, 0)) fun b_2 w_2 p_2 _ f => Y28 (vs := [.bool ((mget d0_3 d1).getD z_TC0).fEnded, .bool ((mget d0_3 d1).getD z_TC0).fOk, S ((mget d0_3 d1).getD z_TC0).fPhys]) (j := 0) f p_2 rfl rfl (by simp [Value.oneCell', S]) (by simp) (by decide) (cs' := #[.bool ((mget d0_3 d1).getD z_TC0).fEnded, .bool ((mget d0_3 d1).getD z_TC0).fOk, S ((mget d0_3 d1).getD z_TC0).fPhys]) (by kernel_rfl) fun w_3 p_3 _ f => Y f 1 fun _ f => eT (RR (Z (v := .agg #[.bool ((mget d0_3 d1).getD z_TC0).fEnded, .bool ((mget d0_3 d1).getD z_TC0).fOk, S ((mget d0_3 d1).getD z_TC0).fPhys]) f (Y34 (cs := [.bool ((mget d0_3 d1).getD z_TC0).fEnded, .bool ((mget d0_3 d1).getD z_TC0).fOk, S ((mget d0_3 d1).getD z_TC0).fPhys]) rfl (ad := ⟨b_2, 0, none⟩) (own_cells (p_3.ownCell 0 rfl) 0 rfl)) fun _ f => Y f 1 fun _ f => ?_))
 have p_4 := p_3.pl [1]
 refine Y28 (vs := [.bool ((mget d0_3 d1).getD z_TC0).fEnded, .bool ((mget d0_3 d1).getD z_TC0).fOk, S ((mget d0_3 d1).getD z_TC0).fPhys]) (j := 0) f p_4 rfl rfl (by simp [Value.oneCell', S]) (by simp) (by decide) (cs' := #[.bool ((mget d0_3 d1).getD z_TC0).fEnded, .bool ((mget d0_3 d1).getD z_TC0).fOk, S ((mget d0_3 d1).getD z_TC0).fPhys]) (by kernel_rfl) fun w_4 p_5 _ f => Y f 1 fun _ f => eT (wp_ret (E_rv2 f rfl (Y10 (cs := [.bool ((mget d0_3 d1).getD z_TC0).fEnded, .bool ((mget d0_3 d1).getD z_TC0).fOk, S ((mget d0_3 d1).getD z_TC0).fPhys]) (ad := ⟨b_1, 0, none⟩) f (own_cells (p_5.ownCell 0 rfl) 0 rfl)) (Y11 (v := .bool (mget d0_3 d1).isSome) f) ?_))
 obtain rfl := sI hF
 exact ⟨_, rfl, M1, _, (mR _), (p_5.dropN 2), ⟨[.bool ((mget d0_3 d1).getD z_TC0).fEnded, .bool ((mget d0_3 d1).getD z_TC0).fOk, S ((mget d0_3 d1).getD z_TC0).fPhys], A_1, cap_1, A_2, cap_2, cs_1, A_3, cap_3, cs_2, rfl, rfl, (TC0.shutx (x := ((mget d0_3 d1).getD z_TC0)) ), h_1, hr_1, hr_2⟩⟩
def cloud_Cloud_Flight_s1 (n : Nat) (d0_4 : List TG0) (s_1 : List Int × Int) : Option (Lp (List Int × Int) (List Int)) :=
    bif (decide (s_1.2 < ((d0_4.length : Nat) : Int))) then
      ((getI d0_4 s_1.2).bind fun x_1 =>
      need ((s_1.1.length + 1) * 8 ≤ 140737488355328) <|
      need (inR .i64 (s_1.2 + 1)) <|
      some (.nx (s_1.1 ++ [x_1.fToken], s_1.2 + 1)))
    else
      some (.br s_1.1)
def cloud_Cloud_Flight (n : Nat) (d0_0 : List TD0) (d0_1 : Int) (d0_2 : List TG0) (d0_3 : List (Int × TC0)) (d0_4 : List TG0) (d0_5 : Int) : Option (List Int × List TD0 × Int × List TG0 × (List (Int × TC0)) × List TG0 × Int) :=
  (loopF (cloud_Cloud_Flight_s1 n d0_4) n (([] : List Int), (0 : Int))).bind fun y_1 =>
  some ((y_1, d0_0, d0_1, d0_2, d0_3, d0_4, d0_5))
theorem cloud_Cloud_Flight_ok (n : Nat) (M : Mem) (hG : GL M) (b0 : Nat) (d0_0 : List TD0) (A_1 : Option Addr) (cap_1 : Nat) (h_1 : Sli M 3 emb_TD0 A_1 cap_1 d0_0) (d0_1 : Int) (d0_2 : List TG0) (A_2 : Option Addr) (cap_2 : Nat) (cs_1 : List Value) (hr_1 : RepSeq M (d0_2.map emb_TG0) cs_1) (m0_3 : Nat) (d0_3 : List (Int × TC0)) (d0_4 : List TG0) (A_3 : Option Addr) (cap_3 : Nat) (cs_2 : List Value) (hr_2 : RepSeq M (d0_4.map emb_TG0) cs_2) (d0_5 : Int) (r : List Int × List TD0 × Int × List TG0 × (List (Int × TC0)) × List TG0 × Int) (hF : cloud_Cloud_Flight n d0_0 d0_1 d0_2 d0_3 d0_4 d0_5 = some r) : OkH Tryz.prog M [Ent.obj b0 (.cells #[.slice A_1 d0_0.length cap_1, .int .i64 d0_1, .slice A_2 d0_2.length cap_2, .map (some m0_3), .slice A_3 d0_4.length cap_3, .int .i64 d0_5] 82 (0, 0)), Ent.row 42 5 (.slice A_2 d0_2.length cap_2) d0_2.length cs_1, Ent.obj m0_3 (mapO (Value.int .i64) (fun x : TC0 => Value.agg #[.bool x.fEnded, .bool x.fOk, S x.fPhys]) d0_3), Ent.row 42 5 (.slice A_3 d0_4.length cap_3) d0_4.length cs_2] 25 [.pointer (some (⟨b0, 0, none⟩))] (fun M' E' v => ∃ (A0 : Option Addr) (k0 : Nat) (s0 : List Value) (A_9 : Option Addr) (cap_10 : Nat) (A_10 : Option Addr) (cap_11 : Nat) (cs_6 : List Value) (A_11 : Option Addr) (cap_12 : Nat) (cs_7 : List Value), v = .slice A0 r.1.length k0 ∧ E' = [.row 3 1 (.slice A0 r.1.length k0) r.1.length s0, Ent.obj b0 (.cells #[.slice A_9 r.2.1.length cap_10, .int .i64 r.2.2.1, .slice A_10 r.2.2.2.1.length cap_11, .map (some m0_3), .slice A_11 r.2.2.2.2.2.1.length cap_12, .int .i64 r.2.2.2.2.2.2] 82 (0, 0)), Ent.row 42 5 (.slice A_10 r.2.2.2.1.length cap_11) r.2.2.2.1.length cs_6, Ent.obj m0_3 (mapO (Value.int .i64) (fun x : TC0 => Value.agg #[.bool x.fEnded, .bool x.fOk, S x.fPhys]) r.2.2.2.2.1), Ent.row 42 5 (.slice A_11 r.2.2.2.2.2.1.length cap_12) r.2.2.2.2.2.1.length cs_7] ∧ RepSeq M' (r.1.map (Dat.int .i64)) s0 ∧ Sli M' 3 emb_TD0 A_9 cap_10 r.2.1 ∧ RepSeq M' (r.2.2.2.1.map emb_TG0) cs_6 ∧ RepSeq M' (r.2.2.2.2.2.1.map emb_TG0) cs_7) := by
 unfold cloud_Cloud_Flight at hF
 intro M1 hM0 w0 H w p0
 replace hG := GL.mono hM0 hG
 replace h_1 := h_1.mono hM0
 replace hr_1 := RepSeq.mono hM0 _ _ hr_1
 replace hr_2 := RepSeq.mono hM0 _ _ hr_2
 refine R_enter 23 Tryz.func25 rfl rfl (by simp) fun a0 f0 => RR (Y f0 1 fun _ f => eT (R_seq (RR (Y f 1 fun _ f => Z (v := .bool false) f (X_ptrNil (q := some (⟨b0, 0, none⟩)) (e := 82) rfl (by kernel_rfl) (by kernel_rfl) (by kernel_rfl) _) fun _ f => eT (Y7 f (wp_skip (T_n (R_seq (RR (Y f 3 fun _ f => Z f (Y33 (v := .slice A_3 d0_4.length cap_3) rfl (ad := ⟨b0, 4, none⟩) (p0.ownCell 0 rfl 4)) fun _ f => ?_))))))))))
 refine Y f 2 fun _ f => eT (wp_block ?_)
 obtain ⟨A_4, cap_4, hv_1⟩ : ∃ A cap, Value.slice none 0 0 = .slice A ([] : List Int).length cap := ⟨none, 0, rfl⟩
 have p_1 : Hp w0 M1 ((Ent.row 3 1 (.slice A_4 ([] : List Int).length cap_4) ([] : List Int).length []) :: (Ent.obj b0 (.cells #[.slice A_1 d0_0.length cap_1, .int .i64 d0_1, .slice A_2 d0_2.length cap_2, .map (some m0_3), .slice A_3 d0_4.length cap_3, .int .i64 d0_5] 82 (0, 0))) :: (Ent.row 42 5 (.slice A_2 d0_2.length cap_2) d0_2.length cs_1) :: (Ent.obj m0_3 (mapO (Value.int .i64) (fun x : TC0 => Value.agg #[.bool x.fEnded, .bool x.fOk, S x.fPhys]) d0_3)) :: (Ent.row 42 5 (.slice A_3 d0_4.length cap_3) d0_4.length cs_2) :: H) w := by rw [← hv_1]; exact p0.nilRow 3 1
 have f := f.st 2 (hv_1)
 have hr_3 : RepSeq M1 (([] : List Int).map (Dat.int .i64)) [] := rfl
 obtain ⟨b_1, hL_1, hF_1⟩ := bS hF
 refine wp_mono (Q := fun e a w => (e = .exit 0 ∧ (∃ y_1 : List Int, b_1 = y_1 ∧ ∃ M_2 : Mem, M1.le M_2 ∧ ∃ (A_8 : Option Addr), ∃ (cap_9 : Nat), ∃ (cs_5 : List Value), RepSeq M_2 (y_1.map (Dat.int .i64)) cs_5 ∧ Frm 23 [(2, .slice A_8 y_1.length cap_9)] a ∧ Hp w0 M_2 ((Ent.row 3 1 (.slice A_8 y_1.length cap_9) y_1.length cs_5) :: (Ent.obj b0 (.cells #[.slice A_1 d0_0.length cap_1, .int .i64 d0_1, .slice A_2 d0_2.length cap_2, .map (some m0_3), .slice A_3 d0_4.length cap_3, .int .i64 d0_5] 82 (0, 0))) :: (Ent.row 42 5 (.slice A_2 d0_2.length cap_2) d0_2.length cs_1) :: (Ent.obj m0_3 (mapO (Value.int .i64) (fun x : TC0 => Value.agg #[.bool x.fEnded, .bool x.fOk, S x.fPhys]) d0_3)) :: (Ent.row 42 5 (.slice A_3 d0_4.length cap_3) d0_4.length cs_2) :: H) w))) (R_loop (n := 23) (w0 := w0) (M := M1) (fun (x : Nat × (List Int × Int) × (Option Addr) × Nat × (List Value)) => match x with | (m_1, s_1, A_5, cap_5, cs_3) => [(2, .slice A_5 s_1.1.length cap_5), (10, .slice A_3 d0_4.length cap_3), (11, .int .i64 ((d0_4.length : Nat) : Int)), (12, .int .i64 s_1.2)]) (fun (x : Nat × (List Int × Int) × (Option Addr) × Nat × (List Value)) => match x with | (m_1, s_1, A_5, cap_5, cs_3) => ((Ent.row 3 1 (.slice A_5 s_1.1.length cap_5) s_1.1.length cs_3) :: (Ent.obj b0 (.cells #[.slice A_1 d0_0.length cap_1, .int .i64 d0_1, .slice A_2 d0_2.length cap_2, .map (some m0_3), .slice A_3 d0_4.length cap_3, .int .i64 d0_5] 82 (0, 0))) :: (Ent.row 42 5 (.slice A_2 d0_2.length cap_2) d0_2.length cs_1) :: (Ent.obj m0_3 (mapO (Value.int .i64) (fun x : TC0 => Value.agg #[.bool x.fEnded, .bool x.fOk, S x.fPhys]) d0_3)) :: (Ent.row 42 5 (.slice A_3 d0_4.length cap_3) d0_4.length cs_2) :: H)) (fun (x : Nat × (List Int × Int) × (Option Addr) × Nat × (List Value)) (MM : Mem) => match x with | (m_1, s_1, A_5, cap_5, cs_3) => loopF (cloud_Cloud_Flight_s1 n d0_4) m_1 s_1 = some b_1 ∧ RepSeq MM (s_1.1.map (Dat.int .i64)) cs_3) (fun (x : Nat × (List Int × Int) × (Option Addr) × Nat × (List Value)) => match x with | (m_1, s_1, A_5, cap_5, cs_3) => m_1) (n, (([] : List Int), (0 : Int)), A_4, cap_4, []) (f.kp) p_1 ⟨hL_1, hr_3⟩ ?_) ?_
 ·rintro ⟨m_1, s_1, A_5, cap_5, cs_3⟩ M_1 _ w_1 hM_1 I_1 f p_2
  obtain ⟨I_1L, hr_4⟩ := I_1
  obtain ⟨m_2, r_1, rfl, hs_1, hn_1⟩ := loop_step I_1L
  unfold cloud_Cloud_Flight_s1 at hs_1
  refine RR (Y f 1 fun _ f => eT (R_seq (RcF f hs_1 (fun h_2 hF_2 => ?_) fun h_2 hF_6 => ?_)))
  ·have k_1 := dI.1 h_2
   refine wp_skip (T_n (R_seq (wp_block (RR ?_))))
   obtain ⟨x_1, hx_1, hF_3⟩ := bS hF_2
   obtain ⟨b_2, cap_6, hv_2, hcap_1⟩ := p_2.rowAddr 4 rfl (getI_pos hx_1)
   have f := f.st 10 (hv_2)
   refine Z f (Y31 rfl (ad := ⟨b_2, 0, none⟩) (len := d0_4.length) (cap := cap_6) (k := .i64) (i := s_1.2) (e := 42) (sz := 5) (getI_nn hx_1) (getI_lt hx_1)) fun _ f => ?_
   have f := f.st 10 (hv_2.symm)
   obtain ⟨c_1, -, hr_5, hc_1⟩ := RepSeq.get s_1.2.toNat (szd_all szd_TG0) (RepSeq.mono hM_1 _ _ hr_2) (getI_map hx_1)
   obtain ⟨A_6, cap_7, rfl, h_3⟩ := TG0.opn hr_5
   refine Z (v := .agg #[.int .i64 x_1.fToken, .int .i8 x_1.fKind, S x_1.fPhys, S x_1.fType, .slice A_6 x_1.fProps.length cap_7]) f (Y34 (cs := [.int .i64 x_1.fToken, .int .i8 x_1.fKind, S x_1.fPhys, S x_1.fType, .slice A_6 x_1.fProps.length cap_7]) rfl (ad := (⟨b_2, 0, none⟩ : Addr).add (s_1.2.toNat * 5)) (fun j v h => row_at (p_2.rowCell 4 rfl hv_2) hc_1 j v h)) fun _ f => Y12 f p_2 (.cells #[.int .i64 0, .int .i8 0, S [], S [], .slice none 0 0] 42 (0, 0)) fun b_3 w_2 p_3 _ f => Y28 (vs := [.int .i64 x_1.fToken, .int .i8 x_1.fKind, S x_1.fPhys, S x_1.fType, .slice A_6 x_1.fProps.length cap_7]) (j := 0) f p_3 rfl rfl (by simp [Value.oneCell', S]) (by simp) (by decide) (cs' := #[.int .i64 x_1.fToken, .int .i8 x_1.fKind, S x_1.fPhys, S x_1.fType, .slice A_6 x_1.fProps.length cap_7]) (by kernel_rfl) fun w_3 p_4 _ f => eT (R_reg (Y f 2 fun _ f => Z f (Y33 (v := .int .i64 x_1.fToken) rfl (ad := ⟨b_3, 0, none⟩) (p_4.ownCell 0 rfl 0)) fun _ f => V_allocS (k := 1) (c := 1) f p_4 (.cells #[.int .i64 x_1.fToken] 3 (0, 0)) (by kernel_rfl) (fun _ => by kernel_rfl) fun b_4 w_4 p_5 _ f => ?_))
   have p_6 := p_5.pl [2]
   obtain ⟨g_1, hF_4⟩ := nS hF_3
   refine Y22 (z := .int .i64 0) (f := (Dat.int .i64)) (xs := s_1.1) (ys := [x_1.fToken]) (news := [.int .i64 x_1.fToken]) (ad := ⟨b_4, 0, none⟩) (m := 1) (c := 1) f p_6 hr_4 (by exact ⟨_, _, rfl, rfl, rfl⟩) rfl rfl rfl rfl (own_cells (p_6.ownCell 1 rfl) 0 rfl) (by exact g_1) (by have hg_ := g_1; first | omega | (simp only [List.length_cons, List.length_nil] at *; omega)) fun A_7 cap_8 cs_4 w_5 p_7 hr_6 _ f => ?_
   have p_8 := p_7.pl [1]
   have p_9 := p_8.drop
   refine Y f 1 fun _ f => W_end rfl (B_n (T_n (R_reg ?_)))
   obtain ⟨g_2, hF_5⟩ := nS hF_4
   refine Y f 1 fun _ f => ?_
   have f := f.st 21 (congrArg (Value.int .i64) (inR_wrap g_2))
   refine Y f 1 fun _ f => W_end rfl ?_
   have p_16 := p_9.pl [5, 5, 5, 5, 4, 5]
   refine T_n ?_
   obtain rfl := sI hF_5
   exact ⟨⟨m_2, (s_1.1 ++ [x_1.fToken], s_1.2 + 1), A_7, cap_8, cs_4⟩, Nat.lt_succ_self _, M_1, hM_1, ⟨hn_1, hr_6⟩, f.kp, (p_16.dropN 1)⟩
  ·have k_2 := iff_f dI h_2
   refine wp_exit (T_x (T_x ?_))
   obtain rfl := sI hF_6
   exact ⟨rfl, s_1.1, (sI hn_1).symm, M_1, hM_1, A_5, cap_5, cs_3, hr_4, f.kp, p_2⟩
 ·rintro _ _ w_7 ⟨rfl, y_1, hq_, M_2, hM_2, A_8, cap_9, cs_5, hr_7, f, p_10⟩
  subst b_1
  refine B_x (T_n (RR (Y f 2 fun _ f => eT (wp_ret (E_ret1 f rfl (by kernel_rfl : Vc.look _ 2 = some (.slice A_8 y_1.length cap_9)) ?_)))))
  obtain rfl := sI hF_1
  exact ⟨_, rfl, M_2, _, hM_2, p_10, ⟨A_8, cap_9, cs_5, A_1, cap_1, A_2, cap_2, cs_1, A_3, cap_3, cs_2, rfl, rfl, hr_7, (h_1.mono hM_2), (RepSeq.mono hM_2 _ _ hr_1), (RepSeq.mono hM_2 _ _ hr_2)⟩⟩
theorem slices_Cloneapi_Call_api_Call_row_ok (n : Nat) (M : Mem) (A0 : Option Addr) (cap0 : Nat) (d0 : List TG0) (cs0 : List Value) (h0 : RepSeq M (d0.map emb_TG0) cs0) (hn : d0.length * 72 ≤ 140737488355328) : OkH Tryz.prog M [.row 42 5 (.slice A0 d0.length cap0) d0.length cs0] 45 [.slice A0 d0.length cap0] (fun M' E' v => ∃ (A : Option Addr) (k : Nat), v = .slice A d0.length k ∧ E' = [.row 42 5 (.slice A d0.length k) d0.length cs0, .row 42 5 (.slice A0 d0.length cap0) d0.length cs0]) := by
 intro M1 hM0 w0 H w p0
 have h1 := RepSeq.mono hM0 _ _ h0
 replace p0 : Hp w0 M1 (Ent.row 42 5 (.slice A0 d0.length cap0) d0.length cs0 :: H) w := p0
 refine R_enter 8 Tryz.func45 rfl rfl (by simp) fun a0 f0 => ?_
 replace f0 : Frm 8 [(0, .slice A0 d0.length cap0)] a0 := f0
 refine RR (Y f0 1 fun _ f => eT (R_seq (RR (Y f 1 fun _ f => Z (v := .bool A0.isNone) f (X_slicenil (A := A0) (n := d0.length) (c := cap0) (e := 42) rfl (by kernel_rfl) (by kernel_rfl) (by kernel_rfl) _) fun _ f => eT (Y6 f (b := A0.isNone) (fun h_1 => ?_) fun h_1 => ?_)))))
 ·obtain ⟨A, cap, e1, e2, e3⟩ := p0.rowShape 0 rfl
  have e4 := Value.slice.inj e1
  have hz : d0.length = 0 := by have := e3 (by rw [← e4.1]; simpa using h_1); omega
  have hc : cs0 = [] := List.eq_nil_of_length_eq_zero (by have := RepSeq.len (szd_all szd_TG0) h1; rw [this, List.length_map, hz, Nat.zero_mul])
  refine RR (Y f 1 fun _ f => eT (wp_ret (T_r (E_ret1 f rfl (by kernel_rfl : Vc.look _ 2 = some (.slice none 0 0)) (⟨_, rfl, M1, [.row 42 5 (.slice none 0 0) 0 [], .row 42 5 (.slice A0 d0.length cap0) d0.length cs0], (mR _), p0.nilRow _ _, none, 0, by rw [hz], ?_⟩)))))
  subst hc; rw [hz]
 ·refine wp_skip (T_n (RR (V_allocS (k := 0) (c := 0) f p0 (.cells #[] 42 (0, 0)) (by kernel_rfl) (fun _ => by kernel_rfl) fun b_1 w_1 p_2 _ f => Y f 1 fun _ f => ?_)))
  have p_3 : Hp w0 M1 (Ent.row 42 5 (.slice (some ⟨b_1, 0, none⟩) 0 0) 0 [] :: Ent.row 42 5 (.slice A0 d0.length cap0) d0.length cs0 :: H) w_1 := p_2.objRow (n := 0) (cap := 0) (size := 5) (by decide) (by decide) (blk_eq (by decide) rfl) rfl rfl
  refine W_cloneRow (z := .agg #[.int .i64 0, .int .i8 0, S [], S [], .slice none 0 0]) (f := emb_TG0) (xs := d0) f p_3 szd_TG0 h1 rfl h_1 (by kernel_rfl) (by kernel_rfl) rfl rfl rfl (by kernel_rfl) (by kernel_rfl) (by kernel_rfl) (by kernel_rfl) hn (by omega) fun A_2 cap_2 w_2 p_4 _ f => Y f 1 fun _ f => eT (wp_ret (E_ret1 f rfl (by kernel_rfl : Vc.look _ 2 = some (.slice A_2 d0.length cap_2)) ?_))
  exact ⟨_, rfl, M1, _, (mR _), p_4, A_2, cap_2, rfl, rfl⟩
def cloud_Cloud_Calls (n : Nat) (d0_0 : List TD0) (d0_1 : Int) (d0_2 : List TG0) (d0_3 : List (Int × TC0)) (d0_4 : List TG0) (d0_5 : Int) : Option (List TG0 × List TD0 × Int × List TG0 × (List (Int × TC0)) × List TG0 × Int) :=
  need (d0_2.length * 72 ≤ 140737488355328) <|
  some ((d0_2, d0_0, d0_1, d0_2, d0_3, d0_4, d0_5))
theorem cloud_Cloud_Calls_ok (n : Nat) (M : Mem) (hG : GL M) (b0 : Nat) (d0_0 : List TD0) (A_1 : Option Addr) (cap_1 : Nat) (h_1 : Sli M 3 emb_TD0 A_1 cap_1 d0_0) (d0_1 : Int) (d0_2 : List TG0) (A_2 : Option Addr) (cap_2 : Nat) (cs_1 : List Value) (hr_1 : RepSeq M (d0_2.map emb_TG0) cs_1) (m0_3 : Nat) (d0_3 : List (Int × TC0)) (d0_4 : List TG0) (A_3 : Option Addr) (cap_3 : Nat) (cs_2 : List Value) (hr_2 : RepSeq M (d0_4.map emb_TG0) cs_2) (d0_5 : Int) (r : List TG0 × List TD0 × Int × List TG0 × (List (Int × TC0)) × List TG0 × Int) (hF : cloud_Cloud_Calls n d0_0 d0_1 d0_2 d0_3 d0_4 d0_5 = some r) : OkH Tryz.prog M [Ent.obj b0 (.cells #[.slice A_1 d0_0.length cap_1, .int .i64 d0_1, .slice A_2 d0_2.length cap_2, .map (some m0_3), .slice A_3 d0_4.length cap_3, .int .i64 d0_5] 82 (0, 0)), Ent.row 42 5 (.slice A_2 d0_2.length cap_2) d0_2.length cs_1, Ent.obj m0_3 (mapO (Value.int .i64) (fun x : TC0 => Value.agg #[.bool x.fEnded, .bool x.fOk, S x.fPhys]) d0_3), Ent.row 42 5 (.slice A_3 d0_4.length cap_3) d0_4.length cs_2] 29 [.pointer (some (⟨b0, 0, none⟩))] (fun M' E' v => ∃ (A0 : Option Addr) (k0 : Nat) (s0 : List Value) (A_5 : Option Addr) (cap_5 : Nat) (A_6 : Option Addr) (cap_6 : Nat) (cs_3 : List Value) (A_7 : Option Addr) (cap_7 : Nat) (cs_4 : List Value), v = .slice A0 r.1.length k0 ∧ E' = [.row 42 5 (.slice A0 r.1.length k0) r.1.length s0, Ent.obj b0 (.cells #[.slice A_5 r.2.1.length cap_5, .int .i64 r.2.2.1, .slice A_6 r.2.2.2.1.length cap_6, .map (some m0_3), .slice A_7 r.2.2.2.2.2.1.length cap_7, .int .i64 r.2.2.2.2.2.2] 82 (0, 0)), Ent.row 42 5 (.slice A_6 r.2.2.2.1.length cap_6) r.2.2.2.1.length cs_3, Ent.obj m0_3 (mapO (Value.int .i64) (fun x : TC0 => Value.agg #[.bool x.fEnded, .bool x.fOk, S x.fPhys]) r.2.2.2.2.1), Ent.row 42 5 (.slice A_7 r.2.2.2.2.2.1.length cap_7) r.2.2.2.2.2.1.length cs_4] ∧ RepSeq M' (r.1.map emb_TG0) s0 ∧ Sli M' 3 emb_TD0 A_5 cap_5 r.2.1 ∧ RepSeq M' (r.2.2.2.1.map emb_TG0) cs_3 ∧ RepSeq M' (r.2.2.2.2.2.1.map emb_TG0) cs_4) := by
 unfold cloud_Cloud_Calls at hF
 intro M1 hM0 w0 H w p0
 replace hG := GL.mono hM0 hG
 replace h_1 := h_1.mono hM0
 replace hr_1 := RepSeq.mono hM0 _ _ hr_1
 replace hr_2 := RepSeq.mono hM0 _ _ hr_2
 refine R_enter 10 Tryz.func29 rfl rfl (by simp) fun a0 f0 => RR (Y f0 1 fun _ f => eT (R_seq (RR (Y f 1 fun _ f => Z (v := .bool false) f (X_ptrNil (q := some (⟨b0, 0, none⟩)) (e := 82) rfl (by kernel_rfl) (by kernel_rfl) (by kernel_rfl) _) fun _ f => eT (Y7 f (wp_skip (T_n (RR (Y f 3 fun _ f => Z f (Y33 (v := .slice A_2 d0_2.length cap_2) rfl (ad := ⟨b0, 2, none⟩) (p0.ownCell 0 rfl 2)) fun _ f => ?_)))))))))
 have p_1 := p0.pl [1]
 obtain ⟨g_1, hF_1⟩ := nS hF
 refine Y17 (E := [Ent.row 42 5 (.slice A_2 d0_2.length cap_2) d0_2.length cs_1]) (H := ((Ent.obj b0 (.cells #[.slice A_1 d0_0.length cap_1, .int .i64 d0_1, .slice A_2 d0_2.length cap_2, .map (some m0_3), .slice A_3 d0_4.length cap_3, .int .i64 d0_5] 82 (0, 0))) :: (Ent.obj m0_3 (mapO (Value.int .i64) (fun x : TC0 => Value.agg #[.bool x.fEnded, .bool x.fOk, S x.fPhys]) d0_3)) :: (Ent.row 42 5 (.slice A_3 d0_4.length cap_3) d0_4.length cs_2) :: H)) f p_1 (slices_Cloneapi_Call_api_Call_row_ok n _ A_2 cap_2 d0_2 cs_1 hr_1 g_1) fun _ M_1 E_1 w_1 hM_1 p_2 q_1 _ f => ?_
 obtain ⟨A_4, cap_4, rfl, rfl⟩ := q_1
 have hr_3 := (RepSeq.mono hM_1 _ _ hr_1)
 refine Y f 1 fun _ f => eT (wp_ret (E_ret1 f rfl (by kernel_rfl : Vc.look _ 2 = some (.slice A_4 d0_2.length cap_4)) ?_))
 obtain rfl := sI hF_1
 have p_7 := p_2.pl [4, 4, 3, 4, 4]
 exact ⟨_, rfl, M_1, _, hM_1, p_7, ⟨A_4, cap_4, cs_1, A_1, cap_1, A_2, cap_2, cs_1, A_3, cap_3, cs_2, rfl, rfl, hr_3, (h_1.mono hM_1), (RepSeq.mono hM_1 _ _ hr_1), (RepSeq.mono hM_1 _ _ hr_2)⟩⟩
def law11_CloudOnce_s1 (n : Nat) (d0 : List TA0) (s_1 : Int × List TD0 × Int × List TG0 × List TG0 × Int × (List (Int × TC0))) : Option (Lp (Int × List TD0 × Int × List TG0 × List TG0 × Int × (List (Int × TC0))) (List TD0 × Int × List TG0 × List TG0 × Int × (List (Int × TC0)))) :=
    bif (decide (s_1.1 < ((d0.length : Nat) : Int))) then
      ((getI d0 s_1.1).bind fun x_5 =>
      bif (decide (x_5.fDo = 0)) then
        ((cloud_Cloud_Submit n s_1.2.1 s_1.2.2.1 s_1.2.2.2.1 s_1.2.2.2.2.2.2 s_1.2.2.2.2.1 s_1.2.2.2.2.2.1 (⟨x_5.fX.fToken, x_5.fX.fKind, x_5.fX.fPhys, x_5.fX.fType, x_5.fX.fProps⟩ : TG0)).bind fun x_6 =>
        need (inR .i64 (s_1.1 + 1)) <|
        some (.nx (s_1.1 + 1, x_6.2.1, x_6.2.2.1, x_6.2.2.2.1, x_6.2.2.2.2.2.1, x_6.2.2.2.2.2.2, x_6.2.2.2.2.1)))
      else
        ((bif (decide (x_5.fDo = 1)) then
            (some ((decide (x_5.fDo = 1))))
          else
            some ((decide (x_5.fDo = 2))) : Option Bool)).bind fun y_2 =>
        bif y_2 then
          ((cloud_Cloud_End n s_1.2.1 s_1.2.2.1 s_1.2.2.2.1 s_1.2.2.2.2.2.2 s_1.2.2.2.2.1 s_1.2.2.2.2.2.1 x_5.fN (decide (x_5.fDo = 1))).bind fun x_7 =>
          need (inR .i64 (s_1.1 + 1)) <|
          some (.nx (s_1.1 + 1, x_7.2.2.2.1, x_7.2.2.2.2.1, x_7.2.2.2.2.2.1, x_7.2.2.2.2.2.2.2.1, x_7.2.2.2.2.2.2.2.2, x_7.2.2.2.2.2.2.1)))
        else
          need (inR .i64 (s_1.1 + 1)) <|
          some (.nx (s_1.1 + 1, s_1.2.1, s_1.2.2.1, s_1.2.2.2.1, s_1.2.2.2.2.1, s_1.2.2.2.2.2.1, s_1.2.2.2.2.2.2)))
    else
      some (.br (s_1.2.1, s_1.2.2.1, s_1.2.2.2.1, s_1.2.2.2.2.1, s_1.2.2.2.2.2.1, s_1.2.2.2.2.2.2))
def law11_CloudOnce (n : Nat) (d0 : List TA0) (d1 : TG0) : Option Bool :=
  (((law11_great n d0).bind fun x_1 =>
    bif x_1 then
      (some ((true)))
    else
      (ref11_Great n d1).bind fun x_2 =>
      some ((x_2)) : Option Bool)).bind fun y_1 =>
  bif y_1 then
    ((law11_wakes n).bind fun x_3 =>
    some ((x_3)))
  else
    (cloud_New n).bind fun x_4 =>
    (loopF (law11_CloudOnce_s1 n d0) n ((0 : Int), ([] : List TD0), (0 : Int), ([] : List TG0), ([] : List TG0), (0 : Int), ([] : List (Int × TC0)))).bind fun y_3 =>
    (cloud_Cloud_Ask n y_3.1 y_3.2.1 y_3.2.2.1 y_3.2.2.2.2.2 y_3.2.2.2.1 y_3.2.2.2.2.1 d1.fToken).bind fun x_8 =>
    (cloud_Cloud_Things n x_8.2.2.1 x_8.2.2.2.1 x_8.2.2.2.2.1 x_8.2.2.2.2.2.1 x_8.2.2.2.2.2.2.1 x_8.2.2.2.2.2.2.2).bind fun x_9 =>
    (cloud_Cloud_Flight n x_9.2.1 x_9.2.2.1 x_9.2.2.2.1 x_9.2.2.2.2.1 x_9.2.2.2.2.2.1 x_9.2.2.2.2.2.2).bind fun x_10 =>
    (cloud_Cloud_Made n x_10.2.1 x_10.2.2.1 x_10.2.2.2.1 x_10.2.2.2.2.1 x_10.2.2.2.2.2.1 x_10.2.2.2.2.2.2).bind fun x_11 =>
    (cloud_Cloud_Calls n x_11.2.1 x_11.2.2.1 x_11.2.2.2.1 x_11.2.2.2.2.1 x_11.2.2.2.2.2.1 x_11.2.2.2.2.2.2).bind fun x_12 =>
    (cloud_Cloud_Submit n x_12.2.1 x_12.2.2.1 x_12.2.2.2.1 x_12.2.2.2.2.1 x_12.2.2.2.2.2.1 x_12.2.2.2.2.2.2 d1).bind fun x_13 =>
    bif !x_8.2.1 then
      ((((cloud_Cloud_Calls n x_13.2.1 x_13.2.2.1 x_13.2.2.2.1 x_13.2.2.2.2.1 x_13.2.2.2.2.2.1 x_13.2.2.2.2.2.2).bind fun x_14 =>
        (cloud_Cloud_Flight n x_14.2.1 x_14.2.2.1 x_14.2.2.2.1 x_14.2.2.2.2.1 x_14.2.2.2.2.2.1 x_14.2.2.2.2.2.2).bind fun x_15 =>
        need (inR .i64 (((x_12.1.length : Nat) : Int) + ((x_15.1.length : Nat) : Int))) <|
        need (inR .i64 ((((x_12.1.length : Nat) : Int) + ((x_15.1.length : Nat) : Int)) - ((x_10.1.length : Nat) : Int))) <|
        bif (decide (((x_14.1.length : Nat) : Int) = ((((x_12.1.length : Nat) : Int) + ((x_15.1.length : Nat) : Int)) - ((x_10.1.length : Nat) : Int)))) then
          ((cloud_Cloud_Calls n x_15.2.1 x_15.2.2.1 x_15.2.2.2.1 x_15.2.2.2.2.1 x_15.2.2.2.2.2.1 x_15.2.2.2.2.2.2).bind fun x_16 =>
          need (inR .i64 (((x_12.1.length : Nat) : Int) + 1)) <|
          bif ((decide (x_13.1 = 0)) == (decide (((x_16.1.length : Nat) : Int) = (((x_12.1.length : Nat) : Int) + 1)))) then
            ((law11_wakes n).bind fun x_17 =>
            some (((x_17), x_16.2.1, x_16.2.2.1, x_16.2.2.2.1, x_16.2.2.2.2.2.1, x_16.2.2.2.2.2.2, x_16.2.2.2.2.1)))
          else
            some (((false), x_16.2.1, x_16.2.2.1, x_16.2.2.2.1, x_16.2.2.2.2.2.1, x_16.2.2.2.2.2.2, x_16.2.2.2.2.1)))
        else
          some (((false), x_15.2.1, x_15.2.2.1, x_15.2.2.2.1, x_15.2.2.2.2.2.1, x_15.2.2.2.2.2.2, x_15.2.2.2.2.1)) : Option (Bool × List TD0 × Int × List TG0 × List TG0 × Int × (List (Int × TC0))))).bind fun y_4 =>
      some ((y_4.1)))
    else
      (cloud_Cloud_Things n x_13.2.1 x_13.2.2.1 x_13.2.2.2.1 x_13.2.2.2.2.1 x_13.2.2.2.2.2.1 x_13.2.2.2.2.2.2).bind fun x_18 =>
      (ref11_SameThings n x_18.1 x_9.1).bind fun x_19 =>
      bif x_19 then
        ((cloud_Cloud_Flight n x_18.2.1 x_18.2.2.1 x_18.2.2.2.1 x_18.2.2.2.2.1 x_18.2.2.2.2.2.1 x_18.2.2.2.2.2.2).bind fun x_20 =>
        (law11_ints n x_20.1 x_10.1).bind fun x_21 =>
        bif x_21 then
          ((cloud_Cloud_Made n x_20.2.1 x_20.2.2.1 x_20.2.2.2.1 x_20.2.2.2.2.1 x_20.2.2.2.2.2.1 x_20.2.2.2.2.2.2).bind fun x_22 =>
          bif (decide (x_22.1 = x_11.1)) then
            ((cloud_Cloud_Calls n x_22.2.1 x_22.2.2.1 x_22.2.2.2.1 x_22.2.2.2.2.1 x_22.2.2.2.2.2.1 x_22.2.2.2.2.2.2).bind fun x_23 =>
            bif (decide (((x_23.1.length : Nat) : Int) = ((x_12.1.length : Nat) : Int))) then
              ((law11_wakes n).bind fun x_24 =>
              some ((x_24)))
            else
              some ((false)))
          else
            some ((false)))
        else
          some ((false)))
      else
        some ((false))
set_option maxRecDepth 20000 in
theorem law11_CloudOnce_ok (n : Nat) (M : Mem) (hG : GL M) (A0 : Option Addr) (cap0 : Nat) (d0 : List TA0) (h0 : Sli M 7 emb_TA0 A0 cap0 d0) (c1 : List Value) (d1 : TG0) (h1 : Rep M (emb_TG0 d1) c1) (r : Bool) (hF : law11_CloudOnce n d0 d1 = some r) : Ok Tryz.prog M 6 [.slice A0 d0.length cap0, .agg c1.toArray] (fun _ v => v = .bool r) := by
 unfold law11_CloudOnce at hF
 intro M1 hM0 w0 H w p0
 replace hG := GL.mono hM0 hG
 replace h0 := h0.mono hM0
 replace h1 := Rep.mono hM0 _ _ h1
 obtain ⟨A_1, cap_1, rfl, h_1⟩ := TG0.opn h1
 refine R_enter 121 Tryz.func6 rfl rfl (by simp) fun a0 f0 => RR (Y13 (cs := #[.int .i64 d1.fToken, .int .i8 d1.fKind, S d1.fPhys, S d1.fType, .slice A_1 d1.fProps.length cap_1]) (T := 42) f0 p0 fun b_1 M_1 w_1 hM_1 hc_1 p_1 _ f => ?_)
 have hc_2 := fz_box hc_1
 refine Y f 1 fun _ f => eT (R_seq (R_seq ?_))
 obtain ⟨j_1, hj_1, hF_1⟩ := bS hF
 refine R_mid (fun a_10 w_4 => ∃ y_1 : Bool, j_1 = y_1 ∧ ∃ M_2 : Mem, M_1.le M_2 ∧ Frm 121 [(0, .slice A0 d0.length cap0), (3, .pointer (some (⟨b_1, 0, none⟩))), (20, .bool y_1)] a_10 ∧ Hp w0 M_2 (H) w_4) ?_ ?_
 ·refine R_reg (Y f 1 fun _ f => ?_)
  obtain ⟨x_1, hx_1, hF_2⟩ := bS hj_1
  refine Y18 f p_1 (law11_great_ok n _ (GL.mono hM_1 hG) A0 cap0 d0 (h0.mono hM_1) x_1 hx_1) fun w_2 p_2 _ f => Y f 1 fun _ f => ?_
  rcases cE hF_2 with ⟨h_2, hF_3⟩ | ⟨h_2, hF_4⟩
  ·have f := f.st 17 (cB h_2)
   refine Y f 3 fun _ f => eT ?_
   exact ⟨(true), (sI hF_3).symm, M_1, (mR _), f.kp, p_2⟩
  ·have f := f.st 17 (cB h_2)
   refine Z (v := .agg #[.int .i64 d1.fToken, .int .i8 d1.fKind, S d1.fPhys, S d1.fType, .slice A_1 d1.fProps.length cap_1]) f (Y34 (cs := [.int .i64 d1.fToken, .int .i8 d1.fKind, S d1.fPhys, S d1.fType, .slice A_1 d1.fProps.length cap_1]) rfl (ad := ⟨b_1, 0, none⟩) (fun j v h => p_2.cell (hc_2 j v h))) fun _ f => ?_
   obtain ⟨x_2, hx_2, hF_5⟩ := bS hF_4
   refine Y18 f p_2 (ref11_Great_ok n _ (GL.mono hM_1 hG) _ d1 (TG0.shutx (x := d1) (h_1.mono hM_1)) x_2 hx_2) fun w_3 p_3 _ f => Y f 1 fun _ f => eT ?_
   exact ⟨(x_2), (sI hF_5).symm, M_1, (mR _), f.kp, p_3⟩
 ·rintro a_10 w_4 ⟨y_1, hq_1, M_2, hM_2, f, p_4⟩
  subst j_1
  refine T_n (RcF f hF_1 (fun h_3 hF_6 => ?_) fun h_3 hF_8 => ?_)
  ·refine RR ?_
   obtain ⟨x_3, hx_3, hF_7⟩ := bS hF_6
   refine Y18 f p_4 (law11_wakes_ok n _ (GL.mono (hM_1.trans hM_2) hG) x_3 hx_3) fun w_5 p_5 _ f => Y f 1 fun _ f => eT (wp_ret (T_r (E_ret1 f rfl (by kernel_rfl : Vc.look _ 4 = some (.bool x_3)) ?_)))
   obtain rfl := sI hF_7
   exact ⟨_, rfl, M_2, (hM_1.trans hM_2), p_5, rfl⟩
  ·refine wp_skip (T_n (RR ?_))
   obtain ⟨x_4, hx_4, hF_9⟩ := bS hF_8
   refine Y17 (E := []) (H := (H)) f p_4 (cloud_New_ok n _ (GL.mono (hM_1.trans hM_2) hG) x_4 hx_4) fun _ M_3 E_1 w_6 hM_3 p_6 q_1 _ f => ?_
   obtain ⟨nb_1, nb_1m0, rfl, rfl⟩ := q_1
   refine Y f 1 fun _ f => eT (R_seq (RR (Y f 3 fun _ f => eT (wp_block ?_))))
   obtain ⟨A_2, cap_2, hv_1⟩ : ∃ A cap, Value.slice none 0 0 = .slice A ([] : List TG0).length cap := ⟨none, 0, rfl⟩
   have p_7 : Hp w0 M_3 ((Ent.row 42 5 (.slice A_2 ([] : List TG0).length cap_2) ([] : List TG0).length []) :: (Ent.obj nb_1 (.cells #[.slice none 0 0, .int .i64 0, .slice A_2 ([] : List TG0).length cap_2, .map (some nb_1m0), .slice none 0 0, .int .i64 0] 82 (0, 0))) :: (Ent.obj nb_1m0 (mapO (Value.int .i64) (fun x : TC0 => Value.agg #[.bool x.fEnded, .bool x.fOk, S x.fPhys]) ([] : List (Int × TC0)))) :: H) w_6 := by rw [← hv_1]; exact p_6.nilRow 42 5
   have hr_1 : RepSeq M_3 (([] : List TG0).map emb_TG0) [] := rfl
   obtain ⟨A_3, cap_3, hv_2⟩ : ∃ A cap, Value.slice none 0 0 = .slice A ([] : List TG0).length cap := ⟨none, 0, rfl⟩
   have p_8 : Hp w0 M_3 ((Ent.row 42 5 (.slice A_3 ([] : List TG0).length cap_3) ([] : List TG0).length []) :: (Ent.row 42 5 (.slice A_2 ([] : List TG0).length cap_2) ([] : List TG0).length []) :: (Ent.obj nb_1 (.cells #[.slice none 0 0, .int .i64 0, .slice A_2 ([] : List TG0).length cap_2, .map (some nb_1m0), .slice A_3 ([] : List TG0).length cap_3, .int .i64 0] 82 (0, 0))) :: (Ent.obj nb_1m0 (mapO (Value.int .i64) (fun x : TC0 => Value.agg #[.bool x.fEnded, .bool x.fOk, S x.fPhys]) ([] : List (Int × TC0)))) :: H) w_6 := by rw [← hv_2]; exact p_7.nilRow 42 5
   have hr_2 : RepSeq M_3 (([] : List TG0).map emb_TG0) [] := rfl
   have p_12 := p_8.pl [2, 3, 2, 3]
   obtain ⟨b_2, hL_1, hF_10⟩ := bS hF_9
   refine wp_mono (Q := fun e a w => (e = .exit 0 ∧ (∃ y_3 : List TD0 × Int × List TG0 × List TG0 × Int × (List (Int × TC0)), b_2 = y_3 ∧ ∃ M_8 : Mem, M_3.le M_8 ∧ ∃ (A_14 : Option Addr), ∃ (cap_14 : Nat), ∃ (A_15 : Option Addr), ∃ (cap_15 : Nat), ∃ (cs_7 : List Value), ∃ (A_16 : Option Addr), ∃ (cap_16 : Nat), ∃ (cs_8 : List Value), Sli M_8 3 emb_TD0 A_14 cap_14 y_3.1 ∧ RepSeq M_8 (y_3.2.2.1.map emb_TG0) cs_7 ∧ RepSeq M_8 (y_3.2.2.2.1.map emb_TG0) cs_8 ∧ Frm 121 [(3, .pointer (some (⟨b_1, 0, none⟩))), (5, .pointer (some (⟨nb_1, 0, none⟩)))] a ∧ Hp w0 M_8 ((Ent.row 42 5 (.slice A_15 y_3.2.2.1.length cap_15) y_3.2.2.1.length cs_7) :: (Ent.row 42 5 (.slice A_16 y_3.2.2.2.1.length cap_16) y_3.2.2.2.1.length cs_8) :: (Ent.obj nb_1m0 (mapO (Value.int .i64) (fun x : TC0 => Value.agg #[.bool x.fEnded, .bool x.fOk, S x.fPhys]) y_3.2.2.2.2.2)) :: (Ent.obj nb_1 (.cells #[.slice A_14 y_3.1.length cap_14, .int .i64 y_3.2.1, .slice A_15 y_3.2.2.1.length cap_15, .map (some nb_1m0), .slice A_16 y_3.2.2.2.1.length cap_16, .int .i64 y_3.2.2.2.2.1] 82 (0, 0))) :: H) w))) (R_loop (n := 121) (w0 := w0) (M := M_3) (fun (x : Nat × (Int × List TD0 × Int × List TG0 × List TG0 × Int × (List (Int × TC0))) × (Option Addr) × Nat × (Option Addr) × Nat × (List Value) × (Option Addr) × Nat × (List Value)) => match x with | (m_1, s_1, A_4, cap_4, A_5, cap_5, cs_1, A_6, cap_6, cs_2) => [(3, .pointer (some (⟨b_1, 0, none⟩))), (5, .pointer (some (⟨nb_1, 0, none⟩))), (23, .slice A0 d0.length cap0), (24, .int .i64 ((d0.length : Nat) : Int)), (25, .int .i64 s_1.1)]) (fun (x : Nat × (Int × List TD0 × Int × List TG0 × List TG0 × Int × (List (Int × TC0))) × (Option Addr) × Nat × (Option Addr) × Nat × (List Value) × (Option Addr) × Nat × (List Value)) => match x with | (m_1, s_1, A_4, cap_4, A_5, cap_5, cs_1, A_6, cap_6, cs_2) => ((Ent.row 42 5 (.slice A_5 s_1.2.2.2.1.length cap_5) s_1.2.2.2.1.length cs_1) :: (Ent.row 42 5 (.slice A_6 s_1.2.2.2.2.1.length cap_6) s_1.2.2.2.2.1.length cs_2) :: (Ent.obj nb_1m0 (mapO (Value.int .i64) (fun x : TC0 => Value.agg #[.bool x.fEnded, .bool x.fOk, S x.fPhys]) s_1.2.2.2.2.2.2)) :: (Ent.obj nb_1 (.cells #[.slice A_4 s_1.2.1.length cap_4, .int .i64 s_1.2.2.1, .slice A_5 s_1.2.2.2.1.length cap_5, .map (some nb_1m0), .slice A_6 s_1.2.2.2.2.1.length cap_6, .int .i64 s_1.2.2.2.2.2.1] 82 (0, 0))) :: H)) (fun (x : Nat × (Int × List TD0 × Int × List TG0 × List TG0 × Int × (List (Int × TC0))) × (Option Addr) × Nat × (Option Addr) × Nat × (List Value) × (Option Addr) × Nat × (List Value)) (MM : Mem) => match x with | (m_1, s_1, A_4, cap_4, A_5, cap_5, cs_1, A_6, cap_6, cs_2) => loopF (law11_CloudOnce_s1 n d0) m_1 s_1 = some b_2 ∧ Sli MM 3 emb_TD0 A_4 cap_4 s_1.2.1 ∧ RepSeq MM (s_1.2.2.2.1.map emb_TG0) cs_1 ∧ RepSeq MM (s_1.2.2.2.2.1.map emb_TG0) cs_2) (fun (x : Nat × (Int × List TD0 × Int × List TG0 × List TG0 × Int × (List (Int × TC0))) × (Option Addr) × Nat × (Option Addr) × Nat × (List Value) × (Option Addr) × Nat × (List Value)) => match x with | (m_1, s_1, A_4, cap_4, A_5, cap_5, cs_1, A_6, cap_6, cs_2) => m_1) (n, ((0 : Int), ([] : List TD0), (0 : Int), ([] : List TG0), ([] : List TG0), (0 : Int), ([] : List (Int × TC0))), none, 0, A_2, cap_2, [], A_3, cap_3, []) (f.kp) p_12 ⟨hL_1, Sli.nil, hr_1, hr_2⟩ ?_) ?_
   ·rintro ⟨m_1, s_1, A_4, cap_4, A_5, cap_5, cs_1, A_6, cap_6, cs_2⟩ M_4 _ w_7 hM_4 I_1 f p_13
    obtain ⟨I_1L, h_4, hr_3, hr_4⟩ := I_1
    obtain ⟨m_2, r_1, rfl, hs_1, hn_1⟩ := loop_step I_1L
    unfold law11_CloudOnce_s1 at hs_1
    refine RR (Y f 1 fun _ f => eT (R_seq (RcF f hs_1 (fun h_5 hF_11 => ?_) fun h_5 hF_25 => ?_)))
    ·have k_5 := dI.1 h_5
     refine wp_skip (T_n (R_seq (wp_block (RR ?_))))
     obtain ⟨x_5, hx_5, hF_12⟩ := bS hF_11
     obtain ⟨ad_1, c_1, e_1, -, hr_5, hc_3⟩ := Sli.at_ (h0.mono (((hM_1.trans hM_2).trans hM_3).trans hM_4)) hx_5
     obtain ⟨A_7, cap_7, rfl, h_6⟩ := TA0.opn hr_5
     refine Z f (Y32 e_1 rfl (len := d0.length) (cap := cap0) (k := .i64) (i := s_1.1) (e := 62) (sz := 7) (getI_nn hx_5) (getI_lt hx_5)) fun _ f => Z (v := .agg #[.int .i64 x_5.fDo, .int .i64 x_5.fN, .int .i64 x_5.fX.fToken, .int .i8 x_5.fX.fKind, S x_5.fX.fPhys, S x_5.fX.fType, .slice A_7 x_5.fX.fProps.length cap_7]) f (Y34 (cs := [.int .i64 x_5.fDo, .int .i64 x_5.fN, .int .i64 x_5.fX.fToken, .int .i8 x_5.fX.fKind, S x_5.fX.fPhys, S x_5.fX.fType, .slice A_7 x_5.fX.fProps.length cap_7]) rfl (ad := ad_1.add (s_1.1.toNat * 7)) (fun j v h => p_13.cell (hc_3 j v h))) fun _ f => Y12 f p_13 (.cells #[.int .i64 0, .int .i64 0, .int .i64 0, .int .i8 0, S [], S [], .slice none 0 0] 62 (0, 0)) fun b_3 w_8 p_14 _ f => Y28 (vs := [.int .i64 x_5.fDo, .int .i64 x_5.fN, .int .i64 x_5.fX.fToken, .int .i8 x_5.fX.fKind, S x_5.fX.fPhys, S x_5.fX.fType, .slice A_7 x_5.fX.fProps.length cap_7]) (j := 0) f p_14 rfl rfl (by simp [Value.oneCell', S]) (by simp) (by decide) (cs' := #[.int .i64 x_5.fDo, .int .i64 x_5.fN, .int .i64 x_5.fX.fToken, .int .i8 x_5.fX.fKind, S x_5.fX.fPhys, S x_5.fX.fType, .slice A_7 x_5.fX.fProps.length cap_7]) (by kernel_rfl) fun w_9 p_15 _ f => eT (RR (Y f 1 fun _ f => Z f (Y33 (v := .int .i64 x_5.fDo) rfl (ad := ⟨b_3, 0, none⟩) (p_15.ownCell 0 rfl 0)) fun _ f => eT (wp_block (RR (Y f 2 fun _ f => eT (RcF f hF_12 (fun h_7 hF_13 => ?_) fun h_7 hF_16 => ?_))))))
     ·have k_6 := dI.1 h_7
      refine R_reg (Y f 2 fun _ f => Z (v := .agg #[.int .i64 x_5.fX.fToken, .int .i8 x_5.fX.fKind, S x_5.fX.fPhys, S x_5.fX.fType, .slice A_7 x_5.fX.fProps.length cap_7]) f (Y34 (cs := [.int .i64 x_5.fX.fToken, .int .i8 x_5.fX.fKind, S x_5.fX.fPhys, S x_5.fX.fType, .slice A_7 x_5.fX.fProps.length cap_7]) rfl (ad := ⟨b_3, 2, none⟩) (own_cells (p_15.ownCell 0 rfl) 2 rfl)) fun _ f => ?_)
      obtain ⟨x_6, hx_6, hF_14⟩ := bS hF_13
      have p_20 := p_15.pl [2, 3, 3, 4]
      refine Y17 (E := [Ent.obj nb_1 (.cells #[.slice A_4 s_1.2.1.length cap_4, .int .i64 s_1.2.2.1, .slice A_5 s_1.2.2.2.1.length cap_5, .map (some nb_1m0), .slice A_6 s_1.2.2.2.2.1.length cap_6, .int .i64 s_1.2.2.2.2.2.1] 82 (0, 0)), Ent.row 42 5 (.slice A_5 s_1.2.2.2.1.length cap_5) s_1.2.2.2.1.length cs_1, Ent.obj nb_1m0 (mapO (Value.int .i64) (fun x : TC0 => Value.agg #[.bool x.fEnded, .bool x.fOk, S x.fPhys]) s_1.2.2.2.2.2.2), Ent.row 42 5 (.slice A_6 s_1.2.2.2.2.1.length cap_6) s_1.2.2.2.2.1.length cs_2]) (H := ((Ent.obj b_3 (.cells #[.int .i64 x_5.fDo, .int .i64 x_5.fN, .int .i64 x_5.fX.fToken, .int .i8 x_5.fX.fKind, S x_5.fX.fPhys, S x_5.fX.fType, .slice A_7 x_5.fX.fProps.length cap_7] 62 (0, 0))) :: H)) f p_20 (cloud_Cloud_Submit_ok n _ (GL.mono (((hM_1.trans hM_2).trans hM_3).trans hM_4) hG) nb_1 s_1.2.1 A_4 cap_4 h_4 s_1.2.2.1 s_1.2.2.2.1 A_5 cap_5 cs_1 hr_3 nb_1m0 s_1.2.2.2.2.2.2 s_1.2.2.2.2.1 A_6 cap_6 cs_2 hr_4 s_1.2.2.2.2.2.1 _ (⟨x_5.fX.fToken, x_5.fX.fKind, x_5.fX.fPhys, x_5.fX.fType, x_5.fX.fProps⟩ : TG0) (TG0.shut h_6) x_6 hx_6) fun _ M_5 E_2 w_10 hM_5 p_16 q_2 _ f => ?_
      obtain ⟨A_8, cap_8, A_9, cap_9, cs_3, A_10, cap_10, cs_4, rfl, rfl, h_8, hr_6, hr_7⟩ := q_2
      refine W_end rfl (B_n (B_n (T_n (R_reg ?_))))
      obtain ⟨g_1, hF_15⟩ := nS hF_14
      refine Y f 1 fun _ f => ?_
      have f := f.st 47 (congrArg (Value.int .i64) (inR_wrap g_1))
      refine Y f 1 fun _ f => W_end rfl ?_
      have p_31 := p_16.pl [2, 3, 3, 4]
      refine T_n ?_
      obtain rfl := sI hF_15
      exact ⟨⟨m_2, (s_1.1 + 1, x_6.2.1, x_6.2.2.1, x_6.2.2.2.1, x_6.2.2.2.2.2.1, x_6.2.2.2.2.2.2, x_6.2.2.2.2.1), A_8, cap_8, A_9, cap_9, cs_3, A_10, cap_10, cs_4⟩, Nat.lt_succ_self _, M_5, (hM_4.trans hM_5), ⟨hn_1, h_8, hr_6, hr_7⟩, f.kp, (p_31.dropN 1)⟩
     ·have k_7 := iff_f dI h_7
      refine R_seq (RR (Y f 2 fun _ f => eT ?_))
      obtain ⟨j_2, hj_2, hF_17⟩ := bS hF_16
      refine R_mid (fun a_32 w_11 => ∃ y_2 : Bool, j_2 = y_2 ∧ ∃ M_6 : Mem, M_4.le M_6 ∧ Frm 121 [(3, .pointer (some (⟨b_1, 0, none⟩))), (5, .pointer (some (⟨nb_1, 0, none⟩))), (7, .pointer (some (⟨b_3, 0, none⟩))), (23, .slice A0 d0.length cap0), (24, .int .i64 ((d0.length : Nat) : Int)), (25, .int .i64 s_1.1), (37, .bool y_2)] a_32 ∧ Hp w0 M_6 ((Ent.obj b_3 (.cells #[.int .i64 x_5.fDo, .int .i64 x_5.fN, .int .i64 x_5.fX.fToken, .int .i8 x_5.fX.fKind, S x_5.fX.fPhys, S x_5.fX.fType, .slice A_7 x_5.fX.fProps.length cap_7] 62 (0, 0))) :: (Ent.row 42 5 (.slice A_5 s_1.2.2.2.1.length cap_5) s_1.2.2.2.1.length cs_1) :: (Ent.row 42 5 (.slice A_6 s_1.2.2.2.2.1.length cap_6) s_1.2.2.2.2.1.length cs_2) :: (Ent.obj nb_1m0 (mapO (Value.int .i64) (fun x : TC0 => Value.agg #[.bool x.fEnded, .bool x.fOk, S x.fPhys]) s_1.2.2.2.2.2.2)) :: (Ent.obj nb_1 (.cells #[.slice A_4 s_1.2.1.length cap_4, .int .i64 s_1.2.2.1, .slice A_5 s_1.2.2.2.1.length cap_5, .map (some nb_1m0), .slice A_6 s_1.2.2.2.2.1.length cap_6, .int .i64 s_1.2.2.2.2.2.1] 82 (0, 0))) :: H) w_11) ?_ ?_
      ·refine RcF f hj_2 (fun h_9 hF_18 => ?_) fun h_9 hF_19 => ?_
       ·have k_8 := dI.1 h_9
        refine wp_skip (T_n ?_)
        exact ⟨(decide (x_5.fDo = 1)), (sI hF_18).symm, M_4, (mR _), f.kp, p_15⟩
       ·have k_9 := iff_f dI h_9
        refine R_reg (Y f 2 fun _ f => eT ?_)
        exact ⟨(decide (x_5.fDo = 2)), (sI hF_19).symm, M_4, (mR _), f.kp, p_15⟩
      ·rintro a_32 w_11 ⟨y_2, hq_2, M_6, hM_6, f, p_21⟩
       subst j_2
       refine T_n (RcF f hF_17 (fun h_10 hF_20 => ?_) fun h_10 hF_23 => ?_)
       ·refine R_reg (Y f 2 fun _ f => Z f (Y33 (v := .int .i64 x_5.fN) rfl (ad := ⟨b_3, 1, none⟩) (p_21.ownCell 0 rfl 1)) fun _ f => Y f 1 fun _ f => Z f (Y33 (v := .int .i64 x_5.fDo) rfl (ad := ⟨b_3, 0, none⟩) (p_21.ownCell 0 rfl 0)) fun _ f => Y f 1 fun _ f => ?_)
        obtain ⟨x_7, hx_7, hF_21⟩ := bS hF_20
        have p_26 := p_21.pl [2, 3, 3, 4]
        refine Y17 (E := [Ent.obj nb_1 (.cells #[.slice A_4 s_1.2.1.length cap_4, .int .i64 s_1.2.2.1, .slice A_5 s_1.2.2.2.1.length cap_5, .map (some nb_1m0), .slice A_6 s_1.2.2.2.2.1.length cap_6, .int .i64 s_1.2.2.2.2.2.1] 82 (0, 0)), Ent.row 42 5 (.slice A_5 s_1.2.2.2.1.length cap_5) s_1.2.2.2.1.length cs_1, Ent.obj nb_1m0 (mapO (Value.int .i64) (fun x : TC0 => Value.agg #[.bool x.fEnded, .bool x.fOk, S x.fPhys]) s_1.2.2.2.2.2.2), Ent.row 42 5 (.slice A_6 s_1.2.2.2.2.1.length cap_6) s_1.2.2.2.2.1.length cs_2]) (H := ((Ent.obj b_3 (.cells #[.int .i64 x_5.fDo, .int .i64 x_5.fN, .int .i64 x_5.fX.fToken, .int .i8 x_5.fX.fKind, S x_5.fX.fPhys, S x_5.fX.fType, .slice A_7 x_5.fX.fProps.length cap_7] 62 (0, 0))) :: H)) f p_26 (cloud_Cloud_End_ok n _ (GL.mono ((((hM_1.trans hM_2).trans hM_3).trans hM_4).trans hM_6) hG) nb_1 s_1.2.1 A_4 cap_4 (h_4.mono hM_6) s_1.2.2.1 s_1.2.2.2.1 A_5 cap_5 cs_1 (RepSeq.mono hM_6 _ _ hr_3) nb_1m0 s_1.2.2.2.2.2.2 s_1.2.2.2.2.1 A_6 cap_6 cs_2 (RepSeq.mono hM_6 _ _ hr_4) s_1.2.2.2.2.2.1 x_5.fN (decide (x_5.fDo = 1)) x_7 hx_7) fun _ M_7 E_3 w_12 hM_7 p_22 q_3 _ f => ?_
        obtain ⟨c_2, A_11, cap_11, A_12, cap_12, cs_5, A_13, cap_13, cs_6, rfl, rfl, hr_8, h_11, hr_9, hr_10⟩ := q_3
        obtain rfl := TC0.opn hr_8
        refine W_end rfl (B_n (B_n (T_n (R_reg ?_))))
        obtain ⟨g_2, hF_22⟩ := nS hF_21
        refine Y f 1 fun _ f => ?_
        have f := f.st 47 (congrArg (Value.int .i64) (inR_wrap g_2))
        refine Y f 1 fun _ f => W_end rfl ?_
        have p_35 := p_22.pl [2, 3, 3, 4]
        refine T_n ?_
        obtain rfl := sI hF_22
        exact ⟨⟨m_2, (s_1.1 + 1, x_7.2.2.2.1, x_7.2.2.2.2.1, x_7.2.2.2.2.2.1, x_7.2.2.2.2.2.2.2.1, x_7.2.2.2.2.2.2.2.2, x_7.2.2.2.2.2.2.1), A_11, cap_11, A_12, cap_12, cs_5, A_13, cap_13, cs_6⟩, Nat.lt_succ_self _, M_7, ((hM_4.trans hM_6).trans hM_7), ⟨hn_1, h_11, hr_9, hr_10⟩, f.kp, (p_35.dropN 1)⟩
       ·refine wp_skip (B_n (B_n (T_n (R_reg ?_))))
        obtain ⟨g_3, hF_24⟩ := nS hF_23
        refine Y f 1 fun _ f => ?_
        have f := f.st 47 (congrArg (Value.int .i64) (inR_wrap g_3))
        refine Y f 1 fun _ f => eT ?_
        obtain rfl := sI hF_24
        exact ⟨⟨m_2, (s_1.1 + 1, s_1.2.1, s_1.2.2.1, s_1.2.2.2.1, s_1.2.2.2.2.1, s_1.2.2.2.2.2.1, s_1.2.2.2.2.2.2), A_4, cap_4, A_5, cap_5, cs_1, A_6, cap_6, cs_2⟩, Nat.lt_succ_self _, M_6, (hM_4.trans hM_6), ⟨hn_1, (h_4.mono hM_6), (RepSeq.mono hM_6 _ _ hr_3), (RepSeq.mono hM_6 _ _ hr_4)⟩, f.kp, (p_21.dropN 1)⟩
    ·have k_12 := iff_f dI h_5
     refine wp_exit (T_x (T_x ?_))
     obtain rfl := sI hF_25
     exact ⟨rfl, (s_1.2.1, s_1.2.2.1, s_1.2.2.2.1, s_1.2.2.2.2.1, s_1.2.2.2.2.2.1, s_1.2.2.2.2.2.2), (sI hn_1).symm, M_4, hM_4, A_4, cap_4, A_5, cap_5, cs_1, A_6, cap_6, cs_2, h_4, hr_3, hr_4, f.kp, p_13⟩
   ·rintro _ _ w_14 ⟨rfl, y_3, hq_, M_8, hM_8, A_14, cap_14, A_15, cap_15, cs_7, A_16, cap_16, cs_8, h_12, hr_11, hr_12, f, p_27⟩
    subst b_2
    refine B_x (T_n (RR (Y f 2 fun _ f => Y15 f p_27 (fzu ((hM_2.trans hM_3).trans hM_8) hc_2) 0 rfl fun _ f => ?_)))
    obtain ⟨x_8, hx_8, hF_26⟩ := bS hF_10
    have p_40 := p_27.pl [1, 2, 2, 3]
    refine Y17 (E := [Ent.obj nb_1 (.cells #[.slice A_14 y_3.1.length cap_14, .int .i64 y_3.2.1, .slice A_15 y_3.2.2.1.length cap_15, .map (some nb_1m0), .slice A_16 y_3.2.2.2.1.length cap_16, .int .i64 y_3.2.2.2.2.1] 82 (0, 0)), Ent.row 42 5 (.slice A_15 y_3.2.2.1.length cap_15) y_3.2.2.1.length cs_7, Ent.obj nb_1m0 (mapO (Value.int .i64) (fun x : TC0 => Value.agg #[.bool x.fEnded, .bool x.fOk, S x.fPhys]) y_3.2.2.2.2.2), Ent.row 42 5 (.slice A_16 y_3.2.2.2.1.length cap_16) y_3.2.2.2.1.length cs_8]) (H := (H)) f p_40 (cloud_Cloud_Ask_ok n _ (GL.mono (((hM_1.trans hM_2).trans hM_3).trans hM_8) hG) nb_1 y_3.1 A_14 cap_14 h_12 y_3.2.1 y_3.2.2.1 A_15 cap_15 cs_7 hr_11 nb_1m0 y_3.2.2.2.2.2 y_3.2.2.2.1 A_16 cap_16 cs_8 hr_12 y_3.2.2.2.2.1 d1.fToken x_8 hx_8) fun _ M_9 E_4 w_15 hM_9 p_36 q_4 _ f => ?_
    obtain ⟨c_3, A_17, cap_17, A_18, cap_18, cs_9, A_19, cap_19, cs_10, rfl, rfl, hr_13, h_13, hr_14, hr_15⟩ := q_4
    obtain rfl := TC0.opn hr_13
    refine Y f 3 fun _ f => Y12 f p_36 (.cells #[.bool false, .bool false, S []] 45 (0, 0)) fun b_4 w_16 p_41 _ f => Y28 (vs := [.bool x_8.1.fEnded, .bool x_8.1.fOk, S x_8.1.fPhys]) (j := 0) f p_41 rfl rfl (by simp [Value.oneCell', S]) (by simp) (by decide) (cs' := #[.bool x_8.1.fEnded, .bool x_8.1.fOk, S x_8.1.fPhys]) (by kernel_rfl) fun w_17 p_42 _ f => Y f 1 fun _ f => eT (RR (Y f 1 fun _ f => ?_))
    obtain ⟨x_9, hx_9, hF_27⟩ := bS hF_26
    have p_47 := p_42.pl [4, 4, 4, 4]
    refine Y17 (E := [Ent.obj nb_1 (.cells #[.slice A_17 x_8.2.2.1.length cap_17, .int .i64 x_8.2.2.2.1, .slice A_18 x_8.2.2.2.2.1.length cap_18, .map (some nb_1m0), .slice A_19 x_8.2.2.2.2.2.2.1.length cap_19, .int .i64 x_8.2.2.2.2.2.2.2] 82 (0, 0)), Ent.row 42 5 (.slice A_18 x_8.2.2.2.2.1.length cap_18) x_8.2.2.2.2.1.length cs_9, Ent.obj nb_1m0 (mapO (Value.int .i64) (fun x : TC0 => Value.agg #[.bool x.fEnded, .bool x.fOk, S x.fPhys]) x_8.2.2.2.2.2.1), Ent.row 42 5 (.slice A_19 x_8.2.2.2.2.2.2.1.length cap_19) x_8.2.2.2.2.2.2.1.length cs_10]) (H := ((Ent.obj b_4 (.cells #[.bool x_8.1.fEnded, .bool x_8.1.fOk, S x_8.1.fPhys] 45 (0, 0))) :: H)) f p_47 (cloud_Cloud_Things_ok n _ (GL.mono ((((hM_1.trans hM_2).trans hM_3).trans hM_8).trans hM_9) hG) nb_1 x_8.2.2.1 A_17 cap_17 h_13 x_8.2.2.2.1 x_8.2.2.2.2.1 A_18 cap_18 cs_9 hr_14 nb_1m0 x_8.2.2.2.2.2.1 x_8.2.2.2.2.2.2.1 A_19 cap_19 cs_10 hr_15 x_8.2.2.2.2.2.2.2 x_9 hx_9) fun _ M_10 E_5 w_18 hM_10 p_43 q_5 _ f => ?_
    obtain ⟨A_20, cap_20, cs_11, A_21, cap_21, A_22, cap_22, cs_12, A_23, cap_23, cs_13, rfl, rfl, hr_16, h_14, hr_17, hr_18⟩ := q_5
    refine Y f 1 fun _ f => ?_
    obtain ⟨x_10, hx_10, hF_28⟩ := bS hF_27
    have p_52 := p_43.pl [4, 4, 4, 4]
    refine Y17 (E := [Ent.obj nb_1 (.cells #[.slice A_21 x_9.2.1.length cap_21, .int .i64 x_9.2.2.1, .slice A_22 x_9.2.2.2.1.length cap_22, .map (some nb_1m0), .slice A_23 x_9.2.2.2.2.2.1.length cap_23, .int .i64 x_9.2.2.2.2.2.2] 82 (0, 0)), Ent.row 42 5 (.slice A_22 x_9.2.2.2.1.length cap_22) x_9.2.2.2.1.length cs_12, Ent.obj nb_1m0 (mapO (Value.int .i64) (fun x : TC0 => Value.agg #[.bool x.fEnded, .bool x.fOk, S x.fPhys]) x_9.2.2.2.2.1), Ent.row 42 5 (.slice A_23 x_9.2.2.2.2.2.1.length cap_23) x_9.2.2.2.2.2.1.length cs_13]) (H := ((Ent.row 54 3 (.slice A_20 x_9.1.length cap_20) x_9.1.length cs_11) :: (Ent.obj b_4 (.cells #[.bool x_8.1.fEnded, .bool x_8.1.fOk, S x_8.1.fPhys] 45 (0, 0))) :: H)) f p_52 (cloud_Cloud_Flight_ok n _ (GL.mono (((((hM_1.trans hM_2).trans hM_3).trans hM_8).trans hM_9).trans hM_10) hG) nb_1 x_9.2.1 A_21 cap_21 h_14 x_9.2.2.1 x_9.2.2.2.1 A_22 cap_22 cs_12 hr_17 nb_1m0 x_9.2.2.2.2.1 x_9.2.2.2.2.2.1 A_23 cap_23 cs_13 hr_18 x_9.2.2.2.2.2.2 x_10 hx_10) fun _ M_11 E_6 w_19 hM_11 p_48 q_6 _ f => ?_
    obtain ⟨A_24, cap_24, cs_14, A_25, cap_25, A_26, cap_26, cs_15, A_27, cap_27, cs_16, rfl, rfl, hr_19, h_15, hr_20, hr_21⟩ := q_6
    refine Y f 1 fun _ f => ?_
    obtain ⟨x_11, hx_11, hF_29⟩ := bS hF_28
    have p_57 := p_48.pl [4, 4, 4, 4]
    refine Y17 (E := [Ent.obj nb_1 (.cells #[.slice A_25 x_10.2.1.length cap_25, .int .i64 x_10.2.2.1, .slice A_26 x_10.2.2.2.1.length cap_26, .map (some nb_1m0), .slice A_27 x_10.2.2.2.2.2.1.length cap_27, .int .i64 x_10.2.2.2.2.2.2] 82 (0, 0)), Ent.row 42 5 (.slice A_26 x_10.2.2.2.1.length cap_26) x_10.2.2.2.1.length cs_15, Ent.obj nb_1m0 (mapO (Value.int .i64) (fun x : TC0 => Value.agg #[.bool x.fEnded, .bool x.fOk, S x.fPhys]) x_10.2.2.2.2.1), Ent.row 42 5 (.slice A_27 x_10.2.2.2.2.2.1.length cap_27) x_10.2.2.2.2.2.1.length cs_16]) (H := ((Ent.row 3 1 (.slice A_24 x_10.1.length cap_24) x_10.1.length cs_14) :: (Ent.row 54 3 (.slice A_20 x_9.1.length cap_20) x_9.1.length cs_11) :: (Ent.obj b_4 (.cells #[.bool x_8.1.fEnded, .bool x_8.1.fOk, S x_8.1.fPhys] 45 (0, 0))) :: H)) f p_57 (cloud_Cloud_Made_ok n _ (GL.mono ((((((hM_1.trans hM_2).trans hM_3).trans hM_8).trans hM_9).trans hM_10).trans hM_11) hG) nb_1 x_10.2.1 A_25 cap_25 h_15 x_10.2.2.1 x_10.2.2.2.1 A_26 cap_26 cs_15 hr_20 nb_1m0 x_10.2.2.2.2.1 x_10.2.2.2.2.2.1 A_27 cap_27 cs_16 hr_21 x_10.2.2.2.2.2.2 x_11 hx_11) fun _ M_12 E_7 w_20 hM_12 p_53 q_7 _ f => ?_
    obtain ⟨A_28, cap_28, A_29, cap_29, cs_17, A_30, cap_30, cs_18, rfl, rfl, h_16, hr_22, hr_23⟩ := q_7
    refine Y f 1 fun _ f => ?_
    obtain ⟨x_12, hx_12, hF_30⟩ := bS hF_29
    refine Y17 (E := [Ent.obj nb_1 (.cells #[.slice A_28 x_11.2.1.length cap_28, .int .i64 x_11.2.2.1, .slice A_29 x_11.2.2.2.1.length cap_29, .map (some nb_1m0), .slice A_30 x_11.2.2.2.2.2.1.length cap_30, .int .i64 x_11.2.2.2.2.2.2] 82 (0, 0)), Ent.row 42 5 (.slice A_29 x_11.2.2.2.1.length cap_29) x_11.2.2.2.1.length cs_17, Ent.obj nb_1m0 (mapO (Value.int .i64) (fun x : TC0 => Value.agg #[.bool x.fEnded, .bool x.fOk, S x.fPhys]) x_11.2.2.2.2.1), Ent.row 42 5 (.slice A_30 x_11.2.2.2.2.2.1.length cap_30) x_11.2.2.2.2.2.1.length cs_18]) (H := ((Ent.row 3 1 (.slice A_24 x_10.1.length cap_24) x_10.1.length cs_14) :: (Ent.row 54 3 (.slice A_20 x_9.1.length cap_20) x_9.1.length cs_11) :: (Ent.obj b_4 (.cells #[.bool x_8.1.fEnded, .bool x_8.1.fOk, S x_8.1.fPhys] 45 (0, 0))) :: H)) f p_53 (cloud_Cloud_Calls_ok n _ (GL.mono (((((((hM_1.trans hM_2).trans hM_3).trans hM_8).trans hM_9).trans hM_10).trans hM_11).trans hM_12) hG) nb_1 x_11.2.1 A_28 cap_28 h_16 x_11.2.2.1 x_11.2.2.2.1 A_29 cap_29 cs_17 hr_22 nb_1m0 x_11.2.2.2.2.1 x_11.2.2.2.2.2.1 A_30 cap_30 cs_18 hr_23 x_11.2.2.2.2.2.2 x_12 hx_12) fun _ M_13 E_8 w_21 hM_13 p_58 q_8 _ f => ?_
    obtain ⟨A_31, cap_31, cs_19, A_32, cap_32, A_33, cap_33, cs_20, A_34, cap_34, cs_21, rfl, rfl, hr_24, h_17, hr_25, hr_26⟩ := q_8
    refine Y f 5 fun _ f => eT (RR (Y f 1 fun _ f => Z (v := .agg #[.int .i64 d1.fToken, .int .i8 d1.fKind, S d1.fPhys, S d1.fType, .slice A_1 d1.fProps.length cap_1]) f (Y34 (cs := [.int .i64 d1.fToken, .int .i8 d1.fKind, S d1.fPhys, S d1.fType, .slice A_1 d1.fProps.length cap_1]) rfl (ad := ⟨b_1, 0, none⟩) (fun j v h => p_58.cell ((fzu (((((((hM_2.trans hM_3).trans hM_8).trans hM_9).trans hM_10).trans hM_11).trans hM_12).trans hM_13) hc_2) j v h))) fun _ f => ?_))
    obtain ⟨x_13, hx_13, hF_31⟩ := bS hF_30
    have p_63 := p_58.pl [4, 4, 4, 4]
    refine Y17 (E := [Ent.obj nb_1 (.cells #[.slice A_32 x_12.2.1.length cap_32, .int .i64 x_12.2.2.1, .slice A_33 x_12.2.2.2.1.length cap_33, .map (some nb_1m0), .slice A_34 x_12.2.2.2.2.2.1.length cap_34, .int .i64 x_12.2.2.2.2.2.2] 82 (0, 0)), Ent.row 42 5 (.slice A_33 x_12.2.2.2.1.length cap_33) x_12.2.2.2.1.length cs_20, Ent.obj nb_1m0 (mapO (Value.int .i64) (fun x : TC0 => Value.agg #[.bool x.fEnded, .bool x.fOk, S x.fPhys]) x_12.2.2.2.2.1), Ent.row 42 5 (.slice A_34 x_12.2.2.2.2.2.1.length cap_34) x_12.2.2.2.2.2.1.length cs_21]) (H := ((Ent.row 42 5 (.slice A_31 x_12.1.length cap_31) x_12.1.length cs_19) :: (Ent.row 3 1 (.slice A_24 x_10.1.length cap_24) x_10.1.length cs_14) :: (Ent.row 54 3 (.slice A_20 x_9.1.length cap_20) x_9.1.length cs_11) :: (Ent.obj b_4 (.cells #[.bool x_8.1.fEnded, .bool x_8.1.fOk, S x_8.1.fPhys] 45 (0, 0))) :: H)) f p_63 (cloud_Cloud_Submit_ok n _ (GL.mono ((((((((hM_1.trans hM_2).trans hM_3).trans hM_8).trans hM_9).trans hM_10).trans hM_11).trans hM_12).trans hM_13) hG) nb_1 x_12.2.1 A_32 cap_32 h_17 x_12.2.2.1 x_12.2.2.2.1 A_33 cap_33 cs_20 hr_25 nb_1m0 x_12.2.2.2.2.1 x_12.2.2.2.2.2.1 A_34 cap_34 cs_21 hr_26 x_12.2.2.2.2.2.2 _ d1 (TG0.shutx (x := d1) (h_1.mono ((((((((hM_1.trans hM_2).trans hM_3).trans hM_8).trans hM_9).trans hM_10).trans hM_11).trans hM_12).trans hM_13))) x_13 hx_13) fun _ M_14 E_9 w_22 hM_14 p_59 q_9 _ f => ?_
    obtain ⟨A_35, cap_35, A_36, cap_36, cs_22, A_37, cap_37, cs_23, rfl, rfl, h_18, hr_27, hr_28⟩ := q_9
    refine Y f 1 fun _ f => eT (R_seq (RR (Y f 2 fun _ f => eT (RcF f hF_31 (fun h_19 hF_32 => ?_) fun h_19 hF_45 => ?_))))
    ·have k_13 : (x_8.2.1) = false := by simpa using h_19
     refine R_seq ?_
     obtain ⟨j_3, hj_3, hF_33⟩ := bS hF_32
     refine R_mid (fun a_84 w_27 => ∃ y_4 : Bool × List TD0 × Int × List TG0 × List TG0 × Int × (List (Int × TC0)), j_3 = y_4 ∧ ∃ M_18 : Mem, M_14.le M_18 ∧ ∃ (A_50 : Option Addr), ∃ (cap_50 : Nat), ∃ (A_51 : Option Addr), ∃ (cap_51 : Nat), ∃ (cs_33 : List Value), ∃ (A_52 : Option Addr), ∃ (cap_52 : Nat), ∃ (cs_34 : List Value), Sli M_18 3 emb_TD0 A_50 cap_50 y_4.2.1 ∧ RepSeq M_18 (y_4.2.2.2.1.map emb_TG0) cs_33 ∧ RepSeq M_18 (y_4.2.2.2.2.1.map emb_TG0) cs_34 ∧ Frm 121 [(4, .bool y_4.1)] a_84 ∧ Hp w0 M_18 ((Ent.row 42 5 (.slice A_51 y_4.2.2.2.1.length cap_51) y_4.2.2.2.1.length cs_33) :: (Ent.row 42 5 (.slice A_52 y_4.2.2.2.2.1.length cap_52) y_4.2.2.2.2.1.length cs_34) :: (Ent.obj nb_1m0 (mapO (Value.int .i64) (fun x : TC0 => Value.agg #[.bool x.fEnded, .bool x.fOk, S x.fPhys]) y_4.2.2.2.2.2.2)) :: (Ent.obj nb_1 (.cells #[.slice A_50 y_4.2.1.length cap_50, .int .i64 y_4.2.2.1, .slice A_51 y_4.2.2.2.1.length cap_51, .map (some nb_1m0), .slice A_52 y_4.2.2.2.2.1.length cap_52, .int .i64 y_4.2.2.2.2.2.1] 82 (0, 0))) :: (Ent.row 42 5 (.slice A_31 x_12.1.length cap_31) x_12.1.length cs_19) :: (Ent.row 3 1 (.slice A_24 x_10.1.length cap_24) x_10.1.length cs_14) :: (Ent.row 54 3 (.slice A_20 x_9.1.length cap_20) x_9.1.length cs_11) :: (Ent.obj b_4 (.cells #[.bool x_8.1.fEnded, .bool x_8.1.fOk, S x_8.1.fPhys] 45 (0, 0))) :: H) w_27) ?_ ?_
     ·refine R_reg (Y f 1 fun _ f => ?_)
      obtain ⟨x_14, hx_14, hF_34⟩ := bS hj_3
      refine Y17 (E := [Ent.obj nb_1 (.cells #[.slice A_35 x_13.2.1.length cap_35, .int .i64 x_13.2.2.1, .slice A_36 x_13.2.2.2.1.length cap_36, .map (some nb_1m0), .slice A_37 x_13.2.2.2.2.2.1.length cap_37, .int .i64 x_13.2.2.2.2.2.2] 82 (0, 0)), Ent.row 42 5 (.slice A_36 x_13.2.2.2.1.length cap_36) x_13.2.2.2.1.length cs_22, Ent.obj nb_1m0 (mapO (Value.int .i64) (fun x : TC0 => Value.agg #[.bool x.fEnded, .bool x.fOk, S x.fPhys]) x_13.2.2.2.2.1), Ent.row 42 5 (.slice A_37 x_13.2.2.2.2.2.1.length cap_37) x_13.2.2.2.2.2.1.length cs_23]) (H := ((Ent.row 42 5 (.slice A_31 x_12.1.length cap_31) x_12.1.length cs_19) :: (Ent.row 3 1 (.slice A_24 x_10.1.length cap_24) x_10.1.length cs_14) :: (Ent.row 54 3 (.slice A_20 x_9.1.length cap_20) x_9.1.length cs_11) :: (Ent.obj b_4 (.cells #[.bool x_8.1.fEnded, .bool x_8.1.fOk, S x_8.1.fPhys] 45 (0, 0))) :: H)) f p_59 (cloud_Cloud_Calls_ok n _ (GL.mono (((((((((hM_1.trans hM_2).trans hM_3).trans hM_8).trans hM_9).trans hM_10).trans hM_11).trans hM_12).trans hM_13).trans hM_14) hG) nb_1 x_13.2.1 A_35 cap_35 h_18 x_13.2.2.1 x_13.2.2.2.1 A_36 cap_36 cs_22 hr_27 nb_1m0 x_13.2.2.2.2.1 x_13.2.2.2.2.2.1 A_37 cap_37 cs_23 hr_28 x_13.2.2.2.2.2.2 x_14 hx_14) fun _ M_15 E_10 w_23 hM_15 p_64 q_10 _ f => ?_
      obtain ⟨A_38, cap_38, cs_24, A_39, cap_39, A_40, cap_40, cs_25, A_41, cap_41, cs_26, rfl, rfl, hr_29, h_20, hr_30, hr_31⟩ := q_10
      refine Y f 3 fun _ f => ?_
      obtain ⟨x_15, hx_15, hF_35⟩ := bS hF_34
      have p_69 := p_64.pl [4, 4, 4, 4]
      refine Y17 (E := [Ent.obj nb_1 (.cells #[.slice A_39 x_14.2.1.length cap_39, .int .i64 x_14.2.2.1, .slice A_40 x_14.2.2.2.1.length cap_40, .map (some nb_1m0), .slice A_41 x_14.2.2.2.2.2.1.length cap_41, .int .i64 x_14.2.2.2.2.2.2] 82 (0, 0)), Ent.row 42 5 (.slice A_40 x_14.2.2.2.1.length cap_40) x_14.2.2.2.1.length cs_25, Ent.obj nb_1m0 (mapO (Value.int .i64) (fun x : TC0 => Value.agg #[.bool x.fEnded, .bool x.fOk, S x.fPhys]) x_14.2.2.2.2.1), Ent.row 42 5 (.slice A_41 x_14.2.2.2.2.2.1.length cap_41) x_14.2.2.2.2.2.1.length cs_26]) (H := ((Ent.row 42 5 (.slice A_38 x_14.1.length cap_38) x_14.1.length cs_24) :: (Ent.row 42 5 (.slice A_31 x_12.1.length cap_31) x_12.1.length cs_19) :: (Ent.row 3 1 (.slice A_24 x_10.1.length cap_24) x_10.1.length cs_14) :: (Ent.row 54 3 (.slice A_20 x_9.1.length cap_20) x_9.1.length cs_11) :: (Ent.obj b_4 (.cells #[.bool x_8.1.fEnded, .bool x_8.1.fOk, S x_8.1.fPhys] 45 (0, 0))) :: H)) f p_69 (cloud_Cloud_Flight_ok n _ (GL.mono ((((((((((hM_1.trans hM_2).trans hM_3).trans hM_8).trans hM_9).trans hM_10).trans hM_11).trans hM_12).trans hM_13).trans hM_14).trans hM_15) hG) nb_1 x_14.2.1 A_39 cap_39 h_20 x_14.2.2.1 x_14.2.2.2.1 A_40 cap_40 cs_25 hr_30 nb_1m0 x_14.2.2.2.2.1 x_14.2.2.2.2.2.1 A_41 cap_41 cs_26 hr_31 x_14.2.2.2.2.2.2 x_15 hx_15) fun _ M_16 E_11 w_24 hM_16 p_65 q_11 _ f => ?_
      obtain ⟨A_42, cap_42, cs_27, A_43, cap_43, A_44, cap_44, cs_28, A_45, cap_45, cs_29, rfl, rfl, hr_32, h_21, hr_33, hr_34⟩ := q_11
      refine Y f 1 fun _ f => ?_
      obtain ⟨g_4, hF_36⟩ := nS hF_35
      refine Y f 1 fun _ f => ?_
      have f := f.st 76 (congrArg (Value.int .i64) (inR_wrap g_4))
      refine Y f 2 fun _ f => ?_
      obtain ⟨g_5, hF_37⟩ := nS hF_36
      refine Y f 1 fun _ f => ?_
      have f := f.st 79 (congrArg (Value.int .i64) (inR_wrap g_5))
      refine Y f 2 fun _ f => ?_
      rcases cE hF_37 with ⟨h_22, hF_38⟩ | ⟨h_22, hF_44⟩
      ·have k_14 := dI.1 h_22
       have f := f.st 81 (cB h_22)
       refine Y f 3 fun _ f => ?_
       obtain ⟨x_16, hx_16, hF_39⟩ := bS hF_38
       have p_74 := p_65.pl [4, 4, 4, 4]
       refine Y17 (E := [Ent.obj nb_1 (.cells #[.slice A_43 x_15.2.1.length cap_43, .int .i64 x_15.2.2.1, .slice A_44 x_15.2.2.2.1.length cap_44, .map (some nb_1m0), .slice A_45 x_15.2.2.2.2.2.1.length cap_45, .int .i64 x_15.2.2.2.2.2.2] 82 (0, 0)), Ent.row 42 5 (.slice A_44 x_15.2.2.2.1.length cap_44) x_15.2.2.2.1.length cs_28, Ent.obj nb_1m0 (mapO (Value.int .i64) (fun x : TC0 => Value.agg #[.bool x.fEnded, .bool x.fOk, S x.fPhys]) x_15.2.2.2.2.1), Ent.row 42 5 (.slice A_45 x_15.2.2.2.2.2.1.length cap_45) x_15.2.2.2.2.2.1.length cs_29]) (H := ((Ent.row 3 1 (.slice A_42 x_15.1.length cap_42) x_15.1.length cs_27) :: (Ent.row 42 5 (.slice A_38 x_14.1.length cap_38) x_14.1.length cs_24) :: (Ent.row 42 5 (.slice A_31 x_12.1.length cap_31) x_12.1.length cs_19) :: (Ent.row 3 1 (.slice A_24 x_10.1.length cap_24) x_10.1.length cs_14) :: (Ent.row 54 3 (.slice A_20 x_9.1.length cap_20) x_9.1.length cs_11) :: (Ent.obj b_4 (.cells #[.bool x_8.1.fEnded, .bool x_8.1.fOk, S x_8.1.fPhys] 45 (0, 0))) :: H)) f p_74 (cloud_Cloud_Calls_ok n _ (GL.mono (((((((((((hM_1.trans hM_2).trans hM_3).trans hM_8).trans hM_9).trans hM_10).trans hM_11).trans hM_12).trans hM_13).trans hM_14).trans hM_15).trans hM_16) hG) nb_1 x_15.2.1 A_43 cap_43 h_21 x_15.2.2.1 x_15.2.2.2.1 A_44 cap_44 cs_28 hr_33 nb_1m0 x_15.2.2.2.2.1 x_15.2.2.2.2.2.1 A_45 cap_45 cs_29 hr_34 x_15.2.2.2.2.2.2 x_16 hx_16) fun _ M_17 E_12 w_25 hM_17 p_70 q_12 _ f => ?_
       obtain ⟨A_46, cap_46, cs_30, A_47, cap_47, A_48, cap_48, cs_31, A_49, cap_49, cs_32, rfl, rfl, hr_35, h_23, hr_36, hr_37⟩ := q_12
       refine Y f 2 fun _ f => ?_
       obtain ⟨g_6, hF_40⟩ := nS hF_39
       refine Y f 1 fun _ f => ?_
       have f := f.st 88 (congrArg (Value.int .i64) (inR_wrap g_6))
       refine Y f 4 fun _ f => ?_
       rcases cE hF_40 with ⟨h_24, hF_41⟩ | ⟨h_24, hF_43⟩
       ·have f := f.st 92 (cB h_24)
        obtain ⟨x_17, hx_17, hF_42⟩ := bS hF_41
        refine Y18 f p_70 (law11_wakes_ok n _ (GL.mono ((((((((((((hM_1.trans hM_2).trans hM_3).trans hM_8).trans hM_9).trans hM_10).trans hM_11).trans hM_12).trans hM_13).trans hM_14).trans hM_15).trans hM_16).trans hM_17) hG) x_17 hx_17) fun w_26 p_75 _ f => Y f 2 fun _ f => W_end rfl ?_
        have p_87 := p_75.pl [10, 10, 10, 10, 5, 7, 8, 8, 10, 10, 10]
        refine T_n ?_
        exact ⟨((x_17), x_16.2.1, x_16.2.2.1, x_16.2.2.2.1, x_16.2.2.2.2.2.1, x_16.2.2.2.2.2.2, x_16.2.2.2.2.1), (sI hF_42).symm, M_17, ((hM_15.trans hM_16).trans hM_17), A_47, cap_47, A_48, cap_48, cs_31, A_49, cap_49, cs_32, h_23, hr_36, hr_37, f.kp, (p_87.dropN 3)⟩
       ·have f := f.st 92 (cB h_24)
        refine Y f 3 fun _ f => W_end rfl ?_
        have p_98 := p_70.pl [10, 10, 10, 10, 5, 7, 8, 8, 10, 10, 10]
        refine T_n ?_
        exact ⟨((false), x_16.2.1, x_16.2.2.1, x_16.2.2.2.1, x_16.2.2.2.2.2.1, x_16.2.2.2.2.2.2, x_16.2.2.2.2.1), (sI hF_43).symm, M_17, ((hM_15.trans hM_16).trans hM_17), A_47, cap_47, A_48, cap_48, cs_31, A_49, cap_49, cs_32, h_23, hr_36, hr_37, f.kp, (p_98.dropN 3)⟩
      ·have k_17 := iff_f dI h_22
       have f := f.st 81 (cB h_22)
       refine Y f 14 fun _ f => W_end rfl ?_
       have p_108 := p_65.pl [9, 9, 9, 9, 5, 7, 8, 8, 9, 9]
       refine T_n ?_
       exact ⟨((false), x_15.2.1, x_15.2.2.1, x_15.2.2.2.1, x_15.2.2.2.2.2.1, x_15.2.2.2.2.2.2, x_15.2.2.2.2.1), (sI hF_44).symm, M_16, (hM_15.trans hM_16), A_43, cap_43, A_44, cap_44, cs_28, A_45, cap_45, cs_29, h_21, hr_33, hr_34, f.kp, (p_108.dropN 2)⟩
     ·rintro a_84 w_27 ⟨y_4, hq_3, M_18, hM_18, A_50, cap_50, A_51, cap_51, cs_33, A_52, cap_52, cs_34, h_25, hr_38, hr_39, f, p_76⟩
      subst j_3
      refine T_n (wp_ret (T_r (E_ret1 f rfl (by kernel_rfl : Vc.look _ 4 = some (.bool y_4.1)) ?_)))
      obtain rfl := sI hF_33
      exact ⟨_, rfl, M_18, ((((((((((hM_1.trans hM_2).trans hM_3).trans hM_8).trans hM_9).trans hM_10).trans hM_11).trans hM_12).trans hM_13).trans hM_14).trans hM_18), (p_76.dropN 8), rfl⟩
    ·have k_18 : (x_8.2.1) = true := by simpa using h_19
     refine wp_skip (T_n (RR (Y f 1 fun _ f => ?_)))
     obtain ⟨x_18, hx_18, hF_46⟩ := bS hF_45
     refine Y17 (E := [Ent.obj nb_1 (.cells #[.slice A_35 x_13.2.1.length cap_35, .int .i64 x_13.2.2.1, .slice A_36 x_13.2.2.2.1.length cap_36, .map (some nb_1m0), .slice A_37 x_13.2.2.2.2.2.1.length cap_37, .int .i64 x_13.2.2.2.2.2.2] 82 (0, 0)), Ent.row 42 5 (.slice A_36 x_13.2.2.2.1.length cap_36) x_13.2.2.2.1.length cs_22, Ent.obj nb_1m0 (mapO (Value.int .i64) (fun x : TC0 => Value.agg #[.bool x.fEnded, .bool x.fOk, S x.fPhys]) x_13.2.2.2.2.1), Ent.row 42 5 (.slice A_37 x_13.2.2.2.2.2.1.length cap_37) x_13.2.2.2.2.2.1.length cs_23]) (H := ((Ent.row 42 5 (.slice A_31 x_12.1.length cap_31) x_12.1.length cs_19) :: (Ent.row 3 1 (.slice A_24 x_10.1.length cap_24) x_10.1.length cs_14) :: (Ent.row 54 3 (.slice A_20 x_9.1.length cap_20) x_9.1.length cs_11) :: (Ent.obj b_4 (.cells #[.bool x_8.1.fEnded, .bool x_8.1.fOk, S x_8.1.fPhys] 45 (0, 0))) :: H)) f p_59 (cloud_Cloud_Things_ok n _ (GL.mono (((((((((hM_1.trans hM_2).trans hM_3).trans hM_8).trans hM_9).trans hM_10).trans hM_11).trans hM_12).trans hM_13).trans hM_14) hG) nb_1 x_13.2.1 A_35 cap_35 h_18 x_13.2.2.1 x_13.2.2.2.1 A_36 cap_36 cs_22 hr_27 nb_1m0 x_13.2.2.2.2.1 x_13.2.2.2.2.2.1 A_37 cap_37 cs_23 hr_28 x_13.2.2.2.2.2.2 x_18 hx_18) fun _ M_19 E_13 w_28 hM_19 p_109 q_13 _ f => ?_
     obtain ⟨A_53, cap_53, cs_35, A_54, cap_54, A_55, cap_55, cs_36, A_56, cap_56, cs_37, rfl, rfl, hr_40, h_26, hr_41, hr_42⟩ := q_13
     refine Y f 1 fun _ f => ?_
     obtain ⟨M_20, A_57, cap_57, hM_20, hv_3, p_110, h_27, hb_1⟩ := p_109.lend (f := emb_TD0) (xs := x_18.1) szd_TD0 hr_40
     have f := f.st 96 (hv_3)
     have p_111 := p_110.pl [6]
     obtain ⟨M_21, A_58, cap_58, hM_21, hv_4, p_112, h_28, hb_2⟩ := p_111.lend (f := emb_TD0) (xs := x_9.1) szd_TD0 (RepSeq.mono (((((hM_11.trans hM_12).trans hM_13).trans hM_14).trans hM_19).trans hM_20) _ _ hr_16)
     have f := f.st 97 (hv_4)
     obtain ⟨x_19, hx_19, hF_47⟩ := bS hF_46
     refine Y18 f p_112 (ref11_SameThings_ok n _ (GL.mono ((((((((((((hM_1.trans hM_2).trans hM_3).trans hM_8).trans hM_9).trans hM_10).trans hM_11).trans hM_12).trans hM_13).trans hM_14).trans hM_19).trans hM_20).trans hM_21) hG) A_57 cap_57 x_18.1 (h_27.mono hM_21) A_58 cap_58 x_9.1 h_28 x_19 hx_19) fun w_29 p_113 _ f => ?_
     obtain ⟨M_22, hM_22, p_114⟩ := hb_2 _ _ _ (mR _) p_113
     have f := f.st 97 (hv_4.symm)
     obtain ⟨M_23, hM_23, p_115⟩ := hb_1 _ _ _ hM_22 p_114
     have f := f.st 96 (hv_3.symm)
     refine Y f 1 fun _ f => ?_
     rcases cE hF_47 with ⟨h_29, hF_48⟩ | ⟨h_29, hF_60⟩
     ·have f := f.st 99 (cB h_29)
      refine Y f 1 fun _ f => ?_
      obtain ⟨x_20, hx_20, hF_49⟩ := bS hF_48
      have p_120 := p_115.pl [5, 5, 5, 5]
      refine Y17 (E := [Ent.obj nb_1 (.cells #[.slice A_54 x_18.2.1.length cap_54, .int .i64 x_18.2.2.1, .slice A_55 x_18.2.2.2.1.length cap_55, .map (some nb_1m0), .slice A_56 x_18.2.2.2.2.2.1.length cap_56, .int .i64 x_18.2.2.2.2.2.2] 82 (0, 0)), Ent.row 42 5 (.slice A_55 x_18.2.2.2.1.length cap_55) x_18.2.2.2.1.length cs_36, Ent.obj nb_1m0 (mapO (Value.int .i64) (fun x : TC0 => Value.agg #[.bool x.fEnded, .bool x.fOk, S x.fPhys]) x_18.2.2.2.2.1), Ent.row 42 5 (.slice A_56 x_18.2.2.2.2.2.1.length cap_56) x_18.2.2.2.2.2.1.length cs_37]) (H := ((Ent.row 54 3 (.slice A_53 x_18.1.length cap_53) x_18.1.length cs_35) :: (Ent.row 54 3 (.slice A_20 x_9.1.length cap_20) x_9.1.length cs_11) :: (Ent.row 42 5 (.slice A_31 x_12.1.length cap_31) x_12.1.length cs_19) :: (Ent.row 3 1 (.slice A_24 x_10.1.length cap_24) x_10.1.length cs_14) :: (Ent.obj b_4 (.cells #[.bool x_8.1.fEnded, .bool x_8.1.fOk, S x_8.1.fPhys] 45 (0, 0))) :: H)) f p_120 (cloud_Cloud_Flight_ok n _ (GL.mono (((((((((((hM_1.trans hM_2).trans hM_3).trans hM_8).trans hM_9).trans hM_10).trans hM_11).trans hM_12).trans hM_13).trans hM_14).trans hM_19).trans hM_23) hG) nb_1 x_18.2.1 A_54 cap_54 (h_26.mono hM_23) x_18.2.2.1 x_18.2.2.2.1 A_55 cap_55 cs_36 (RepSeq.mono hM_23 _ _ hr_41) nb_1m0 x_18.2.2.2.2.1 x_18.2.2.2.2.2.1 A_56 cap_56 cs_37 (RepSeq.mono hM_23 _ _ hr_42) x_18.2.2.2.2.2.2 x_20 hx_20) fun _ M_24 E_14 w_30 hM_24 p_116 q_14 _ f => ?_
      obtain ⟨A_59, cap_59, cs_38, A_60, cap_60, A_61, cap_61, cs_39, A_62, cap_62, cs_40, rfl, rfl, hr_43, h_30, hr_44, hr_45⟩ := q_14
      refine Y f 1 fun _ f => ?_
      obtain ⟨M_25, A_63, cap_63, hM_25, hv_5, p_121, h_31, hb_3⟩ := p_116.lend (f := (Dat.int .i64)) (xs := x_20.1) (szd_int .i64) hr_43
      have f := f.st 101 (hv_5)
      have p_122 := p_121.pl [7]
      obtain ⟨M_26, A_64, cap_64, hM_26, hv_6, p_123, h_32, hb_4⟩ := p_122.lend (f := (Dat.int .i64)) (xs := x_10.1) (szd_int .i64) (RepSeq.mono ((((((hM_12.trans hM_13).trans hM_14).trans hM_19).trans hM_23).trans hM_24).trans hM_25) _ _ hr_19)
      have f := f.st 102 (hv_6)
      obtain ⟨x_21, hx_21, hF_50⟩ := bS hF_49
      refine Y18 f p_123 (law11_ints_ok n _ (GL.mono ((((((((((((((hM_1.trans hM_2).trans hM_3).trans hM_8).trans hM_9).trans hM_10).trans hM_11).trans hM_12).trans hM_13).trans hM_14).trans hM_19).trans hM_23).trans hM_24).trans hM_25).trans hM_26) hG) A_63 cap_63 x_20.1 (h_31.mono hM_26) A_64 cap_64 x_10.1 h_32 x_21 hx_21) fun w_31 p_124 _ f => ?_
      obtain ⟨M_27, hM_27, p_125⟩ := hb_4 _ _ _ (mR _) p_124
      have f := f.st 102 (hv_6.symm)
      obtain ⟨M_28, hM_28, p_126⟩ := hb_3 _ _ _ hM_27 p_125
      have f := f.st 101 (hv_5.symm)
      refine Y f 2 fun _ f => ?_
      rcases cE hF_50 with ⟨h_33, hF_51⟩ | ⟨h_33, hF_59⟩
      ·have f := f.st 105 (cB h_33)
       refine Y f 1 fun _ f => ?_
       obtain ⟨x_22, hx_22, hF_52⟩ := bS hF_51
       have p_131 := p_126.pl [5, 5, 5, 5]
       refine Y17 (E := [Ent.obj nb_1 (.cells #[.slice A_60 x_20.2.1.length cap_60, .int .i64 x_20.2.2.1, .slice A_61 x_20.2.2.2.1.length cap_61, .map (some nb_1m0), .slice A_62 x_20.2.2.2.2.2.1.length cap_62, .int .i64 x_20.2.2.2.2.2.2] 82 (0, 0)), Ent.row 42 5 (.slice A_61 x_20.2.2.2.1.length cap_61) x_20.2.2.2.1.length cs_39, Ent.obj nb_1m0 (mapO (Value.int .i64) (fun x : TC0 => Value.agg #[.bool x.fEnded, .bool x.fOk, S x.fPhys]) x_20.2.2.2.2.1), Ent.row 42 5 (.slice A_62 x_20.2.2.2.2.2.1.length cap_62) x_20.2.2.2.2.2.1.length cs_40]) (H := ((Ent.row 3 1 (.slice A_59 x_20.1.length cap_59) x_20.1.length cs_38) :: (Ent.row 3 1 (.slice A_24 x_10.1.length cap_24) x_10.1.length cs_14) :: (Ent.row 54 3 (.slice A_53 x_18.1.length cap_53) x_18.1.length cs_35) :: (Ent.row 54 3 (.slice A_20 x_9.1.length cap_20) x_9.1.length cs_11) :: (Ent.row 42 5 (.slice A_31 x_12.1.length cap_31) x_12.1.length cs_19) :: (Ent.obj b_4 (.cells #[.bool x_8.1.fEnded, .bool x_8.1.fOk, S x_8.1.fPhys] 45 (0, 0))) :: H)) f p_131 (cloud_Cloud_Made_ok n _ (GL.mono (((((((((((((hM_1.trans hM_2).trans hM_3).trans hM_8).trans hM_9).trans hM_10).trans hM_11).trans hM_12).trans hM_13).trans hM_14).trans hM_19).trans hM_23).trans hM_24).trans hM_28) hG) nb_1 x_20.2.1 A_60 cap_60 (h_30.mono hM_28) x_20.2.2.1 x_20.2.2.2.1 A_61 cap_61 cs_39 (RepSeq.mono hM_28 _ _ hr_44) nb_1m0 x_20.2.2.2.2.1 x_20.2.2.2.2.2.1 A_62 cap_62 cs_40 (RepSeq.mono hM_28 _ _ hr_45) x_20.2.2.2.2.2.2 x_22 hx_22) fun _ M_29 E_15 w_32 hM_29 p_127 q_15 _ f => ?_
       obtain ⟨A_65, cap_65, A_66, cap_66, cs_41, A_67, cap_67, cs_42, rfl, rfl, h_34, hr_46, hr_47⟩ := q_15
       refine Y f 4 fun _ f => ?_
       rcases cE hF_52 with ⟨h_35, hF_53⟩ | ⟨h_35, hF_58⟩
       ·have k_21 := dI.1 h_35
        have f := f.st 111 (cB h_35)
        refine Y f 1 fun _ f => ?_
        obtain ⟨x_23, hx_23, hF_54⟩ := bS hF_53
        refine Y17 (E := [Ent.obj nb_1 (.cells #[.slice A_65 x_22.2.1.length cap_65, .int .i64 x_22.2.2.1, .slice A_66 x_22.2.2.2.1.length cap_66, .map (some nb_1m0), .slice A_67 x_22.2.2.2.2.2.1.length cap_67, .int .i64 x_22.2.2.2.2.2.2] 82 (0, 0)), Ent.row 42 5 (.slice A_66 x_22.2.2.2.1.length cap_66) x_22.2.2.2.1.length cs_41, Ent.obj nb_1m0 (mapO (Value.int .i64) (fun x : TC0 => Value.agg #[.bool x.fEnded, .bool x.fOk, S x.fPhys]) x_22.2.2.2.2.1), Ent.row 42 5 (.slice A_67 x_22.2.2.2.2.2.1.length cap_67) x_22.2.2.2.2.2.1.length cs_42]) (H := ((Ent.row 3 1 (.slice A_59 x_20.1.length cap_59) x_20.1.length cs_38) :: (Ent.row 3 1 (.slice A_24 x_10.1.length cap_24) x_10.1.length cs_14) :: (Ent.row 54 3 (.slice A_53 x_18.1.length cap_53) x_18.1.length cs_35) :: (Ent.row 54 3 (.slice A_20 x_9.1.length cap_20) x_9.1.length cs_11) :: (Ent.row 42 5 (.slice A_31 x_12.1.length cap_31) x_12.1.length cs_19) :: (Ent.obj b_4 (.cells #[.bool x_8.1.fEnded, .bool x_8.1.fOk, S x_8.1.fPhys] 45 (0, 0))) :: H)) f p_127 (cloud_Cloud_Calls_ok n _ (GL.mono ((((((((((((((hM_1.trans hM_2).trans hM_3).trans hM_8).trans hM_9).trans hM_10).trans hM_11).trans hM_12).trans hM_13).trans hM_14).trans hM_19).trans hM_23).trans hM_24).trans hM_28).trans hM_29) hG) nb_1 x_22.2.1 A_65 cap_65 h_34 x_22.2.2.1 x_22.2.2.2.1 A_66 cap_66 cs_41 hr_46 nb_1m0 x_22.2.2.2.2.1 x_22.2.2.2.2.2.1 A_67 cap_67 cs_42 hr_47 x_22.2.2.2.2.2.2 x_23 hx_23) fun _ M_30 E_16 w_33 hM_30 p_132 q_16 _ f => ?_
        obtain ⟨A_68, cap_68, cs_43, A_69, cap_69, A_70, cap_70, cs_44, A_71, cap_71, cs_45, rfl, rfl, hr_48, h_36, hr_49, hr_50⟩ := q_16
        refine Y f 5 fun _ f => ?_
        rcases cE hF_54 with ⟨h_37, hF_55⟩ | ⟨h_37, hF_57⟩
        ·have k_22 := dI.1 h_37
         have f := f.st 118 (cB h_37)
         obtain ⟨x_24, hx_24, hF_56⟩ := bS hF_55
         refine Y18 f p_132 (law11_wakes_ok n _ (GL.mono (((((((((((((((hM_1.trans hM_2).trans hM_3).trans hM_8).trans hM_9).trans hM_10).trans hM_11).trans hM_12).trans hM_13).trans hM_14).trans hM_19).trans hM_23).trans hM_24).trans hM_28).trans hM_29).trans hM_30) hG) x_24 hx_24) fun w_34 p_133 _ f => Y f 2 fun _ f => eT (wp_ret (E_ret1 f rfl (by kernel_rfl : Vc.look _ 4 = some (.bool x_24)) ?_))
         obtain rfl := sI hF_56
         exact ⟨_, rfl, M_30, (((((((((((((((hM_1.trans hM_2).trans hM_3).trans hM_8).trans hM_9).trans hM_10).trans hM_11).trans hM_12).trans hM_13).trans hM_14).trans hM_19).trans hM_23).trans hM_24).trans hM_28).trans hM_29).trans hM_30), (p_133.dropN 11), rfl⟩
        ·have k_23 := iff_f dI h_37
         have f := f.st 118 (cB h_37)
         refine Y f 3 fun _ f => eT (wp_ret (E_ret1 f rfl (by kernel_rfl : Vc.look _ 4 = some (.bool false)) ?_))
         obtain rfl := sI hF_57
         exact ⟨_, rfl, M_30, (((((((((((((((hM_1.trans hM_2).trans hM_3).trans hM_8).trans hM_9).trans hM_10).trans hM_11).trans hM_12).trans hM_13).trans hM_14).trans hM_19).trans hM_23).trans hM_24).trans hM_28).trans hM_29).trans hM_30), (p_132.dropN 11), rfl⟩
       ·have k_24 := iff_f dI h_35
        have f := f.st 111 (cB h_35)
        refine Y f 10 fun _ f => eT (wp_ret (E_ret1 f rfl (by kernel_rfl : Vc.look _ 4 = some (.bool false)) ?_))
        obtain rfl := sI hF_58
        exact ⟨_, rfl, M_29, ((((((((((((((hM_1.trans hM_2).trans hM_3).trans hM_8).trans hM_9).trans hM_10).trans hM_11).trans hM_12).trans hM_13).trans hM_14).trans hM_19).trans hM_23).trans hM_24).trans hM_28).trans hM_29), (p_127.dropN 10), rfl⟩
      ·have f := f.st 105 (cB h_33)
       refine Y f 16 fun _ f => eT (wp_ret (E_ret1 f rfl (by kernel_rfl : Vc.look _ 4 = some (.bool false)) ?_))
       obtain rfl := sI hF_59
       exact ⟨_, rfl, M_28, (((((((((((((hM_1.trans hM_2).trans hM_3).trans hM_8).trans hM_9).trans hM_10).trans hM_11).trans hM_12).trans hM_13).trans hM_14).trans hM_19).trans hM_23).trans hM_24).trans hM_28), (p_126.dropN 10), rfl⟩
     ·have f := f.st 99 (cB h_29)
      refine Y f 22 fun _ f => eT (wp_ret (E_ret1 f rfl (by kernel_rfl : Vc.look _ 4 = some (.bool false)) ?_))
      obtain rfl := sI hF_60
      exact ⟨_, rfl, M_23, (((((((((((hM_1.trans hM_2).trans hM_3).trans hM_8).trans hM_9).trans hM_10).trans hM_11).trans hM_12).trans hM_13).trans hM_14).trans hM_19).trans hM_23), (p_115.dropN 9), rfl⟩
def tokens (l : List TG0) : List Int := l.map (·.fToken)
theorem flight_run {n : Nat} (hn : 6000 < n) {c : CS} (hi : c.inn.length ≤ 1000) : cloud_Cloud_Flight n c.L c.made c.calls c.ans c.inn c.good = some (tokens c.inn, c.tup) := by
 unfold cloud_Cloud_Flight
 have l1 := loop_all (step := cloud_Cloud_Flight_s1 n c.inn) (n := n) (fun k => (tokens (c.inn.take k), (k : Int))) c.inn.length (tokens c.inn) (fun k hk => by
  unfold cloud_Cloud_Flight_s1
  dsimp only
  have hl : (tokens (c.inn.take k)).length ≤ 1000 := by unfold tokens; simp; omega
  have e : c.inn.getD k z_TG0 = c.inn[k] := by simp [List.getD, hk]
  rw [decide_eq_true (by omega), cT, getI_at z_TG0 hk, bnd, need_t (by omega), need_i (by omega) (by omega), e]
  unfold tokens
  rw [List.take_add_one, List.getElem?_eq_getElem hk, List.map_append]
  rfl) (by
  unfold cloud_Cloud_Flight_s1
  dsimp only
  rw [decide_eq_false (by omega), cF, List.take_length]) (by omega)
 have e0 : ((0 : Nat) : Int) = 0 := rfl
 simp only [e0, List.take_zero] at l1
 have e1 : tokens [] = [] := rfl
 rw [e1] at l1
 rw [l1, bnd]; rfl
theorem ask_run {n : Nat} {c : CS} {t : Int} : cloud_Cloud_Ask n c.L c.made c.calls c.ans c.inn c.good t = some ((mget c.ans t).getD z_TC0, (mget c.ans t).isSome, c.tup) := rfl
theorem calls_run {n : Nat} {c : CS} (hc : c.calls.length ≤ 1000) : cloud_Cloud_Calls n c.L c.made c.calls c.ans c.inn c.good = some (c.calls, c.tup) := by
 unfold cloud_Cloud_Calls
 rw [need_t (by omega)]; rfl
theorem ints_self {n : Nat} {l : List Int} (hl : l.length < n) (h6 : l.length ≤ 6000) : law11_ints n l l = some true := by
 unfold law11_ints
 rw [decide_eq_true rfl, Bool.not_true, cF]
 have l1 := loop_all (step := law11_ints_s1 n l l) (n := n) (fun k => (k : Int)) l.length (.inr ()) (fun k hk => by
  unfold law11_ints_s1
  rw [decide_eq_true (by omega), cT, getI_at 0 hk, bnd, bnd, decide_eq_true rfl, Bool.not_true, cF, need_i (by omega) (by omega)]
  rfl) (by
  unfold law11_ints_s1
  rw [decide_eq_false (by omega), cF]) hl
 have e0 : ((0 : Nat) : Int) = 0 := rfl
 simp only [e0] at l1
 rw [l1, bnd]
def actC (c : CS) (x : TA0) : CS := if x.fDo = 0 then (submitC c x.fX).2 else if x.fDo = 1 ∨ x.fDo = 2 then (endC c x.fN (decide (x.fDo = 1))).2.2.2 else c
theorem OkC.act {m : Nat} {c : CS} (h : OkC m c) (hm : m < 200) {x : TA0} (hp : GoodP x.fX.fProps) : OkC (m + 1) (actC c x) := by
 unfold actC
 split
 ·exact h.submit hp
 ·split
  ·exact h.end_ hm _ _
  ·exact h.le (by omega)
def actsC (c : CS) (l : List TA0) : CS := l.foldl actC c
theorem actsC_take {l : List TA0} {k : Nat} (hk : k < l.length) (c : CS) : actsC c (l.take (k + 1)) = actC (actsC c (l.take k)) l[k] := by
 unfold actsC
 rw [List.take_add_one, List.getElem?_eq_getElem hk, List.foldl_append]; rfl
theorem OkC.acts {l : List TA0} (hl : l.length ≤ 100) (hp : ∀ x ∈ l, GoodP x.fX.fProps) : ∀ k, k ≤ l.length → OkC k (actsC new11 (l.take k))
 | 0, _ => OkC.new
 | k + 1, hk => by
  rw [actsC_take (by omega)]
  exact (OkC.acts hl hp k (by omega)).act (by omega) (hp _ (List.getElem_mem (by omega)))
theorem tupE {c : CS} : c.tup = (c.L, c.made, c.calls, c.ans, c.inn, c.good) := rfl
theorem once_loop {l : List TA0} (hl : l.length ≤ 100) (hp : ∀ x ∈ l, GoodP x.fX.fProps) :
  loopF (law11_CloudOnce_s1 10000 l) 10000 ((0 : Int), ([] : List TD0), (0 : Int), ([] : List TG0), ([] : List TG0), (0 : Int), ([] : List (Int × TC0))) = some ((actsC new11 l).L, (actsC new11 l).made, (actsC new11 l).calls, (actsC new11 l).inn, (actsC new11 l).good, (actsC new11 l).ans) := by
 have h := loop_all (step := law11_CloudOnce_s1 10000 l) (n := 10000) (fun k => ((k : Int), (actsC new11 (l.take k)).L, (actsC new11 (l.take k)).made, (actsC new11 (l.take k)).calls, (actsC new11 (l.take k)).inn, (actsC new11 (l.take k)).good, (actsC new11 (l.take k)).ans)) l.length ((actsC new11 l).L, (actsC new11 l).made, (actsC new11 l).calls, (actsC new11 l).inn, (actsC new11 l).good, (actsC new11 l).ans) (fun k hk => by
  have ok := OkC.acts hl hp k (by omega)
  have hg : l.getD k z_TA0 = l[k] := by simp [List.getD, hk]
  have hpk := hp _ (List.getElem_mem hk)
  have g1 := ok.g1
  have f1 := ok.calls
  have f2 := ok.inn
  rw [actsC_take hk]
  generalize actsC new11 (l.take k) = c at ok g1 f1 f2
  unfold law11_CloudOnce_s1
  dsimp only
  rw [decide_eq_true (by omega), cT, getI_at z_TA0 hk, bnd, hg, evC]
  generalize l[k] = x at hpk
  unfold actC
  by_cases d0 : x.fDo = 0
  ·rw [decide_eq_true d0, cT, submit_run (by omega) hpk (by omega) (by omega), bnd, need_i (by omega) (by omega), if_pos d0]
   rfl
  ·rw [decide_eq_false d0, cF, if_neg d0]
   have e : (bif decide (x.fDo = 1) then some (decide (x.fDo = 1)) else some (decide (x.fDo = 2)) : Option Bool) = some (decide (x.fDo = 1 ∨ x.fDo = 2)) := by
    by_cases h1 : x.fDo = 1
    ·rw [decide_eq_true h1, cT, decide_eq_true (.inl h1)]
    ·rw [decide_eq_false h1, cF]
     congr 1
     exact decide_eq_decide.2 ⟨.inr, fun h => h.resolve_left h1⟩
   rw [e, bnd]
   by_cases d1 : x.fDo = 1 ∨ x.fDo = 2
   ·rw [decide_eq_true d1, cT, end_run (by omega) _ _ ok.props ok.good (by omega) ok.g0 (by omega), bnd, need_i (by omega) (by omega), if_pos d1]
    rfl
   ·rw [decide_eq_false d1, cF, need_i (by omega) (by omega), if_neg d1]
    rfl) (by
  unfold law11_CloudOnce_s1
  dsimp only
  rw [decide_eq_false (by omega), cF, List.take_length]) (by omega)
 exact h
theorem cloudOnce_true (l : List TA0) (again : TG0) : law11_CloudOnce 10000 l again = some true := by
 unfold law11_CloudOnce
 obtain ⟨g, hg, hf⟩ := greatL11 (n := 10000) (by omega) l
 rw [hg, bnd]
 cases g with
 | true => rw [cT, bnd, cT, wakes11b]
 | false =>
  obtain ⟨hl, hp⟩ := hf rfl
  obtain ⟨g2, hg2, hf2⟩ := great11 (n := 10000) (by omega) again
  rw [cF, hg2, bnd, bnd]
  cases g2 with
  | true => rw [cT, wakes11b]
  | false =>
   have hpa := hf2 rfl
   rw [cF]
   unfold cloud_New
   rw [bnd, once_loop hl hp, bnd]
   have ok := OkC.acts hl hp l.length (Nat.le_refl _)
   rw [List.take_length] at ok
   generalize actsC new11 l = c at ok
   have f0 := ok.few
   have f1 := ok.calls
   have f2 := ok.inn
   have g0 := ok.g0
   have g1 := ok.g1
   dsimp only
   rw [ask_run, bnd]
   dsimp only [tupE]
   rw [things_run ok.good, bnd]
   dsimp only [tupE]
   rw [flight_run (by omega) (by omega), bnd]
   dsimp only [tupE]
   rw [made_run, bnd]
   dsimp only [tupE]
   rw [calls_run (by omega), bnd]
   dsimp only [tupE]
   rw [submit_run (by omega) hpa (by omega) (by omega), bnd]
   dsimp only [tupE]
   have hlt : (tokens c.inn).length = c.inn.length := by unfold tokens; simp
   cases hm : (mget c.ans again.fToken).isSome with
   | true =>
    rw [Bool.not_true, cF]
    have hs : (submitC c again).2 = c := by
     unfold submitC
     split
     ·rfl
     ·first | rfl | rw [if_pos hm]
    rw [hs, things_run ok.good, bnd, sameT_self (by omega) ok.good, bnd, cT]
    dsimp only [tupE]
    rw [flight_run (by omega) (by omega), bnd, ints_self (l := tokens c.inn) (by rw [hlt]; omega) (by rw [hlt]; omega), bnd, cT]
    dsimp only [tupE]
    rw [made_run, bnd, decide_eq_true rfl, cT]
    dsimp only [tupE]
    rw [calls_run (by omega), bnd, decide_eq_true rfl, cT, wakes11b]
   | false =>
    rw [Bool.not_false, cT]
    have ok2 := ok.submit hpa
    have h1 := ok2.calls
    have h2 := ok2.inn
    rw [calls_run (by omega), bnd]
    dsimp only [tupE]
    rw [flight_run (by omega) (by omega), bnd]
    dsimp only [tupE]
    have ht2 : (tokens (submitC c again).2.inn).length = (submitC c again).2.inn.length := by unfold tokens; simp
    rw [need_i (by omega) (by omega), need_i (by omega) (by omega)]
    have hd : ((submitC c again).1 = 0 ∧ (submitC c again).2.calls.length = c.calls.length + 1 ∧ (submitC c again).2.inn.length = c.inn.length + 1) ∨ ((submitC c again).1 ≠ 0 ∧ (submitC c again).2.calls.length = c.calls.length ∧ (submitC c again).2.inn.length = c.inn.length) := by
     unfold submitC
     by_cases hc : checkC again ≠ 0
     ·rw [if_pos hc]; exact .inr ⟨hc, rfl, rfl⟩
     ·rw [if_neg hc, if_neg (by rw [hm]; decide)]
      exact .inl ⟨rfl, by simp, by simp⟩
    rcases hd with ⟨d1, d2, d3⟩ | ⟨d1, d2, d3⟩
    ·rw [decide_eq_true (by omega), cT, calls_run (by omega), bnd]
     dsimp only [tupE]
     rw [need_i (by omega) (by omega), decide_eq_true d1, decide_eq_true (by omega)]
     rw [beq_self_eq_true, cT, wakes11, bnd, bnd]
    ·rw [decide_eq_true (by omega), cT, calls_run (by omega), bnd]
     dsimp only [tupE]
     rw [need_i (by omega) (by omega), decide_eq_false d1, decide_eq_false (by omega)]
     rw [beq_self_eq_true, cT, wakes11, bnd, bnd]
end Go.Proofs.YtocefedhenhbfaaGreatDoor
end

section
namespace Go.Vc
open Go
mutual
def dsz : Dat → Nat
  | .int _ _ => 1
  | .bool _ => 1
  | .str l => l.length + 1
  | .list _ ds => dszs ds + 1
  | .struct ds => dszs ds + 1
def dszs : List Dat → Nat
  | [] => 0
  | d :: ds => dsz d + dszs ds
end
theorem dszs_app : ∀ (a b : List Dat), dszs (a ++ b) = dszs a + dszs b
 | [], b => by simp [dszs]
 | d :: a, b => by simp only [List.cons_append, dszs, dszs_app a b]; omega
theorem le_sum : ∀ {l : List Nat} {x : Nat}, x ∈ l → x ≤ l.sum
 | y :: l, x, h => by
  rcases List.mem_cons.1 h with rfl | h
  ·simp
  ·have := le_sum h; simp only [List.sum_cons]; omega
section
variable {H : Type}
structure BulkOk (B : DataW H → Nat) : Prop where
  one : ∀ d, 1 ≤ B d
  str : ∀ l, B (.lit (.string l)) = l.length + 1
  slice : ∀ e s, (e.map B).sum + 1 ≤ B (.slice e s)
  agg : ∀ e, (e.map B).sum + 1 ≤ B (.agg e)
variable {enc : TypeId × Value → H} {P : Program} {w : World} {t : TypeId} {α : Type} {f : α → Dat} {m : Nat} {B : DataW H → Nat}
def OpnAt (enc : TypeId × Value → H) (P : Program) (w : World) (t : TypeId) {α : Type} (f : α → Dat) (B : DataW H → Nat) (m : Nat) : Prop :=
  ∀ cs x, DataW.trod enc P w 0 (fun _ => true) true m t cs = some x → ∃ a, Rep (Mem.of w) (f a) cs ∧ Vld (f a) ∧ dsz (f a) ≤ B x.1
theorem OpnAt.zero : OpnAt enc P w t f B 0 := fun cs x h => by simp [DataW.trod] at h
theorem opa_int {k : IntKind} (hB : BulkOk B) (ht : P.underlying t = some (.int k)) : OpnAt enc P w t (Dat.int k) B m := fun cs x h => by
 obtain ⟨a, rfl, _, hw⟩ := DataW.trod_int ht h
 exact ⟨a, rfl, hw, hB.one _⟩
theorem opa_bool (hB : BulkOk B) (ht : P.underlying t = some .bool) : OpnAt enc P w t Dat.bool B m := fun cs x h => by
 obtain ⟨a, rfl, _⟩ := DataW.trod_bool ht h
 exact ⟨a, rfl, trivial, hB.one _⟩
theorem opa_str (hB : BulkOk B) (ht : P.underlying t = some .string) : OpnAt enc P w t Dat.str B m := fun cs x h => by
 obtain ⟨s, rfl, hx, hw⟩ := DataW.trod_string ht h
 refine ⟨s.data.toList, (by show [Value.string s] = _; rw [S_eta]), by show s.data.toList.length ≤ maxLen; simpa using hw, ?_⟩
 rw [hx]
 show s.data.toList.length + 1 ≤ B (.lit (.string s.data.toList))
 rw [hB.str]
 exact Nat.le_refl _
theorem opa_slice {e : TypeId} {sz : Nat} (hB : BulkOk B) (ht : P.underlying t = some (.slice e)) (hsz : P.cellsOf e = sz) (h : OpnAt enc P w e f B m) : OpnAt enc P w t (eL sz f) B (m + 1) := fun cs x hx => by
 rcases DataW.trod_slice ht hx with ⟨rfl, hx⟩ | ⟨ad, len, cap, elems, rest, n', hn', rfl, hxe, _, hlc, hcm, hel, hat, _⟩
 ·refine ⟨[], Sli.rep (Sli.nil (sz := sz) (f := f)), by simp [Vld, eL, VldAll], ?_⟩
  have := hB.one x.1
  simpa [eL, dsz, dszs] using this
 ·obtain rfl : n' = m := by omega
  have key : ∀ k, k ≤ len → ∃ xs : List α, xs.length = k ∧ RepArr (Mem.of w) sz (xs.map f) ad ∧ (∀ x ∈ xs, Vld (f x)) ∧ dszs (xs.map f) ≤ ((elems.take k).map fun x => B x.1).sum := by
   intro k
   induction k with
   | zero => intro _; exact ⟨[], rfl, trivial, fun x hx => (by cases hx), by simp [dszs]⟩
   | succ k ih =>
    intro hk
    obtain ⟨xs, h1, h2, h3, h3b⟩ := ih (by omega)
    have hk' : k < elems.length := by omega
    have := hat k (by omega)
    rw [List.getElem?_eq_getElem hk'] at this
    obtain ⟨cs', g1, g2⟩ := Option.bind_eq_some_iff.1 this
    obtain ⟨a, g3, g4, g4b⟩ := h cs' _ g2
    obtain ⟨g5, g6⟩ := cells_of g1
    rw [hsz] at g5 g6
    refine ⟨xs ++ [a], by simp [h1], ?_, fun x hx => ?_, ?_⟩
    ·rw [List.map_append]
     have app : ∀ (ds : List Dat) (ad : Addr), RepArr (Mem.of w) sz ds ad → RepArr (Mem.of w) sz [f a] (ad.add (ds.length * sz)) → RepArr (Mem.of w) sz (ds ++ [f a]) ad := by
      intro ds
      induction ds with
      | nil => intro ad _ hh; simpa [Addr.add] using hh
      | cons d ds ih =>
       intro ad h1 h2
       refine ⟨h1.1, ih _ h1.2 ?_⟩
       rw [add_of_add]
       rw [List.length_cons, show (ds.length + 1) * sz = sz + ds.length * sz by rw [Nat.add_mul]; omega] at h2
       exact h2
     refine app _ _ h2 ⟨⟨cs', g5, g3, ?_⟩, trivial⟩
     rw [List.length_map, h1]
     exact g6
    ·rcases List.mem_append.1 hx with hx | hx
     ·exact h3 x hx
     ·simp at hx; subst hx; exact g4
    ·rw [List.map_append, dszs_app, List.take_add_one, List.getElem?_eq_getElem hk', List.map_append, List.sum_append]
     simp only [List.map_cons, List.map_nil, dszs, Option.toList_some, List.sum_cons, List.sum_nil]
     omega
  obtain ⟨xs, h1, h2, h3, h3b⟩ := key len (Nat.le_refl _)
  subst h1
  refine ⟨xs, Sli.rep ⟨hlc, fun e => (by cases e), .inr ⟨ad, rfl, h2⟩⟩, ?_, ?_⟩
  ·refine ⟨by rw [List.length_map]; omega, VldAll.mk fun d hd => ?_⟩
   obtain ⟨x, hx, rfl⟩ := List.mem_map.1 hd
   exact h3 x hx
  ·rw [hxe]
   show dszs (xs.map f) + 1 ≤ _
   have := hB.slice (elems.map (·.1)) (rest.map (·.1))
   rw [← hel, List.take_length] at h3b
   rw [List.map_map] at this
   have e : (elems.map (B ∘ fun x => x.1)) = elems.map fun x => B x.1 := rfl
   rw [e] at this
   show _ ≤ B (.slice (elems.map (·.1)) (rest.map (·.1)))
   omega
theorem opa_slice0 {e : TypeId} {sz : Nat} (hB : BulkOk B) (ht : P.underlying t = some (.slice e)) (hsz : P.cellsOf e = sz) (h : ∀ k, k < m → OpnAt enc P w e f B k) : OpnAt enc P w t (eL sz f) B m := by
 cases m with
 | zero => exact OpnAt.zero
 | succ m => exact opa_slice hB ht hsz (h m (Nat.lt_succ_self m))
theorem OpnAt.arg (h : ∀ n, OpnAt enc P w t f B n) {v : Value} {d : DataW H} {ps : List MemPlace} (ht : DataW.Trod enc P w 0 (fun _ => true) true t v d ps) : ∃ a, Rep (Mem.of w) (f a) v.cells.toList ∧ Vld (f a) ∧ dsz (f a) ≤ B d := by
 obtain ⟨fuel, hf⟩ := ht
 exact h fuel _ _ hf
theorem OpnAt.slice_arg {e : TypeId} {sz : Nat} (hB : BulkOk B) (hu : P.underlying t = some (.slice e)) (hsz : P.cellsOf e = sz) (h : ∀ n, OpnAt enc P w e f B n) {v : Value} {d : DataW H} {ps : List MemPlace} (hv : ∃ A len cap, v = .slice A len cap) (ht : DataW.Trod enc P w 0 (fun _ => true) true t v d ps) :
  ∃ A cap xs, v = .slice A xs.length cap ∧ Sli (Mem.of w) sz f A cap xs ∧ Vld (eL sz f xs) ∧ dsz (eL sz f xs) ≤ B d := by
 obtain ⟨A, len, cap, rfl⟩ := hv
 obtain ⟨xs, h1, h2⟩ := OpnAt.arg (f := eL sz f) (fun n => opa_slice0 hB hu hsz fun k _ => h k) ht
 obtain ⟨A', cap', e, hs⟩ := Rep.sli h1
 simp only [Value.cells] at e
 have e' : Value.slice A len cap = Value.slice A' xs.length cap' := by simpa using e
 cases e'
 exact ⟨A, cap, xs, rfl, hs, h2⟩
theorem OpnAt.struct_arg (h : ∀ n, OpnAt enc P w t f B n) {v : Value} {d : DataW H} {ps : List MemPlace} (hv : ∃ cs : Array Value, v = .agg cs) (ht : DataW.Trod enc P w 0 (fun _ => true) true t v d ps) :
  ∃ (c : List Value) (a : α), v = .agg c.toArray ∧ Rep (Mem.of w) (f a) c ∧ Vld (f a) ∧ dsz (f a) ≤ B d := by
 obtain ⟨cs, rfl⟩ := hv
 obtain ⟨a, h1, h2⟩ := OpnAt.arg h ht
 exact ⟨cs.toList, a, by simp, h1, h2⟩
end
end Go.Vc
end

section
namespace Go.Proofs.YtocefedhenhbfaaGreatDoor
open Go Go.Vc Go.RowKit
theorem opa_TE0 {H : Type} {enc : TypeId × Value → H} {w : World} {B : DataW H → Nat} (hB : BulkOk B) : ∀ m, OpnAt enc Tryz.prog w 26 emb_TE0 B m := by
 intro m
 induction m using Nat.strongRecOn with
 | ind m ih =>
 intro cs x h
 obtain ⟨xs, n, rfl, rfl, hlen, hxl, hf⟩ := DataW.trod_struct Tryz.underlying26 h
 have hct : Tryz.prog.cellsOf 26 = 6 := by kernel_rfl
 rw [hct] at hlen
 obtain ⟨x0, x1, x2, x3, x4, x5, rfl⟩ : ∃ x0 x1 x2 x3 x4 x5, xs = [x0, x1, x2, x3, x4, x5] := by
  match xs, hxl with
  | [x0, x1, x2, x3, x4, x5], _ => exact ⟨x0, x1, x2, x3, x4, x5, rfl⟩
 have f0 : DataW.trod enc Tryz.prog w 0 (fun _ => true) true n 22 ((cs.drop 0).take (Tryz.prog.cellsOf 22)) = some x0 := hf 0 _ rfl
 rw [show Tryz.prog.cellsOf 22 = 1 by kernel_rfl] at f0
 obtain ⟨a0, r0, v0, b0⟩ := (fun _ => opa_int hB Tryz.underlying22) n _ _ f0
 have f1 : DataW.trod enc Tryz.prog w 0 (fun _ => true) true n 4 ((cs.drop 1).take (Tryz.prog.cellsOf 4)) = some x1 := hf 1 _ rfl
 rw [show Tryz.prog.cellsOf 4 = 1 by kernel_rfl] at f1
 obtain ⟨a1, r1, v1, b1⟩ := (fun _ => opa_bool hB Tryz.underlying4) n _ _ f1
 have f2 : DataW.trod enc Tryz.prog w 0 (fun _ => true) true n 3 ((cs.drop 2).take (Tryz.prog.cellsOf 3)) = some x2 := hf 2 _ rfl
 rw [show Tryz.prog.cellsOf 3 = 1 by kernel_rfl] at f2
 obtain ⟨a2, r2, v2, b2⟩ := (fun _ => opa_int hB Tryz.underlying3) n _ _ f2
 have f3 : DataW.trod enc Tryz.prog w 0 (fun _ => true) true n 9 ((cs.drop 3).take (Tryz.prog.cellsOf 9)) = some x3 := hf 3 _ rfl
 rw [show Tryz.prog.cellsOf 9 = 1 by kernel_rfl] at f3
 obtain ⟨a3, r3, v3, b3⟩ := (fun _ => opa_str hB Tryz.underlying9) n _ _ f3
 have f4 : DataW.trod enc Tryz.prog w 0 (fun _ => true) true n 23 ((cs.drop 4).take (Tryz.prog.cellsOf 23)) = some x4 := hf 4 _ rfl
 rw [show Tryz.prog.cellsOf 23 = 1 by kernel_rfl] at f4
 obtain ⟨a4, r4, v4, b4⟩ := (opa_slice0 (m := n) (e := 26) (sz := 6) hB Tryz.underlying23 (by kernel_rfl) (fun k hk => ih k (by omega))) _ _ f4
 have f5 : DataW.trod enc Tryz.prog w 0 (fun _ => true) true n 24 ((cs.drop 5).take (Tryz.prog.cellsOf 24)) = some x5 := hf 5 _ rfl
 rw [show Tryz.prog.cellsOf 24 = 1 by kernel_rfl] at f5
 obtain ⟨a5, r5, v5, b5⟩ := (opa_slice0 (m := n) (e := 9) (sz := 1) hB Tryz.underlying24 (by kernel_rfl) (fun k _ => (fun _ => opa_str hB Tryz.underlying9) k)) _ _ f5
 refine ⟨⟨a0, a1, a2, a3, a4, a5⟩, ?_, ?_, ?_⟩
 ·rw [emb_TE0_eq]
  have hcs : RepSeq (Mem.of w) _ (cs.drop 0) := (RepSeq.cut (k := 1) r0 (by rw [List.drop_drop]; exact (RepSeq.cut (k := 1) r1 (by rw [List.drop_drop]; exact (RepSeq.cut (k := 1) r2 (by rw [List.drop_drop]; exact (RepSeq.cut (k := 1) r3 (by rw [List.drop_drop]; exact (RepSeq.cut (k := 1) r4 (by rw [List.drop_drop]; exact (RepSeq.cut (k := 1) r5 (by rw [List.drop_drop]; exact (show RepSeq (Mem.of w) [] (cs.drop 6) from List.drop_eq_nil_of_le (by omega))))))))))))))
  exact hcs
 ·rw [emb_TE0_eq]; exact ⟨v0, ⟨v1, ⟨v2, ⟨v3, ⟨v4, ⟨v5, trivial⟩⟩⟩⟩⟩⟩
 ·rw [emb_TE0_eq]
  have := hB.agg ([x0, x1, x2, x3, x4, x5].map (·.1))
  simp only [List.map_cons, List.map_nil, List.sum_cons, List.sum_nil] at this ⊢
  simp only [dsz, dszs] at *
  omega
theorem opa_TF0 {H : Type} {enc : TypeId × Value → H} {w : World} {B : DataW H → Nat} (hB : BulkOk B) : ∀ m, OpnAt enc Tryz.prog w 77 emb_TF0 B m := by
 intro m
 induction m using Nat.strongRecOn with
 | ind m ih =>
 intro cs x h
 obtain ⟨xs, n, rfl, rfl, hlen, hxl, hf⟩ := DataW.trod_struct Tryz.underlying77 h
 have hct : Tryz.prog.cellsOf 77 = 8 := by kernel_rfl
 rw [hct] at hlen
 obtain ⟨x0, x1, x2, rfl⟩ : ∃ x0 x1 x2, xs = [x0, x1, x2] := by
  match xs, hxl with
  | [x0, x1, x2], _ => exact ⟨x0, x1, x2, rfl⟩
 have f0 : DataW.trod enc Tryz.prog w 0 (fun _ => true) true n 9 ((cs.drop 0).take (Tryz.prog.cellsOf 9)) = some x0 := hf 0 _ rfl
 rw [show Tryz.prog.cellsOf 9 = 1 by kernel_rfl] at f0
 obtain ⟨a0, r0, v0, b0⟩ := (fun _ => opa_str hB Tryz.underlying9) n _ _ f0
 have f1 : DataW.trod enc Tryz.prog w 0 (fun _ => true) true n 4 ((cs.drop 1).take (Tryz.prog.cellsOf 4)) = some x1 := hf 1 _ rfl
 rw [show Tryz.prog.cellsOf 4 = 1 by kernel_rfl] at f1
 obtain ⟨a1, r1, v1, b1⟩ := (fun _ => opa_bool hB Tryz.underlying4) n _ _ f1
 have f2 : DataW.trod enc Tryz.prog w 0 (fun _ => true) true n 26 ((cs.drop 2).take (Tryz.prog.cellsOf 26)) = some x2 := hf 2 _ rfl
 rw [show Tryz.prog.cellsOf 26 = 6 by kernel_rfl] at f2
 obtain ⟨a2, r2, v2, b2⟩ := (opa_TE0 hB) n _ _ f2
 refine ⟨⟨a0, a1, a2⟩, ?_, ?_, ?_⟩
 ·rw [emb_TF0_eq]
  have hcs : RepSeq (Mem.of w) _ (cs.drop 0) := (RepSeq.cut (k := 1) r0 (by rw [List.drop_drop]; exact (RepSeq.cut (k := 1) r1 (by rw [List.drop_drop]; exact (RepSeq.cut (k := 6) r2 (by rw [List.drop_drop]; exact (show RepSeq (Mem.of w) [] (cs.drop 8) from List.drop_eq_nil_of_le (by omega))))))))
  exact hcs
 ·rw [emb_TF0_eq]; exact ⟨v0, ⟨v1, ⟨v2, trivial⟩⟩⟩
 ·rw [emb_TF0_eq]
  have := hB.agg ([x0, x1, x2].map (·.1))
  simp only [List.map_cons, List.map_nil, List.sum_cons, List.sum_nil] at this ⊢
  simp only [dsz, dszs] at *
  omega
theorem opa_TG0 {H : Type} {enc : TypeId × Value → H} {w : World} {B : DataW H → Nat} (hB : BulkOk B) : ∀ m, OpnAt enc Tryz.prog w 42 emb_TG0 B m := by
 intro m
 induction m using Nat.strongRecOn with
 | ind m ih =>
 intro cs x h
 obtain ⟨xs, n, rfl, rfl, hlen, hxl, hf⟩ := DataW.trod_struct Tryz.underlying42 h
 have hct : Tryz.prog.cellsOf 42 = 5 := by kernel_rfl
 rw [hct] at hlen
 obtain ⟨x0, x1, x2, x3, x4, rfl⟩ : ∃ x0 x1 x2 x3 x4, xs = [x0, x1, x2, x3, x4] := by
  match xs, hxl with
  | [x0, x1, x2, x3, x4], _ => exact ⟨x0, x1, x2, x3, x4, rfl⟩
 have f0 : DataW.trod enc Tryz.prog w 0 (fun _ => true) true n 3 ((cs.drop 0).take (Tryz.prog.cellsOf 3)) = some x0 := hf 0 _ rfl
 rw [show Tryz.prog.cellsOf 3 = 1 by kernel_rfl] at f0
 obtain ⟨a0, r0, v0, b0⟩ := (fun _ => opa_int hB Tryz.underlying3) n _ _ f0
 have f1 : DataW.trod enc Tryz.prog w 0 (fun _ => true) true n 22 ((cs.drop 1).take (Tryz.prog.cellsOf 22)) = some x1 := hf 1 _ rfl
 rw [show Tryz.prog.cellsOf 22 = 1 by kernel_rfl] at f1
 obtain ⟨a1, r1, v1, b1⟩ := (fun _ => opa_int hB Tryz.underlying22) n _ _ f1
 have f2 : DataW.trod enc Tryz.prog w 0 (fun _ => true) true n 9 ((cs.drop 2).take (Tryz.prog.cellsOf 9)) = some x2 := hf 2 _ rfl
 rw [show Tryz.prog.cellsOf 9 = 1 by kernel_rfl] at f2
 obtain ⟨a2, r2, v2, b2⟩ := (fun _ => opa_str hB Tryz.underlying9) n _ _ f2
 have f3 : DataW.trod enc Tryz.prog w 0 (fun _ => true) true n 9 ((cs.drop 3).take (Tryz.prog.cellsOf 9)) = some x3 := hf 3 _ rfl
 rw [show Tryz.prog.cellsOf 9 = 1 by kernel_rfl] at f3
 obtain ⟨a3, r3, v3, b3⟩ := (fun _ => opa_str hB Tryz.underlying9) n _ _ f3
 have f4 : DataW.trod enc Tryz.prog w 0 (fun _ => true) true n 37 ((cs.drop 4).take (Tryz.prog.cellsOf 37)) = some x4 := hf 4 _ rfl
 rw [show Tryz.prog.cellsOf 37 = 1 by kernel_rfl] at f4
 obtain ⟨a4, r4, v4, b4⟩ := (fun m => opa_slice0 (e := 77) (sz := 8) hB Tryz.underlying37 (by kernel_rfl) (fun k _ => (opa_TF0 hB) k)) n _ _ f4
 refine ⟨⟨a0, a1, a2, a3, a4⟩, ?_, ?_, ?_⟩
 ·rw [emb_TG0_eq]
  have hcs : RepSeq (Mem.of w) _ (cs.drop 0) := (RepSeq.cut (k := 1) r0 (by rw [List.drop_drop]; exact (RepSeq.cut (k := 1) r1 (by rw [List.drop_drop]; exact (RepSeq.cut (k := 1) r2 (by rw [List.drop_drop]; exact (RepSeq.cut (k := 1) r3 (by rw [List.drop_drop]; exact (RepSeq.cut (k := 1) r4 (by rw [List.drop_drop]; exact (show RepSeq (Mem.of w) [] (cs.drop 5) from List.drop_eq_nil_of_le (by omega))))))))))))
  exact hcs
 ·rw [emb_TG0_eq]; exact ⟨v0, ⟨v1, ⟨v2, ⟨v3, ⟨v4, trivial⟩⟩⟩⟩⟩
 ·rw [emb_TG0_eq]
  have := hB.agg ([x0, x1, x2, x3, x4].map (·.1))
  simp only [List.map_cons, List.map_nil, List.sum_cons, List.sum_nil] at this ⊢
  simp only [dsz, dszs] at *
  omega
theorem opa_TA0 {H : Type} {enc : TypeId × Value → H} {w : World} {B : DataW H → Nat} (hB : BulkOk B) : ∀ m, OpnAt enc Tryz.prog w 62 emb_TA0 B m := by
 intro m
 induction m using Nat.strongRecOn with
 | ind m ih =>
 intro cs x h
 obtain ⟨xs, n, rfl, rfl, hlen, hxl, hf⟩ := DataW.trod_struct Tryz.underlying62 h
 have hct : Tryz.prog.cellsOf 62 = 7 := by kernel_rfl
 rw [hct] at hlen
 obtain ⟨x0, x1, x2, rfl⟩ : ∃ x0 x1 x2, xs = [x0, x1, x2] := by
  match xs, hxl with
  | [x0, x1, x2], _ => exact ⟨x0, x1, x2, rfl⟩
 have f0 : DataW.trod enc Tryz.prog w 0 (fun _ => true) true n 3 ((cs.drop 0).take (Tryz.prog.cellsOf 3)) = some x0 := hf 0 _ rfl
 rw [show Tryz.prog.cellsOf 3 = 1 by kernel_rfl] at f0
 obtain ⟨a0, r0, v0, b0⟩ := (fun _ => opa_int hB Tryz.underlying3) n _ _ f0
 have f1 : DataW.trod enc Tryz.prog w 0 (fun _ => true) true n 3 ((cs.drop 1).take (Tryz.prog.cellsOf 3)) = some x1 := hf 1 _ rfl
 rw [show Tryz.prog.cellsOf 3 = 1 by kernel_rfl] at f1
 obtain ⟨a1, r1, v1, b1⟩ := (fun _ => opa_int hB Tryz.underlying3) n _ _ f1
 have f2 : DataW.trod enc Tryz.prog w 0 (fun _ => true) true n 42 ((cs.drop 2).take (Tryz.prog.cellsOf 42)) = some x2 := hf 2 _ rfl
 rw [show Tryz.prog.cellsOf 42 = 5 by kernel_rfl] at f2
 obtain ⟨a2, r2, v2, b2⟩ := (opa_TG0 hB) n _ _ f2
 refine ⟨⟨a0, a1, a2⟩, ?_, ?_, ?_⟩
 ·rw [emb_TA0_eq]
  have hcs : RepSeq (Mem.of w) _ (cs.drop 0) := (RepSeq.cut (k := 1) r0 (by rw [List.drop_drop]; exact (RepSeq.cut (k := 1) r1 (by rw [List.drop_drop]; exact (RepSeq.cut (k := 5) r2 (by rw [List.drop_drop]; exact (show RepSeq (Mem.of w) [] (cs.drop 7) from List.drop_eq_nil_of_le (by omega))))))))
  exact hcs
 ·rw [emb_TA0_eq]; exact ⟨v0, ⟨v1, ⟨v2, trivial⟩⟩⟩
 ·rw [emb_TA0_eq]
  have := hB.agg ([x0, x1, x2].map (·.1))
  simp only [List.map_cons, List.map_nil, List.sum_cons, List.sum_nil] at this ⊢
  simp only [dsz, dszs] at *
  omega
theorem bulk_all {H : Type} (l : List (DataW H)) : Rows.uptoBulkAll l = (l.map Rows.uptoBulk).sum := by
 induction l with
 | nil => simp [Rows.uptoBulkAll]
 | cons x l ih => simp only [Rows.uptoBulkAll, List.map_cons, List.sum_cons, ih]
theorem bulk_ok {H : Type} : BulkOk (H := H) Rows.uptoBulk where
 one d := by
  cases d with
  | lit l => cases l <;> simp [Rows.uptoBulk]
  | nil => simp [Rows.uptoBulk]
  | ptr d => simp [Rows.uptoBulk]
  | slice elems spare => simp [Rows.uptoBulk]
  | agg parts => simp [Rows.uptoBulk]
  | iface t d => simp [Rows.uptoBulk]
  | map entries => simp [Rows.uptoBulk]
  | held h => simp [Rows.uptoBulk]
 str l := by simp [Rows.uptoBulk]
 slice e s := by
  simp only [Rows.uptoBulk]
  rw [bulk_all e]
  omega
 agg e := by
  simp only [Rows.uptoBulk]
  rw [bulk_all e]
  exact Nat.le_refl _
theorem bulk_one {H : Type} {d : DataW H} {l : List (DataW H)} (h : Rows.uptoSmall H l = true) (hd : d ∈ l) : Rows.uptoBulk d ≤ 1048576 := by
 unfold Rows.uptoSmall at h
 have h := of_decide_eq_true h
 rw [bulk_all] at h
 have := le_sum (List.mem_map_of_mem (f := Rows.uptoBulk) hd)
 omega
end Go.Proofs.YtocefedhenhbfaaGreatDoor
end
