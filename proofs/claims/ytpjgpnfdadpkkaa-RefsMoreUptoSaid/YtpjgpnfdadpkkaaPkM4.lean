/-
  Texts of this claim, packed (what nothing names is left out): RefsP5, G3, G4, G5, RefsP6, RefsP7, RefsP2, L1, L2, RefsL1, VkN, L3, RefsL2, Op. Own work, partly printed by own programs. No condition.
-/
import Derived.Test.YtpjgpnfdadpkkaaPkM3
import Derived.Test.YtpjgpnfdadpkkaaPkM1
import Derived.Test.YtpjgpnfdadpkkaaPkM2
import Derived.Test.YtpjgpnfdadpkkaaRows
set_option linter.unusedVariables false
set_option linter.unusedSimpArgs false
set_option maxHeartbeats 2000000
section
namespace Go.Proofs.Ytpjgpnfdadpkkaa
open Go Go.Vc Go.RowKit
def outE (P C : List (List UInt8 × Bool)) (R : List (List UInt8 × TB0)) (o : TC0) : Int := bif !decide (o.fCond = []) && !hasB C o.fCond then 150 else usesI P C R o.fE
def okT : Nat → TA0 → Bool
  | 0, _ => false
  | k + 1, t => t.fConds.all (condOK (pM t) (cM t)) && (t.fRes.all (resOK (pM t) (cM t) (rM t) (okT k)) && t.fOuts.all fun o => decide (outE (pM t) (cM t) (rM t) o = 0))
def kO8 : List UInt8 := [79, 117, 116, 112, 117, 116, 115, 47]
abbrev opn (t : TA0) := (t.fParams, t.fConds, t.fRes, t.fOuts, pM t, cM t, rM t)
theorem stage1 {n : Nat} (hn : 2000000 ≤ n) (t : TA0) (hb : dsz (emb_TA0 t) ≤ 1100000) :
  ∃ b, loopF (refs_Check_s1 n t (opn t)) n (0 : Int) = some b ∧ ((∃ at_ e, b = .inl (at_, e) ∧ e ≠ 0 ∧ t.fConds.all (condOK (pM t) (cM t)) = false ∧ at_.length ≤ 12 * dsz (emb_TA0 t)) ∨ (b = .inr () ∧ t.fConds.all (condOK (pM t) (cM t)) = true)) := by
 have hs := szT t
 have hlen := len_sz (f := emb_TF0) t.fConds
 refine loop_inv (n := n) (step := refs_Check_s1 n t (opn t)) (s0 := (0 : Int)) (fun j s => s = (j : Int) ∧ ∀ i (h : i < t.fConds.length), i < j → condOK (pM t) (cM t) t.fConds[i] = true) _ t.fConds.length ⟨rfl, fun i _ h => absurd h (by omega)⟩
  (fun j s hj hI => ?_) (fun s hI => ?_) (by omega)
 ·obtain ⟨rfl, hI⟩ := hI
  have hm := mem_sz (f := emb_TF0) (List.getElem_mem hj)
  have hc := szC t.fConds[j]
  obtain ⟨e, he, hz⟩ := cond_run hn t.fParams t.fConds t.fRes t.fOuts (pM t) (cM t) (rM t) n t.fConds[j] (by omega) (by omega)
  unfold refs_Check_s1 refs_scope_cond
  dsimp only [opn]
  rw [decide_eq_true (by omega), cT, getI_here hj, bnd, he, bnd]
  by_cases h0 : e = 0
  ·rw [decide_eq_true h0, Bool.not_true, cF, need_i (by omega) (by omega)]
   refine .inl ⟨_, rfl, by simp, fun i h hi => ?_⟩
   by_cases e2 : i = j
   ·subst e2; exact hz.1 h0
   ·exact hI i h (by omega)
  ·rw [decide_eq_false h0, Bool.not_false, cT, need_t (by simp only [List.length_cons, List.length_nil]; omega)]
   refine .inr ⟨_, rfl, .inl ⟨_, e, rfl, h0, ?_, ?_⟩⟩
   ·rw [List.all_eq_false]
    exact ⟨_, List.getElem_mem hj, fun h => h0 (hz.2 h)⟩
   ·simp only [List.length_append, List.length_cons, List.length_nil]; omega
 ·obtain ⟨rfl, hI⟩ := hI
  unfold refs_Check_s1
  rw [decide_eq_false (by omega), cF]
  refine ⟨_, rfl, .inr ⟨rfl, ?_⟩⟩
  rw [List.all_eq_true]
  intro x hx
  obtain ⟨i, hi, rfl⟩ := List.getElem_of_mem hx
  exact hI i hi hi
theorem join2 (a b s : List UInt8) : Lib.join [a, b] s = a ++ (s ++ b) := by simp [Lib.join]
theorem place_run {n : Nat} (hn : 2000000 ≤ n) (a b : List UInt8) (ha : a ≠ []) (hb : b ≠ []) (hl : a.length + 1 + b.length ≤ 140737488355328) : refs_place n [a, b] = some (a ++ ([47] ++ b)) := by
 unfold refs_place slices_DeleteFuncstring_string slices_IndexFuncstring_string_2
 obtain ⟨c, hc, hc2⟩ := loop_idx (n := n) (step := slices_IndexFuncstring_string_2_s1 n [a, b]) (fun k => decide ([a, b].getD k [] = [])) 2 (fun k hk => by
  unfold slices_IndexFuncstring_string_2_s1 refs_place_1
  rw [decide_eq_true (by simp only [List.length_cons, List.length_nil]; omega), cT, getI_at [] (by simpa using hk), bnd, bnd, need_i (by omega) (by omega)]
  cases decide ([a, b].getD k [] = []) <;> rfl) (by
  unfold slices_IndexFuncstring_string_2_s1
  rw [decide_eq_false (by simp), cF]) (by omega)
 rw [hc, bnd]
 rcases hc2 with ⟨i, hi, rfl, hq⟩ | ⟨rfl, hq⟩
 ·have := of_decide_eq_true hq
  rcases (by omega : i = 0 ∨ i = 1) with rfl | rfl
  ·exact absurd this ha
  ·exact absurd this hb
 ·dsimp only
  rw [bnd, decide_eq_true rfl, need_t rfl, bnd]
  unfold h_Join
  rw [join2, need_t ⟨by simp, by simp, by simp only [List.length_append, List.length_cons, List.length_nil]; omega⟩, bnd]
theorem stage2 {n : Nat} (hn : 2000000 ≤ n) (rc : TA0 → Option (List UInt8 × Int)) (chk : TA0 → Bool) (t : TA0) (hb : dsz (emb_TA0 t) ≤ 1100000)
  (hrc : ∀ x ∈ t.fRes, ∀ t2 ∈ x.fInner, ∃ at_ e, rc t2 = some (at_, e) ∧ (e = 0 ↔ chk t2 = true) ∧ at_.length ≤ 12 * dsz (emb_TA0 t2)) :
  ∃ b, loopF (refs_Check_s2 n rc t (opn t)) n (0 : Int) = some b ∧ ((∃ at_ e, b = .inl (at_, e) ∧ e ≠ 0 ∧ t.fRes.all (resOK (pM t) (cM t) (rM t) chk) = false ∧ at_.length ≤ 12 * dsz (emb_TA0 t)) ∨ (b = .inr () ∧ t.fRes.all (resOK (pM t) (cM t) (rM t) chk) = true)) := by
 have hs := szT t
 have hlen := len_sz (f := emb_TB0) t.fRes
 refine loop_inv (n := n) (step := refs_Check_s2 n rc t (opn t)) (s0 := (0 : Int)) (fun j s => s = (j : Int) ∧ ∀ i (h : i < t.fRes.length), i < j → resOK (pM t) (cM t) (rM t) chk t.fRes[i] = true) _ t.fRes.length ⟨rfl, fun i _ h => absurd h (by omega)⟩
  (fun j s hj hI => ?_) (fun s hI => ?_) (by omega)
 ·obtain ⟨rfl, hI⟩ := hI
  have hm := mem_sz (f := emb_TB0) (List.getElem_mem hj)
  have hc := szR t.fRes[j]
  obtain ⟨at_, e, he, hz, hl⟩ := resource_run hn rc chk t.fParams t.fConds t.fRes t.fOuts (pM t) (cM t) (rM t) (bdR hb) t.fRes[j] (by omega) (hrc _ (List.getElem_mem hj))
  unfold refs_Check_s2
  dsimp only [opn]
  rw [decide_eq_true (by omega), cT, getI_here hj, bnd, he, bnd]
  dsimp only
  by_cases h0 : e = 0
  ·rw [decide_eq_true h0, Bool.not_true, cF, need_i (by omega) (by omega)]
   refine .inl ⟨_, rfl, by simp, fun i h hi => ?_⟩
   by_cases e2 : i = j
   ·subst e2; exact hz.1 h0
   ·exact hI i h (by omega)
  ·have hbad : t.fRes.all (resOK (pM t) (cM t) (rM t) chk) = false := by
    rw [List.all_eq_false]
    exact ⟨_, List.getElem_mem hj, fun h => h0 (hz.2 h)⟩
   rw [decide_eq_false h0, Bool.not_false, cT]
   by_cases h1 : at_ = []
   ·rw [decide_eq_true h1, cT, need_t (by simp only [List.length_cons, List.length_nil]; omega)]
    refine .inr ⟨_, rfl, .inl ⟨_, e, rfl, h0, hbad, ?_⟩⟩
    simp only [List.length_append, List.length_cons, List.length_nil]; omega
   ·rw [decide_eq_false h1, cF, need_t (by simp only [List.length_cons, List.length_nil]; omega), place_run hn _ _ (by simp) h1 (by simp only [List.length_append, List.length_cons, List.length_nil]; omega), bnd]
    refine .inr ⟨_, rfl, .inl ⟨_, e, rfl, h0, hbad, ?_⟩⟩
    simp only [List.length_append, List.length_cons, List.length_nil]; omega
 ·obtain ⟨rfl, hI⟩ := hI
  unfold refs_Check_s2
  rw [decide_eq_false (by omega), cF]
  refine ⟨_, rfl, .inr ⟨rfl, ?_⟩⟩
  rw [List.all_eq_true]
  intro x hx
  obtain ⟨i, hi, rfl⟩ := List.getElem_of_mem hx
  exact hI i hi hi
theorem stage3 {n : Nat} (hn : 2000000 ≤ n) (t : TA0) (hb : dsz (emb_TA0 t) ≤ 1100000) :
  ∃ b, loopF (refs_Check_s3 n t (opn t)) n (0 : Int) = some b ∧ ((∃ j, ∃ h : j < t.fOuts.length, b = .inl (kO8 ++ t.fOuts[j].fName, outE (pM t) (cM t) (rM t) t.fOuts[j]) ∧ outE (pM t) (cM t) (rM t) t.fOuts[j] ≠ 0 ∧ ∀ i (hi : i < t.fOuts.length), i < j → outE (pM t) (cM t) (rM t) t.fOuts[i] = 0) ∨ (b = .inr () ∧ ∀ i (hi : i < t.fOuts.length), outE (pM t) (cM t) (rM t) t.fOuts[i] = 0)) := by
 have hs := szT t
 have hlen := len_sz (f := emb_TC0) t.fOuts
 refine loop_inv (n := n) (step := refs_Check_s3 n t (opn t)) (s0 := (0 : Int)) (fun j s => s = (j : Int) ∧ ∀ i (h : i < t.fOuts.length), i < j → outE (pM t) (cM t) (rM t) t.fOuts[i] = 0) _ t.fOuts.length ⟨rfl, fun i _ h => absurd h (by omega)⟩
  (fun j s hj hI => ?_) (fun s hI => ?_) (by omega)
 ·obtain ⟨rfl, hI⟩ := hI
  have hm := mem_sz (f := emb_TC0) (List.getElem_mem hj)
  have hc := szO t.fOuts[j]
  unfold refs_Check_s3
  dsimp only [opn]
  rw [decide_eq_true (by omega), cT, getI_here hj, bnd, eta_X, uses_run hn t.fParams t.fConds t.fRes t.fOuts (pM t) (cM t) (rM t) (bdR hb) t.fOuts[j].fE (by omega), bnd]
  have e1 : (bif !decide (t.fOuts[j].fCond = []) then some (!((mget (cM t) t.fOuts[j].fCond).getD false)) else some false : Option Bool) = some (!decide (t.fOuts[j].fCond = []) && !hasB (cM t) t.fOuts[j].fCond) := by
   cases decide (t.fOuts[j].fCond = []) <;> rfl
  have e2 : (bif !decide (t.fOuts[j].fCond = []) && !hasB (cM t) t.fOuts[j].fCond then some (150 : Int) else some (usesI (pM t) (cM t) (rM t) t.fOuts[j].fE) : Option Int) = some (outE (pM t) (cM t) (rM t) t.fOuts[j]) := by
   unfold outE
   cases (!decide (t.fOuts[j].fCond = []) && !hasB (cM t) t.fOuts[j].fCond) <;> rfl
  rw [e1, bnd, e2, bnd]
  by_cases h0 : outE (pM t) (cM t) (rM t) t.fOuts[j] = 0
  ·rw [decide_eq_true h0, Bool.not_true, cF, need_i (by omega) (by omega)]
   refine .inl ⟨_, rfl, by simp, fun i h hi => ?_⟩
   by_cases e2 : i = j
   ·subst e2; exact h0
   ·exact hI i h (by omega)
  ·rw [decide_eq_false h0, Bool.not_false, cT, need_t (by simp only [List.length_cons, List.length_nil]; omega)]
   exact .inr ⟨_, rfl, .inl ⟨j, hj, rfl, h0, hI⟩⟩
 ·obtain ⟨rfl, hI⟩ := hI
  unfold refs_Check_s3
  rw [decide_eq_false (by omega), cF]
  exact ⟨_, rfl, .inr ⟨rfl, fun i hi => hI i hi hi⟩⟩
theorem check_run {n : Nat} (hn : 2000000 ≤ n) : ∀ (k : Nat) (t : TA0), dsz (emb_TA0 t) < k → dsz (emb_TA0 t) ≤ 1100000 →
  ∃ at_ e, refs_Check_k n k t = some (at_, e) ∧ (e = 0 ↔ okT k t = true) ∧ at_.length ≤ 12 * dsz (emb_TA0 t) ∧
   (∀ j (h : j < t.fOuts.length), t.fConds.all (condOK (pM t) (cM t)) = true → t.fRes.all (resOK (pM t) (cM t) (rM t) (okT (k - 1))) = true → (∀ i (hi : i < t.fOuts.length), i < j → outE (pM t) (cM t) (rM t) t.fOuts[i] = 0) → outE (pM t) (cM t) (rM t) t.fOuts[j] ≠ 0 →
    at_ = kO8 ++ t.fOuts[j].fName ∧ e = outE (pM t) (cM t) (rM t) t.fOuts[j])
 | 0, t, hk, hb => absurd hk (by omega)
 | k + 1, t, hk, hb => by
  have hs := szT t
  unfold refs_Check_k refs_Check_b okT
  rw [open_run hn t hb, bnd, Nat.add_sub_cancel]
  obtain ⟨b1, h1, c1⟩ := stage1 hn t hb
  obtain ⟨b2, h2, c2⟩ := stage2 hn (refs_Check_k n k) (okT k) t hb (fun x hx t2 ht2 => by
   have m1 := mem_sz (f := emb_TB0) hx
   have m2 := mem_sz (f := emb_TA0) ht2
   have hr := szR x
   obtain ⟨a, e, g1, g2, g3, -⟩ := check_run hn k t2 (by omega) (by omega)
   exact ⟨a, e, g1, g2, g3⟩)
  obtain ⟨b3, h3, c3⟩ := stage3 hn t hb
  rw [show loopF (refs_Check_s1 n t (t.fParams, t.fConds, t.fRes, t.fOuts, pM t, cM t, rM t)) n (0 : Int) = some b1 from h1, bnd]
  rcases c1 with ⟨a, e, rfl, k1, k2, k3⟩ | ⟨rfl, k1⟩
  ·refine ⟨a, e, rfl, ?_, k3, fun j h hc => ?_⟩
   ·rw [k2, Bool.false_and]; simp [k1]
   ·rw [k2] at hc; cases hc
  dsimp only
  rw [show loopF (refs_Check_s2 n (refs_Check_k n k) t (t.fParams, t.fConds, t.fRes, t.fOuts, pM t, cM t, rM t)) n (0 : Int) = some b2 from h2, bnd, k1, Bool.true_and]
  rcases c2 with ⟨a, e, rfl, q1, q2, q3⟩ | ⟨rfl, q1⟩
  ·refine ⟨a, e, rfl, ?_, q3, fun j h hc hr => ?_⟩
   ·rw [q2, Bool.false_and]; simp [q1]
   ·rw [q2] at hr; cases hr
  dsimp only
  rw [show loopF (refs_Check_s3 n t (t.fParams, t.fConds, t.fRes, t.fOuts, pM t, cM t, rM t)) n (0 : Int) = some b3 from h3, bnd, q1, Bool.true_and]
  rcases c3 with ⟨j, hj, rfl, p1, p2⟩ | ⟨rfl, p1⟩
  ·have hm := mem_sz (f := emb_TC0) (List.getElem_mem hj)
   have hc := szO t.fOuts[j]
   refine ⟨_, _, rfl, ?_, ?_, fun j2 h2 _ _ hlt hne => ?_⟩
   ·have : (t.fOuts.all fun o => decide (outE (pM t) (cM t) (rM t) o = 0)) = false := by
     rw [List.all_eq_false]
     exact ⟨_, List.getElem_mem hj, by simp [p1]⟩
    rw [this]; simp [p1]
   ·simp only [kO8, List.length_append, List.length_cons, List.length_nil]; omega
   ·have : j2 = j := by
     rcases Nat.lt_trichotomy j2 j with h | h | h
     ·exact absurd (p2 j2 h2 h) hne
     ·exact h
     ·exact absurd (hlt j hj h) p1
    subst this
    exact ⟨rfl, rfl⟩
  ·refine ⟨_, _, rfl, ?_, by simp, fun j2 h2 _ _ hlt hne => absurd (p1 j2 h2) hne⟩
   have : (t.fOuts.all fun o => decide (outE (pM t) (cM t) (rM t) o = 0)) = true := by
    rw [List.all_eq_true]
    intro o ho
    obtain ⟨i, hi, rfl⟩ := List.getElem_of_mem ho
    exact decide_eq_true (p1 i hi)
   rw [this]; simp
end Go.Proofs.Ytpjgpnfdadpkkaa
end

section
namespace Go.Proofs.Ytpjgpnfdadpkkaa
open Go Go.Vc Go.RowKit
end Go.Proofs.Ytpjgpnfdadpkkaa
end

section
namespace Go.Proofs.Ytpjgpnfdadpkkaa
open Go Go.Vc Go.RowKit
def ref16_Find_s1 (n : Nat) (d0 : TA0) (d1 : List UInt8) (s_1 : Int × List UInt8 × List UInt8 × List UInt8 × List TI0 × List (List UInt8) × Bool × List TA0) : Option (Lp (Int × List UInt8 × List UInt8 × List UInt8 × List TI0 × List (List UInt8) × Bool × List TA0) (Sum (List UInt8 × List UInt8 × List UInt8 × List TI0 × List (List UInt8) × Bool × List TA0) (List UInt8 × List UInt8 × List UInt8 × List TI0 × List (List UInt8) × Bool × List TA0))) :=
    bif (decide (s_1.1 < ((d0.fRes.length : Nat) : Int))) then
      ((getI d0.fRes s_1.1).bind fun x_1 =>
      bif (decide (x_1.fId = d1)) then
        ((getI d0.fRes s_1.1).bind fun x_2 =>
        some (.br (.inl (x_2.fId, x_2.fType, x_2.fCond, x_2.fProps, x_2.fDepends, (x_2.fRetain), x_2.fInner))))
      else
        need (inR .i64 (s_1.1 + 1)) <|
        some (.nx (s_1.1 + 1, s_1.2.1, s_1.2.2.1, s_1.2.2.2.1, s_1.2.2.2.2.1, s_1.2.2.2.2.2.1, (s_1.2.2.2.2.2.2.1), s_1.2.2.2.2.2.2.2)))
    else
      some (.br (.inr (s_1.2.1, s_1.2.2.1, s_1.2.2.2.1, s_1.2.2.2.2.1, s_1.2.2.2.2.2.1, (s_1.2.2.2.2.2.2.1), s_1.2.2.2.2.2.2.2)))
def ref16_Find (n : Nat) (d0 : TA0) (d1 : List UInt8) : Option (TB0 × Bool) :=
  (loopF (ref16_Find_s1 n d0 d1) n ((0 : Int), ([] : List UInt8), ([] : List UInt8), ([] : List UInt8), ([] : List TI0), ([] : List (List UInt8)), (false), ([] : List TA0))).bind fun b_3 =>
  (match b_3 with 
  | .inl y_1 => some (((⟨y_1.1, y_1.2.1, y_1.2.2.1, y_1.2.2.2.1, y_1.2.2.2.2.1, (y_1.2.2.2.2.2.1), y_1.2.2.2.2.2.2⟩ : TB0), (true))) 
  | .inr y_2 => some ((z_TB0, (false))))
set_option maxRecDepth 20000 in
theorem ref16_Find_ok (n : Nat) (M : Mem) (c0 : List Value) (d0 : TA0) (h0 : Rep M (emb_TA0 d0) c0) (d1 : List UInt8) (r : TB0 × Bool) (hF : ref16_Find n d0 d1 = some r) : Ok Try.prog M 11 [.agg c0.toArray, S d1] (fun M' v => ∃ (c0 : List Value), v = .tuple #[.agg c0.toArray, .bool r.2] ∧ Rep M' (emb_TB0 r.1) c0) := by
 unfold ref16_Find at hF
 intro M1 hM0 w0 H w p0
 replace h0 := Rep.mono hM0 _ _ h0
 obtain ⟨A_1, cap_1, A_2, cap_2, A_3, cap_3, A_4, cap_4, rfl, h_1, h_2, h_3, h_4⟩ := TA0.opn h0
 refine R_enter 28 Try.func11 rfl rfl (by simp) fun a0 f0 => RR (Y12 (cs := #[.slice A_1 d0.fParams.length cap_1, .slice A_2 d0.fConds.length cap_2, .slice A_3 d0.fRes.length cap_3, .slice A_4 d0.fOuts.length cap_4]) (T := 27) f0 p0 fun b_1 M_1 w_1 hM_1 hc_1 p_1 _ f => ?_)
 have hc_2 := fz_box hc_1
 refine Y11 f p_1 (.cells #[S [], S [], S [], .slice none 0 0, .slice none 0 0, .bool false, .slice none 0 0] 49 (0, 0)) fun b_2 w_2 p_2 _ f => Y f 1 fun _ f => eT (R_seq (RR (Y f 1 fun _ f => eT (wp_block ?_))))
 obtain ⟨b_3, hL_1, hF_1⟩ := bS hF
 refine wp_mono (Q := fun e a w => (e = .ret ∧ (∃ y_1 : List UInt8 × List UInt8 × List UInt8 × List TI0 × List (List UInt8) × Bool × List TA0, b_3 = .inl y_1 ∧ ∃ M_3 : Mem, M_1.le M_3 ∧ ∃ (A_14 : Option Addr), ∃ (cap_14 : Nat), ∃ (A_15 : Option Addr), ∃ (cap_15 : Nat), ∃ (A_16 : Option Addr), ∃ (cap_16 : Nat), Sli M_3 7 emb_TI0 A_14 cap_14 y_1.2.2.2.1 ∧ Sli M_3 1 Dat.str A_15 cap_15 y_1.2.2.2.2.1 ∧ Sli M_3 4 emb_TA0 A_16 cap_16 y_1.2.2.2.2.2.2 ∧ Frm 28 [(4, .pointer (some (⟨b_2, 0, none⟩))), (5, .bool true)] a ∧ Hp w0 M_3 ((Ent.obj b_2 (.cells #[S y_1.1, S y_1.2.1, S y_1.2.2.1, .slice A_14 y_1.2.2.2.1.length cap_14, .slice A_15 y_1.2.2.2.2.1.length cap_15, .bool y_1.2.2.2.2.2.1, .slice A_16 y_1.2.2.2.2.2.2.length cap_16] 49 (0, 0))) :: H) w)) ∨ (e = .exit 0 ∧ (∃ y_2 : List UInt8 × List UInt8 × List UInt8 × List TI0 × List (List UInt8) × Bool × List TA0, b_3 = .inr y_2 ∧ ∃ M_4 : Mem, M_1.le M_4 ∧ ∃ (A_17 : Option Addr), ∃ (cap_17 : Nat), ∃ (A_18 : Option Addr), ∃ (cap_18 : Nat), ∃ (A_19 : Option Addr), ∃ (cap_19 : Nat), Sli M_4 7 emb_TI0 A_17 cap_17 y_2.2.2.2.1 ∧ Sli M_4 1 Dat.str A_18 cap_18 y_2.2.2.2.2.1 ∧ Sli M_4 4 emb_TA0 A_19 cap_19 y_2.2.2.2.2.2.2 ∧ Frm 28 [(4, .pointer (some (⟨b_2, 0, none⟩)))] a ∧ Hp w0 M_4 ((Ent.obj b_2 (.cells #[S y_2.1, S y_2.2.1, S y_2.2.2.1, .slice A_17 y_2.2.2.2.1.length cap_17, .slice A_18 y_2.2.2.2.2.1.length cap_18, .bool y_2.2.2.2.2.2.1, .slice A_19 y_2.2.2.2.2.2.2.length cap_19] 49 (0, 0))) :: H) w))) (R_loop (n := 28) (w0 := w0) (M := M_1) (fun (x : Nat × (Int × List UInt8 × List UInt8 × List UInt8 × List TI0 × List (List UInt8) × Bool × List TA0) × (Option Addr) × Nat × (Option Addr) × Nat × (Option Addr) × Nat) => match x with | (m_1, s_1, A_5, cap_5, A_6, cap_6, A_7, cap_7) => [(1, S d1), (2, .pointer (some (⟨b_1, 0, none⟩))), (4, .pointer (some (⟨b_2, 0, none⟩))), (6, .int .i64 s_1.1)]) (fun (x : Nat × (Int × List UInt8 × List UInt8 × List UInt8 × List TI0 × List (List UInt8) × Bool × List TA0) × (Option Addr) × Nat × (Option Addr) × Nat × (Option Addr) × Nat) => match x with | (m_1, s_1, A_5, cap_5, A_6, cap_6, A_7, cap_7) => ((Ent.obj b_2 (.cells #[S s_1.2.1, S s_1.2.2.1, S s_1.2.2.2.1, .slice A_5 s_1.2.2.2.2.1.length cap_5, .slice A_6 s_1.2.2.2.2.2.1.length cap_6, .bool s_1.2.2.2.2.2.2.1, .slice A_7 s_1.2.2.2.2.2.2.2.length cap_7] 49 (0, 0))) :: H)) (fun (x : Nat × (Int × List UInt8 × List UInt8 × List UInt8 × List TI0 × List (List UInt8) × Bool × List TA0) × (Option Addr) × Nat × (Option Addr) × Nat × (Option Addr) × Nat) (MM : Mem) => match x with | (m_1, s_1, A_5, cap_5, A_6, cap_6, A_7, cap_7) => loopF (ref16_Find_s1 n d0 d1) m_1 s_1 = some b_3 ∧ Sli MM 7 emb_TI0 A_5 cap_5 s_1.2.2.2.2.1 ∧ Sli MM 1 Dat.str A_6 cap_6 s_1.2.2.2.2.2.1 ∧ Sli MM 4 emb_TA0 A_7 cap_7 s_1.2.2.2.2.2.2.2) (fun (x : Nat × (Int × List UInt8 × List UInt8 × List UInt8 × List TI0 × List (List UInt8) × Bool × List TA0) × (Option Addr) × Nat × (Option Addr) × Nat × (Option Addr) × Nat) => match x with | (m_1, s_1, A_5, cap_5, A_6, cap_6, A_7, cap_7) => m_1) (n, ((0 : Int), ([] : List UInt8), ([] : List UInt8), ([] : List UInt8), ([] : List TI0), ([] : List (List UInt8)), (false), ([] : List TA0)), none, 0, none, 0, none, 0) (f.kp) p_2 ⟨hL_1, Sli.nil, Sli.nil, Sli.nil⟩ ?_) ?_
 ·rintro ⟨m_1, s_1, A_5, cap_5, A_6, cap_6, A_7, cap_7⟩ M_2 _ w_3 hM_2 I_1 f p_3
  obtain ⟨I_1L, h_5, h_6, h_7⟩ := I_1
  obtain ⟨m_2, r_1, rfl, hs_1, hn_1⟩ := loop_step I_1L
  unfold ref16_Find_s1 at hs_1
  refine R_seq (RR (Y f 2 fun _ f => Y14 f p_3 (fzu hM_2 hc_2) 2 rfl fun _ f => Y f 2 fun _ f => eT (RcF f hs_1 (fun h_8 hF_2 => ?_) fun h_8 hF_8 => ?_)))
  ·have k_1 := dI.1 h_8
   refine wp_skip (T_n (R_seq (wp_block (RR (Y f 1 fun _ f => Y14 f p_3 (fzu hM_2 hc_2) 2 rfl fun _ f => Y f 1 fun _ f => ?_)))))
   obtain ⟨x_1, hx_1, hF_3⟩ := bS hF_2
   obtain ⟨ad_1, c_1, e_1, -, hr_1, hc_3⟩ := Sli.at_ (h_3.mono (hM_1.trans hM_2)) hx_1
   obtain ⟨A_8, cap_8, A_9, cap_9, A_10, cap_10, rfl, h_9, h_10, h_11⟩ := TB0.opn hr_1
   refine Z f (Y25 e_1 rfl (len := d0.fRes.length) (cap := cap_3) (k := .i64) (i := s_1.1) (e := 49) (sz := 7) (getI_nn hx_1) (getI_lt hx_1)) fun _ f => Y f 1 fun _ f => Y14 f p_3 hc_3 0 rfl fun _ f => Y f 1 fun _ f => Z f (Y28 rfl (l := x_1.fId) (m := d1)) fun _ f => eT (RcF f hF_3 (fun h_12 hF_4 => ?_) fun h_12 hF_6 => ?_)
   ·have k_2 := dI.1 h_12
    refine RR (Y f 1 fun _ f => Y14 f p_3 (fzu hM_2 hc_2) 2 rfl fun _ f => Y f 1 fun _ f => ?_)
    obtain ⟨x_2, hx_2, hF_5⟩ := bS hF_4
    obtain ⟨ad_2, c_2, e_2, -, hr_2, hc_4⟩ := Sli.at_ (h_3.mono (hM_1.trans hM_2)) hx_2
    obtain ⟨A_11, cap_11, A_12, cap_12, A_13, cap_13, rfl, h_13, h_14, h_15⟩ := TB0.opn hr_2
    refine Z f (Y25 e_2 rfl (len := d0.fRes.length) (cap := cap_3) (k := .i64) (i := s_1.1) (e := 49) (sz := 7) (getI_nn hx_2) (getI_lt hx_2)) fun _ f => Z (v := .agg #[S x_2.fId, S x_2.fType, S x_2.fCond, .slice A_11 x_2.fProps.length cap_11, .slice A_12 x_2.fDepends.length cap_12, .bool x_2.fRetain, .slice A_13 x_2.fInner.length cap_13]) f (Y27 (cs := [S x_2.fId, S x_2.fType, S x_2.fCond, .slice A_11 x_2.fProps.length cap_11, .slice A_12 x_2.fDepends.length cap_12, .bool x_2.fRetain, .slice A_13 x_2.fInner.length cap_13]) rfl (ad := ad_2.add (s_1.1.toNat * 7)) (fun j v h => p_3.cell (hc_4 j v h))) fun _ f => Y22 (vs := [S x_2.fId, S x_2.fType, S x_2.fCond, .slice A_11 x_2.fProps.length cap_11, .slice A_12 x_2.fDepends.length cap_12, .bool x_2.fRetain, .slice A_13 x_2.fInner.length cap_13]) (j := 0) f p_3 rfl rfl (by simp [Value.oneCell', S]) (by simp) (by decide) (cs' := #[S x_2.fId, S x_2.fType, S x_2.fCond, .slice A_11 x_2.fProps.length cap_11, .slice A_12 x_2.fDepends.length cap_12, .bool x_2.fRetain, .slice A_13 x_2.fInner.length cap_13]) (by kernel_rfl) fun w_4 p_4 _ f => Y f 1 fun _ f => eT (wp_ret (B_r (T_r (T_r ?_))))
    obtain rfl := sI hF_5
    exact .inl ⟨rfl, (x_2.fId, x_2.fType, x_2.fCond, x_2.fProps, x_2.fDepends, (x_2.fRetain), x_2.fInner), (sI hn_1).symm, M_2, hM_2, A_11, cap_11, A_12, cap_12, A_13, cap_13, h_13, h_14, h_15, f.kp, p_4⟩
   ·have k_3 := iff_f dI h_12
    refine wp_skip (B_n (T_n (R_reg (Y f 1 fun _ f => ?_))))
    obtain ⟨g_1, hF_7⟩ := nS hF_6
    refine Y f 1 fun _ f => ?_
    have f := f.st 13 (congrArg (Value.int .i64) (inR_wrap g_1))
    refine Y f 1 fun _ f => eT ?_
    obtain rfl := sI hF_7
    exact ⟨⟨m_2, (s_1.1 + 1, s_1.2.1, s_1.2.2.1, s_1.2.2.2.1, s_1.2.2.2.2.1, s_1.2.2.2.2.2.1, (s_1.2.2.2.2.2.2.1), s_1.2.2.2.2.2.2.2), A_5, cap_5, A_6, cap_6, A_7, cap_7⟩, Nat.lt_succ_self _, M_2, hM_2, ⟨hn_1, h_5, h_6, h_7⟩, f.kp, p_3⟩
  ·have k_4 := iff_f dI h_8
   refine wp_exit (T_x (T_x ?_))
   obtain rfl := sI hF_8
   exact .inr ⟨rfl, (s_1.2.1, s_1.2.2.1, s_1.2.2.2.1, s_1.2.2.2.2.1, s_1.2.2.2.2.2.1, (s_1.2.2.2.2.2.2.1), s_1.2.2.2.2.2.2.2), (sI hn_1).symm, M_2, hM_2, A_5, cap_5, A_6, cap_6, A_7, cap_7, h_5, h_6, h_7, f.kp, p_3⟩
 ·rintro _ _ w_7 (⟨rfl, y_1, rfl, M_3, hM_3, A_14, cap_14, A_15, cap_15, A_16, cap_16, h_16, h_17, h_18, f, p_5⟩ | ⟨rfl, y_2, rfl, M_4, hM_4, A_17, cap_17, A_18, cap_18, A_19, cap_19, h_19, h_20, h_21, f, p_6⟩)
  ·refine B_r (T_r (E_rv2 f rfl (Y9 (cs := [S y_1.1, S y_1.2.1, S y_1.2.2.1, .slice A_14 y_1.2.2.2.1.length cap_14, .slice A_15 y_1.2.2.2.2.1.length cap_15, .bool y_1.2.2.2.2.2.1, .slice A_16 y_1.2.2.2.2.2.2.length cap_16]) (ad := ⟨b_2, 0, none⟩) f (own_cells (p_5.ownCell 0 rfl) 0 rfl)) (Y10 (v := .bool true) f) ?_))
   obtain rfl := sI hF_1
   exact ⟨_, rfl, M_3, (hM_1.trans hM_3), (p_5.dropN 1), ⟨[S y_1.1, S y_1.2.1, S y_1.2.2.1, .slice A_14 y_1.2.2.2.1.length cap_14, .slice A_15 y_1.2.2.2.2.1.length cap_15, .bool y_1.2.2.2.2.2.1, .slice A_16 y_1.2.2.2.2.2.2.length cap_16], rfl, (TB0.shut h_16 h_17 h_18)⟩⟩
  ·refine B_x (T_n (RR (Y f 1 fun _ f => Y22 (vs := [S [], S [], S [], .slice none 0 0, .slice none 0 0, .bool false, .slice none 0 0]) (j := 0) f p_6 rfl rfl (by simp [Value.oneCell', S]) (by simp) (by decide) (cs' := #[S [], S [], S [], .slice none 0 0, .slice none 0 0, .bool false, .slice none 0 0]) (by kernel_rfl) fun w_8 p_7 _ f => Y f 1 fun _ f => eT (wp_ret (E_rv2 f rfl (Y9 (cs := [S [], S [], S [], .slice none 0 0, .slice none 0 0, .bool false, .slice none 0 0]) (ad := ⟨b_2, 0, none⟩) f (own_cells (p_7.ownCell 0 rfl) 0 rfl)) (Y10 (v := .bool false) f) ?_)))))
   obtain rfl := sI hF_1
   exact ⟨_, rfl, M_4, (hM_1.trans hM_4), (p_7.dropN 1), ⟨[S [], S [], S [], .slice none 0 0, .slice none 0 0, .bool false, .slice none 0 0], rfl, (TB0.shut Sli.nil Sli.nil Sli.nil)⟩⟩
def ref16_Output_s1 (n : Nat) (d0 : TA0) (d1 : List UInt8) (s_1 : Int × List UInt8 × List UInt8 × Int × List UInt8 × Int × List UInt8 × List UInt8 × List TH0) : Option (Lp (Int × List UInt8 × List UInt8 × Int × List UInt8 × Int × List UInt8 × List UInt8 × List TH0) (Sum (List UInt8 × List UInt8 × Int × List UInt8 × Int × List UInt8 × List UInt8 × List TH0) (List UInt8 × List UInt8 × Int × List UInt8 × Int × List UInt8 × List UInt8 × List TH0))) :=
    bif (decide (s_1.1 < ((d0.fOuts.length : Nat) : Int))) then
      ((getI d0.fOuts s_1.1).bind fun x_1 =>
      bif (decide (x_1.fName = d1)) then
        ((getI d0.fOuts s_1.1).bind fun x_2 =>
        some (.br (.inl (x_2.fName, x_2.fCond, x_2.fE.fKind, x_2.fE.fText, x_2.fE.fNum, x_2.fE.fName, x_2.fE.fAttr, x_2.fE.fL))))
      else
        need (inR .i64 (s_1.1 + 1)) <|
        some (.nx (s_1.1 + 1, s_1.2.1, s_1.2.2.1, s_1.2.2.2.1, s_1.2.2.2.2.1, s_1.2.2.2.2.2.1, s_1.2.2.2.2.2.2.1, s_1.2.2.2.2.2.2.2.1, s_1.2.2.2.2.2.2.2.2)))
    else
      some (.br (.inr (s_1.2.1, s_1.2.2.1, s_1.2.2.2.1, s_1.2.2.2.2.1, s_1.2.2.2.2.2.1, s_1.2.2.2.2.2.2.1, s_1.2.2.2.2.2.2.2.1, s_1.2.2.2.2.2.2.2.2)))
def ref16_Output (n : Nat) (d0 : TA0) (d1 : List UInt8) : Option (TC0 × Bool) :=
  (loopF (ref16_Output_s1 n d0 d1) n ((0 : Int), ([] : List UInt8), ([] : List UInt8), (0 : Int), ([] : List UInt8), (0 : Int), ([] : List UInt8), ([] : List UInt8), ([] : List TH0))).bind fun b_3 =>
  (match b_3 with 
  | .inl y_1 => some (((⟨y_1.1, y_1.2.1, (⟨y_1.2.2.1, y_1.2.2.2.1, y_1.2.2.2.2.1, y_1.2.2.2.2.2.1, y_1.2.2.2.2.2.2.1, y_1.2.2.2.2.2.2.2⟩ : TH0)⟩ : TC0), (true))) 
  | .inr y_2 => some (((⟨([] : List UInt8), ([] : List UInt8), z_TH0⟩ : TC0), (false))))
set_option maxRecDepth 20000 in
theorem ref16_Output_ok (n : Nat) (M : Mem) (c0 : List Value) (d0 : TA0) (h0 : Rep M (emb_TA0 d0) c0) (d1 : List UInt8) (r : TC0 × Bool) (hF : ref16_Output n d0 d1 = some r) : Ok Try.prog M 12 [.agg c0.toArray, S d1] (fun M' v => ∃ (c0 : List Value), v = .tuple #[.agg c0.toArray, .bool r.2] ∧ Rep M' (emb_TC0 r.1) c0) := by
 unfold ref16_Output at hF
 intro M1 hM0 w0 H w p0
 replace h0 := Rep.mono hM0 _ _ h0
 obtain ⟨A_1, cap_1, A_2, cap_2, A_3, cap_3, A_4, cap_4, rfl, h_1, h_2, h_3, h_4⟩ := TA0.opn h0
 refine R_enter 28 Try.func12 rfl rfl (by simp) fun a0 f0 => RR (Y12 (cs := #[.slice A_1 d0.fParams.length cap_1, .slice A_2 d0.fConds.length cap_2, .slice A_3 d0.fRes.length cap_3, .slice A_4 d0.fOuts.length cap_4]) (T := 27) f0 p0 fun b_1 M_1 w_1 hM_1 hc_1 p_1 _ f => ?_)
 have hc_2 := fz_box hc_1
 refine Y11 f p_1 (.cells #[S [], S [], .int .i8 0, S [], .int .i64 0, S [], S [], .slice none 0 0] 51 (0, 0)) fun b_2 w_2 p_2 _ f => Y f 1 fun _ f => eT (R_seq (RR (Y f 1 fun _ f => eT (wp_block ?_))))
 obtain ⟨b_3, hL_1, hF_1⟩ := bS hF
 refine wp_mono (Q := fun e a w => (e = .ret ∧ (∃ y_1 : List UInt8 × List UInt8 × Int × List UInt8 × Int × List UInt8 × List UInt8 × List TH0, b_3 = .inl y_1 ∧ ∃ M_3 : Mem, M_1.le M_3 ∧ ∃ (A_8 : Option Addr), ∃ (cap_8 : Nat), Sli M_3 6 emb_TH0 A_8 cap_8 y_1.2.2.2.2.2.2.2 ∧ Frm 28 [(4, .pointer (some (⟨b_2, 0, none⟩))), (5, .bool true)] a ∧ Hp w0 M_3 ((Ent.obj b_2 (.cells #[S y_1.1, S y_1.2.1, .int .i8 y_1.2.2.1, S y_1.2.2.2.1, .int .i64 y_1.2.2.2.2.1, S y_1.2.2.2.2.2.1, S y_1.2.2.2.2.2.2.1, .slice A_8 y_1.2.2.2.2.2.2.2.length cap_8] 51 (0, 0))) :: H) w)) ∨ (e = .exit 0 ∧ (∃ y_2 : List UInt8 × List UInt8 × Int × List UInt8 × Int × List UInt8 × List UInt8 × List TH0, b_3 = .inr y_2 ∧ ∃ M_4 : Mem, M_1.le M_4 ∧ ∃ (A_9 : Option Addr), ∃ (cap_9 : Nat), Sli M_4 6 emb_TH0 A_9 cap_9 y_2.2.2.2.2.2.2.2 ∧ Frm 28 [(4, .pointer (some (⟨b_2, 0, none⟩)))] a ∧ Hp w0 M_4 ((Ent.obj b_2 (.cells #[S y_2.1, S y_2.2.1, .int .i8 y_2.2.2.1, S y_2.2.2.2.1, .int .i64 y_2.2.2.2.2.1, S y_2.2.2.2.2.2.1, S y_2.2.2.2.2.2.2.1, .slice A_9 y_2.2.2.2.2.2.2.2.length cap_9] 51 (0, 0))) :: H) w))) (R_loop (n := 28) (w0 := w0) (M := M_1) (fun (x : Nat × (Int × List UInt8 × List UInt8 × Int × List UInt8 × Int × List UInt8 × List UInt8 × List TH0) × (Option Addr) × Nat) => match x with | (m_1, s_1, A_5, cap_5) => [(1, S d1), (2, .pointer (some (⟨b_1, 0, none⟩))), (4, .pointer (some (⟨b_2, 0, none⟩))), (6, .int .i64 s_1.1)]) (fun (x : Nat × (Int × List UInt8 × List UInt8 × Int × List UInt8 × Int × List UInt8 × List UInt8 × List TH0) × (Option Addr) × Nat) => match x with | (m_1, s_1, A_5, cap_5) => ((Ent.obj b_2 (.cells #[S s_1.2.1, S s_1.2.2.1, .int .i8 s_1.2.2.2.1, S s_1.2.2.2.2.1, .int .i64 s_1.2.2.2.2.2.1, S s_1.2.2.2.2.2.2.1, S s_1.2.2.2.2.2.2.2.1, .slice A_5 s_1.2.2.2.2.2.2.2.2.length cap_5] 51 (0, 0))) :: H)) (fun (x : Nat × (Int × List UInt8 × List UInt8 × Int × List UInt8 × Int × List UInt8 × List UInt8 × List TH0) × (Option Addr) × Nat) (MM : Mem) => match x with | (m_1, s_1, A_5, cap_5) => loopF (ref16_Output_s1 n d0 d1) m_1 s_1 = some b_3 ∧ Sli MM 6 emb_TH0 A_5 cap_5 s_1.2.2.2.2.2.2.2.2) (fun (x : Nat × (Int × List UInt8 × List UInt8 × Int × List UInt8 × Int × List UInt8 × List UInt8 × List TH0) × (Option Addr) × Nat) => match x with | (m_1, s_1, A_5, cap_5) => m_1) (n, ((0 : Int), ([] : List UInt8), ([] : List UInt8), (0 : Int), ([] : List UInt8), (0 : Int), ([] : List UInt8), ([] : List UInt8), ([] : List TH0)), none, 0) (f.kp) p_2 ⟨hL_1, Sli.nil⟩ ?_) ?_
 ·rintro ⟨m_1, s_1, A_5, cap_5⟩ M_2 _ w_3 hM_2 I_1 f p_3
  obtain ⟨I_1L, h_5⟩ := I_1
  obtain ⟨m_2, r_1, rfl, hs_1, hn_1⟩ := loop_step I_1L
  unfold ref16_Output_s1 at hs_1
  refine R_seq (RR (Y f 2 fun _ f => Y14 f p_3 (fzu hM_2 hc_2) 3 rfl fun _ f => Y f 2 fun _ f => eT (RcF f hs_1 (fun h_6 hF_2 => ?_) fun h_6 hF_8 => ?_)))
  ·have k_1 := dI.1 h_6
   refine wp_skip (T_n (R_seq (wp_block (RR (Y f 1 fun _ f => Y14 f p_3 (fzu hM_2 hc_2) 3 rfl fun _ f => Y f 1 fun _ f => ?_)))))
   obtain ⟨x_1, hx_1, hF_3⟩ := bS hF_2
   obtain ⟨ad_1, c_1, e_1, -, hr_1, hc_3⟩ := Sli.at_ (h_4.mono (hM_1.trans hM_2)) hx_1
   obtain ⟨A_6, cap_6, rfl, h_7⟩ := TC0.opn hr_1
   refine Z f (Y25 e_1 rfl (len := d0.fOuts.length) (cap := cap_4) (k := .i64) (i := s_1.1) (e := 51) (sz := 8) (getI_nn hx_1) (getI_lt hx_1)) fun _ f => Y f 1 fun _ f => Y14 f p_3 hc_3 0 rfl fun _ f => Y f 1 fun _ f => Z f (Y28 rfl (l := x_1.fName) (m := d1)) fun _ f => eT (RcF f hF_3 (fun h_8 hF_4 => ?_) fun h_8 hF_6 => ?_)
   ·have k_2 := dI.1 h_8
    refine RR (Y f 1 fun _ f => Y14 f p_3 (fzu hM_2 hc_2) 3 rfl fun _ f => Y f 1 fun _ f => ?_)
    obtain ⟨x_2, hx_2, hF_5⟩ := bS hF_4
    obtain ⟨ad_2, c_2, e_2, -, hr_2, hc_4⟩ := Sli.at_ (h_4.mono (hM_1.trans hM_2)) hx_2
    obtain ⟨A_7, cap_7, rfl, h_9⟩ := TC0.opn hr_2
    refine Z f (Y25 e_2 rfl (len := d0.fOuts.length) (cap := cap_4) (k := .i64) (i := s_1.1) (e := 51) (sz := 8) (getI_nn hx_2) (getI_lt hx_2)) fun _ f => Z (v := .agg #[S x_2.fName, S x_2.fCond, .int .i8 x_2.fE.fKind, S x_2.fE.fText, .int .i64 x_2.fE.fNum, S x_2.fE.fName, S x_2.fE.fAttr, .slice A_7 x_2.fE.fL.length cap_7]) f (Y27 (cs := [S x_2.fName, S x_2.fCond, .int .i8 x_2.fE.fKind, S x_2.fE.fText, .int .i64 x_2.fE.fNum, S x_2.fE.fName, S x_2.fE.fAttr, .slice A_7 x_2.fE.fL.length cap_7]) rfl (ad := ad_2.add (s_1.1.toNat * 8)) (fun j v h => p_3.cell (hc_4 j v h))) fun _ f => Y22 (vs := [S x_2.fName, S x_2.fCond, .int .i8 x_2.fE.fKind, S x_2.fE.fText, .int .i64 x_2.fE.fNum, S x_2.fE.fName, S x_2.fE.fAttr, .slice A_7 x_2.fE.fL.length cap_7]) (j := 0) f p_3 rfl rfl (by simp [Value.oneCell', S]) (by simp) (by decide) (cs' := #[S x_2.fName, S x_2.fCond, .int .i8 x_2.fE.fKind, S x_2.fE.fText, .int .i64 x_2.fE.fNum, S x_2.fE.fName, S x_2.fE.fAttr, .slice A_7 x_2.fE.fL.length cap_7]) (by kernel_rfl) fun w_4 p_4 _ f => Y f 1 fun _ f => eT (wp_ret (B_r (T_r (T_r ?_))))
    obtain rfl := sI hF_5
    exact .inl ⟨rfl, (x_2.fName, x_2.fCond, x_2.fE.fKind, x_2.fE.fText, x_2.fE.fNum, x_2.fE.fName, x_2.fE.fAttr, x_2.fE.fL), (sI hn_1).symm, M_2, hM_2, A_7, cap_7, h_9, f.kp, p_4⟩
   ·have k_3 := iff_f dI h_8
    refine wp_skip (B_n (T_n (R_reg (Y f 1 fun _ f => ?_))))
    obtain ⟨g_1, hF_7⟩ := nS hF_6
    refine Y f 1 fun _ f => ?_
    have f := f.st 13 (congrArg (Value.int .i64) (inR_wrap g_1))
    refine Y f 1 fun _ f => eT ?_
    obtain rfl := sI hF_7
    exact ⟨⟨m_2, (s_1.1 + 1, s_1.2.1, s_1.2.2.1, s_1.2.2.2.1, s_1.2.2.2.2.1, s_1.2.2.2.2.2.1, s_1.2.2.2.2.2.2.1, s_1.2.2.2.2.2.2.2.1, s_1.2.2.2.2.2.2.2.2), A_5, cap_5⟩, Nat.lt_succ_self _, M_2, hM_2, ⟨hn_1, h_5⟩, f.kp, p_3⟩
  ·have k_4 := iff_f dI h_6
   refine wp_exit (T_x (T_x ?_))
   obtain rfl := sI hF_8
   exact .inr ⟨rfl, (s_1.2.1, s_1.2.2.1, s_1.2.2.2.1, s_1.2.2.2.2.1, s_1.2.2.2.2.2.1, s_1.2.2.2.2.2.2.1, s_1.2.2.2.2.2.2.2.1, s_1.2.2.2.2.2.2.2.2), (sI hn_1).symm, M_2, hM_2, A_5, cap_5, h_5, f.kp, p_3⟩
 ·rintro _ _ w_7 (⟨rfl, y_1, rfl, M_3, hM_3, A_8, cap_8, h_10, f, p_5⟩ | ⟨rfl, y_2, rfl, M_4, hM_4, A_9, cap_9, h_11, f, p_6⟩)
  ·refine B_r (T_r (E_rv2 f rfl (Y9 (cs := [S y_1.1, S y_1.2.1, .int .i8 y_1.2.2.1, S y_1.2.2.2.1, .int .i64 y_1.2.2.2.2.1, S y_1.2.2.2.2.2.1, S y_1.2.2.2.2.2.2.1, .slice A_8 y_1.2.2.2.2.2.2.2.length cap_8]) (ad := ⟨b_2, 0, none⟩) f (own_cells (p_5.ownCell 0 rfl) 0 rfl)) (Y10 (v := .bool true) f) ?_))
   obtain rfl := sI hF_1
   exact ⟨_, rfl, M_3, (hM_1.trans hM_3), (p_5.dropN 1), ⟨[S y_1.1, S y_1.2.1, .int .i8 y_1.2.2.1, S y_1.2.2.2.1, .int .i64 y_1.2.2.2.2.1, S y_1.2.2.2.2.2.1, S y_1.2.2.2.2.2.2.1, .slice A_8 y_1.2.2.2.2.2.2.2.length cap_8], rfl, (TC0.shut h_10)⟩⟩
  ·refine B_x (T_n (RR (Y f 1 fun _ f => Y22 (vs := [S [], S [], .int .i8 0, S [], .int .i64 0, S [], S [], .slice none 0 0]) (j := 0) f p_6 rfl rfl (by simp [Value.oneCell', S]) (by simp) (by decide) (cs' := #[S [], S [], .int .i8 0, S [], .int .i64 0, S [], S [], .slice none 0 0]) (by kernel_rfl) fun w_8 p_7 _ f => Y f 1 fun _ f => eT (wp_ret (E_rv2 f rfl (Y9 (cs := [S [], S [], .int .i8 0, S [], .int .i64 0, S [], S [], .slice none 0 0]) (ad := ⟨b_2, 0, none⟩) f (own_cells (p_7.ownCell 0 rfl) 0 rfl)) (Y10 (v := .bool false) f) ?_)))))
   obtain rfl := sI hF_1
   exact ⟨_, rfl, M_4, (hM_1.trans hM_4), (p_7.dropN 1), ⟨[S [], S [], .int .i8 0, S [], .int .i64 0, S [], S [], .slice none 0 0], rfl, (TC0.shut Sli.nil)⟩⟩
def law16_fresh_s1 (n : Nat) (d0 : TA0) (d1 : List UInt8) (s_1 : Int) : Option (Lp Int (Sum Unit Unit)) :=
    bif (decide (s_1 < ((d0.fParams.length : Nat) : Int))) then
      ((getI d0.fParams s_1).bind fun x_1 =>
      bif (decide (x_1.fName = d1)) then
        (some (.br (.inl ())))
      else
        need (inR .i64 (s_1 + 1)) <|
        some (.nx (s_1 + 1)))
    else
      some (.br (.inr ()))
def law16_fresh_s2 (n : Nat) (d0 : TA0) (d1 : List UInt8) (s_2 : Int) : Option (Lp Int (Sum Unit Unit)) :=
    bif (decide (s_2 < ((d0.fConds.length : Nat) : Int))) then
      ((getI d0.fConds s_2).bind fun x_2 =>
      bif (decide (x_2.fName = d1)) then
        (some (.br (.inl ())))
      else
        need (inR .i64 (s_2 + 1)) <|
        some (.nx (s_2 + 1)))
    else
      some (.br (.inr ()))
def law16_fresh (n : Nat) (d0 : TA0) (d1 : List UInt8) : Option Bool :=
  (loopF (law16_fresh_s1 n d0 d1) n (0 : Int)).bind fun b_2 =>
  (match b_2 with 
  | .inl y_1 => some ((false)) 
  | .inr y_2 => (loopF (law16_fresh_s2 n d0 d1) n (0 : Int)).bind fun b_3 =>
    (match b_3 with 
    | .inl y_3 => some ((false)) 
    | .inr y_4 => (ref16_Find n d0 d1).bind fun x_3 =>
      (ref16_Output n d0 d1).bind fun x_4 =>
      bif !x_3.2 then
        (some ((!x_4.2)))
      else
        some ((false))))
set_option maxRecDepth 20000 in
theorem law16_fresh_ok (n : Nat) (M : Mem) (c0 : List Value) (d0 : TA0) (h0 : Rep M (emb_TA0 d0) c0) (d1 : List UInt8) (r : Bool) (hF : law16_fresh n d0 d1 = some r) : Ok Try.prog M 6 [.agg c0.toArray, S d1] (fun _ v => v = .bool r) := by
 unfold law16_fresh at hF
 intro M1 hM0 w0 H w p0
 replace h0 := Rep.mono hM0 _ _ h0
 obtain ⟨A_1, cap_1, A_2, cap_2, A_3, cap_3, A_4, cap_4, rfl, h_1, h_2, h_3, h_4⟩ := TA0.opn h0
 refine R_enter 59 Try.func6 rfl rfl (by simp) fun a0 f0 => RR (Y12 (cs := #[.slice A_1 d0.fParams.length cap_1, .slice A_2 d0.fConds.length cap_2, .slice A_3 d0.fRes.length cap_3, .slice A_4 d0.fOuts.length cap_4]) (T := 27) f0 p0 fun b_1 M_1 w_1 hM_1 hc_1 p_1 _ f => ?_)
 have hc_2 := fz_box hc_1
 refine Y f 1 fun _ f => eT (R_seq (RR (Y f 1 fun _ f => eT (wp_block ?_))))
 obtain ⟨b_2, hL_1, hF_1⟩ := bS hF
 refine wp_mono (Q := fun e a w => (e = .ret ∧ (∃ y_1 : Unit, b_2 = .inl y_1 ∧ ∃ M_3 : Mem, M_1.le M_3 ∧ Frm 59 [(4, .bool false)] a ∧ Hp w0 M_3 (H) w)) ∨ (e = .exit 0 ∧ (∃ y_2 : Unit, b_2 = .inr y_2 ∧ ∃ M_4 : Mem, M_1.le M_4 ∧ Frm 59 [(1, S d1), (2, .pointer (some (⟨b_1, 0, none⟩)))] a ∧ Hp w0 M_4 (H) w))) (R_loop (n := 59) (w0 := w0) (M := M_1) (fun (x : Nat × Int) => match x with | (m_1, s_1) => [(1, S d1), (2, .pointer (some (⟨b_1, 0, none⟩))), (5, .int .i64 s_1)]) (fun (x : Nat × Int) => match x with | (m_1, s_1) => (H)) (fun (x : Nat × Int) (MM : Mem) => match x with | (m_1, s_1) => loopF (law16_fresh_s1 n d0 d1) m_1 s_1 = some b_2) (fun (x : Nat × Int) => match x with | (m_1, s_1) => m_1) (n, (0 : Int)) (f.kp) p_1 hL_1 ?_) ?_
 ·rintro ⟨m_1, s_1⟩ M_2 _ w_2 hM_2 I_1 f p_2
  have I_1L := I_1
  obtain ⟨m_2, r_1, rfl, hs_1, hn_1⟩ := loop_step I_1L
  unfold law16_fresh_s1 at hs_1
  refine R_seq (RR (Y f 2 fun _ f => Y14 f p_2 (fzu hM_2 hc_2) 0 rfl fun _ f => Y f 2 fun _ f => eT (RcF f hs_1 (fun h_5 hF_2 => ?_) fun h_5 hF_7 => ?_)))
  ·have k_1 := dI.1 h_5
   refine wp_skip (T_n (R_seq (wp_block (RR (Y f 1 fun _ f => Y14 f p_2 (fzu hM_2 hc_2) 0 rfl fun _ f => Y f 1 fun _ f => ?_)))))
   obtain ⟨x_1, hx_1, hF_3⟩ := bS hF_2
   obtain ⟨ad_1, c_1, e_1, -, hr_1, hc_3⟩ := Sli.at_ (h_1.mono (hM_1.trans hM_2)) hx_1
   obtain ⟨A_5, cap_5, A_6, cap_6, A_7, cap_7, rfl, h_6, h_7, h_8⟩ := TD0.opn hr_1
   refine Z f (Y25 e_1 rfl (len := d0.fParams.length) (cap := cap_1) (k := .i64) (i := s_1) (e := 43) (sz := 10) (getI_nn hx_1) (getI_lt hx_1)) fun _ f => Y f 1 fun _ f => Y14 f p_2 hc_3 0 rfl fun _ f => Y f 1 fun _ f => Z f (Y28 rfl (l := x_1.fName) (m := d1)) fun _ f => eT (RcF f hF_3 (fun h_9 hF_4 => ?_) fun h_9 hF_5 => ?_)
   ·have k_2 := dI.1 h_9
    refine RR (Y f 1 fun _ f => eT (wp_ret (B_r (T_r (T_r ?_)))))
    obtain rfl := sI hF_4
    exact .inl ⟨rfl, (), (sI hn_1).symm, M_2, hM_2, f.kp, p_2⟩
   ·have k_3 := iff_f dI h_9
    refine wp_skip (B_n (T_n (R_reg (Y f 1 fun _ f => ?_))))
    obtain ⟨g_1, hF_6⟩ := nS hF_5
    refine Y f 1 fun _ f => ?_
    have f := f.st 17 (congrArg (Value.int .i64) (inR_wrap g_1))
    refine Y f 1 fun _ f => eT ?_
    obtain rfl := sI hF_6
    exact ⟨⟨m_2, s_1 + 1⟩, Nat.lt_succ_self _, M_2, hM_2, hn_1, f.kp, p_2⟩
  ·have k_4 := iff_f dI h_5
   refine wp_exit (T_x (T_x ?_))
   obtain rfl := sI hF_7
   exact .inr ⟨rfl, (), (sI hn_1).symm, M_2, hM_2, f.kp, p_2⟩
 ·rintro _ _ w_5 (⟨rfl, y_1, rfl, M_3, hM_3, f, p_3⟩ | ⟨rfl, y_2, rfl, M_4, hM_4, f, p_4⟩)
  ·refine B_r (T_r (E_ret1 f rfl (by kernel_rfl : Vc.look _ 4 = some (.bool false)) ?_))
   obtain rfl := sI hF_1
   exact ⟨_, rfl, M_3, (hM_1.trans hM_3), p_3, rfl⟩
  ·refine B_x (T_n (R_seq (RR (Y f 1 fun _ f => eT (wp_block ?_)))))
   obtain ⟨b_3, hL_2, hF_8⟩ := bS hF_1
   refine wp_mono (Q := fun e a w => (e = .ret ∧ (∃ y_3 : Unit, b_3 = .inl y_3 ∧ ∃ M_6 : Mem, M_4.le M_6 ∧ Frm 59 [(4, .bool false)] a ∧ Hp w0 M_6 (H) w)) ∨ (e = .exit 2 ∧ (∃ y_4 : Unit, b_3 = .inr y_4 ∧ ∃ M_7 : Mem, M_4.le M_7 ∧ Frm 59 [(1, S d1), (2, .pointer (some (⟨b_1, 0, none⟩)))] a ∧ Hp w0 M_7 (H) w))) (R_loop (n := 59) (w0 := w0) (M := M_4) (fun (x : Nat × Int) => match x with | (m_3, s_2) => [(1, S d1), (2, .pointer (some (⟨b_1, 0, none⟩))), (6, .int .i64 s_2)]) (fun (x : Nat × Int) => match x with | (m_3, s_2) => (H)) (fun (x : Nat × Int) (MM : Mem) => match x with | (m_3, s_2) => loopF (law16_fresh_s2 n d0 d1) m_3 s_2 = some b_3) (fun (x : Nat × Int) => match x with | (m_3, s_2) => m_3) (n, (0 : Int)) (f.kp) p_4 hL_2 ?_) ?_
   ·rintro ⟨m_3, s_2⟩ M_5 _ w_6 hM_5 I_2 f p_5
    have I_2L := I_2
    obtain ⟨m_4, r_2, rfl, hs_2, hn_2⟩ := loop_step I_2L
    unfold law16_fresh_s2 at hs_2
    refine R_seq (RR (Y f 2 fun _ f => Y14 f p_5 (fzu (hM_4.trans hM_5) hc_2) 1 rfl fun _ f => Y f 2 fun _ f => eT (RcF f hs_2 (fun h_10 hF_9 => ?_) fun h_10 hF_14 => ?_)))
    ·have k_5 := dI.1 h_10
     refine wp_skip (T_n (R_seq (wp_block (RR (Y f 1 fun _ f => Y14 f p_5 (fzu (hM_4.trans hM_5) hc_2) 1 rfl fun _ f => Y f 1 fun _ f => ?_)))))
     obtain ⟨x_2, hx_2, hF_10⟩ := bS hF_9
     obtain ⟨ad_2, c_2, e_2, -, hr_2, hc_4⟩ := Sli.at_ (h_2.mono ((hM_1.trans hM_4).trans hM_5)) hx_2
     obtain ⟨A_8, cap_8, A_9, cap_9, A_10, cap_10, rfl, h_11, h_12, h_13⟩ := TF0.opn hr_2
     refine Z f (Y25 e_2 rfl (len := d0.fConds.length) (cap := cap_2) (k := .i64) (i := s_2) (e := 45) (sz := 15) (getI_nn hx_2) (getI_lt hx_2)) fun _ f => Y f 1 fun _ f => Y14 f p_5 hc_4 0 rfl fun _ f => Y f 1 fun _ f => Z f (Y28 rfl (l := x_2.fName) (m := d1)) fun _ f => eT (RcF f hF_10 (fun h_14 hF_11 => ?_) fun h_14 hF_12 => ?_)
     ·have k_6 := dI.1 h_14
      refine RR (Y f 1 fun _ f => eT (wp_ret (B_r (T_r (T_r ?_)))))
      obtain rfl := sI hF_11
      exact .inl ⟨rfl, (), (sI hn_2).symm, M_5, hM_5, f.kp, p_5⟩
     ·have k_7 := iff_f dI h_14
      refine wp_skip (B_n (T_n (R_reg (Y f 1 fun _ f => ?_))))
      obtain ⟨g_2, hF_13⟩ := nS hF_12
      refine Y f 1 fun _ f => ?_
      have f := f.st 32 (congrArg (Value.int .i64) (inR_wrap g_2))
      refine Y f 1 fun _ f => eT ?_
      obtain rfl := sI hF_13
      exact ⟨⟨m_4, s_2 + 1⟩, Nat.lt_succ_self _, M_5, hM_5, hn_2, f.kp, p_5⟩
    ·have k_8 := iff_f dI h_10
     refine wp_exit (T_x (T_x ?_))
     obtain rfl := sI hF_14
     exact .inr ⟨rfl, (), (sI hn_2).symm, M_5, hM_5, f.kp, p_5⟩
   ·rintro _ _ w_9 (⟨rfl, y_3, rfl, M_6, hM_6, f, p_6⟩ | ⟨rfl, y_4, rfl, M_7, hM_7, f, p_7⟩)
    ·refine B_r (T_r (E_ret1 f rfl (by kernel_rfl : Vc.look _ 4 = some (.bool false)) ?_))
     obtain rfl := sI hF_8
     exact ⟨_, rfl, M_6, ((hM_1.trans hM_4).trans hM_6), p_6, rfl⟩
    ·refine B_x (T_n (RR (Z (v := .agg #[.slice A_1 d0.fParams.length cap_1, .slice A_2 d0.fConds.length cap_2, .slice A_3 d0.fRes.length cap_3, .slice A_4 d0.fOuts.length cap_4]) f (Y27 (cs := [.slice A_1 d0.fParams.length cap_1, .slice A_2 d0.fConds.length cap_2, .slice A_3 d0.fRes.length cap_3, .slice A_4 d0.fOuts.length cap_4]) rfl (ad := ⟨b_1, 0, none⟩) (fun j v h => p_7.cell ((fzu (hM_4.trans hM_7) hc_2) j v h))) fun _ f => Y f 1 fun _ f => ?_)))
     obtain ⟨x_3, hx_3, hF_15⟩ := bS hF_8
     refine Y15 f p_7 (ref16_Find_ok n _ _ d0 (TA0.shutx (x := d0) (h_1.mono ((hM_1.trans hM_4).trans hM_7)) (h_2.mono ((hM_1.trans hM_4).trans hM_7)) (h_3.mono ((hM_1.trans hM_4).trans hM_7)) (h_4.mono ((hM_1.trans hM_4).trans hM_7))) d1 x_3 hx_3) fun _ M_8 w_10 hM_8 p_8 q_1 _ f => ?_
     obtain ⟨c_3, rfl, hr_3⟩ := q_1
     obtain ⟨A_11, cap_11, A_12, cap_12, A_13, cap_13, rfl, h_15, h_16, h_17⟩ := TB0.opn hr_3
     refine Y f 3 fun _ f => Y11 f p_8 (.cells #[S [], S [], S [], .slice none 0 0, .slice none 0 0, .bool false, .slice none 0 0] 49 (0, 0)) fun b_4 w_11 p_9 _ f => Y22 (vs := [S x_3.1.fId, S x_3.1.fType, S x_3.1.fCond, .slice A_11 x_3.1.fProps.length cap_11, .slice A_12 x_3.1.fDepends.length cap_12, .bool x_3.1.fRetain, .slice A_13 x_3.1.fInner.length cap_13]) (j := 0) f p_9 rfl rfl (by simp [Value.oneCell', S]) (by simp) (by decide) (cs' := #[S x_3.1.fId, S x_3.1.fType, S x_3.1.fCond, .slice A_11 x_3.1.fProps.length cap_11, .slice A_12 x_3.1.fDepends.length cap_12, .bool x_3.1.fRetain, .slice A_13 x_3.1.fInner.length cap_13]) (by kernel_rfl) fun w_12 p_10 _ f => Y f 1 fun _ f => eT (RR (Z (v := .agg #[.slice A_1 d0.fParams.length cap_1, .slice A_2 d0.fConds.length cap_2, .slice A_3 d0.fRes.length cap_3, .slice A_4 d0.fOuts.length cap_4]) f (Y27 (cs := [.slice A_1 d0.fParams.length cap_1, .slice A_2 d0.fConds.length cap_2, .slice A_3 d0.fRes.length cap_3, .slice A_4 d0.fOuts.length cap_4]) rfl (ad := ⟨b_1, 0, none⟩) (fun j v h => p_10.cell ((fzu ((hM_4.trans hM_7).trans hM_8) hc_2) j v h))) fun _ f => Y f 1 fun _ f => ?_))
     obtain ⟨x_4, hx_4, hF_16⟩ := bS hF_15
     refine Y15 f p_10 (ref16_Output_ok n _ _ d0 (TA0.shutx (x := d0) (h_1.mono (((hM_1.trans hM_4).trans hM_7).trans hM_8)) (h_2.mono (((hM_1.trans hM_4).trans hM_7).trans hM_8)) (h_3.mono (((hM_1.trans hM_4).trans hM_7).trans hM_8)) (h_4.mono (((hM_1.trans hM_4).trans hM_7).trans hM_8))) d1 x_4 hx_4) fun _ M_9 w_13 hM_9 p_11 q_2 _ f => ?_
     obtain ⟨c_4, rfl, hr_4⟩ := q_2
     obtain ⟨A_14, cap_14, rfl, h_18⟩ := TC0.opn hr_4
     refine Y f 3 fun _ f => Y11 f p_11 (.cells #[S [], S [], .int .i8 0, S [], .int .i64 0, S [], S [], .slice none 0 0] 51 (0, 0)) fun b_5 w_14 p_12 _ f => Y22 (vs := [S x_4.1.fName, S x_4.1.fCond, .int .i8 x_4.1.fE.fKind, S x_4.1.fE.fText, .int .i64 x_4.1.fE.fNum, S x_4.1.fE.fName, S x_4.1.fE.fAttr, .slice A_14 x_4.1.fE.fL.length cap_14]) (j := 0) f p_12 rfl rfl (by simp [Value.oneCell', S]) (by simp) (by decide) (cs' := #[S x_4.1.fName, S x_4.1.fCond, .int .i8 x_4.1.fE.fKind, S x_4.1.fE.fText, .int .i64 x_4.1.fE.fNum, S x_4.1.fE.fName, S x_4.1.fE.fAttr, .slice A_14 x_4.1.fE.fL.length cap_14]) (by kernel_rfl) fun w_15 p_13 _ f => Y f 1 fun _ f => eT (RR (Y f 3 fun _ f => ?_))
     rcases cE hF_16 with ⟨h_19, hF_17⟩ | ⟨h_19, hF_18⟩
     ·have k_9 : (x_3.2) = false := by simpa using h_19
      have f := f.st 55 (cB h_19)
      refine Y f 4 fun _ f => eT (wp_ret (E_ret1 f rfl (by kernel_rfl : Vc.look _ 4 = some (.bool !x_4.2)) ?_))
      obtain rfl := sI hF_17
      exact ⟨_, rfl, M_9, ((((hM_1.trans hM_4).trans hM_7).trans hM_8).trans hM_9), (p_13.dropN 2), rfl⟩
     ·have k_10 : (x_3.2) = true := by simpa using h_19
      have f := f.st 55 (cB h_19)
      refine Y f 4 fun _ f => eT (wp_ret (E_ret1 f rfl (by kernel_rfl : Vc.look _ 4 = some (.bool false)) ?_))
      obtain rfl := sI hF_18
      exact ⟨_, rfl, M_9, ((((hM_1.trans hM_4).trans hM_7).trans hM_8).trans hM_9), (p_13.dropN 2), rfl⟩
end Go.Proofs.Ytpjgpnfdadpkkaa
end

section
namespace Go.Proofs.Ytpjgpnfdadpkkaa
open Go Go.Vc Go.RowKit
end Go.Proofs.Ytpjgpnfdadpkkaa
end

section
namespace Go.Proofs.Ytpjgpnfdadpkkaa
open Go Go.Vc Go.RowKit
def resHas (t : TA0) (nm : List UInt8) : Bool := t.fRes.any fun r => decide (r.fId = nm)
def freshB (t : TA0) (nm : List UInt8) : Bool := !(t.fParams.any fun p => decide (p.fName = nm)) && (!(t.fConds.any fun p => decide (p.fName = nm)) && (!resHas t nm && !outHas t nm))
theorem any_true {α : Type} {q : α → Bool} {l : List α} {i : Nat} (h : i < l.length) (hq : q l[i] = true) : l.any q = true := List.any_eq_true.2 ⟨_, List.getElem_mem h, hq⟩
theorem any_false {α : Type} {q : α → Bool} {l : List α} (h : ∀ i (h : i < l.length), q l[i] = false) : l.any q = false := by
 rw [List.any_eq_false]
 intro x hx
 obtain ⟨i, hi, rfl⟩ := List.getElem_of_mem hx
 rw [h i hi]; simp
theorem rfind_run {n : Nat} (t : TA0) (nm : List UInt8) (hl : t.fRes.length < n) (hl2 : t.fRes.length ≤ 1100000) : ∃ r, ref16_Find n t nm = some (r, resHas t nm) := by
 unfold ref16_Find
 obtain ⟨b, g1, g2⟩ := loop_inv (n := n) (step := ref16_Find_s1 n t nm) (s0 := ((0 : Int), ([] : List UInt8), ([] : List UInt8), ([] : List UInt8), ([] : List TI0), ([] : List (List UInt8)), false, ([] : List TA0))) (fun j s => s.1 = (j : Int) ∧ ∀ i (h : i < t.fRes.length), i < j → decide (t.fRes[i].fId = nm) = false)
  (fun b => (∃ y, b = .inl y ∧ resHas t nm = true) ∨ (∃ y, b = .inr y ∧ resHas t nm = false)) t.fRes.length ⟨rfl, fun i _ h => absurd h (by omega)⟩
  (fun j s hj hI => by
   obtain ⟨i, s⟩ := s
   obtain ⟨f1, f2⟩ := hI
   dsimp only at f1
   subst f1
   unfold ref16_Find_s1
   dsimp only
   rw [decide_eq_true (show (j : Int) < ((t.fRes.length : Nat) : Int) by omega), cT, getI_here hj, bnd]
   by_cases h : t.fRes[j].fId = nm
   ·rw [decide_eq_true h, cT, bnd]
    exact .inr ⟨_, rfl, .inl ⟨_, rfl, any_true hj (decide_eq_true h)⟩⟩
   ·rw [decide_eq_false h, cF, need_i (by omega) (by omega)]
    refine .inl ⟨_, rfl, by simp, fun i hi hij => ?_⟩
    by_cases e : i = j
    ·subst e; exact decide_eq_false h
    ·exact f2 i hi (by omega))
  (fun s hI => by
   obtain ⟨i, s⟩ := s
   obtain ⟨f1, f2⟩ := hI
   dsimp only at f1
   subst f1
   unfold ref16_Find_s1
   dsimp only
   rw [decide_eq_false (show ¬ (t.fRes.length : Int) < ((t.fRes.length : Nat) : Int) by omega), cF]
   exact ⟨_, rfl, .inr ⟨_, rfl, any_false fun i hi => f2 i hi hi⟩⟩) hl
 rw [g1, bnd]
 rcases g2 with ⟨y, rfl, h⟩ | ⟨y, rfl, h⟩
 ·rw [h]; exact ⟨_, rfl⟩
 ·rw [h]; exact ⟨_, rfl⟩
theorem routput_run {n : Nat} (t : TA0) (nm : List UInt8) (hl : t.fOuts.length < n) (hl2 : t.fOuts.length ≤ 1100000) : ∃ r, ref16_Output n t nm = some (r, outHas t nm) := by
 unfold ref16_Output
 obtain ⟨b, g1, g2⟩ := loop_inv (n := n) (step := ref16_Output_s1 n t nm) (s0 := ((0 : Int), ([] : List UInt8), ([] : List UInt8), (0 : Int), ([] : List UInt8), (0 : Int), ([] : List UInt8), ([] : List UInt8), ([] : List TH0))) (fun j s => s.1 = (j : Int) ∧ ∀ i (h : i < t.fOuts.length), i < j → decide (t.fOuts[i].fName = nm) = false)
  (fun b => (∃ y, b = .inl y ∧ outHas t nm = true) ∨ (∃ y, b = .inr y ∧ outHas t nm = false)) t.fOuts.length ⟨rfl, fun i _ h => absurd h (by omega)⟩
  (fun j s hj hI => by
   obtain ⟨i, s⟩ := s
   obtain ⟨f1, f2⟩ := hI
   dsimp only at f1
   subst f1
   unfold ref16_Output_s1
   dsimp only
   rw [decide_eq_true (show (j : Int) < ((t.fOuts.length : Nat) : Int) by omega), cT, getI_here hj, bnd]
   by_cases h : t.fOuts[j].fName = nm
   ·rw [decide_eq_true h, cT, bnd]
    exact .inr ⟨_, rfl, .inl ⟨_, rfl, any_true hj (decide_eq_true h)⟩⟩
   ·rw [decide_eq_false h, cF, need_i (by omega) (by omega)]
    refine .inl ⟨_, rfl, by simp, fun i hi hij => ?_⟩
    by_cases e : i = j
    ·subst e; exact decide_eq_false h
    ·exact f2 i hi (by omega))
  (fun s hI => by
   obtain ⟨i, s⟩ := s
   obtain ⟨f1, f2⟩ := hI
   dsimp only at f1
   subst f1
   unfold ref16_Output_s1
   dsimp only
   rw [decide_eq_false (show ¬ (t.fOuts.length : Int) < ((t.fOuts.length : Nat) : Int) by omega), cF]
   exact ⟨_, rfl, .inr ⟨_, rfl, any_false fun i hi => f2 i hi hi⟩⟩) hl
 rw [g1, bnd]
 rcases g2 with ⟨y, rfl, h⟩ | ⟨y, rfl, h⟩
 ·rw [h]; exact ⟨_, rfl⟩
 ·rw [h]; exact ⟨_, rfl⟩
theorem fresh_run {n : Nat} (hn : 2000000 ≤ n) (t : TA0) (hb : dsz (emb_TA0 t) ≤ 1100000) (nm : List UInt8) : law16_fresh n t nm = some (freshB t nm) := by
 have hs := szT t
 have l1 := len_sz (f := emb_TD0) t.fParams
 have l2 := len_sz (f := emb_TF0) t.fConds
 have l3 := len_sz (f := emb_TB0) t.fRes
 have l4 := len_sz (f := emb_TC0) t.fOuts
 have a1 := loop_inv (n := n) (step := law16_fresh_s1 n t nm) (s0 := (0 : Int)) (fun j s => s = (j : Int) ∧ ∀ i (h : i < t.fParams.length), i < j → decide (t.fParams[i].fName = nm) = false)
  (fun b => (b = .inl () ∧ (t.fParams.any fun p => decide (p.fName = nm)) = true) ∨ (b = .inr () ∧ (t.fParams.any fun p => decide (p.fName = nm)) = false)) t.fParams.length ⟨rfl, fun i _ h => absurd h (by omega)⟩
  (fun j s hj hI => by
   obtain ⟨rfl, f2⟩ := hI
   unfold law16_fresh_s1
   rw [decide_eq_true (show (j : Int) < ((t.fParams.length : Nat) : Int) by omega), cT, getI_here hj, bnd]
   by_cases h : t.fParams[j].fName = nm
   ·rw [decide_eq_true h, cT]
    exact .inr ⟨_, rfl, .inl ⟨rfl, any_true hj (decide_eq_true h)⟩⟩
   ·rw [decide_eq_false h, cF, need_i (by omega) (by omega)]
    refine .inl ⟨_, rfl, by simp, fun i hi hij => ?_⟩
    by_cases e : i = j
    ·subst e; exact decide_eq_false h
    ·exact f2 i hi (by omega))
  (fun s hI => by
   obtain ⟨rfl, f2⟩ := hI
   unfold law16_fresh_s1
   rw [decide_eq_false (by omega), cF]
   exact ⟨_, rfl, .inr ⟨rfl, any_false fun i hi => f2 i hi hi⟩⟩) (by omega)
 have a2 := loop_inv (n := n) (step := law16_fresh_s2 n t nm) (s0 := (0 : Int)) (fun j s => s = (j : Int) ∧ ∀ i (h : i < t.fConds.length), i < j → decide (t.fConds[i].fName = nm) = false)
  (fun b => (b = .inl () ∧ (t.fConds.any fun p => decide (p.fName = nm)) = true) ∨ (b = .inr () ∧ (t.fConds.any fun p => decide (p.fName = nm)) = false)) t.fConds.length ⟨rfl, fun i _ h => absurd h (by omega)⟩
  (fun j s hj hI => by
   obtain ⟨rfl, f2⟩ := hI
   unfold law16_fresh_s2
   rw [decide_eq_true (show (j : Int) < ((t.fConds.length : Nat) : Int) by omega), cT, getI_here hj, bnd]
   by_cases h : t.fConds[j].fName = nm
   ·rw [decide_eq_true h, cT]
    exact .inr ⟨_, rfl, .inl ⟨rfl, any_true hj (decide_eq_true h)⟩⟩
   ·rw [decide_eq_false h, cF, need_i (by omega) (by omega)]
    refine .inl ⟨_, rfl, by simp, fun i hi hij => ?_⟩
    by_cases e : i = j
    ·subst e; exact decide_eq_false h
    ·exact f2 i hi (by omega))
  (fun s hI => by
   obtain ⟨rfl, f2⟩ := hI
   unfold law16_fresh_s2
   rw [decide_eq_false (by omega), cF]
   exact ⟨_, rfl, .inr ⟨rfl, any_false fun i hi => f2 i hi hi⟩⟩) (by omega)
 obtain ⟨r1, e1⟩ := rfind_run (n := n) t nm (by omega) (by omega)
 obtain ⟨r2, e2⟩ := routput_run (n := n) t nm (by omega) (by omega)
 unfold law16_fresh freshB
 obtain ⟨b1, h1, c1⟩ := a1
 obtain ⟨b2, h2, c2⟩ := a2
 rw [h1, bnd]
 rcases c1 with ⟨rfl, k1⟩ | ⟨rfl, k1⟩
 ·rw [k1]; rfl
 rw [k1]
 dsimp only
 rw [h2, bnd]
 rcases c2 with ⟨rfl, k2⟩ | ⟨rfl, k2⟩
 ·rw [k2]; rfl
 rw [k2]
 dsimp only
 rw [e1, bnd, e2, bnd]
 cases resHas t nm <;> rfl
section
variable {P C P' C' : List (List UInt8 × Bool)} {R R' : List (List UInt8 × TB0)}
theorem use_mono (hP : ∀ k, hasB P k = true → hasB P' k = true) (hC : ∀ k, hasB C k = true → hasB C' k = true) (hR : ∀ k r, mget R k = some r → mget R' k = some r) {y : TH0} (h : useV P C R y = 0) : useV P' C' R' y = 0 := by
 unfold useV at h ⊢
 cases h6 : decide (y.fKind = 6) with
 | true =>
  rw [h6, cT] at h
  rw [cT]
  cases hc : hasB C y.fName with
  | true => rw [hC _ hc]; rfl
  | false => rw [hc] at h; exact absurd h (by decide)
 | false =>
  rw [h6, cF] at h
  rw [cF]
  have hz : stk ((none : Option TB0).getD z_TB0) = false := by decide
  cases h3 : decide (y.fKind = 3) with
  | true =>
   rw [h3, cT] at h
   rw [cT]
   cases hp : hasB P y.fName with
   | true => rw [hP _ hp, Bool.true_or]; rfl
   | false =>
    cases hm : mget R y.fName with
    | none => rw [hp, hm] at h; exact absurd h (by simp)
    | some r =>
     rw [hp, hm, Bool.false_or] at h
     rw [hR _ _ hm]
     cases hb : (some r).isSome && !stk ((some r).getD z_TB0) with
     | true => rw [Bool.or_true]; rfl
     | false => rw [hb] at h; exact absurd h (by decide)
  | false =>
   rw [h3, cF] at h
   rw [cF]
   cases hm : mget R y.fName with
   | none => rw [hm, hz, cF] at h; exact absurd h (by simp)
   | some r => rw [hm] at h; rw [hR _ _ hm]; exact h
theorem usesI_mono (hP : ∀ k, hasB P k = true → hasB P' k = true) (hC : ∀ k, hasB C k = true → hasB C' k = true) (hR : ∀ k r, mget R k = some r → mget R' k = some r) {x : TH0} (h : usesI P C R x = 0) : usesI P' C' R' x = 0 :=
 usesI_zero.2 fun y hy => use_mono hP hC hR (usesI_zero.1 h y hy)
theorem plain_mono (hP : ∀ k, hasB P k = true → hasB P' k = true) {x : TH0} (h : plainOK P x = true) : plainOK P' x = true := by
 unfold plainOK at h ⊢
 rw [List.all_eq_true] at h ⊢
 intro y hy
 have := h y hy
 rw [Bool.and_eq_true] at this ⊢
 exact ⟨this.1, hP _ this.2⟩
mutual
theorem cond_mono (hP : ∀ k, hasB P k = true → hasB P' k = true) (hC : ∀ k, hasB C k = true → hasB C' k = true) : ∀ c : TF0, condOK P C c = true → condOK P' C' c = true
 | ⟨nm, k, a, b, l⟩, h => by
  rw [condOK] at h ⊢
  cases h0 : decide (k = 0) with
  | true =>
   rw [h0, cT, Bool.and_eq_true] at h
   rw [cT, plain_mono hP h.1, plain_mono hP h.2]; rfl
  | false =>
   rw [h0, cF, Bool.and_eq_true] at h
   rw [cF, conds_mono hP hC l h.2, Bool.and_true]
   cases hk : decide (k = 4) with
   | false => rfl
   | true =>
    have := h.1
    rw [hk, Bool.not_true, Bool.false_or] at this
    rw [hC _ this]; rfl
theorem conds_mono (hP : ∀ k, hasB P k = true → hasB P' k = true) (hC : ∀ k, hasB C k = true → hasB C' k = true) : ∀ l : List TF0, condsOK P C l = true → condsOK P' C' l = true
 | [], h => rfl
 | x :: r, h => by
  rw [condsOK, Bool.and_eq_true] at h ⊢
  exact ⟨cond_mono hP hC x h.1, conds_mono hP hC r h.2⟩
end
theorem res_mono (hP : ∀ k, hasB P k = true → hasB P' k = true) (hC : ∀ k, hasB C k = true → hasB C' k = true) (hR : ∀ k r, mget R k = some r → mget R' k = some r) {chk : TA0 → Bool} {x : TB0} (h : resOK P C R chk x = true) (hid : hasB P' x.fId = false) : resOK P' C' R' chk x = true := by
 unfold resOK at h ⊢
 simp only [Bool.and_eq_true] at h ⊢
 obtain ⟨k1, k2, k3, k4, k5, k6⟩ := h
 refine ⟨by rw [hid]; rfl, k2, ?_, ?_, ?_, k6⟩
 ·rw [Bool.or_eq_true] at k3 ⊢
  exact k3.imp id (hC _)
 ·have h4 : depsBad R x = false := by cases hh : depsBad R x with | false => rfl | true => rw [hh] at k4; cases k4
  have : depsBad R' x = false := by
   unfold depsBad at h4 ⊢
   rw [List.any_eq_false] at h4 ⊢
   intro d hd
   have := h4 d hd
   rw [Bool.or_eq_true, not_or] at this ⊢
   refine ⟨?_, this.2⟩
   cases hm : mget R d with
   | none => rw [hm] at this; exact absurd rfl this.1
   | some r => rw [hR _ _ hm]; simp
  rw [this]; rfl
 ·rw [List.all_eq_true] at k5 ⊢
  intro p hp
  have := k5 p hp
  unfold propOK at this ⊢
  rw [Bool.and_eq_true] at this ⊢
  exact ⟨this.1, decide_eq_true (usesI_mono hP hC hR (of_decide_eq_true this.2))⟩
theorem out_mono (hP : ∀ k, hasB P k = true → hasB P' k = true) (hC : ∀ k, hasB C k = true → hasB C' k = true) (hR : ∀ k r, mget R k = some r → mget R' k = some r) {o : TC0} (h : outE P C R o = 0) : outE P' C' R' o = 0 := by
 unfold outE at h ⊢
 cases hb : (!decide (o.fCond = []) && !hasB C o.fCond) with
 | true => rw [hb, cT] at h; exact absurd h (by decide)
 | false =>
  rw [hb, cF] at h
  have : (!decide (o.fCond = []) && !hasB C' o.fCond) = false := by
   cases hd : decide (o.fCond = []) with
   | true => rfl
   | false =>
    rw [hd] at hb
    cases hh : hasB C o.fCond with
    | true => rw [hC _ hh]; rfl
    | false => rw [hh] at hb; cases hb
  rw [this, cF]
  exact usesI_mono hP hC hR h
end
theorem okT_eq (k : Nat) (t : TA0) : okT (k + 1) t = (t.fConds.all (condOK (pM t) (cM t)) && (t.fRes.all (resOK (pM t) (cM t) (rM t) (okT k)) && t.fOuts.all fun o => decide (outE (pM t) (cM t) (rM t) o = 0))) := rfl
structure OkT (k : Nat) (t : TA0) : Prop where
  cs : ∀ c ∈ t.fConds, condOK (pM t) (cM t) c = true
  rs : ∀ r ∈ t.fRes, resOK (pM t) (cM t) (rM t) (okT k) r = true
  os : ∀ o ∈ t.fOuts, outE (pM t) (cM t) (rM t) o = 0
theorem okT_iff {k : Nat} {t : TA0} : okT (k + 1) t = true ↔ OkT k t := by
 rw [okT_eq, Bool.and_eq_true, Bool.and_eq_true, List.all_eq_true, List.all_eq_true, List.all_eq_true]
 exact ⟨fun ⟨h1, h2, h3⟩ => ⟨h1, h2, fun o ho => of_decide_eq_true (h3 o ho)⟩, fun ⟨h1, h2, h3⟩ => ⟨h1, h2, fun o ho => decide_eq_true (h3 o ho)⟩⟩
structure Fresh (t : TA0) (nm : List UInt8) : Prop where
  p : (t.fParams.any fun p => decide (p.fName = nm)) = false
  c : (t.fConds.any fun p => decide (p.fName = nm)) = false
  r : resHas t nm = false
theorem fresh_iff {t : TA0} {nm : List UInt8} (h : freshB t nm = true) : Fresh t nm := by
 unfold freshB at h
 simp only [Bool.and_eq_true, Bool.not_eq_true'] at h
 exact ⟨h.1, h.2.1, h.2.2.1⟩
def two : TH0 := ⟨0, [120], 0, [], [], []⟩
def pN (nm : List UInt8) : TD0 := ⟨nm, false, false, z_TE0, []⟩
def cN (nm : List UInt8) : TF0 := ⟨nm, 0, two, two, []⟩
def rN (nm : List UInt8) : TB0 := ⟨nm, [78, 101, 116], [], [], [], false, []⟩
def oN (nm : List UInt8) (x : TH0) : TC0 := ⟨nm, [], x⟩
theorem uses_two : usesV two = [] := by
 unfold two
 rw [usesV]; rfl
theorem more_p {k : Nat} {t : TA0} {nm : List UInt8} (h : OkT k t) (hf : Fresh t nm) : OkT k ⟨t.fParams ++ [pN nm], t.fConds, t.fRes, t.fOuts⟩ := by
 have hp : ∀ j, hasB (pM ⟨t.fParams ++ [pN nm], t.fConds, t.fRes, t.fOuts⟩) j = (hasB (pM t) j || decide (nm = j)) := fun j => by
  rw [hasB_pM, hasB_pM, List.any_append]
  congr 1
  simp [pN]
 have hP : ∀ j, hasB (pM t) j = true → hasB (pM ⟨t.fParams ++ [pN nm], t.fConds, t.fRes, t.fOuts⟩) j = true := fun j hj => by rw [hp, hj]; rfl
 refine ⟨fun c hc => cond_mono hP (fun _ h => h) c (h.cs c hc), fun r hr => res_mono hP (fun _ h => h) (fun _ _ h => h) (h.rs r hr) ?_, fun o ho => out_mono hP (fun _ h => h) (fun _ _ h => h) (h.os o ho)⟩
 have h1 := h.rs r hr
 unfold resOK at h1
 rw [Bool.and_eq_true] at h1
 have h2 : hasB (pM t) r.fId = false := by cases hh : hasB (pM t) r.fId with | false => rfl | true => rw [hh] at h1; exact absurd h1.1 (by decide)
 have h3 : ¬ nm = r.fId := fun e => by
  have := hf.r
  unfold resHas at this
  rw [List.any_eq_false] at this
  exact this r hr (decide_eq_true e.symm)
 rw [hp, h2, decide_eq_false h3]; rfl
theorem more_c {k : Nat} {t : TA0} {nm : List UInt8} (h : OkT k t) (hf : Fresh t nm) : OkT k ⟨t.fParams, t.fConds ++ [cN nm], t.fRes, t.fOuts⟩ := by
 have hC : ∀ j, hasB (cM t) j = true → hasB (cM ⟨t.fParams, t.fConds ++ [cN nm], t.fRes, t.fOuts⟩) j = true := fun j hj => by
  rw [hasB_cM] at hj ⊢
  rw [List.any_append, hj]; rfl
 refine ⟨fun c hc => ?_, fun r hr => res_mono (fun _ h => h) hC (fun _ _ h => h) (h.rs r hr) ?_, fun o ho => out_mono (fun _ h => h) hC (fun _ _ h => h) (h.os o ho)⟩
 ·rcases List.mem_append.1 hc with hc | hc
  ·exact cond_mono (fun _ h => h) hC c (h.cs c hc)
  ·rw [List.mem_singleton] at hc
   subst hc
   unfold cN
   rw [condOK]
   unfold plainOK
   rw [uses_two]; rfl
 ·have h1 := h.rs r hr
  unfold resOK at h1
  rw [Bool.and_eq_true] at h1
  cases hh : hasB (pM t) r.fId with
  | false => exact hh
  | true => rw [hh] at h1; exact absurd h1.1 (by decide)
theorem more_r {k : Nat} {t : TA0} {nm : List UInt8} (h : OkT k t) (hf : Fresh t nm) : OkT k ⟨t.fParams, t.fConds, t.fRes ++ [rN nm], t.fOuts⟩ := by
 have hR : ∀ j r, mget (rM t) j = some r → mget (rM ⟨t.fParams, t.fConds, t.fRes ++ [rN nm], t.fOuts⟩) j = some r := fun j r hj => by
  rw [mget_rM] at hj ⊢
  rw [List.find?_append, hj]; rfl
 refine ⟨fun c hc => h.cs c hc, fun r hr => ?_, fun o ho => out_mono (fun _ h => h) (fun _ h => h) hR (h.os o ho)⟩
 rcases List.mem_append.1 hr with hr | hr
 ·refine res_mono (fun _ h => h) (fun _ h => h) hR (h.rs r hr) ?_
  have h1 := h.rs r hr
  unfold resOK at h1
  rw [Bool.and_eq_true] at h1
  cases hh : hasB (pM t) r.fId with
  | false => exact hh
  | true => rw [hh] at h1; exact absurd h1.1 (by decide)
 ·rw [List.mem_singleton] at hr
  subst hr
  have h1 : hasB (pM t) nm = false := by rw [hasB_pM]; exact hf.p
  show resOK (pM t) _ _ _ (rN nm) = true
  unfold resOK
  rw [show (rN nm).fId = nm from rfl, h1]
  rfl
theorem more_o {k : Nat} {t : TA0} {nm : List UInt8} (h : OkT k t) : OkT k ⟨t.fParams, t.fConds, t.fRes, t.fOuts ++ [oN nm two]⟩ := by
 refine ⟨h.cs, h.rs, fun o ho => ?_⟩
 rcases List.mem_append.1 ho with ho | ho
 ·exact h.os o ho
 ·rw [List.mem_singleton] at ho
  subst ho
  show outE (pM t) (cM t) (rM t) (oN nm two) = 0
  unfold outE oN
  rw [decide_eq_true rfl, Bool.not_true, Bool.false_and, cF]
  exact usesI_zero.2 fun y hy => by rw [uses_two] at hy; cases hy
theorem sz_two : dsz (emb_TH0 two) = 8 := by rw [szE]; rfl
theorem sz_pN (nm : List UInt8) : dsz (emb_TD0 (pN nm)) ≤ nm.length + 30 := by
 rw [emb_TD0_eq, emb_TE0_eq]
 simp only [pN, dsz, dszs, eL, List.map_nil, List.length_nil]
 omega
theorem sz_cN (nm : List UInt8) : dsz (emb_TF0 (cN nm)) ≤ nm.length + 30 := by
 rw [emb_TF0_eq]
 simp only [cN, dsz, dszs, eL, List.map_nil, sz_two]
 omega
theorem sz_rN (nm : List UInt8) : dsz (emb_TB0 (rN nm)) ≤ nm.length + 30 := by
 rw [emb_TB0_eq]
 simp only [rN, dsz, dszs, eL, List.map_nil, List.length_nil, List.length_cons]
 omega
theorem sz_oN (nm : List UInt8) (x : TH0) : dsz (emb_TC0 (oN nm x)) ≤ nm.length + 10 + dsz (emb_TH0 x) := by
 rw [emb_TC0_eq]
 simp only [oN, dsz, dszs, List.length_nil]
 omega
def refN (nm : List UInt8) : TH0 := ⟨3, [], 0, nm, [], []⟩
def ifN (nm : List UInt8) : TH0 := ⟨6, [], 0, nm, [], [two, two]⟩
theorem sz_refN (nm : List UInt8) : dsz (emb_TH0 (refN nm)) ≤ nm.length + 30 := by rw [szE]; simp only [refN, List.map_nil, dszs, List.length_nil]; omega
theorem sz_ifN (nm : List UInt8) : dsz (emb_TH0 (ifN nm)) ≤ nm.length + 60 := by rw [szE]; simp only [ifN, List.map_nil, List.map_cons, dszs, List.length_nil, sz_two]; omega
theorem ref_bad {t : TA0} {nm : List UInt8} (hf : Fresh t nm) : outE (pM t) (cM t) (rM t) (oN nm (refN nm)) = 160 := by
 have hu : usesV (refN nm) = [refN nm] := by unfold refN; rw [usesV]; rfl
 have hp : hasB (pM t) nm = false := by rw [hasB_pM]; exact hf.p
 have hm : mget (rM t) nm = none := by
  rw [mget_rM, List.find?_eq_none]
  have := hf.r
  unfold resHas at this
  rw [List.any_eq_false] at this
  exact this
 have hv : useV (pM t) (cM t) (rM t) (refN nm) = 160 := by
  unfold useV
  rw [show (refN nm).fKind = 3 from rfl, show (refN nm).fName = nm from rfl, decide_eq_false (by decide), cF, decide_eq_true rfl, cT, hp, hm]
  rfl
 unfold outE oN
 rw [decide_eq_true rfl, Bool.not_true, Bool.false_and, cF]
 unfold usesI
 rw [hu, List.map_singleton, hv]
 rfl
theorem if_bad {t : TA0} {nm : List UInt8} (hf : Fresh t nm) : outE (pM t) (cM t) (rM t) (oN nm (ifN nm)) = 150 := by
 have hu : usesV (ifN nm) = [ifN nm] := by unfold ifN; rw [usesV, usesVs, usesVs, usesVs, uses_two]; rfl
 have hp : hasB (cM t) nm = false := by rw [hasB_cM]; exact hf.c
 have hv : useV (pM t) (cM t) (rM t) (ifN nm) = 150 := by
  unfold useV
  rw [show (ifN nm).fKind = 6 from rfl, show (ifN nm).fName = nm from rfl, decide_eq_true rfl, cT, hp]
  rfl
 unfold outE oN
 rw [decide_eq_true rfl, Bool.not_true, Bool.false_and, cF]
 unfold usesI
 rw [hu, List.map_singleton, hv]
 rfl
theorem w_params {n : Nat} (hn : 2000000 ≤ n) (t : TA0) (hb : dsz (emb_TA0 t) ≤ 1100000) (a : Int) (h0 : 0 ≤ a) (h1 : a ≤ 60) (hl : t.fParams.length ≤ 60) :
  ∃ b, loopF (ref13_weight_s1 n t) n (a, (0 : Int)) = some b ∧ ∀ y, b = .inr y → 0 ≤ y ∧ y ≤ 100000000 := by
 have hs := szT t
 refine loop_inv (step := ref13_weight_s1 n t) (n := n) (s0 := (a, (0 : Int))) (fun k s => s.2 = (k : Int) ∧ 0 ≤ s.1 ∧ s.1 ≤ 60 + 1100000 * k) (fun b => ∀ y, b = .inr y → 0 ≤ y ∧ y ≤ 100000000) t.fParams.length ⟨rfl, h0, by dsimp only; omega⟩
  (fun q s hq hI => ?_) (fun s hI => ?_) (by omega)
 ·obtain ⟨x, i⟩ := s
  obtain ⟨e1, e2, e3⟩ := hI
  dsimp only at e1 e2 e3
  subst e1
  have hm := mem_sz (f := emb_TD0) (List.getElem_mem hq)
  have hp := szP t.fParams[q]
  have ha := len_sz (f := emb_TE0) t.fParams[q].fAllowed
  unfold ref13_weight_s1
  dsimp only
  rw [decide_eq_true (by omega), cT, getI_here hq, bnd, need_i (by omega) (by omega), bnd]
  by_cases h6 : (60 : Int) < ((t.fParams[q].fAllowed.length : Nat) : Int)
  ·rw [decide_eq_true h6, cT, bnd, cT]
   exact .inr ⟨_, rfl, fun y h => by cases h⟩
  rw [decide_eq_false h6, cF, bnd, eta_V]
  obtain ⟨g, hg⟩ := great03 (n := n) (by omega) t.fParams[q].fDefault
  rw [hg, bnd, bnd]
  cases g with
  | true => rw [cT]; exact .inr ⟨_, rfl, fun y h => by cases h⟩
  | false =>
   rw [cF]
   obtain ⟨b, hb1, -⟩ := loop_inv (step := ref13_weight_s2 n t (x, (q : Int))) (n := n) (s0 := (0 : Int)) (fun k s => s = (k : Int)) (fun _ => True) t.fParams[q].fAllowed.length rfl
    (fun j s hj hI => by
     subst hI
     unfold ref13_weight_s2
     dsimp only
     obtain ⟨g, hg⟩ := great03 (n := n) (by omega) t.fParams[q].fAllowed[j]
     rw [getI_here hq, bnd, decide_eq_true (by omega), cT, bnd, getI_here hj, bnd, hg, bnd]
     cases g with
     | true => rw [cT]; exact .inr ⟨_, rfl, trivial⟩
     | false => rw [cF, need_i (by omega) (by omega)]; exact .inl ⟨_, rfl, by simp⟩)
    (fun s hI => by
     subst hI
     unfold ref13_weight_s2
     dsimp only
     rw [getI_here hq, bnd, decide_eq_false (by omega), cF]; exact ⟨_, rfl, trivial⟩) (by omega)
   rw [hb1, bnd]
   cases b with
   | inl u => exact .inr ⟨_, rfl, fun y h => by cases h⟩
   | inr u =>
    dsimp only
    rw [need_i (by omega) (by omega)]
    exact .inl ⟨_, rfl, by dsimp only; omega, by dsimp only; omega, by dsimp only; omega⟩
 ·obtain ⟨x, i⟩ := s
  obtain ⟨e1, e2, e3⟩ := hI
  dsimp only at e1 e2 e3
  subst e1
  unfold ref13_weight_s1
  dsimp only
  rw [decide_eq_false (by omega), cF]
  exact ⟨_, rfl, fun y h => by cases h; omega⟩
theorem w_conds {n : Nat} (hn : 2000000 ≤ n) (t : TA0) (hb : dsz (emb_TA0 t) ≤ 1100000) (a : Int) (h0 : 0 ≤ a) (h1 : a ≤ 100000000) (hl : t.fConds.length ≤ 60) :
  ∃ b, loopF (ref13_weight_s3 n t) n (a, (0 : Int)) = some b ∧ 0 ≤ b ∧ b ≤ 180000000 := by
 have hs := szT t
 refine loop_inv (step := ref13_weight_s3 n t) (n := n) (s0 := (a, (0 : Int))) (fun k s => s.2 = (k : Int) ∧ 0 ≤ s.1 ∧ s.1 ≤ 100000000 + 1100000 * k) (fun b => 0 ≤ b ∧ b ≤ 180000000) t.fConds.length ⟨rfl, h0, by dsimp only; omega⟩
  (fun q s hq hI => ?_) (fun s hI => ?_) (by omega)
 ·obtain ⟨x, i⟩ := s
  obtain ⟨e1, e2, e3⟩ := hI
  dsimp only at e1 e2 e3
  subst e1
  have hm := mem_sz (f := emb_TF0) (List.getElem_mem hq)
  obtain ⟨w, g1, g2, g3⟩ := c_weight hn 13 n 0 t.fConds[q] (by omega) (by omega) (by omega)
  rw [show ((0 : Nat) : Int) = 0 from rfl] at g1
  unfold ref13_weight_s3 ref13_weightCond
  dsimp only
  rw [decide_eq_true (by omega), cT, getI_here hq, bnd, g1, bnd, need_i (by omega) (by omega), need_i (by omega) (by omega)]
  exact .inl ⟨_, rfl, by dsimp only; omega, by dsimp only; omega, by dsimp only; omega⟩
 ·obtain ⟨x, i⟩ := s
  obtain ⟨e1, e2, e3⟩ := hI
  dsimp only at e1 e2 e3
  subst e1
  unfold ref13_weight_s3
  dsimp only
  rw [decide_eq_false (by omega), cF]
  exact ⟨_, rfl, by omega, by omega⟩
theorem w_outs {n : Nat} (hn : 2000000 ≤ n) (t : TA0) (hb : dsz (emb_TA0 t) ≤ 1100000) (a : Int) : ∃ b, loopF (ref13_weight_s4 n t a) n (0 : Int) = some b := by
 have hs := szT t
 have hlen := len_sz (f := emb_TC0) t.fOuts
 obtain ⟨b, h, -⟩ := loop_inv (step := ref13_weight_s4 n t a) (n := n) (s0 := (0 : Int)) (fun k s => s = (k : Int)) (fun _ => True) t.fOuts.length rfl
  (fun q s hq hI => by
   subst hI
   have hm := mem_sz (f := emb_TC0) (List.getElem_mem hq)
   have ho := szO t.fOuts[q]
   obtain ⟨g, hg⟩ := great12 hn (x := t.fOuts[q].fE) (by omega)
   unfold ref13_weight_s4
   rw [decide_eq_true (by omega), cT, bnd]
   by_cases h6 : a < 4000
   ·rw [decide_eq_true h6, cT, getI_here hq, bnd, eta_X, hg, bnd]
    cases g with
    | true => rw [cT]; exact .inr ⟨_, rfl, trivial⟩
    | false => rw [cF, need_i (by omega) (by omega)]; exact .inl ⟨_, rfl, by simp⟩
   ·rw [decide_eq_false h6, cF]; exact .inr ⟨_, rfl, trivial⟩)
  (fun s hI => by subst hI; unfold ref13_weight_s4; rw [decide_eq_false (by omega), cF, bnd, cF]; exact ⟨_, rfl, trivial⟩) (by omega)
 exact ⟨b, h⟩
theorem w_props {n : Nat} (hn : 2000000 ≤ n) (t : TA0) (hb : dsz (emb_TA0 t) ≤ 1100000) (a : Int) {q : Nat} (hq : q < t.fRes.length) : ∃ b, loopF (ref13_weight_s6 n t (a, (q : Int))) n (0 : Int) = some b := by
 have hs := szT t
 have hm := mem_sz (f := emb_TB0) (List.getElem_mem hq)
 have hr := szR t.fRes[q]
 have hlen := len_sz (f := emb_TI0) t.fRes[q].fProps
 obtain ⟨b, h, -⟩ := loop_inv (step := ref13_weight_s6 n t (a, (q : Int))) (n := n) (s0 := (0 : Int)) (fun k s => s = (k : Int)) (fun _ => True) t.fRes[q].fProps.length rfl
  (fun j s hj hI => by
   subst hI
   have hm2 := mem_sz (f := emb_TI0) (List.getElem_mem hj)
   have hp := szPr t.fRes[q].fProps[j]
   obtain ⟨g, hg⟩ := great12 hn (x := t.fRes[q].fProps[j].fE) (by omega)
   unfold ref13_weight_s6
   dsimp only
   rw [getI_here hq, bnd, decide_eq_true (by omega), cT, bnd, getI_here hj, bnd, eta_X, hg, bnd]
   cases g with
   | true => rw [cT]; exact .inr ⟨_, rfl, trivial⟩
   | false => rw [cF, need_i (by omega) (by omega)]; exact .inl ⟨_, rfl, by simp⟩)
  (fun s hI => by subst hI; unfold ref13_weight_s6; dsimp only; rw [getI_here hq, bnd, decide_eq_false (by omega), cF]; exact ⟨_, rfl, trivial⟩) (by omega)
 exact ⟨b, h⟩
theorem t_weight {n : Nat} (hn : 2000000 ≤ n) : ∀ (left k d : Nat) (B : Int) (t : TA0), d + left = 5 → left < k → dsz (emb_TA0 t) ≤ 1100000 → B = 200000000 * 5 ^ left →
  ∃ w : Int, ref13_weight_k n k t (d : Int) = some w ∧ 0 ≤ w ∧ w ≤ B
 | left, k, d, B, t, hd, hk, hb, hB => by
  obtain ⟨k, rfl⟩ : ∃ r, k = r + 1 := ⟨k - 1, by omega⟩
  have hs := szT t
  have l1 := len_sz (f := emb_TD0) t.fParams
  have l2 := len_sz (f := emb_TF0) t.fConds
  have l3 := len_sz (f := emb_TB0) t.fRes
  have l4 := len_sz (f := emb_TC0) t.fOuts
  have hBs : 200000000 ≤ B ∧ B ≤ 625000000000 ∧ (0 < left → ∃ B' : Int, B' = 200000000 * 5 ^ (left - 1) ∧ B = 5 * B' ∧ 200000000 ≤ B') := by
   rcases (by omega : left = 0 ∨ left = 1 ∨ left = 2 ∨ left = 3 ∨ left = 4 ∨ left = 5) with rfl | rfl | rfl | rfl | rfl | rfl <;> subst hB <;> first | exact ⟨by decide, by decide, fun h => absurd h (by decide)⟩ | exact ⟨by decide, by decide, fun h => ⟨_, rfl, by decide, by decide⟩⟩
  obtain ⟨hB1, hB2, hB3⟩ := hBs
  unfold ref13_weight_k ref13_weight_b
  rw [need_i (by omega) (by omega), need_i (by omega) (by omega), need_i (by omega) (by omega)]
  by_cases h0 : left = 0
  ·rw [decide_eq_true (by omega), cT, bnd, cT]
   exact ⟨_, rfl, by omega, by omega⟩
  rw [decide_eq_false (by omega), cF, bnd]
  by_cases h5 : (60 : Int) < (((((t.fParams.length : Nat) : Int) + ((t.fConds.length : Nat) : Int)) + ((t.fRes.length : Nat) : Int)) + ((t.fOuts.length : Nat) : Int))
  ·rw [decide_eq_true h5, cT]
   exact ⟨_, rfl, by omega, by omega⟩
  rw [decide_eq_false h5, cF]
  obtain ⟨b, e1, p1⟩ := w_params hn t hb _ (by omega : (0 : Int) ≤ ((((t.fParams.length : Nat) : Int) + ((t.fConds.length : Nat) : Int)) + ((t.fRes.length : Nat) : Int)) + ((t.fOuts.length : Nat) : Int)) (by omega) (by omega)
  rw [e1, bnd]
  cases b with
  | inl u => exact ⟨_, rfl, by omega, by omega⟩
  | inr y6 =>
   obtain ⟨q1, q2⟩ := p1 _ rfl
   obtain ⟨y7, e2, q3, q4⟩ := w_conds hn t hb y6 q1 q2 (by omega)
   dsimp only
   rw [e2, bnd]
   obtain ⟨b, e3⟩ := w_outs hn t hb y7
   rw [e3, bnd]
   cases b with
   | inl u => exact ⟨_, rfl, by omega, by omega⟩
   | inr u =>
    dsimp only
    obtain ⟨B', hB', hBB, hBl⟩ := hB3 (by omega)
    obtain ⟨b, e4, p4⟩ := loop_inv (step := ref13_weight_s5 n (ref13_weight_k n k) t (d : Int)) (n := n) (s0 := (y7, (0 : Int))) (fun k s => s.2 = (k : Int) ∧ 0 ≤ s.1 ∧ s.1 ≤ B) (fun b => ∀ y, b = .inr y → 0 ≤ y ∧ y ≤ B) t.fRes.length ⟨rfl, q3, by dsimp only; omega⟩
     (fun q s hq hI => by
      obtain ⟨x, i⟩ := s
      obtain ⟨e1, e2, e3⟩ := hI
      dsimp only at e1 e2 e3
      subst e1
      have hm := mem_sz (f := emb_TB0) (List.getElem_mem hq)
      have hr := szR t.fRes[q]
      have m1 := len_sz (f := emb_TI0) t.fRes[q].fProps
      have m2 := len_sz (f := Dat.str) t.fRes[q].fDepends
      have m3 := len_sz (f := emb_TA0) t.fRes[q].fInner
      unfold ref13_weight_s5
      dsimp only
      rw [decide_eq_true (by omega), cT, bnd]
      by_cases h6 : x < 4000
      ·rw [decide_eq_true h6, cT, getI_here hq, bnd, need_i (by omega) (by omega), bnd, need_i (by omega) (by omega), bnd, need_i (by omega) (by omega), bnd]
       by_cases h7 : (60 : Int) < ((t.fRes[q].fProps.length : Nat) : Int)
       ·rw [decide_eq_true h7, cT, bnd, cT]; exact .inr ⟨_, rfl, fun y h => by cases h⟩
       rw [decide_eq_false h7, cF, bnd]
       by_cases h8 : (60 : Int) < ((t.fRes[q].fDepends.length : Nat) : Int)
       ·rw [decide_eq_true h8, cT, bnd, cT]; exact .inr ⟨_, rfl, fun y h => by cases h⟩
       rw [decide_eq_false h8, cF, bnd, bnd]
       by_cases h9 : (4 : Int) < ((t.fRes[q].fInner.length : Nat) : Int)
       ·rw [decide_eq_true h9, cT]; exact .inr ⟨_, rfl, fun y h => by cases h⟩
       rw [decide_eq_false h9, cF]
       obtain ⟨b, hb1⟩ := w_props hn t hb x hq
       rw [hb1, bnd]
       cases b with
       | inl u => exact .inr ⟨_, rfl, fun y h => by cases h⟩
       | inr u =>
        dsimp only
        obtain ⟨z, hz, hz1, hz2⟩ := loop_inv (step := ref13_weight_s7 n (ref13_weight_k n k) t (d : Int) (x, (q : Int))) (n := n) (s0 := (((x + ((t.fRes[q].fProps.length : Nat) : Int)) + ((t.fRes[q].fDepends.length : Nat) : Int)) + ((t.fRes[q].fInner.length : Nat) : Int), (0 : Int)))
         (fun k s => s.2 = (k : Int) ∧ 0 ≤ s.1 ∧ s.1 ≤ 5000 + B' * k) (fun b => 0 ≤ b ∧ b ≤ 5000 + B' * t.fRes[q].fInner.length) t.fRes[q].fInner.length ⟨rfl, by dsimp only; omega, by dsimp only; simp; omega⟩
         (fun j s hj hI => by
          obtain ⟨y, i⟩ := s
          obtain ⟨f1, f2, f3⟩ := hI
          dsimp only at f1 f2 f3
          subst f1
          have hm2 := mem_sz (f := emb_TA0) (List.getElem_mem hj)
          obtain ⟨w, g1, g2, g3⟩ := t_weight hn (left - 1) k (d + 1) B' t.fRes[q].fInner[j] (by omega) (by omega) (by omega) hB'
          have e : (d : Int) + 1 = ((d + 1 : Nat) : Int) := by omega
          have hj4 : B' * (j : Int) ≤ B' * 4 := Int.mul_le_mul_of_nonneg_left (by omega) (by omega)
          have hjm : B' * ((j + 1 : Nat) : Int) = B' * (j : Int) + B' := by push_cast; rw [Int.mul_add, Int.mul_one]
          unfold ref13_weight_s7
          dsimp only
          rw [getI_here hq, bnd, decide_eq_true (by omega), cT, bnd, getI_here hj, bnd, need_i (by omega) (by omega), e, g1, bnd, need_i (by omega) (by omega), need_i (by omega) (by omega)]
          exact .inl ⟨_, rfl, by dsimp only; omega, by dsimp only; omega, by dsimp only; omega⟩)
         (fun s hI => by
          obtain ⟨y, i⟩ := s
          obtain ⟨f1, f2, f3⟩ := hI
          dsimp only at f1 f2 f3
          subst f1
          unfold ref13_weight_s7
          dsimp only
          rw [getI_here hq, bnd, decide_eq_false (by omega), cF]
          exact ⟨_, rfl, f2, f3⟩) (by omega)
        have hj4 : B' * (t.fRes[q].fInner.length : Int) ≤ B' * 4 := Int.mul_le_mul_of_nonneg_left (by omega) (by omega)
        rw [hz, bnd, need_i (by omega) (by omega)]
        exact .inl ⟨_, rfl, by dsimp only; omega, by dsimp only; omega, by dsimp only; omega⟩
      ·rw [decide_eq_false h6, cF]
       exact .inr ⟨_, rfl, fun y h => by cases h; omega⟩)
     (fun s hI => by
      obtain ⟨x, i⟩ := s
      obtain ⟨e1, e2, e3⟩ := hI
      dsimp only at e1 e2 e3
      subst e1
      unfold ref13_weight_s5
      dsimp only
      rw [decide_eq_false (by omega), cF, bnd, cF]
      exact ⟨_, rfl, fun y h => by cases h; omega⟩) (by omega)
    rw [e4, bnd]
    cases b with
    | inl u => exact ⟨_, rfl, by omega, by omega⟩
    | inr y17 => exact ⟨_, rfl, (p4 _ rfl).1, (p4 _ rfl).2⟩
theorem great13 {n : Nat} (hn : 2000000 ≤ n) (t : TA0) (hb : dsz (emb_TA0 t) ≤ 1100000) : ∃ g, ref13_Great n t = some g := by
 obtain ⟨w, g1, -⟩ := t_weight hn 5 n 0 _ t rfl (by omega) hb rfl
 rw [show ((0 : Nat) : Int) = 0 from rfl] at g1
 unfold ref13_Great ref13_weight
 rw [g1, bnd]
 exact ⟨_, rfl⟩
def law16_wakes (n : Nat) : Option Bool :=
  (refs_Resources n (⟨(7 : Int), ([] : List UInt8), (0 : Int), ([] : List UInt8), ([] : List UInt8), [(⟨(2 : Int), ([] : List UInt8), (0 : Int), ([] : List UInt8), ([] : List UInt8), [(⟨(3 : Int), ([] : List UInt8), (0 : Int), [66], ([] : List UInt8), ([] : List TH0)⟩ : TH0), (⟨(4 : Int), ([] : List UInt8), (0 : Int), [65], [65, 114, 110], ([] : List TH0)⟩ : TH0)]⟩ : TH0)]⟩ : TH0)).bind fun x_1 =>
  (refs_Check n (⟨([] : List TD0), ([] : List TF0), [(⟨[65], [68, 105, 115, 107], ([] : List UInt8), ([] : List TI0), ([] : List (List UInt8)), (false), ([] : List TA0)⟩ : TB0), (⟨[66], [68, 105, 115, 99], ([] : List UInt8), ([] : List TI0), ([] : List (List UInt8)), (false), ([] : List TA0)⟩ : TB0)], ([] : List TC0)⟩ : TA0)).bind fun x_2 =>
  bif (decide (((x_1.length : Nat) : Int) = 2)) then
    ((getI x_1 (0 : Int)).bind fun x_3 =>
    bif (decide (x_3 = [65])) then
      ((getI x_1 (1 : Int)).bind fun x_4 =>
      bif (decide (x_4 = [66])) then
        (bif (decide (x_2.1 = [82, 101, 115, 111, 117, 114, 99, 101, 115, 47, 66])) then
          (some ((decide (x_2.2 = 90))))
        else
          some ((false)))
      else
        some ((false)))
    else
      some ((false)))
  else
    some ((false))
set_option maxRecDepth 20000 in
theorem law16_wakes_ok (n : Nat) (M : Mem)  (r : Bool) (hF : law16_wakes n = some r) : Ok Try.prog M 7 [] (fun _ v => v = .bool r) := by
 unfold law16_wakes at hF
 intro M1 hM0 w0 H w p0
 refine R_enter 46 Try.func7 rfl rfl (by simp) fun a0 f0 => RR (Y f0 1 fun _ f => eT (RR (Y f 1 fun _ f => Y11 f p0 (.cells #[.int .i8 0, S [], .int .i64 0, S [], S [], .slice none 0 0] 37 (0, 0)) fun b_1 w_1 p_1 _ f => Y22 (vs := [.int .i8 3, S [], .int .i64 0, S [66], S [], .slice none 0 0]) (j := 0) f p_1 rfl rfl (by simp [Value.oneCell', S]) (by simp) (by decide) (cs' := #[.int .i8 3, S [], .int .i64 0, S [66], S [], .slice none 0 0]) (by kernel_rfl) fun w_2 p_2 _ f => eT (RR (Y f 1 fun _ f => Y11 f p_2 (.cells #[.int .i8 0, S [], .int .i64 0, S [], S [], .slice none 0 0] 37 (0, 0)) fun b_2 w_3 p_3 _ f => Y22 (vs := [.int .i8 4, S [], .int .i64 0, S [65], S [65, 114, 110], .slice none 0 0]) (j := 0) f p_3 rfl rfl (by simp [Value.oneCell', S]) (by simp) (by decide) (cs' := #[.int .i8 4, S [], .int .i64 0, S [65], S [65, 114, 110], .slice none 0 0]) (by kernel_rfl) fun w_4 p_4 _ f => ?_)))))
 refine eT (RR (Z (v := .agg #[.int .i8 3, S [], .int .i64 0, S [66], S [], .slice none 0 0]) f (Y27 (cs := [.int .i8 3, S [], .int .i64 0, S [66], S [], .slice none 0 0]) rfl (ad := ⟨b_1, 0, none⟩) (own_cells (p_4.ownCell 1 rfl) 0 rfl)) fun _ f => Z (v := .agg #[.int .i8 4, S [], .int .i64 0, S [65], S [65, 114, 110], .slice none 0 0]) f (Y27 (cs := [.int .i8 4, S [], .int .i64 0, S [65], S [65, 114, 110], .slice none 0 0]) rfl (ad := ⟨b_2, 0, none⟩) (own_cells (p_4.ownCell 0 rfl) 0 rfl)) fun _ f => V_allocS (k := 2) (c := 2) f p_4 (.cells #[.int .i8 3, S [], .int .i64 0, S [66], S [], .slice none 0 0, .int .i8 4, S [], .int .i64 0, S [65], S [65, 114, 110], .slice none 0 0] 37 (0, 0)) (by kernel_rfl) (fun _ => by kernel_rfl) fun b_3 w_5 p_5 _ f => Y f 1 fun _ f => V_allocS (k := 1) (c := 1) f p_5 (.cells #[.int .i8 2, S [], .int .i64 0, S [], S [], .slice (some ⟨b_3, 0, none⟩) 2 2] 37 (0, 0)) (by kernel_rfl) (fun _ => by kernel_rfl) fun b_4 w_6 p_6 _ f => Y f 1 fun _ f => ?_))
 have p_7 := p_6.pl [1]
 have hr_1 : RepSeq M1 ([(⟨(3 : Int), ([] : List UInt8), (0 : Int), [66], ([] : List UInt8), ([] : List TH0)⟩ : TH0), (⟨(4 : Int), ([] : List UInt8), (0 : Int), [65], [65, 114, 110], ([] : List TH0)⟩ : TH0)].map emb_TH0) [.int .i8 3, S [], .int .i64 0, S [66], S [], .slice none 0 0, .int .i8 4, S [], .int .i64 0, S [65], S [65, 114, 110], .slice none 0 0] := ⟨_, _, rfl, TH0.shut Sli.nil, ⟨_, _, rfl, TH0.shut Sli.nil, rfl⟩⟩
 have p_8 : Hp w0 M1 ((Ent.row 37 6 (.slice (some ⟨b_3, 0, none⟩) 2 2) [(⟨(3 : Int), ([] : List UInt8), (0 : Int), [66], ([] : List UInt8), ([] : List TH0)⟩ : TH0), (⟨(4 : Int), ([] : List UInt8), (0 : Int), [65], [65, 114, 110], ([] : List TH0)⟩ : TH0)].length [.int .i8 3, S [], .int .i64 0, S [66], S [], .slice none 0 0, .int .i8 4, S [], .int .i64 0, S [65], S [65, 114, 110], .slice none 0 0]) :: (Ent.obj b_4 (.cells #[.int .i8 2, S [], .int .i64 0, S [], S [], .slice (some ⟨b_3, 0, none⟩) 2 2] 37 (0, 0))) :: (Ent.obj b_2 (.cells #[.int .i8 4, S [], .int .i64 0, S [65], S [65, 114, 110], .slice none 0 0] 37 (0, 0))) :: (Ent.obj b_1 (.cells #[.int .i8 3, S [], .int .i64 0, S [66], S [], .slice none 0 0] 37 (0, 0))) :: H) w_6 := p_7.objRow (n := 2) (cap := 2) (size := 6) (by decide) (by decide) (blk_eq (by decide) rfl) rfl rfl
 obtain ⟨A_1, cap_1, M_1, hv_1, hM_1, p_9, h_1⟩ := p_8.rowSli (f := emb_TH0) (xs := [(⟨(3 : Int), ([] : List UInt8), (0 : Int), [66], ([] : List UInt8), ([] : List TH0)⟩ : TH0), (⟨(4 : Int), ([] : List UInt8), (0 : Int), [65], [65, 114, 110], ([] : List TH0)⟩ : TH0)]) szd_TH0 hr_1
 have p_10 : Hp w0 M_1 ((Ent.obj b_4 (.cells #[.int .i8 2, S [], .int .i64 0, S [], S [], .slice A_1 [(⟨(3 : Int), ([] : List UInt8), (0 : Int), [66], ([] : List UInt8), ([] : List TH0)⟩ : TH0), (⟨(4 : Int), ([] : List UInt8), (0 : Int), [65], [65, 114, 110], ([] : List TH0)⟩ : TH0)].length cap_1] 37 (0, 0))) :: (Ent.obj b_2 (.cells #[.int .i8 4, S [], .int .i64 0, S [65], S [65, 114, 110], .slice none 0 0] 37 (0, 0))) :: (Ent.obj b_1 (.cells #[.int .i8 3, S [], .int .i64 0, S [66], S [], .slice none 0 0] 37 (0, 0))) :: H) w_6 := by rw [hv_1] at p_9; exact p_9
 have hr_2 : RepSeq M_1 ([(⟨(2 : Int), ([] : List UInt8), (0 : Int), ([] : List UInt8), ([] : List UInt8), [(⟨(3 : Int), ([] : List UInt8), (0 : Int), [66], ([] : List UInt8), ([] : List TH0)⟩ : TH0), (⟨(4 : Int), ([] : List UInt8), (0 : Int), [65], [65, 114, 110], ([] : List TH0)⟩ : TH0)]⟩ : TH0)].map emb_TH0) [.int .i8 2, S [], .int .i64 0, S [], S [], .slice A_1 [(⟨(3 : Int), ([] : List UInt8), (0 : Int), [66], ([] : List UInt8), ([] : List TH0)⟩ : TH0), (⟨(4 : Int), ([] : List UInt8), (0 : Int), [65], [65, 114, 110], ([] : List TH0)⟩ : TH0)].length cap_1] := ⟨_, _, rfl, TH0.shut h_1, rfl⟩
 have p_11 : Hp w0 M_1 ((Ent.row 37 6 (.slice (some ⟨b_4, 0, none⟩) 1 1) [(⟨(2 : Int), ([] : List UInt8), (0 : Int), ([] : List UInt8), ([] : List UInt8), [(⟨(3 : Int), ([] : List UInt8), (0 : Int), [66], ([] : List UInt8), ([] : List TH0)⟩ : TH0), (⟨(4 : Int), ([] : List UInt8), (0 : Int), [65], [65, 114, 110], ([] : List TH0)⟩ : TH0)]⟩ : TH0)].length [.int .i8 2, S [], .int .i64 0, S [], S [], .slice A_1 [(⟨(3 : Int), ([] : List UInt8), (0 : Int), [66], ([] : List UInt8), ([] : List TH0)⟩ : TH0), (⟨(4 : Int), ([] : List UInt8), (0 : Int), [65], [65, 114, 110], ([] : List TH0)⟩ : TH0)].length cap_1]) :: (Ent.obj b_2 (.cells #[.int .i8 4, S [], .int .i64 0, S [65], S [65, 114, 110], .slice none 0 0] 37 (0, 0))) :: (Ent.obj b_1 (.cells #[.int .i8 3, S [], .int .i64 0, S [66], S [], .slice none 0 0] 37 (0, 0))) :: H) w_6 := p_10.objRow (n := 1) (cap := 1) (size := 6) (by decide) (by decide) (blk_eq (by decide) rfl) rfl rfl
 obtain ⟨A_2, cap_2, M_2, hv_2, hM_2, p_12, h_2⟩ := p_11.rowSli (f := emb_TH0) (xs := [(⟨(2 : Int), ([] : List UInt8), (0 : Int), ([] : List UInt8), ([] : List UInt8), [(⟨(3 : Int), ([] : List UInt8), (0 : Int), [66], ([] : List UInt8), ([] : List TH0)⟩ : TH0), (⟨(4 : Int), ([] : List UInt8), (0 : Int), [65], [65, 114, 110], ([] : List TH0)⟩ : TH0)]⟩ : TH0)]) szd_TH0 hr_2
 have f := Frm.set f 13 (v := .agg #[.int .i8 7, S [], .int .i64 0, S [], S [], .slice (some ⟨b_4, 0, none⟩) 1 1]) (v' := .agg #[.int .i8 7, S [], .int .i64 0, S [], S [], .slice A_2 [(⟨(2 : Int), ([] : List UInt8), (0 : Int), ([] : List UInt8), ([] : List UInt8), [(⟨(3 : Int), ([] : List UInt8), (0 : Int), [66], ([] : List UInt8), ([] : List TH0)⟩ : TH0), (⟨(4 : Int), ([] : List UInt8), (0 : Int), [65], [65, 114, 110], ([] : List TH0)⟩ : TH0)]⟩ : TH0)].length cap_2]) (by kernel_rfl) (by rw [hv_2])
 obtain ⟨x_1, hx_1, hF_1⟩ := bS hF
 refine Y16 (E := []) (H := ((Ent.obj b_2 (.cells #[.int .i8 4, S [], .int .i64 0, S [65], S [65, 114, 110], .slice none 0 0] 37 (0, 0))) :: (Ent.obj b_1 (.cells #[.int .i8 3, S [], .int .i64 0, S [66], S [], .slice none 0 0] 37 (0, 0))) :: H)) f p_12 (refs_Resources_ok n _ _ (⟨(7 : Int), ([] : List UInt8), (0 : Int), ([] : List UInt8), ([] : List UInt8), [(⟨(2 : Int), ([] : List UInt8), (0 : Int), ([] : List UInt8), ([] : List UInt8), [(⟨(3 : Int), ([] : List UInt8), (0 : Int), [66], ([] : List UInt8), ([] : List TH0)⟩ : TH0), (⟨(4 : Int), ([] : List UInt8), (0 : Int), [65], [65, 114, 110], ([] : List TH0)⟩ : TH0)]⟩ : TH0)]⟩ : TH0) (TH0.shut h_2) x_1 hx_1) fun _ M_3 E_1 w_7 hM_3 p_13 q_1 _ f => ?_
 obtain ⟨A_3, cap_3, cs_1, rfl, rfl, hr_3⟩ := q_1
 refine Y f 1 fun _ f => eT (RR (Y f 2 fun _ f => V_allocS (k := 2) (c := 2) f p_13 (.cells #[S [65], S [68, 105, 115, 107], S [], .slice none 0 0, .slice none 0 0, .bool false, .slice none 0 0, S [66], S [68, 105, 115, 99], S [], .slice none 0 0, .slice none 0 0, .bool false, .slice none 0 0] 49 (0, 0)) (by kernel_rfl) (fun _ => by kernel_rfl) fun b_5 w_8 p_14 _ f => Y f 1 fun _ f => ?_))
 have hr_4 : RepSeq M_3 ([(⟨[65], [68, 105, 115, 107], ([] : List UInt8), ([] : List TI0), ([] : List (List UInt8)), (false), ([] : List TA0)⟩ : TB0), (⟨[66], [68, 105, 115, 99], ([] : List UInt8), ([] : List TI0), ([] : List (List UInt8)), (false), ([] : List TA0)⟩ : TB0)].map emb_TB0) [S [65], S [68, 105, 115, 107], S [], .slice none 0 0, .slice none 0 0, .bool false, .slice none 0 0, S [66], S [68, 105, 115, 99], S [], .slice none 0 0, .slice none 0 0, .bool false, .slice none 0 0] := ⟨_, _, rfl, TB0.shut Sli.nil Sli.nil Sli.nil, ⟨_, _, rfl, TB0.shut Sli.nil Sli.nil Sli.nil, rfl⟩⟩
 have p_15 : Hp w0 M_3 ((Ent.row 49 7 (.slice (some ⟨b_5, 0, none⟩) 2 2) [(⟨[65], [68, 105, 115, 107], ([] : List UInt8), ([] : List TI0), ([] : List (List UInt8)), (false), ([] : List TA0)⟩ : TB0), (⟨[66], [68, 105, 115, 99], ([] : List UInt8), ([] : List TI0), ([] : List (List UInt8)), (false), ([] : List TA0)⟩ : TB0)].length [S [65], S [68, 105, 115, 107], S [], .slice none 0 0, .slice none 0 0, .bool false, .slice none 0 0, S [66], S [68, 105, 115, 99], S [], .slice none 0 0, .slice none 0 0, .bool false, .slice none 0 0]) :: (Ent.row 9 1 (.slice A_3 x_1.length cap_3) x_1.length cs_1) :: (Ent.obj b_2 (.cells #[.int .i8 4, S [], .int .i64 0, S [65], S [65, 114, 110], .slice none 0 0] 37 (0, 0))) :: (Ent.obj b_1 (.cells #[.int .i8 3, S [], .int .i64 0, S [66], S [], .slice none 0 0] 37 (0, 0))) :: H) w_8 := p_14.objRow (n := 2) (cap := 2) (size := 7) (by decide) (by decide) (blk_eq (by decide) rfl) rfl rfl
 obtain ⟨A_4, cap_4, M_4, hv_3, hM_4, p_16, h_3⟩ := p_15.rowSli (f := emb_TB0) (xs := [(⟨[65], [68, 105, 115, 107], ([] : List UInt8), ([] : List TI0), ([] : List (List UInt8)), (false), ([] : List TA0)⟩ : TB0), (⟨[66], [68, 105, 115, 99], ([] : List UInt8), ([] : List TI0), ([] : List (List UInt8)), (false), ([] : List TA0)⟩ : TB0)]) szd_TB0 hr_4
 have f := Frm.set f 19 (v := .agg #[.slice none 0 0, .slice none 0 0, .slice (some ⟨b_5, 0, none⟩) 2 2, .slice none 0 0]) (v' := .agg #[.slice none 0 0, .slice none 0 0, .slice A_4 [(⟨[65], [68, 105, 115, 107], ([] : List UInt8), ([] : List TI0), ([] : List (List UInt8)), (false), ([] : List TA0)⟩ : TB0), (⟨[66], [68, 105, 115, 99], ([] : List UInt8), ([] : List TI0), ([] : List (List UInt8)), (false), ([] : List TA0)⟩ : TB0)].length cap_4, .slice none 0 0]) (by kernel_rfl) (by rw [hv_3])
 obtain ⟨x_2, hx_2, hF_2⟩ := bS hF_1
 refine Y17 f p_16 (refs_Check_ok n _ _ (⟨([] : List TD0), ([] : List TF0), [(⟨[65], [68, 105, 115, 107], ([] : List UInt8), ([] : List TI0), ([] : List (List UInt8)), (false), ([] : List TA0)⟩ : TB0), (⟨[66], [68, 105, 115, 99], ([] : List UInt8), ([] : List TI0), ([] : List (List UInt8)), (false), ([] : List TA0)⟩ : TB0)], ([] : List TC0)⟩ : TA0) (TA0.shut Sli.nil Sli.nil h_3 Sli.nil) x_2 hx_2) fun w_9 p_17 _ f => Y f 5 fun _ f => eT (RR (Y f 4 fun _ f => ?_))
 rcases cE hF_2 with ⟨h_4, hF_3⟩ | ⟨h_4, hF_12⟩
 ·have k_1 := dI.1 h_4
  have f := f.st 26 (cB h_4)
  refine Y f 1 fun _ f => ?_
  obtain ⟨x_3, hx_3, hF_4⟩ := bS hF_3
  obtain ⟨b_6, cap_5, hv_4, hcap_1⟩ := p_17.rowAddr 0 rfl (getI_pos hx_3)
  have f := f.st 27 (hv_4)
  refine Z f (Y24 rfl (ad := ⟨b_6, 0, none⟩) (len := x_1.length) (cap := cap_5) (k := .i64) (i := (0 : Int)) (e := 9) (sz := 1) (getI_nn hx_3) (getI_lt hx_3)) fun _ f => ?_
  have f := f.st 27 (hv_4.symm)
  obtain ⟨c_1, -, hr_5, hc_1⟩ := RepSeq.get (0 : Int).toNat (szd_all szd_str) (RepSeq.mono hM_4 _ _ hr_3) (getI_map hx_3)
  obtain rfl : c_1 = [S x_3] := hr_5
  refine Z f (Y26 (v := S x_3) rfl (ad := (⟨b_6, 0, none⟩ : Addr).add ((0 : Int).toNat * 1)) (by simpa [Addr.add] using (fun j v h => row_at (p_17.rowCell 0 rfl hv_4) hc_1 j v h) 0 _ rfl)) fun _ f => Z f (Y28 rfl (l := x_3) (m := [65])) fun _ f => Y f 2 fun _ f => ?_
  rcases cE hF_4 with ⟨h_5, hF_5⟩ | ⟨h_5, hF_11⟩
  ·have k_2 := dI.1 h_5
   have f := f.st 32 (cB h_5)
   refine Y f 1 fun _ f => ?_
   obtain ⟨x_4, hx_4, hF_6⟩ := bS hF_5
   obtain ⟨b_7, cap_6, hv_5, hcap_2⟩ := p_17.rowAddr 0 rfl (getI_pos hx_4)
   have f := f.st 33 (hv_5)
   refine Z f (Y24 rfl (ad := ⟨b_7, 0, none⟩) (len := x_1.length) (cap := cap_6) (k := .i64) (i := (1 : Int)) (e := 9) (sz := 1) (getI_nn hx_4) (getI_lt hx_4)) fun _ f => ?_
   have f := f.st 33 (hv_5.symm)
   obtain ⟨c_2, -, hr_6, hc_2⟩ := RepSeq.get (1 : Int).toNat (szd_all szd_str) (RepSeq.mono hM_4 _ _ hr_3) (getI_map hx_4)
   obtain rfl : c_2 = [S x_4] := hr_6
   refine Z f (Y26 (v := S x_4) rfl (ad := (⟨b_7, 0, none⟩ : Addr).add ((1 : Int).toNat * 1)) (by simpa [Addr.add] using (fun j v h => row_at (p_17.rowCell 0 rfl hv_5) hc_2 j v h) 0 _ rfl)) fun _ f => Z f (Y28 rfl (l := x_4) (m := [66])) fun _ f => Y f 2 fun _ f => ?_
   rcases cE hF_6 with ⟨h_6, hF_7⟩ | ⟨h_6, hF_10⟩
   ·have k_3 := dI.1 h_6
    have f := f.st 38 (cB h_6)
    refine Y f 1 fun _ f => Z f (Y28 rfl (l := x_2.1) (m := [82, 101, 115, 111, 117, 114, 99, 101, 115, 47, 66])) fun _ f => Y f 2 fun _ f => ?_
    rcases cE hF_7 with ⟨h_7, hF_8⟩ | ⟨h_7, hF_9⟩
    ·have k_4 := dI.1 h_7
     have f := f.st 42 (cB h_7)
     refine Y f 4 fun _ f => eT (wp_ret (E_ret1 f rfl (by kernel_rfl : Vc.look _ 0 = some (.bool (decide (x_2.2 = 90)))) ?_))
     obtain rfl := sI hF_8
     exact ⟨_, rfl, M_4, (((hM_1.trans hM_2).trans hM_3).trans hM_4), (p_17.dropN 3), rfl⟩
    ·have k_5 := iff_f dI h_7
     have f := f.st 42 (cB h_7)
     refine Y f 4 fun _ f => eT (wp_ret (E_ret1 f rfl (by kernel_rfl : Vc.look _ 0 = some (.bool false)) ?_))
     obtain rfl := sI hF_9
     exact ⟨_, rfl, M_4, (((hM_1.trans hM_2).trans hM_3).trans hM_4), (p_17.dropN 3), rfl⟩
   ·have k_6 := iff_f dI h_6
    have f := f.st 38 (cB h_6)
    refine Y f 8 fun _ f => eT (wp_ret (E_ret1 f rfl (by kernel_rfl : Vc.look _ 0 = some (.bool false)) ?_))
    obtain rfl := sI hF_10
    exact ⟨_, rfl, M_4, (((hM_1.trans hM_2).trans hM_3).trans hM_4), (p_17.dropN 3), rfl⟩
  ·have k_7 := iff_f dI h_5
   have f := f.st 32 (cB h_5)
   refine Y f 14 fun _ f => eT (wp_ret (E_ret1 f rfl (by kernel_rfl : Vc.look _ 0 = some (.bool false)) ?_))
   obtain rfl := sI hF_11
   exact ⟨_, rfl, M_4, (((hM_1.trans hM_2).trans hM_3).trans hM_4), (p_17.dropN 3), rfl⟩
 ·have k_8 := iff_f dI h_4
  have f := f.st 26 (cB h_4)
  refine Y f 20 fun _ f => eT (wp_ret (E_ret1 f rfl (by kernel_rfl : Vc.look _ 0 = some (.bool false)) ?_))
  obtain rfl := sI hF_12
  exact ⟨_, rfl, M_4, (((hM_1.trans hM_2).trans hM_3).trans hM_4), (p_17.dropN 3), rfl⟩
end Go.Proofs.Ytpjgpnfdadpkkaa
end

section
namespace Go.Proofs.Ytpjgpnfdadpkkaa
open Go Go.Vc Go.RowKit
end Go.Proofs.Ytpjgpnfdadpkkaa
end

section
namespace Go.Proofs.Ytpjgpnfdadpkkaa
open Go Go.Vc Go.RowKit
set_option maxRecDepth 100000 in
theorem wakes16 : law16_wakes 3000000 = some true := by decide +kernel
end Go.Proofs.Ytpjgpnfdadpkkaa
end

section
namespace Go.Vc
open Go Go.RowKit
variable {dd : List Deferred}
section
variable {P : Program} {α : Type} {ops : Array Oper} {n : Nat} {L : Fr} {a : Act} {w0 w : World} {M : Mem} {H : List Ent} {Q : Exit → Act → World → Prop} {sz : Nat} {f : α → Dat}
theorem W_rowstoreA {o : Oper} {rest : List Oper} {t e : TypeId} {x y : Operand} {it : Int} {m cap g off : Nat} {v0 : Value} {d : List α} {xv x0 : α} {cs c0 c1 vs : List Value} (hf : Frm n L a dd) (hp : Hp w0 M (.row e sz v0 d.length cs :: H) w) (hv0 : v0 = .slice (some ⟨g, 0, none⟩) m cap)
  (hw : wantedL ops L o = some true) (hr : readyL L o = true) (hd : o.dst = none) (ho : o.op = .store t x y) (hx : ev L x = .pointer (some (((⟨g, 0, none⟩ : Addr).add (it.toNat * sz)).add off))) (hy : ev L y = .agg vs.toArray) (hs : szIs P t vs.length = true) (hfs : ∀ x, Szd sz (f x)) (hg : getI d it = some x0)
  (hcs : RepSeq M (d.map f) cs) (hl0 : c0.length = sz) (hc0 : ∀ j v, c0[j]? = some v → cs[it.toNat * sz + j]? = some v) (ho1 : off + vs.length ≤ c0.length) (h01 : c0.take off ++ (vs ++ c0.drop (off + vs.length)) = c1) (hone : ∀ v ∈ vs, v.oneCell' = true) (hv : Rep M (f xv) c1)
  (hk : ∀ cs' w', Hp w0 M (.row e sz v0 (d.set it.toNat xv).length cs' :: H) w' → RepSeq M ((d.set it.toNat xv).map f) cs' → ∀ a', Frm n L a' dd → wpList P ops Q rest a' w') : wpList P ops Q (o :: rest) a w := by
 have hlen := RepSeq.len (szd_all hfs) hcs
 rw [List.length_map] at hlen
 have hlt : it.toNat < d.length := by have := getI_lt hg; have := getI_nn hg; omega
 have hmul : (it.toNat + 1) * sz ≤ d.length * sz := Nat.mul_le_mul_right _ hlt
 rw [Nat.add_mul, Nat.one_mul] at hmul
 have hl1 : c1.length = sz := by rw [← h01, List.length_append, List.length_append, List.length_take, List.length_drop]; omega
 have hseg := seg_eq hl0 hc0
 have hseq : RepSeq M ((d.set it.toNat xv).map f) (cs.take (it.toNat * sz) ++ (c1 ++ cs.drop ((it.toNat + 1) * sz))) := by
  rw [List.set_eq_take_append_cons_drop, if_pos hlt, List.map_append, List.map_cons]
  refine RepSeq.append ?_ ⟨c1, _, rfl, hv, ?_⟩
  ·rw [List.map_take]
   exact RepSeq.takeD _ (szd_all hfs) hcs
  ·rw [List.map_drop]
   exact RepSeq.dropD _ (szd_all hfs) hcs
 have e1 : it.toNat * sz + sz = (it.toNat + 1) * sz := by rw [Nat.add_mul, Nat.one_mul]
 have ecs : cs.take (it.toNat * sz) ++ (c1 ++ cs.drop ((it.toNat + 1) * sz)) = cs.take (it.toNat * sz + off) ++ (vs ++ cs.drop (it.toNat * sz + off + vs.length)) := by
  have htl : (cs.take (it.toNat * sz)).length = it.toNat * sz := by rw [List.length_take]; omega
  rw [← h01, ← e1]
  have h1 : cs.take (it.toNat * sz + off) = cs.take (it.toNat * sz) ++ c0.take off := by
   conv => lhs; rw [hseg]
   rw [List.take_append, htl, List.take_of_length_le (by omega), Nat.add_sub_cancel_left, List.take_append_of_le_length (by omega)]
  have h2 : cs.drop (it.toNat * sz + off + vs.length) = c0.drop (off + vs.length) ++ cs.drop (it.toNat * sz + sz) := by
   conv => lhs; rw [hseg]
   rw [Nat.add_assoc, List.drop_append, htl, List.drop_of_length_le (by omega), Nat.add_sub_cancel_left, List.nil_append, List.drop_append_of_le_length (by omega)]
  rw [h1, h2]
  simp only [List.append_assoc]
 rcases hp.rowObj with ⟨h1, h2, h3, h4⟩ | ⟨g', cap', cur, h1, h2, h3, h4, h5, h6, h7⟩
 ·rw [h1] at hv0; cases hv0
 ·rw [h1] at hv0; cases hv0
  have hcm : d.length * sz ≤ cap * sz := Nat.mul_le_mul_right _ h2
  rw [Addr.add_lit, Addr.add_lit, Nat.zero_add] at hx
  have h8 := h7.setCells vs (it.toNat * sz + off)
  have hrun := run_storeCells_cells (P := P) g (it.toNat * sz + off) vs 0 w
   (fun i hi => by
    rw [Nat.add_zero, h7.ownCell 0 rfl]
    simp
    omega)
   (fun i _ => by
    rw [Nat.add_zero]
    exact h7.ownFrozen 0 rfl _ (by omega)) hone
  rw [Nat.add_zero] at hrun
  rw [ecs] at hseq
  refine W_skip hf hw hr hd ?_ (hk (cs.take (it.toNat * sz + off) ++ (vs ++ cs.drop (it.toNat * sz + off + vs.length))) (w.setCells g (it.toNat * sz + off) vs) ?_ hseq)
  ·unfold execOp
   simp only [ho, hx, hy, Instr.storeAt, Instr.sureAddr, Sem.run_bind, Sem.run_pure, Result.andThen_ok, storeVar, Value.cells, run_sizeOf hs]
   simp only [List.size_toArray, ne_eq, not_true_eq_false, if_false]
   simpa using congrArg (fun r => Result.andThen r _) hrun
  ·rw [List.length_set, h1]
   refine h8.objRow h2 h3 (by rw [setM_size]; exact h4) ?_ ?_
   ·rw [setM_list _ _ _ (by omega), ← h5]
    exact take_patch cur.toList vs (it.toNat * sz + off) vs.length (d.length * sz) rfl (by omega) (by have h10 : cur.toList.length = cur.size := Array.length_toList; rw [h10]; exact Nat.le_trans hcm h4.1)
   ·rw [List.length_append, List.length_append, List.length_take, List.length_drop, h6, Nat.min_eq_left (by omega)]
    omega
end
end Go.Vc
end

section
namespace Go.Proofs.Ytpjgpnfdadpkkaa
open Go Go.Vc Go.RowKit
def law16_RefsMore (n : Nat) (d0 : TA0) (d1 : List UInt8) : Option Bool :=
  (((ref13_Great n d0).bind fun x_1 =>
    bif x_1 then
      (some ((true)))
    else
      bif (decide ((400 : Int) < (d1.length : Int))) then
        (some ((true)))
      else
        (law16_fresh n d0 d1).bind fun x_2 =>
        some ((!x_2)) : Option Bool)).bind fun y_1 =>
  bif y_1 then
    ((law16_wakes n).bind fun x_3 =>
    some ((x_3)))
  else
    (refs_Check n d0).bind fun x_4 =>
    bif (!(decide (x_4.2 = 0))) then
      ((law16_wakes n).bind fun x_5 =>
      some ((x_5)))
    else
      need ((([] : List TD0).length + d0.fParams.length) * 128 ≤ 140737488355328) <|
      need (((([] : List TD0) ++ d0.fParams).length + 1) * 128 ≤ 140737488355328) <|
      (refs_Check n (⟨(([] : List TD0) ++ d0.fParams) ++ [(⟨d1, (false), (false), z_TE0, ([] : List TE0)⟩ : TD0)], d0.fConds, d0.fRes, d0.fOuts⟩ : TA0)).bind fun x_6 =>
      ((need ((([] : List TF0).length + d0.fConds.length) * 224 ≤ 140737488355328) <|
        need (((([] : List TF0) ++ d0.fConds).length + 1) * 224 ≤ 140737488355328) <|
        some ((([] : List TF0) ++ d0.fConds) ++ [(⟨d1, (0 : Int), (⟨(0 : Int), [120], (0 : Int), ([] : List UInt8), ([] : List UInt8), ([] : List TH0)⟩ : TH0), (⟨(0 : Int), [120], (0 : Int), ([] : List UInt8), ([] : List UInt8), ([] : List TH0)⟩ : TH0), ([] : List TF0)⟩ : TF0)]) : Option (List TF0))).bind fun y_2 =>
      (refs_Check n (⟨d0.fParams, y_2, d0.fRes, d0.fOuts⟩ : TA0)).bind fun x_7 =>
      need ((([] : List TB0).length + d0.fRes.length) * 128 ≤ 140737488355328) <|
      need (((([] : List TB0) ++ d0.fRes).length + 1) * 128 ≤ 140737488355328) <|
      (refs_Check n (⟨d0.fParams, d0.fConds, (([] : List TB0) ++ d0.fRes) ++ [(⟨d1, [78, 101, 116], ([] : List UInt8), ([] : List TI0), ([] : List (List UInt8)), (false), ([] : List TA0)⟩ : TB0)], d0.fOuts⟩ : TA0)).bind fun x_8 =>
      ((need ((([] : List TC0).length + d0.fOuts.length) * 120 ≤ 140737488355328) <|
        need (((([] : List TC0) ++ d0.fOuts).length + 1) * 120 ≤ 140737488355328) <|
        some ((([] : List TC0) ++ d0.fOuts) ++ [(⟨d1, ([] : List UInt8), (⟨(0 : Int), [120], (0 : Int), ([] : List UInt8), ([] : List UInt8), ([] : List TH0)⟩ : TH0)⟩ : TC0)]) : Option (List TC0))).bind fun y_3 =>
      (refs_Check n (⟨d0.fParams, d0.fConds, d0.fRes, y_3⟩ : TA0)).bind fun x_9 =>
      (getI y_3 ((d0.fOuts.length : Nat) : Int)).bind fun x_10 =>
      (some (⟨x_10.fName, x_10.fCond, (⟨(3 : Int), ([] : List UInt8), (0 : Int), d1, ([] : List UInt8), ([] : List TH0)⟩ : TH0)⟩ : TC0)).bind fun x_11 =>
      (some (y_3.set ((d0.fOuts.length : Nat) : Int).toNat x_11)).bind fun x_12 =>
      (refs_Check n (⟨d0.fParams, d0.fConds, d0.fRes, x_12⟩ : TA0)).bind fun x_13 =>
      (getI x_12 ((d0.fOuts.length : Nat) : Int)).bind fun x_14 =>
      (some (⟨x_14.fName, x_14.fCond, (⟨(6 : Int), ([] : List UInt8), (0 : Int), d1, ([] : List UInt8), [(⟨(0 : Int), [120], (0 : Int), ([] : List UInt8), ([] : List UInt8), ([] : List TH0)⟩ : TH0), (⟨(0 : Int), [120], (0 : Int), ([] : List UInt8), ([] : List UInt8), ([] : List TH0)⟩ : TH0)]⟩ : TH0)⟩ : TC0)).bind fun x_15 =>
      (some (x_12.set ((d0.fOuts.length : Nat) : Int).toNat x_15)).bind fun x_16 =>
      (refs_Check n (⟨d0.fParams, d0.fConds, d0.fRes, x_16⟩ : TA0)).bind fun x_17 =>
      bif (decide (x_6.2 = 0)) then
        (bif (decide (x_7.2 = 0)) then
          (bif (decide (x_8.2 = 0)) then
            (bif (decide (x_9.2 = 0)) then
              (bif (decide (x_13.2 = 160)) then
                (need ([79, 117, 116, 112, 117, 116, 115, 47].length + d1.length ≤ 9223372036854775807) <|
                bif (decide (x_13.1 = ([79, 117, 116, 112, 117, 116, 115, 47] ++ d1))) then
                  (bif (decide (x_17.2 = 150)) then
                    ((law16_wakes n).bind fun x_18 =>
                    some ((x_18)))
                  else
                    some ((false)))
                else
                  some ((false)))
              else
                some ((false)))
            else
              some ((false)))
          else
            some ((false)))
        else
          some ((false)))
      else
        some ((false))
set_option maxRecDepth 20000 in
theorem law16_RefsMore_ok (n : Nat) (M : Mem) (c0 : List Value) (d0 : TA0) (h0 : Rep M (emb_TA0 d0) c0) (d1 : List UInt8) (r : Bool) (hF : law16_RefsMore n d0 d1 = some r) : Ok Try.prog M 3 [.agg c0.toArray, S d1] (fun _ v => v = .bool r) := by
 unfold law16_RefsMore at hF
 intro M1 hM0 w0 H w p0
 replace h0 := Rep.mono hM0 _ _ h0
 obtain ⟨A_1, cap_1, A_2, cap_2, A_3, cap_3, A_4, cap_4, rfl, h_1, h_2, h_3, h_4⟩ := TA0.opn h0
 refine R_enter 169 Try.func3 rfl rfl (by simp) fun a0 f0 => RR (Y12 (cs := #[.slice A_1 d0.fParams.length cap_1, .slice A_2 d0.fConds.length cap_2, .slice A_3 d0.fRes.length cap_3, .slice A_4 d0.fOuts.length cap_4]) (T := 27) f0 p0 fun b_1 M_1 w_1 hM_1 hc_1 p_1 _ f => ?_)
 have hc_2 := fz_box hc_1
 refine Y f 1 fun _ f => eT (R_seq (R_seq ?_))
 obtain ⟨j_1, hj_1, hF_1⟩ := bS hF
 refine R_mid (fun a_13 w_4 => ∃ y_1 : Bool, j_1 = y_1 ∧ ∃ M_2 : Mem, M_1.le M_2 ∧ Frm 169 [(1, S d1), (2, .pointer (some (⟨b_1, 0, none⟩))), (33, .bool y_1)] a_13 ∧ Hp w0 M_2 (H) w_4) ?_ ?_
 ·refine R_reg (Z (v := .agg #[.slice A_1 d0.fParams.length cap_1, .slice A_2 d0.fConds.length cap_2, .slice A_3 d0.fRes.length cap_3, .slice A_4 d0.fOuts.length cap_4]) f (Y27 (cs := [.slice A_1 d0.fParams.length cap_1, .slice A_2 d0.fConds.length cap_2, .slice A_3 d0.fRes.length cap_3, .slice A_4 d0.fOuts.length cap_4]) rfl (ad := ⟨b_1, 0, none⟩) (fun j v h => p_1.cell (hc_2 j v h))) fun _ f => ?_)
  obtain ⟨x_1, hx_1, hF_2⟩ := bS hj_1
  refine Y17 f p_1 (ref13_Great_ok n _ _ d0 (TA0.shutx (x := d0) (h_1.mono hM_1) (h_2.mono hM_1) (h_3.mono hM_1) (h_4.mono hM_1)) x_1 hx_1) fun w_2 p_2 _ f => Y f 1 fun _ f => ?_
  rcases cE hF_2 with ⟨h_5, hF_3⟩ | ⟨h_5, hF_4⟩
  ·have f := f.st 23 (cB h_5)
   refine Y f 10 fun _ f => eT ?_
   exact ⟨(true), (sI hF_3).symm, M_1, (mR _), f.kp, p_2⟩
  ·have f := f.st 23 (cB h_5)
   refine Y f 5 fun _ f => ?_
   rcases cE hF_4 with ⟨h_6, hF_5⟩ | ⟨h_6, hF_6⟩
   ·have k_3 := dI.1 h_6
    have f := f.st 28 (cB h_6)
    refine Y f 5 fun _ f => eT ?_
    exact ⟨(true), (sI hF_5).symm, M_1, (mR _), f.kp, p_2⟩
   ·have k_4 := iff_f dI h_6
    have f := f.st 28 (cB h_6)
    refine Z (v := .agg #[.slice A_1 d0.fParams.length cap_1, .slice A_2 d0.fConds.length cap_2, .slice A_3 d0.fRes.length cap_3, .slice A_4 d0.fOuts.length cap_4]) f (Y27 (cs := [.slice A_1 d0.fParams.length cap_1, .slice A_2 d0.fConds.length cap_2, .slice A_3 d0.fRes.length cap_3, .slice A_4 d0.fOuts.length cap_4]) rfl (ad := ⟨b_1, 0, none⟩) (fun j v h => p_2.cell (hc_2 j v h))) fun _ f => Y f 1 fun _ f => ?_
    obtain ⟨x_2, hx_2, hF_7⟩ := bS hF_6
    refine Y17 f p_2 (law16_fresh_ok n _ _ d0 (TA0.shutx (x := d0) (h_1.mono hM_1) (h_2.mono hM_1) (h_3.mono hM_1) (h_4.mono hM_1)) d1 x_2 hx_2) fun w_3 p_3 _ f => Y f 2 fun _ f => eT ?_
    exact ⟨(!x_2), (sI hF_7).symm, M_1, (mR _), f.kp, p_3⟩
 ·rintro a_13 w_4 ⟨y_1, hq_1, M_2, hM_2, f, p_4⟩
  subst j_1
  refine T_n (RcF f hF_1 (fun h_7 hF_8 => ?_) fun h_7 hF_10 => ?_)
  ·refine RR ?_
   obtain ⟨x_3, hx_3, hF_9⟩ := bS hF_8
   refine Y17 f p_4 (law16_wakes_ok n _  x_3 hx_3) fun w_5 p_5 _ f => Y f 1 fun _ f => eT (wp_ret (T_r (E_ret1 f rfl (by kernel_rfl : Vc.look _ 4 = some (.bool x_3)) ?_)))
   obtain rfl := sI hF_9
   exact ⟨_, rfl, M_2, (hM_1.trans hM_2), p_5, rfl⟩
  ·refine wp_skip (T_n (RR (Z (v := .agg #[.slice A_1 d0.fParams.length cap_1, .slice A_2 d0.fConds.length cap_2, .slice A_3 d0.fRes.length cap_3, .slice A_4 d0.fOuts.length cap_4]) f (Y27 (cs := [.slice A_1 d0.fParams.length cap_1, .slice A_2 d0.fConds.length cap_2, .slice A_3 d0.fRes.length cap_3, .slice A_4 d0.fOuts.length cap_4]) rfl (ad := ⟨b_1, 0, none⟩) (fun j v h => p_4.cell ((fzu hM_2 hc_2) j v h))) fun _ f => ?_)))
   obtain ⟨x_4, hx_4, hF_11⟩ := bS hF_10
   refine Y17 f p_4 (refs_Check_ok n _ _ d0 (TA0.shutx (x := d0) (h_1.mono (hM_1.trans hM_2)) (h_2.mono (hM_1.trans hM_2)) (h_3.mono (hM_1.trans hM_2)) (h_4.mono (hM_1.trans hM_2))) x_4 hx_4) fun w_6 p_6 _ f => Y f 5 fun _ f => eT (R_seq (RR (Y f 2 fun _ f => eT (RcF f hF_11 (fun h_8 hF_12 => ?_) fun h_8 hF_14 => ?_))))
   ·have k_7 : ¬ (x_4.2 = 0) := (not_iff dI).1 h_8
    refine RR ?_
    obtain ⟨x_5, hx_5, hF_13⟩ := bS hF_12
    refine Y17 f p_6 (law16_wakes_ok n _  x_5 hx_5) fun w_7 p_7 _ f => Y f 1 fun _ f => eT (wp_ret (T_r (E_ret1 f rfl (by kernel_rfl : Vc.look _ 4 = some (.bool x_5)) ?_)))
    obtain rfl := sI hF_13
    exact ⟨_, rfl, M_2, (hM_1.trans hM_2), p_7, rfl⟩
   ·have k_8 : ¬ (¬ (x_4.2 = 0)) := iff_f (not_iff dI) h_8
    refine wp_skip (T_n (RR (Y f 1 fun _ f => Y11 f p_6 (.cells #[.int .i8 0, S [], .int .i64 0, S [], S [], .slice none 0 0] 37 (0, 0)) fun b_2 w_8 p_8 _ f => Y22 (vs := [.int .i8 0, S [120], .int .i64 0, S [], S [], .slice none 0 0]) (j := 0) f p_8 rfl rfl (by simp [Value.oneCell', S]) (by simp) (by decide) (cs' := #[.int .i8 0, S [120], .int .i64 0, S [], S [], .slice none 0 0]) (by kernel_rfl) fun w_9 p_9 _ f => eT (RR (Z (v := .agg #[.slice A_1 d0.fParams.length cap_1, .slice A_2 d0.fConds.length cap_2, .slice A_3 d0.fRes.length cap_3, .slice A_4 d0.fOuts.length cap_4]) f (Y27 (cs := [.slice A_1 d0.fParams.length cap_1, .slice A_2 d0.fConds.length cap_2, .slice A_3 d0.fRes.length cap_3, .slice A_4 d0.fOuts.length cap_4]) rfl (ad := ⟨b_1, 0, none⟩) (fun j v h => p_9.cell ((fzu hM_2 hc_2) j v h))) fun _ f => Y11 f p_9 (.cells #[.slice none 0 0, .slice none 0 0, .slice none 0 0, .slice none 0 0] 27 (0, 0)) fun b_3 w_10 p_10 _ f => Y22 (vs := [.slice A_1 d0.fParams.length cap_1, .slice A_2 d0.fConds.length cap_2, .slice A_3 d0.fRes.length cap_3, .slice A_4 d0.fOuts.length cap_4]) (j := 0) f p_10 rfl rfl (by simp [Value.oneCell', S]) (by simp) (by decide) (cs' := #[.slice A_1 d0.fParams.length cap_1, .slice A_2 d0.fConds.length cap_2, .slice A_3 d0.fRes.length cap_3, .slice A_4 d0.fOuts.length cap_4]) (by kernel_rfl) fun w_11 p_11 _ f => eT (RR (V_allocS (k := 0) (c := 0) f p_11 (.cells #[] 43 (0, 0)) (by kernel_rfl) (fun _ => by kernel_rfl) fun b_4 w_12 p_12 _ f => Y f 1 fun _ f => ?_)))))))
    refine Y14 f p_12 (fzu hM_2 hc_2) 0 rfl fun _ f => ?_
    have hr_1 : RepSeq M_2 (([] : List TD0).map emb_TD0) [] := rfl
    have p_13 : Hp w0 M_2 ((Ent.row 43 10 (.slice (some ⟨b_4, 0, none⟩) 0 0) ([] : List TD0).length []) :: (Ent.obj b_3 (.cells #[.slice A_1 d0.fParams.length cap_1, .slice A_2 d0.fConds.length cap_2, .slice A_3 d0.fRes.length cap_3, .slice A_4 d0.fOuts.length cap_4] 27 (0, 0))) :: (Ent.obj b_2 (.cells #[.int .i8 0, S [120], .int .i64 0, S [], S [], .slice none 0 0] 37 (0, 0))) :: H) w_12 := p_12.objRow (n := 0) (cap := 0) (size := 10) (by decide) (by decide) (blk_eq (by decide) rfl) rfl rfl
    obtain ⟨g_1, hF_15⟩ := nS hF_14
    refine Y20 (z := .agg #[S [], .bool false, .bool false, .int .i8 0, .bool false, .int .i64 0, S [], .slice none 0 0, .slice none 0 0, .slice none 0 0]) (f := emb_TD0) (xs := ([] : List TD0)) (ys := d0.fParams) (c := cap_1) f p_13 hr_1 (h_1.mono (hM_1.trans hM_2)) rfl rfl rfl g_1 (by omega) fun A_5 cap_5 cs_1 w_13 p_14 hr_2 _ f => Y f 2 fun _ f => V_allocS (k := 1) (c := 1) f p_14 (.cells #[S d1, .bool false, .bool false, .int .i8 0, .bool false, .int .i64 0, S [], .slice none 0 0, .slice none 0 0, .slice none 0 0] 43 (0, 0)) (by kernel_rfl) (fun _ => by kernel_rfl) fun b_5 w_14 p_15 _ f => ?_
    have p_16 := p_15.pl [1]
    obtain ⟨g_2, hF_16⟩ := nS hF_15
    refine Y19 (z := .agg #[S [], .bool false, .bool false, .int .i8 0, .bool false, .int .i64 0, S [], .slice none 0 0, .slice none 0 0, .slice none 0 0]) (f := emb_TD0) (xs := ([] : List TD0) ++ d0.fParams) (ys := [(⟨d1, (false), (false), z_TE0, ([] : List TE0)⟩ : TD0)]) (news := [S d1, .bool false, .bool false, .int .i8 0, .bool false, .int .i64 0, S [], .slice none 0 0, .slice none 0 0, .slice none 0 0]) (ad := ⟨b_5, 0, none⟩) (m := 1) (c := 1) f p_16 hr_2 (by exact ⟨_, _, rfl, TD0.shut Sli.nil Sli.nil Sli.nil, rfl⟩) rfl rfl rfl rfl (own_cells (p_16.ownCell 1 rfl) 0 rfl) (by exact g_2) (by have hg_ := g_2; first | omega | (simp only [List.length_cons, List.length_nil] at *; omega)) fun A_6 cap_6 cs_2 w_15 p_17 hr_3 _ f => ?_
    have p_18 := p_17.pl [1]
    have p_19 := p_18.drop
    refine Y f 1 fun _ f => Y21 f p_19 1 rfl rfl (b := b_3) (j := 0) (v := .slice A_6 ((([] : List TD0) ++ d0.fParams) ++ [(⟨d1, (false), (false), z_TE0, ([] : List TE0)⟩ : TD0)]).length cap_6) rfl (by exact rfl) (by simp) (by simp) ((Ent.row 43 10 (.slice A_6 ((([] : List TD0) ++ d0.fParams) ++ [(⟨d1, (false), (false), z_TE0, ([] : List TE0)⟩ : TD0)]).length cap_6) ((([] : List TD0) ++ d0.fParams) ++ [(⟨d1, (false), (false), z_TE0, ([] : List TE0)⟩ : TD0)]).length cs_2) :: (Ent.obj b_3 (.cells #[.slice A_6 ((([] : List TD0) ++ d0.fParams) ++ [(⟨d1, (false), (false), z_TE0, ([] : List TE0)⟩ : TD0)]).length cap_6, .slice A_2 d0.fConds.length cap_2, .slice A_3 d0.fRes.length cap_3, .slice A_4 d0.fOuts.length cap_4] 27 (0, 0))) :: (Ent.obj b_2 (.cells #[.int .i8 0, S [120], .int .i64 0, S [], S [], .slice none 0 0] 37 (0, 0))) :: H) rfl fun w_16 p_20 _ f => eT (RR (Z (v := .agg #[.slice A_6 ((([] : List TD0) ++ d0.fParams) ++ [(⟨d1, (false), (false), z_TE0, ([] : List TE0)⟩ : TD0)]).length cap_6, .slice A_2 d0.fConds.length cap_2, .slice A_3 d0.fRes.length cap_3, .slice A_4 d0.fOuts.length cap_4]) f (Y27 (cs := [.slice A_6 ((([] : List TD0) ++ d0.fParams) ++ [(⟨d1, (false), (false), z_TE0, ([] : List TE0)⟩ : TD0)]).length cap_6, .slice A_2 d0.fConds.length cap_2, .slice A_3 d0.fRes.length cap_3, .slice A_4 d0.fOuts.length cap_4]) rfl (ad := ⟨b_3, 0, none⟩) (own_cells (p_20.ownCell 1 rfl) 0 rfl)) fun _ f => ?_))
    obtain ⟨M_3, A_7, cap_7, hM_3, hv_1, p_21, h_9, hb_1⟩ := p_20.lend (f := emb_TD0) (xs := (([] : List TD0) ++ d0.fParams) ++ [(⟨d1, (false), (false), z_TE0, ([] : List TE0)⟩ : TD0)]) szd_TD0 hr_3
    have f := Frm.set f 55 (v := .agg #[.slice A_6 ((([] : List TD0) ++ d0.fParams) ++ [(⟨d1, (false), (false), z_TE0, ([] : List TE0)⟩ : TD0)]).length cap_6, .slice A_2 d0.fConds.length cap_2, .slice A_3 d0.fRes.length cap_3, .slice A_4 d0.fOuts.length cap_4]) (v' := .agg #[.slice A_7 ((([] : List TD0) ++ d0.fParams) ++ [(⟨d1, (false), (false), z_TE0, ([] : List TE0)⟩ : TD0)]).length cap_7, .slice A_2 d0.fConds.length cap_2, .slice A_3 d0.fRes.length cap_3, .slice A_4 d0.fOuts.length cap_4]) (by kernel_rfl) (by rw [hv_1])
    have f := f.st 52 (hv_1)
    have p_22 : Hp w0 M_3 ((Ent.obj b_3 (.cells #[.slice A_7 ((([] : List TD0) ++ d0.fParams) ++ [(⟨d1, (false), (false), z_TE0, ([] : List TE0)⟩ : TD0)]).length cap_7, .slice A_2 d0.fConds.length cap_2, .slice A_3 d0.fRes.length cap_3, .slice A_4 d0.fOuts.length cap_4] 27 (0, 0))) :: (Ent.obj b_2 (.cells #[.int .i8 0, S [120], .int .i64 0, S [], S [], .slice none 0 0] 37 (0, 0))) :: H) w_16 := by rw [hv_1] at p_21; exact p_21
    obtain ⟨x_6, hx_6, hF_17⟩ := bS hF_16
    refine Y17 f p_22 (refs_Check_ok n _ _ (⟨(([] : List TD0) ++ d0.fParams) ++ [(⟨d1, (false), (false), z_TE0, ([] : List TE0)⟩ : TD0)], d0.fConds, d0.fRes, d0.fOuts⟩ : TA0) (TA0.shut h_9 (h_2.mono ((hM_1.trans hM_2).trans hM_3)) (h_3.mono ((hM_1.trans hM_2).trans hM_3)) (h_4.mono ((hM_1.trans hM_2).trans hM_3))) x_6 hx_6) fun w_17 p_23 _ f => ?_
    obtain ⟨M_4, hM_4, p_24⟩ := hb_1 _ _ _ (mR _) p_23
    have p_25 : Hp w0 M_4 ((Ent.row 43 10 (.slice A_6 ((([] : List TD0) ++ d0.fParams) ++ [(⟨d1, (false), (false), z_TE0, ([] : List TE0)⟩ : TD0)]).length cap_6) ((([] : List TD0) ++ d0.fParams) ++ [(⟨d1, (false), (false), z_TE0, ([] : List TE0)⟩ : TD0)]).length cs_2) :: (Ent.obj b_3 (.cells #[.slice A_6 ((([] : List TD0) ++ d0.fParams) ++ [(⟨d1, (false), (false), z_TE0, ([] : List TE0)⟩ : TD0)]).length cap_6, .slice A_2 d0.fConds.length cap_2, .slice A_3 d0.fRes.length cap_3, .slice A_4 d0.fOuts.length cap_4] 27 (0, 0))) :: (Ent.obj b_2 (.cells #[.int .i8 0, S [120], .int .i64 0, S [], S [], .slice none 0 0] 37 (0, 0))) :: H) w_17 := by rw [hv_1] at p_24 ⊢; exact p_24
    have f := f.st 52 (hv_1.symm)
    have f := Frm.set f 55 (v := .agg #[.slice A_7 ((([] : List TD0) ++ d0.fParams) ++ [(⟨d1, (false), (false), z_TE0, ([] : List TE0)⟩ : TD0)]).length cap_7, .slice A_2 d0.fConds.length cap_2, .slice A_3 d0.fRes.length cap_3, .slice A_4 d0.fOuts.length cap_4]) (v' := .agg #[.slice A_6 ((([] : List TD0) ++ d0.fParams) ++ [(⟨d1, (false), (false), z_TE0, ([] : List TE0)⟩ : TD0)]).length cap_6, .slice A_2 d0.fConds.length cap_2, .slice A_3 d0.fRes.length cap_3, .slice A_4 d0.fOuts.length cap_4]) (by kernel_rfl) (by rw [hv_1])
    refine Y f 5 fun _ f => eT (RR (Z (v := .agg #[.slice A_1 d0.fParams.length cap_1, .slice A_2 d0.fConds.length cap_2, .slice A_3 d0.fRes.length cap_3, .slice A_4 d0.fOuts.length cap_4]) f (Y27 (cs := [.slice A_1 d0.fParams.length cap_1, .slice A_2 d0.fConds.length cap_2, .slice A_3 d0.fRes.length cap_3, .slice A_4 d0.fOuts.length cap_4]) rfl (ad := ⟨b_1, 0, none⟩) (fun j v h => p_25.cell ((fzu (hM_2.trans hM_4) hc_2) j v h))) fun _ f => ?_))
    have p_26 := p_25.pl [1]
    refine Y22 (vs := [.slice A_1 d0.fParams.length cap_1, .slice A_2 d0.fConds.length cap_2, .slice A_3 d0.fRes.length cap_3, .slice A_4 d0.fOuts.length cap_4]) (j := 0) f p_26 rfl rfl (by simp [Value.oneCell', S]) (by simp) (by decide) (cs' := #[.slice A_1 d0.fParams.length cap_1, .slice A_2 d0.fConds.length cap_2, .slice A_3 d0.fRes.length cap_3, .slice A_4 d0.fOuts.length cap_4]) (by kernel_rfl) fun w_18 p_27 _ f => eT (R_seq ?_)
    obtain ⟨j_2, hj_2, hF_18⟩ := bS hF_17
    refine R_mid (fun a_75 w_51 => ∃ y_2 : List TF0, j_2 = y_2 ∧ ∃ M_5 : Mem, M_4.le M_5 ∧ ∃ (A_16 : Option Addr), ∃ (cap_16 : Nat), ∃ (cs_11 : List Value), RepSeq M_5 (y_2.map emb_TF0) cs_11 ∧ Frm 169 [(1, S d1), (2, .pointer (some (⟨b_1, 0, none⟩))), (7, .pointer (some (⟨b_2, 0, none⟩))), (8, .pointer (some (⟨b_3, 0, none⟩))), (10, .int .i64 x_6.2)] a_75 ∧ Hp w0 M_5 ((Ent.row 45 15 (.slice A_16 y_2.length cap_16) y_2.length cs_11) :: (Ent.obj b_3 (.cells #[.slice A_1 d0.fParams.length cap_1, .slice A_16 y_2.length cap_16, .slice A_3 d0.fRes.length cap_3, .slice A_4 d0.fOuts.length cap_4] 27 (0, 0))) :: (Ent.row 43 10 (.slice A_6 ((([] : List TD0) ++ d0.fParams) ++ [(⟨d1, (false), (false), z_TE0, ([] : List TE0)⟩ : TD0)]).length cap_6) ((([] : List TD0) ++ d0.fParams) ++ [(⟨d1, (false), (false), z_TE0, ([] : List TE0)⟩ : TD0)]).length cs_2) :: (Ent.obj b_2 (.cells #[.int .i8 0, S [120], .int .i64 0, S [], S [], .slice none 0 0] 37 (0, 0))) :: H) w_51) ?_ ?_
    ·obtain ⟨g_3, hF_19⟩ := nS hj_2
     obtain ⟨g_4, hF_20⟩ := nS hF_19
     refine R_plan (ks := [10, 11]) (E := []) (Hr := ((Ent.obj b_3 (.cells #[.slice A_1 d0.fParams.length cap_1, .slice A_2 d0.fConds.length cap_2, .slice A_3 d0.fRes.length cap_3, .slice A_4 d0.fOuts.length cap_4] 27 (0, 0))) :: (Ent.row 43 10 (.slice A_6 ((([] : List TD0) ++ d0.fParams) ++ [(⟨d1, (false), (false), z_TE0, ([] : List TE0)⟩ : TD0)]).length cap_6) ((([] : List TD0) ++ d0.fParams) ++ [(⟨d1, (false), (false), z_TE0, ([] : List TE0)⟩ : TD0)]).length cs_2) :: (Ent.obj b_2 (.cells #[.int .i8 0, S [120], .int .i64 0, S [], S [], .slice none 0 0] 37 (0, 0))) :: H)) (.quiet 1 (.quiet 2 (.quiet 4 (.quiet 5 (.quiet 6 (.quiet 7 (.alt 0 (.alt 3 (.alt 8 (.alt 9 .done .none) .none) (.alt 8 (.alt 3 (.alt 9 .done .none) .none) .none)) (.alt 8 (.alt 0 (.alt 3 (.alt 9 .done .none) .none) .none) .none)))))))) p_27 (by kernel_rfl) (by kernel_rfl) (by kernel_rfl) (Y1 (v := .pointer (some ((⟨b_1, 0, none⟩ : Addr).add 1))) rfl f rfl rfl (fun _ _ => by kernel_rfl) fun _ f => Y1 (v := .slice A_2 d0.fConds.length cap_2) rfl f rfl rfl (fun _ pq => Y26 (v := .slice A_2 d0.fConds.length cap_2) rfl (ad := (⟨b_1, 0, none⟩ : Addr).add 1) (pq.cell ((fzu (hM_2.trans hM_4) hc_2) 1 _ rfl))) fun _ f => Y1 (v := S d1) rfl f rfl rfl (fun _ _ => by kernel_rfl) fun _ f => Y1 (v := .agg #[.int .i8 0, S [120], .int .i64 0, S [], S [], .slice none 0 0]) rfl f rfl rfl (fun _ pq => Y27 (cs := [.int .i8 0, S [120], .int .i64 0, S [], S [], .slice none 0 0]) rfl (ad := ⟨b_2, 0, none⟩) (own_cells (pq.ownCell 2 rfl) 0 rfl)) fun _ f => Y1 (v := .agg #[.int .i8 0, S [120], .int .i64 0, S [], S [], .slice none 0 0]) rfl f rfl rfl (fun _ pq => Y27 (cs := [.int .i8 0, S [120], .int .i64 0, S [], S [], .slice none 0 0]) rfl (ad := ⟨b_2, 0, none⟩) (own_cells (pq.ownCell 2 rfl) 0 rfl)) fun _ f => Y1 (v := .agg #[S d1, .int .i8 0, .int .i8 0, S [120], .int .i64 0, S [], S [], .slice none 0 0, .int .i8 0, S [120], .int .i64 0, S [], S [], .slice none 0 0, .slice none 0 0]) rfl f rfl rfl (fun _ _ => by kernel_rfl) fun _ f => N_alt rfl (fun w_23 p_36 => ?_) ?_)
     ·refine V_allocS (k := 0) (c := 0) f p_36 (.cells #[] 45 (0, 0)) (by kernel_rfl) (fun _ => by kernel_rfl) fun b_8 w_24 p_37 _ f => W_end rfl (N_goN 1 (mR _) p_37 rfl (N_alt rfl (fun w_25 p_38 => ?_) ?_))
      ·have hr_7 : RepSeq M_4 (([] : List TF0).map emb_TF0) [] := rfl
       have p_39 : Hp w0 M_4 ((Ent.row 45 15 (.slice (some ⟨b_8, 0, none⟩) 0 0) ([] : List TF0).length []) :: (Ent.obj b_3 (.cells #[.slice A_1 d0.fParams.length cap_1, .slice A_2 d0.fConds.length cap_2, .slice A_3 d0.fRes.length cap_3, .slice A_4 d0.fOuts.length cap_4] 27 (0, 0))) :: (Ent.row 43 10 (.slice A_6 ((([] : List TD0) ++ d0.fParams) ++ [(⟨d1, (false), (false), z_TE0, ([] : List TE0)⟩ : TD0)]).length cap_6) ((([] : List TD0) ++ d0.fParams) ++ [(⟨d1, (false), (false), z_TE0, ([] : List TE0)⟩ : TD0)]).length cs_2) :: (Ent.obj b_2 (.cells #[.int .i8 0, S [120], .int .i64 0, S [], S [], .slice none 0 0] 37 (0, 0))) :: H) w_25 := p_38.objRow (n := 0) (cap := 0) (size := 15) (by decide) (by decide) (blk_eq (by decide) rfl) rfl rfl
       refine Y20 (z := .agg #[S [], .int .i8 0, .int .i8 0, S [], .int .i64 0, S [], S [], .slice none 0 0, .int .i8 0, S [], .int .i64 0, S [], S [], .slice none 0 0, .slice none 0 0]) (f := emb_TF0) (xs := ([] : List TF0)) (ys := d0.fConds) (c := cap_2) f p_39 hr_7 (h_2.mono ((hM_1.trans hM_2).trans hM_4)) rfl rfl rfl g_3 (by omega) fun A_10 cap_10 cs_5 w_26 p_40 hr_8 _ f => W_end rfl (N_goN 1 (mR _) p_40 rfl (N_alt rfl (fun w_27 p_41 => ?_) ?_))
       ·refine V_allocS (k := 1) (c := 1) f p_41 (.cells #[S d1, .int .i8 0, .int .i8 0, S [120], .int .i64 0, S [], S [], .slice none 0 0, .int .i8 0, S [120], .int .i64 0, S [], S [], .slice none 0 0, .slice none 0 0] 45 (0, 0)) (by kernel_rfl) (fun _ => by kernel_rfl) fun b_9 w_28 p_42 _ f => W_end rfl (N_goN 2 (mR _) p_42 rfl (N_alt rfl (fun w_29 p_43 => ?_) ?_))
        ·have p_44 := p_43.pl [1]
         refine Y19 (z := .agg #[S [], .int .i8 0, .int .i8 0, S [], .int .i64 0, S [], S [], .slice none 0 0, .int .i8 0, S [], .int .i64 0, S [], S [], .slice none 0 0, .slice none 0 0]) (f := emb_TF0) (xs := ([] : List TF0) ++ d0.fConds) (ys := [(⟨d1, (0 : Int), (⟨(0 : Int), [120], (0 : Int), ([] : List UInt8), ([] : List UInt8), ([] : List TH0)⟩ : TH0), (⟨(0 : Int), [120], (0 : Int), ([] : List UInt8), ([] : List UInt8), ([] : List TH0)⟩ : TH0), ([] : List TF0)⟩ : TF0)]) (news := [S d1, .int .i8 0, .int .i8 0, S [120], .int .i64 0, S [], S [], .slice none 0 0, .int .i8 0, S [120], .int .i64 0, S [], S [], .slice none 0 0, .slice none 0 0]) (ad := ⟨b_9, 0, none⟩) (m := 1) (c := 1) f p_44 hr_8 (by exact ⟨_, _, rfl, TF0.shut Sli.nil Sli.nil Sli.nil, rfl⟩) rfl rfl rfl rfl (own_cells (p_44.ownCell 1 rfl) 0 rfl) (by exact g_4) (by have hg_ := g_4; first | omega | (simp only [List.length_cons, List.length_nil] at *; omega)) fun A_11 cap_11 cs_6 w_30 p_45 hr_9 _ f => ?_
         have p_46 := p_45.pl [1]
         have p_47 := p_46.drop
         refine W_end rfl (N_goN 1 (mR _) p_47 rfl (N_tail fun w_31 p_48 => Y f 1 fun _ f => Y21 f p_48 1 rfl rfl (b := b_3) (j := 1) (v := .slice A_11 ((([] : List TF0) ++ d0.fConds) ++ [(⟨d1, (0 : Int), (⟨(0 : Int), [120], (0 : Int), ([] : List UInt8), ([] : List UInt8), ([] : List TH0)⟩ : TH0), (⟨(0 : Int), [120], (0 : Int), ([] : List UInt8), ([] : List UInt8), ([] : List TH0)⟩ : TH0), ([] : List TF0)⟩ : TF0)]).length cap_11) rfl (by exact rfl) (by simp) (by simp) ((Ent.row 45 15 (.slice A_11 ((([] : List TF0) ++ d0.fConds) ++ [(⟨d1, (0 : Int), (⟨(0 : Int), [120], (0 : Int), ([] : List UInt8), ([] : List UInt8), ([] : List TH0)⟩ : TH0), (⟨(0 : Int), [120], (0 : Int), ([] : List UInt8), ([] : List UInt8), ([] : List TH0)⟩ : TH0), ([] : List TF0)⟩ : TF0)]).length cap_11) ((([] : List TF0) ++ d0.fConds) ++ [(⟨d1, (0 : Int), (⟨(0 : Int), [120], (0 : Int), ([] : List UInt8), ([] : List UInt8), ([] : List TH0)⟩ : TH0), (⟨(0 : Int), [120], (0 : Int), ([] : List UInt8), ([] : List UInt8), ([] : List TH0)⟩ : TH0), ([] : List TF0)⟩ : TF0)]).length cs_6) :: (Ent.obj b_3 (.cells #[.slice A_1 d0.fParams.length cap_1, .slice A_11 ((([] : List TF0) ++ d0.fConds) ++ [(⟨d1, (0 : Int), (⟨(0 : Int), [120], (0 : Int), ([] : List UInt8), ([] : List UInt8), ([] : List TH0)⟩ : TH0), (⟨(0 : Int), [120], (0 : Int), ([] : List UInt8), ([] : List UInt8), ([] : List TH0)⟩ : TH0), ([] : List TF0)⟩ : TF0)]).length cap_11, .slice A_3 d0.fRes.length cap_3, .slice A_4 d0.fOuts.length cap_4] 27 (0, 0))) :: (Ent.row 43 10 (.slice A_6 ((([] : List TD0) ++ d0.fParams) ++ [(⟨d1, (false), (false), z_TE0, ([] : List TE0)⟩ : TD0)]).length cap_6) ((([] : List TD0) ++ d0.fParams) ++ [(⟨d1, (false), (false), z_TE0, ([] : List TE0)⟩ : TD0)]).length cs_2) :: (Ent.obj b_2 (.cells #[.int .i8 0, S [120], .int .i64 0, S [], S [], .slice none 0 0] 37 (0, 0))) :: H) rfl fun w_32 p_49 _ f => W_end rfl (N_te (T_n ?_))))
         exact ⟨(([] : List TF0) ++ d0.fConds) ++ [(⟨d1, (0 : Int), (⟨(0 : Int), [120], (0 : Int), ([] : List UInt8), ([] : List UInt8), ([] : List TH0)⟩ : TH0), (⟨(0 : Int), [120], (0 : Int), ([] : List UInt8), ([] : List UInt8), ([] : List TH0)⟩ : TH0), ([] : List TF0)⟩ : TF0)], (sI hF_20).symm, M_4, (mR _), A_11, cap_11, cs_6, hr_9, f.kp, p_49⟩
        exact N_none
       exact N_none
      refine N_alt rfl (fun w_33 p_50 => ?_) ?_
      ·refine V_allocS (k := 1) (c := 1) f p_50 (.cells #[S d1, .int .i8 0, .int .i8 0, S [120], .int .i64 0, S [], S [], .slice none 0 0, .int .i8 0, S [120], .int .i64 0, S [], S [], .slice none 0 0, .slice none 0 0] 45 (0, 0)) (by kernel_rfl) (fun _ => by kernel_rfl) fun b_10 w_34 p_51 _ f => W_end rfl (N_goN 2 (mR _) p_51 rfl (N_alt rfl (fun w_35 p_52 => ?_) ?_))
       ·have p_53 := p_52.pl [1]
        have hr_10 : RepSeq M_4 (([] : List TF0).map emb_TF0) [] := rfl
        have p_54 : Hp w0 M_4 ((Ent.row 45 15 (.slice (some ⟨b_8, 0, none⟩) 0 0) ([] : List TF0).length []) :: (Ent.obj b_10 (.cells #[S d1, .int .i8 0, .int .i8 0, S [120], .int .i64 0, S [], S [], .slice none 0 0, .int .i8 0, S [120], .int .i64 0, S [], S [], .slice none 0 0, .slice none 0 0] 45 (0, 0))) :: (Ent.obj b_3 (.cells #[.slice A_1 d0.fParams.length cap_1, .slice A_2 d0.fConds.length cap_2, .slice A_3 d0.fRes.length cap_3, .slice A_4 d0.fOuts.length cap_4] 27 (0, 0))) :: (Ent.row 43 10 (.slice A_6 ((([] : List TD0) ++ d0.fParams) ++ [(⟨d1, (false), (false), z_TE0, ([] : List TE0)⟩ : TD0)]).length cap_6) ((([] : List TD0) ++ d0.fParams) ++ [(⟨d1, (false), (false), z_TE0, ([] : List TE0)⟩ : TD0)]).length cs_2) :: (Ent.obj b_2 (.cells #[.int .i8 0, S [120], .int .i64 0, S [], S [], .slice none 0 0] 37 (0, 0))) :: H) w_35 := p_53.objRow (n := 0) (cap := 0) (size := 15) (by decide) (by decide) (blk_eq (by decide) rfl) rfl rfl
        refine Y20 (z := .agg #[S [], .int .i8 0, .int .i8 0, S [], .int .i64 0, S [], S [], .slice none 0 0, .int .i8 0, S [], .int .i64 0, S [], S [], .slice none 0 0, .slice none 0 0]) (f := emb_TF0) (xs := ([] : List TF0)) (ys := d0.fConds) (c := cap_2) f p_54 hr_10 (h_2.mono ((hM_1.trans hM_2).trans hM_4)) rfl rfl rfl g_3 (by omega) fun A_12 cap_12 cs_7 w_36 p_55 hr_11 _ f => W_end rfl (N_goN 2 (mR _) p_55 rfl (N_alt rfl (fun w_37 p_56 => ?_) ?_))
        ·refine Y19 (z := .agg #[S [], .int .i8 0, .int .i8 0, S [], .int .i64 0, S [], S [], .slice none 0 0, .int .i8 0, S [], .int .i64 0, S [], S [], .slice none 0 0, .slice none 0 0]) (f := emb_TF0) (xs := ([] : List TF0) ++ d0.fConds) (ys := [(⟨d1, (0 : Int), (⟨(0 : Int), [120], (0 : Int), ([] : List UInt8), ([] : List UInt8), ([] : List TH0)⟩ : TH0), (⟨(0 : Int), [120], (0 : Int), ([] : List UInt8), ([] : List UInt8), ([] : List TH0)⟩ : TH0), ([] : List TF0)⟩ : TF0)]) (news := [S d1, .int .i8 0, .int .i8 0, S [120], .int .i64 0, S [], S [], .slice none 0 0, .int .i8 0, S [120], .int .i64 0, S [], S [], .slice none 0 0, .slice none 0 0]) (ad := ⟨b_10, 0, none⟩) (m := 1) (c := 1) f p_56 hr_11 (by exact ⟨_, _, rfl, TF0.shut Sli.nil Sli.nil Sli.nil, rfl⟩) rfl rfl rfl rfl (own_cells (p_56.ownCell 1 rfl) 0 rfl) (by exact g_4) (by have hg_ := g_4; first | omega | (simp only [List.length_cons, List.length_nil] at *; omega)) fun A_13 cap_13 cs_8 w_38 p_57 hr_12 _ f => ?_
         have p_58 := p_57.pl [1]
         have p_59 := p_58.drop
         refine W_end rfl (N_goN 1 (mR _) p_59 rfl (N_tail fun w_39 p_60 => Y f 1 fun _ f => Y21 f p_60 1 rfl rfl (b := b_3) (j := 1) (v := .slice A_13 ((([] : List TF0) ++ d0.fConds) ++ [(⟨d1, (0 : Int), (⟨(0 : Int), [120], (0 : Int), ([] : List UInt8), ([] : List UInt8), ([] : List TH0)⟩ : TH0), (⟨(0 : Int), [120], (0 : Int), ([] : List UInt8), ([] : List UInt8), ([] : List TH0)⟩ : TH0), ([] : List TF0)⟩ : TF0)]).length cap_13) rfl (by exact rfl) (by simp) (by simp) ((Ent.row 45 15 (.slice A_13 ((([] : List TF0) ++ d0.fConds) ++ [(⟨d1, (0 : Int), (⟨(0 : Int), [120], (0 : Int), ([] : List UInt8), ([] : List UInt8), ([] : List TH0)⟩ : TH0), (⟨(0 : Int), [120], (0 : Int), ([] : List UInt8), ([] : List UInt8), ([] : List TH0)⟩ : TH0), ([] : List TF0)⟩ : TF0)]).length cap_13) ((([] : List TF0) ++ d0.fConds) ++ [(⟨d1, (0 : Int), (⟨(0 : Int), [120], (0 : Int), ([] : List UInt8), ([] : List UInt8), ([] : List TH0)⟩ : TH0), (⟨(0 : Int), [120], (0 : Int), ([] : List UInt8), ([] : List UInt8), ([] : List TH0)⟩ : TH0), ([] : List TF0)⟩ : TF0)]).length cs_8) :: (Ent.obj b_3 (.cells #[.slice A_1 d0.fParams.length cap_1, .slice A_13 ((([] : List TF0) ++ d0.fConds) ++ [(⟨d1, (0 : Int), (⟨(0 : Int), [120], (0 : Int), ([] : List UInt8), ([] : List UInt8), ([] : List TH0)⟩ : TH0), (⟨(0 : Int), [120], (0 : Int), ([] : List UInt8), ([] : List UInt8), ([] : List TH0)⟩ : TH0), ([] : List TF0)⟩ : TF0)]).length cap_13, .slice A_3 d0.fRes.length cap_3, .slice A_4 d0.fOuts.length cap_4] 27 (0, 0))) :: (Ent.row 43 10 (.slice A_6 ((([] : List TD0) ++ d0.fParams) ++ [(⟨d1, (false), (false), z_TE0, ([] : List TE0)⟩ : TD0)]).length cap_6) ((([] : List TD0) ++ d0.fParams) ++ [(⟨d1, (false), (false), z_TE0, ([] : List TE0)⟩ : TD0)]).length cs_2) :: (Ent.obj b_2 (.cells #[.int .i8 0, S [120], .int .i64 0, S [], S [], .slice none 0 0] 37 (0, 0))) :: H) rfl fun w_40 p_61 _ f => W_end rfl (N_te (T_n ?_))))
         exact ⟨(([] : List TF0) ++ d0.fConds) ++ [(⟨d1, (0 : Int), (⟨(0 : Int), [120], (0 : Int), ([] : List UInt8), ([] : List UInt8), ([] : List TH0)⟩ : TH0), (⟨(0 : Int), [120], (0 : Int), ([] : List UInt8), ([] : List UInt8), ([] : List TH0)⟩ : TH0), ([] : List TF0)⟩ : TF0)], (sI hF_20).symm, M_4, (mR _), A_13, cap_13, cs_8, hr_12, f.kp, p_61⟩
        exact N_none
       exact N_none
      exact N_none
     refine N_alt rfl (fun w_41 p_62 => ?_) ?_
     ·refine V_allocS (k := 1) (c := 1) f p_62 (.cells #[S d1, .int .i8 0, .int .i8 0, S [120], .int .i64 0, S [], S [], .slice none 0 0, .int .i8 0, S [120], .int .i64 0, S [], S [], .slice none 0 0, .slice none 0 0] 45 (0, 0)) (by kernel_rfl) (fun _ => by kernel_rfl) fun b_11 w_42 p_63 _ f => W_end rfl (N_goN 1 (mR _) p_63 rfl (N_alt rfl (fun w_43 p_64 => ?_) ?_))
      ·refine V_allocS (k := 0) (c := 0) f p_64 (.cells #[] 45 (0, 0)) (by kernel_rfl) (fun _ => by kernel_rfl) fun b_12 w_44 p_65 _ f => W_end rfl (N_goN 2 (mR _) p_65 rfl (N_alt rfl (fun w_45 p_66 => ?_) ?_))
       ·have hr_13 : RepSeq M_4 (([] : List TF0).map emb_TF0) [] := rfl
        have p_67 : Hp w0 M_4 ((Ent.row 45 15 (.slice (some ⟨b_12, 0, none⟩) 0 0) ([] : List TF0).length []) :: (Ent.obj b_11 (.cells #[S d1, .int .i8 0, .int .i8 0, S [120], .int .i64 0, S [], S [], .slice none 0 0, .int .i8 0, S [120], .int .i64 0, S [], S [], .slice none 0 0, .slice none 0 0] 45 (0, 0))) :: (Ent.obj b_3 (.cells #[.slice A_1 d0.fParams.length cap_1, .slice A_2 d0.fConds.length cap_2, .slice A_3 d0.fRes.length cap_3, .slice A_4 d0.fOuts.length cap_4] 27 (0, 0))) :: (Ent.row 43 10 (.slice A_6 ((([] : List TD0) ++ d0.fParams) ++ [(⟨d1, (false), (false), z_TE0, ([] : List TE0)⟩ : TD0)]).length cap_6) ((([] : List TD0) ++ d0.fParams) ++ [(⟨d1, (false), (false), z_TE0, ([] : List TE0)⟩ : TD0)]).length cs_2) :: (Ent.obj b_2 (.cells #[.int .i8 0, S [120], .int .i64 0, S [], S [], .slice none 0 0] 37 (0, 0))) :: H) w_45 := p_66.objRow (n := 0) (cap := 0) (size := 15) (by decide) (by decide) (blk_eq (by decide) rfl) rfl rfl
        refine Y20 (z := .agg #[S [], .int .i8 0, .int .i8 0, S [], .int .i64 0, S [], S [], .slice none 0 0, .int .i8 0, S [], .int .i64 0, S [], S [], .slice none 0 0, .slice none 0 0]) (f := emb_TF0) (xs := ([] : List TF0)) (ys := d0.fConds) (c := cap_2) f p_67 hr_13 (h_2.mono ((hM_1.trans hM_2).trans hM_4)) rfl rfl rfl g_3 (by omega) fun A_14 cap_14 cs_9 w_46 p_68 hr_14 _ f => W_end rfl (N_goN 2 (mR _) p_68 rfl (N_alt rfl (fun w_47 p_69 => ?_) ?_))
        ·refine Y19 (z := .agg #[S [], .int .i8 0, .int .i8 0, S [], .int .i64 0, S [], S [], .slice none 0 0, .int .i8 0, S [], .int .i64 0, S [], S [], .slice none 0 0, .slice none 0 0]) (f := emb_TF0) (xs := ([] : List TF0) ++ d0.fConds) (ys := [(⟨d1, (0 : Int), (⟨(0 : Int), [120], (0 : Int), ([] : List UInt8), ([] : List UInt8), ([] : List TH0)⟩ : TH0), (⟨(0 : Int), [120], (0 : Int), ([] : List UInt8), ([] : List UInt8), ([] : List TH0)⟩ : TH0), ([] : List TF0)⟩ : TF0)]) (news := [S d1, .int .i8 0, .int .i8 0, S [120], .int .i64 0, S [], S [], .slice none 0 0, .int .i8 0, S [120], .int .i64 0, S [], S [], .slice none 0 0, .slice none 0 0]) (ad := ⟨b_11, 0, none⟩) (m := 1) (c := 1) f p_69 hr_14 (by exact ⟨_, _, rfl, TF0.shut Sli.nil Sli.nil Sli.nil, rfl⟩) rfl rfl rfl rfl (own_cells (p_69.ownCell 1 rfl) 0 rfl) (by exact g_4) (by have hg_ := g_4; first | omega | (simp only [List.length_cons, List.length_nil] at *; omega)) fun A_15 cap_15 cs_10 w_48 p_70 hr_15 _ f => ?_
         have p_71 := p_70.pl [1]
         have p_72 := p_71.drop
         refine W_end rfl (N_goN 1 (mR _) p_72 rfl (N_tail fun w_49 p_73 => Y f 1 fun _ f => Y21 f p_73 1 rfl rfl (b := b_3) (j := 1) (v := .slice A_15 ((([] : List TF0) ++ d0.fConds) ++ [(⟨d1, (0 : Int), (⟨(0 : Int), [120], (0 : Int), ([] : List UInt8), ([] : List UInt8), ([] : List TH0)⟩ : TH0), (⟨(0 : Int), [120], (0 : Int), ([] : List UInt8), ([] : List UInt8), ([] : List TH0)⟩ : TH0), ([] : List TF0)⟩ : TF0)]).length cap_15) rfl (by exact rfl) (by simp) (by simp) ((Ent.row 45 15 (.slice A_15 ((([] : List TF0) ++ d0.fConds) ++ [(⟨d1, (0 : Int), (⟨(0 : Int), [120], (0 : Int), ([] : List UInt8), ([] : List UInt8), ([] : List TH0)⟩ : TH0), (⟨(0 : Int), [120], (0 : Int), ([] : List UInt8), ([] : List UInt8), ([] : List TH0)⟩ : TH0), ([] : List TF0)⟩ : TF0)]).length cap_15) ((([] : List TF0) ++ d0.fConds) ++ [(⟨d1, (0 : Int), (⟨(0 : Int), [120], (0 : Int), ([] : List UInt8), ([] : List UInt8), ([] : List TH0)⟩ : TH0), (⟨(0 : Int), [120], (0 : Int), ([] : List UInt8), ([] : List UInt8), ([] : List TH0)⟩ : TH0), ([] : List TF0)⟩ : TF0)]).length cs_10) :: (Ent.obj b_3 (.cells #[.slice A_1 d0.fParams.length cap_1, .slice A_15 ((([] : List TF0) ++ d0.fConds) ++ [(⟨d1, (0 : Int), (⟨(0 : Int), [120], (0 : Int), ([] : List UInt8), ([] : List UInt8), ([] : List TH0)⟩ : TH0), (⟨(0 : Int), [120], (0 : Int), ([] : List UInt8), ([] : List UInt8), ([] : List TH0)⟩ : TH0), ([] : List TF0)⟩ : TF0)]).length cap_15, .slice A_3 d0.fRes.length cap_3, .slice A_4 d0.fOuts.length cap_4] 27 (0, 0))) :: (Ent.row 43 10 (.slice A_6 ((([] : List TD0) ++ d0.fParams) ++ [(⟨d1, (false), (false), z_TE0, ([] : List TE0)⟩ : TD0)]).length cap_6) ((([] : List TD0) ++ d0.fParams) ++ [(⟨d1, (false), (false), z_TE0, ([] : List TE0)⟩ : TD0)]).length cs_2) :: (Ent.obj b_2 (.cells #[.int .i8 0, S [120], .int .i64 0, S [], S [], .slice none 0 0] 37 (0, 0))) :: H) rfl fun w_50 p_74 _ f => W_end rfl (N_te (T_n ?_))))
         exact ⟨(([] : List TF0) ++ d0.fConds) ++ [(⟨d1, (0 : Int), (⟨(0 : Int), [120], (0 : Int), ([] : List UInt8), ([] : List UInt8), ([] : List TH0)⟩ : TH0), (⟨(0 : Int), [120], (0 : Int), ([] : List UInt8), ([] : List UInt8), ([] : List TH0)⟩ : TH0), ([] : List TF0)⟩ : TF0)], (sI hF_20).symm, M_4, (mR _), A_15, cap_15, cs_10, hr_15, f.kp, p_74⟩
        exact N_none
       exact N_none
      exact N_none
     exact N_none
    ·rintro a_75 w_51 ⟨y_2, hq_2, M_5, hM_5, A_16, cap_16, cs_11, hr_16, f, p_75⟩
     subst j_2
     refine T_n (RR (Z (v := .agg #[.slice A_1 d0.fParams.length cap_1, .slice A_16 y_2.length cap_16, .slice A_3 d0.fRes.length cap_3, .slice A_4 d0.fOuts.length cap_4]) f (Y27 (cs := [.slice A_1 d0.fParams.length cap_1, .slice A_16 y_2.length cap_16, .slice A_3 d0.fRes.length cap_3, .slice A_4 d0.fOuts.length cap_4]) rfl (ad := ⟨b_3, 0, none⟩) (own_cells (p_75.ownCell 1 rfl) 0 rfl)) fun _ f => ?_))
     obtain ⟨M_6, A_17, cap_17, hM_6, hv_2, p_76, h_10, hb_2⟩ := p_75.lend (f := emb_TF0) (xs := y_2) szd_TF0 hr_16
     have f := Frm.set f 72 (v := .agg #[.slice A_1 d0.fParams.length cap_1, .slice A_16 y_2.length cap_16, .slice A_3 d0.fRes.length cap_3, .slice A_4 d0.fOuts.length cap_4]) (v' := .agg #[.slice A_1 d0.fParams.length cap_1, .slice A_17 y_2.length cap_17, .slice A_3 d0.fRes.length cap_3, .slice A_4 d0.fOuts.length cap_4]) (by kernel_rfl) (by rw [hv_2])
     have p_77 : Hp w0 M_6 ((Ent.obj b_3 (.cells #[.slice A_1 d0.fParams.length cap_1, .slice A_17 y_2.length cap_17, .slice A_3 d0.fRes.length cap_3, .slice A_4 d0.fOuts.length cap_4] 27 (0, 0))) :: (Ent.row 43 10 (.slice A_6 ((([] : List TD0) ++ d0.fParams) ++ [(⟨d1, (false), (false), z_TE0, ([] : List TE0)⟩ : TD0)]).length cap_6) ((([] : List TD0) ++ d0.fParams) ++ [(⟨d1, (false), (false), z_TE0, ([] : List TE0)⟩ : TD0)]).length cs_2) :: (Ent.obj b_2 (.cells #[.int .i8 0, S [120], .int .i64 0, S [], S [], .slice none 0 0] 37 (0, 0))) :: H) w_51 := by rw [hv_2] at p_76; exact p_76
     obtain ⟨x_7, hx_7, hF_21⟩ := bS hF_18
     refine Y17 f p_77 (refs_Check_ok n _ _ (⟨d0.fParams, y_2, d0.fRes, d0.fOuts⟩ : TA0) (TA0.shut (h_1.mono ((((hM_1.trans hM_2).trans hM_4).trans hM_5).trans hM_6)) h_10 (h_3.mono ((((hM_1.trans hM_2).trans hM_4).trans hM_5).trans hM_6)) (h_4.mono ((((hM_1.trans hM_2).trans hM_4).trans hM_5).trans hM_6))) x_7 hx_7) fun w_52 p_78 _ f => ?_
     obtain ⟨M_7, hM_7, p_79⟩ := hb_2 _ _ _ (mR _) p_78
     have p_80 : Hp w0 M_7 ((Ent.row 45 15 (.slice A_16 y_2.length cap_16) y_2.length cs_11) :: (Ent.obj b_3 (.cells #[.slice A_1 d0.fParams.length cap_1, .slice A_16 y_2.length cap_16, .slice A_3 d0.fRes.length cap_3, .slice A_4 d0.fOuts.length cap_4] 27 (0, 0))) :: (Ent.row 43 10 (.slice A_6 ((([] : List TD0) ++ d0.fParams) ++ [(⟨d1, (false), (false), z_TE0, ([] : List TE0)⟩ : TD0)]).length cap_6) ((([] : List TD0) ++ d0.fParams) ++ [(⟨d1, (false), (false), z_TE0, ([] : List TE0)⟩ : TD0)]).length cs_2) :: (Ent.obj b_2 (.cells #[.int .i8 0, S [120], .int .i64 0, S [], S [], .slice none 0 0] 37 (0, 0))) :: H) w_52 := by rw [hv_2] at p_79 ⊢; exact p_79
     have f := Frm.set f 72 (v := .agg #[.slice A_1 d0.fParams.length cap_1, .slice A_17 y_2.length cap_17, .slice A_3 d0.fRes.length cap_3, .slice A_4 d0.fOuts.length cap_4]) (v' := .agg #[.slice A_1 d0.fParams.length cap_1, .slice A_16 y_2.length cap_16, .slice A_3 d0.fRes.length cap_3, .slice A_4 d0.fOuts.length cap_4]) (by kernel_rfl) (by rw [hv_2])
     refine Y f 5 fun _ f => eT (RR (Z (v := .agg #[.slice A_1 d0.fParams.length cap_1, .slice A_2 d0.fConds.length cap_2, .slice A_3 d0.fRes.length cap_3, .slice A_4 d0.fOuts.length cap_4]) f (Y27 (cs := [.slice A_1 d0.fParams.length cap_1, .slice A_2 d0.fConds.length cap_2, .slice A_3 d0.fRes.length cap_3, .slice A_4 d0.fOuts.length cap_4]) rfl (ad := ⟨b_1, 0, none⟩) (fun j v h => p_80.cell ((fzu (((hM_2.trans hM_4).trans hM_5).trans hM_7) hc_2) j v h))) fun _ f => ?_))
     have p_81 := p_80.pl [1]
     refine Y22 (vs := [.slice A_1 d0.fParams.length cap_1, .slice A_2 d0.fConds.length cap_2, .slice A_3 d0.fRes.length cap_3, .slice A_4 d0.fOuts.length cap_4]) (j := 0) f p_81 rfl rfl (by simp [Value.oneCell', S]) (by simp) (by decide) (cs' := #[.slice A_1 d0.fParams.length cap_1, .slice A_2 d0.fConds.length cap_2, .slice A_3 d0.fRes.length cap_3, .slice A_4 d0.fOuts.length cap_4]) (by kernel_rfl) fun w_53 p_82 _ f => eT (RR (V_allocS (k := 0) (c := 0) f p_82 (.cells #[] 49 (0, 0)) (by kernel_rfl) (fun _ => by kernel_rfl) fun b_13 w_54 p_83 _ f => Y f 1 fun _ f => Y14 f p_83 (fzu (((hM_2.trans hM_4).trans hM_5).trans hM_7) hc_2) 2 rfl fun _ f => ?_))
     have hr_17 : RepSeq M_7 (([] : List TB0).map emb_TB0) [] := rfl
     have p_84 : Hp w0 M_7 ((Ent.row 49 7 (.slice (some ⟨b_13, 0, none⟩) 0 0) ([] : List TB0).length []) :: (Ent.obj b_3 (.cells #[.slice A_1 d0.fParams.length cap_1, .slice A_2 d0.fConds.length cap_2, .slice A_3 d0.fRes.length cap_3, .slice A_4 d0.fOuts.length cap_4] 27 (0, 0))) :: (Ent.row 45 15 (.slice A_16 y_2.length cap_16) y_2.length cs_11) :: (Ent.row 43 10 (.slice A_6 ((([] : List TD0) ++ d0.fParams) ++ [(⟨d1, (false), (false), z_TE0, ([] : List TE0)⟩ : TD0)]).length cap_6) ((([] : List TD0) ++ d0.fParams) ++ [(⟨d1, (false), (false), z_TE0, ([] : List TE0)⟩ : TD0)]).length cs_2) :: (Ent.obj b_2 (.cells #[.int .i8 0, S [120], .int .i64 0, S [], S [], .slice none 0 0] 37 (0, 0))) :: H) w_54 := p_83.objRow (n := 0) (cap := 0) (size := 7) (by decide) (by decide) (blk_eq (by decide) rfl) rfl rfl
     obtain ⟨g_5, hF_22⟩ := nS hF_21
     refine Y20 (z := .agg #[S [], S [], S [], .slice none 0 0, .slice none 0 0, .bool false, .slice none 0 0]) (f := emb_TB0) (xs := ([] : List TB0)) (ys := d0.fRes) (c := cap_3) f p_84 hr_17 (h_3.mono ((((hM_1.trans hM_2).trans hM_4).trans hM_5).trans hM_7)) rfl rfl rfl g_5 (by omega) fun A_18 cap_18 cs_12 w_55 p_85 hr_18 _ f => Y f 2 fun _ f => V_allocS (k := 1) (c := 1) f p_85 (.cells #[S d1, S [78, 101, 116], S [], .slice none 0 0, .slice none 0 0, .bool false, .slice none 0 0] 49 (0, 0)) (by kernel_rfl) (fun _ => by kernel_rfl) fun b_14 w_56 p_86 _ f => ?_
     have p_87 := p_86.pl [1]
     obtain ⟨g_6, hF_23⟩ := nS hF_22
     refine Y19 (z := .agg #[S [], S [], S [], .slice none 0 0, .slice none 0 0, .bool false, .slice none 0 0]) (f := emb_TB0) (xs := ([] : List TB0) ++ d0.fRes) (ys := [(⟨d1, [78, 101, 116], ([] : List UInt8), ([] : List TI0), ([] : List (List UInt8)), (false), ([] : List TA0)⟩ : TB0)]) (news := [S d1, S [78, 101, 116], S [], .slice none 0 0, .slice none 0 0, .bool false, .slice none 0 0]) (ad := ⟨b_14, 0, none⟩) (m := 1) (c := 1) f p_87 hr_18 (by exact ⟨_, _, rfl, TB0.shut Sli.nil Sli.nil Sli.nil, rfl⟩) rfl rfl rfl rfl (own_cells (p_87.ownCell 1 rfl) 0 rfl) (by exact g_6) (by have hg_ := g_6; first | omega | (simp only [List.length_cons, List.length_nil] at *; omega)) fun A_19 cap_19 cs_13 w_57 p_88 hr_19 _ f => ?_
     have p_89 := p_88.pl [1]
     have p_90 := p_89.drop
     refine Y f 1 fun _ f => Y21 f p_90 1 rfl rfl (b := b_3) (j := 2) (v := .slice A_19 ((([] : List TB0) ++ d0.fRes) ++ [(⟨d1, [78, 101, 116], ([] : List UInt8), ([] : List TI0), ([] : List (List UInt8)), (false), ([] : List TA0)⟩ : TB0)]).length cap_19) rfl (by exact rfl) (by simp) (by simp) ((Ent.row 49 7 (.slice A_19 ((([] : List TB0) ++ d0.fRes) ++ [(⟨d1, [78, 101, 116], ([] : List UInt8), ([] : List TI0), ([] : List (List UInt8)), (false), ([] : List TA0)⟩ : TB0)]).length cap_19) ((([] : List TB0) ++ d0.fRes) ++ [(⟨d1, [78, 101, 116], ([] : List UInt8), ([] : List TI0), ([] : List (List UInt8)), (false), ([] : List TA0)⟩ : TB0)]).length cs_13) :: (Ent.obj b_3 (.cells #[.slice A_1 d0.fParams.length cap_1, .slice A_2 d0.fConds.length cap_2, .slice A_19 ((([] : List TB0) ++ d0.fRes) ++ [(⟨d1, [78, 101, 116], ([] : List UInt8), ([] : List TI0), ([] : List (List UInt8)), (false), ([] : List TA0)⟩ : TB0)]).length cap_19, .slice A_4 d0.fOuts.length cap_4] 27 (0, 0))) :: (Ent.row 45 15 (.slice A_16 y_2.length cap_16) y_2.length cs_11) :: (Ent.row 43 10 (.slice A_6 ((([] : List TD0) ++ d0.fParams) ++ [(⟨d1, (false), (false), z_TE0, ([] : List TE0)⟩ : TD0)]).length cap_6) ((([] : List TD0) ++ d0.fParams) ++ [(⟨d1, (false), (false), z_TE0, ([] : List TE0)⟩ : TD0)]).length cs_2) :: (Ent.obj b_2 (.cells #[.int .i8 0, S [120], .int .i64 0, S [], S [], .slice none 0 0] 37 (0, 0))) :: H) rfl fun w_58 p_91 _ f => eT (RR (Z (v := .agg #[.slice A_1 d0.fParams.length cap_1, .slice A_2 d0.fConds.length cap_2, .slice A_19 ((([] : List TB0) ++ d0.fRes) ++ [(⟨d1, [78, 101, 116], ([] : List UInt8), ([] : List TI0), ([] : List (List UInt8)), (false), ([] : List TA0)⟩ : TB0)]).length cap_19, .slice A_4 d0.fOuts.length cap_4]) f (Y27 (cs := [.slice A_1 d0.fParams.length cap_1, .slice A_2 d0.fConds.length cap_2, .slice A_19 ((([] : List TB0) ++ d0.fRes) ++ [(⟨d1, [78, 101, 116], ([] : List UInt8), ([] : List TI0), ([] : List (List UInt8)), (false), ([] : List TA0)⟩ : TB0)]).length cap_19, .slice A_4 d0.fOuts.length cap_4]) rfl (ad := ⟨b_3, 0, none⟩) (own_cells (p_91.ownCell 1 rfl) 0 rfl)) fun _ f => ?_))
     obtain ⟨M_8, A_20, cap_20, hM_8, hv_3, p_92, h_11, hb_3⟩ := p_91.lend (f := emb_TB0) (xs := (([] : List TB0) ++ d0.fRes) ++ [(⟨d1, [78, 101, 116], ([] : List UInt8), ([] : List TI0), ([] : List (List UInt8)), (false), ([] : List TA0)⟩ : TB0)]) szd_TB0 hr_19
     have f := Frm.set f 87 (v := .agg #[.slice A_1 d0.fParams.length cap_1, .slice A_2 d0.fConds.length cap_2, .slice A_19 ((([] : List TB0) ++ d0.fRes) ++ [(⟨d1, [78, 101, 116], ([] : List UInt8), ([] : List TI0), ([] : List (List UInt8)), (false), ([] : List TA0)⟩ : TB0)]).length cap_19, .slice A_4 d0.fOuts.length cap_4]) (v' := .agg #[.slice A_1 d0.fParams.length cap_1, .slice A_2 d0.fConds.length cap_2, .slice A_20 ((([] : List TB0) ++ d0.fRes) ++ [(⟨d1, [78, 101, 116], ([] : List UInt8), ([] : List TI0), ([] : List (List UInt8)), (false), ([] : List TA0)⟩ : TB0)]).length cap_20, .slice A_4 d0.fOuts.length cap_4]) (by kernel_rfl) (by rw [hv_3])
     have f := f.st 84 (hv_3)
     have p_93 : Hp w0 M_8 ((Ent.obj b_3 (.cells #[.slice A_1 d0.fParams.length cap_1, .slice A_2 d0.fConds.length cap_2, .slice A_20 ((([] : List TB0) ++ d0.fRes) ++ [(⟨d1, [78, 101, 116], ([] : List UInt8), ([] : List TI0), ([] : List (List UInt8)), (false), ([] : List TA0)⟩ : TB0)]).length cap_20, .slice A_4 d0.fOuts.length cap_4] 27 (0, 0))) :: (Ent.row 45 15 (.slice A_16 y_2.length cap_16) y_2.length cs_11) :: (Ent.row 43 10 (.slice A_6 ((([] : List TD0) ++ d0.fParams) ++ [(⟨d1, (false), (false), z_TE0, ([] : List TE0)⟩ : TD0)]).length cap_6) ((([] : List TD0) ++ d0.fParams) ++ [(⟨d1, (false), (false), z_TE0, ([] : List TE0)⟩ : TD0)]).length cs_2) :: (Ent.obj b_2 (.cells #[.int .i8 0, S [120], .int .i64 0, S [], S [], .slice none 0 0] 37 (0, 0))) :: H) w_58 := by rw [hv_3] at p_92; exact p_92
     obtain ⟨x_8, hx_8, hF_24⟩ := bS hF_23
     refine Y17 f p_93 (refs_Check_ok n _ _ (⟨d0.fParams, d0.fConds, (([] : List TB0) ++ d0.fRes) ++ [(⟨d1, [78, 101, 116], ([] : List UInt8), ([] : List TI0), ([] : List (List UInt8)), (false), ([] : List TA0)⟩ : TB0)], d0.fOuts⟩ : TA0) (TA0.shut (h_1.mono (((((hM_1.trans hM_2).trans hM_4).trans hM_5).trans hM_7).trans hM_8)) (h_2.mono (((((hM_1.trans hM_2).trans hM_4).trans hM_5).trans hM_7).trans hM_8)) h_11 (h_4.mono (((((hM_1.trans hM_2).trans hM_4).trans hM_5).trans hM_7).trans hM_8))) x_8 hx_8) fun w_59 p_94 _ f => ?_
     obtain ⟨M_9, hM_9, p_95⟩ := hb_3 _ _ _ (mR _) p_94
     have p_96 : Hp w0 M_9 ((Ent.row 49 7 (.slice A_19 ((([] : List TB0) ++ d0.fRes) ++ [(⟨d1, [78, 101, 116], ([] : List UInt8), ([] : List TI0), ([] : List (List UInt8)), (false), ([] : List TA0)⟩ : TB0)]).length cap_19) ((([] : List TB0) ++ d0.fRes) ++ [(⟨d1, [78, 101, 116], ([] : List UInt8), ([] : List TI0), ([] : List (List UInt8)), (false), ([] : List TA0)⟩ : TB0)]).length cs_13) :: (Ent.obj b_3 (.cells #[.slice A_1 d0.fParams.length cap_1, .slice A_2 d0.fConds.length cap_2, .slice A_19 ((([] : List TB0) ++ d0.fRes) ++ [(⟨d1, [78, 101, 116], ([] : List UInt8), ([] : List TI0), ([] : List (List UInt8)), (false), ([] : List TA0)⟩ : TB0)]).length cap_19, .slice A_4 d0.fOuts.length cap_4] 27 (0, 0))) :: (Ent.row 45 15 (.slice A_16 y_2.length cap_16) y_2.length cs_11) :: (Ent.row 43 10 (.slice A_6 ((([] : List TD0) ++ d0.fParams) ++ [(⟨d1, (false), (false), z_TE0, ([] : List TE0)⟩ : TD0)]).length cap_6) ((([] : List TD0) ++ d0.fParams) ++ [(⟨d1, (false), (false), z_TE0, ([] : List TE0)⟩ : TD0)]).length cs_2) :: (Ent.obj b_2 (.cells #[.int .i8 0, S [120], .int .i64 0, S [], S [], .slice none 0 0] 37 (0, 0))) :: H) w_59 := by rw [hv_3] at p_95 ⊢; exact p_95
     have f := f.st 84 (hv_3.symm)
     have f := Frm.set f 87 (v := .agg #[.slice A_1 d0.fParams.length cap_1, .slice A_2 d0.fConds.length cap_2, .slice A_20 ((([] : List TB0) ++ d0.fRes) ++ [(⟨d1, [78, 101, 116], ([] : List UInt8), ([] : List TI0), ([] : List (List UInt8)), (false), ([] : List TA0)⟩ : TB0)]).length cap_20, .slice A_4 d0.fOuts.length cap_4]) (v' := .agg #[.slice A_1 d0.fParams.length cap_1, .slice A_2 d0.fConds.length cap_2, .slice A_19 ((([] : List TB0) ++ d0.fRes) ++ [(⟨d1, [78, 101, 116], ([] : List UInt8), ([] : List TI0), ([] : List (List UInt8)), (false), ([] : List TA0)⟩ : TB0)]).length cap_19, .slice A_4 d0.fOuts.length cap_4]) (by kernel_rfl) (by rw [hv_3])
     refine Y f 5 fun _ f => eT (RR (Z (v := .agg #[.slice A_1 d0.fParams.length cap_1, .slice A_2 d0.fConds.length cap_2, .slice A_3 d0.fRes.length cap_3, .slice A_4 d0.fOuts.length cap_4]) f (Y27 (cs := [.slice A_1 d0.fParams.length cap_1, .slice A_2 d0.fConds.length cap_2, .slice A_3 d0.fRes.length cap_3, .slice A_4 d0.fOuts.length cap_4]) rfl (ad := ⟨b_1, 0, none⟩) (fun j v h => p_96.cell ((fzu ((((hM_2.trans hM_4).trans hM_5).trans hM_7).trans hM_9) hc_2) j v h))) fun _ f => ?_))
     have p_97 := p_96.pl [1]
     refine Y22 (vs := [.slice A_1 d0.fParams.length cap_1, .slice A_2 d0.fConds.length cap_2, .slice A_3 d0.fRes.length cap_3, .slice A_4 d0.fOuts.length cap_4]) (j := 0) f p_97 rfl rfl (by simp [Value.oneCell', S]) (by simp) (by decide) (cs' := #[.slice A_1 d0.fParams.length cap_1, .slice A_2 d0.fConds.length cap_2, .slice A_3 d0.fRes.length cap_3, .slice A_4 d0.fOuts.length cap_4]) (by kernel_rfl) fun w_60 p_98 _ f => eT (R_seq ?_)
     obtain ⟨j_3, hj_3, hF_25⟩ := bS hF_24
     refine R_mid (fun a_126 w_93 => ∃ y_3 : List TC0, j_3 = y_3 ∧ ∃ M_10 : Mem, M_9.le M_10 ∧ ∃ (A_29 : Option Addr), ∃ (cap_29 : Nat), ∃ (cs_22 : List Value), RepSeq M_10 (y_3.map emb_TC0) cs_22 ∧ Frm 169 [(1, S d1), (2, .pointer (some (⟨b_1, 0, none⟩))), (7, .pointer (some (⟨b_2, 0, none⟩))), (8, .pointer (some (⟨b_3, 0, none⟩))), (10, .int .i64 x_6.2), (12, .int .i64 x_7.2), (14, .int .i64 x_8.2)] a_126 ∧ Hp w0 M_10 ((Ent.row 51 8 (.slice A_29 y_3.length cap_29) y_3.length cs_22) :: (Ent.obj b_3 (.cells #[.slice A_1 d0.fParams.length cap_1, .slice A_2 d0.fConds.length cap_2, .slice A_3 d0.fRes.length cap_3, .slice A_29 y_3.length cap_29] 27 (0, 0))) :: (Ent.row 49 7 (.slice A_19 ((([] : List TB0) ++ d0.fRes) ++ [(⟨d1, [78, 101, 116], ([] : List UInt8), ([] : List TI0), ([] : List (List UInt8)), (false), ([] : List TA0)⟩ : TB0)]).length cap_19) ((([] : List TB0) ++ d0.fRes) ++ [(⟨d1, [78, 101, 116], ([] : List UInt8), ([] : List TI0), ([] : List (List UInt8)), (false), ([] : List TA0)⟩ : TB0)]).length cs_13) :: (Ent.row 45 15 (.slice A_16 y_2.length cap_16) y_2.length cs_11) :: (Ent.row 43 10 (.slice A_6 ((([] : List TD0) ++ d0.fParams) ++ [(⟨d1, (false), (false), z_TE0, ([] : List TE0)⟩ : TD0)]).length cap_6) ((([] : List TD0) ++ d0.fParams) ++ [(⟨d1, (false), (false), z_TE0, ([] : List TE0)⟩ : TD0)]).length cs_2) :: (Ent.obj b_2 (.cells #[.int .i8 0, S [120], .int .i64 0, S [], S [], .slice none 0 0] 37 (0, 0))) :: H) w_93) ?_ ?_
     ·obtain ⟨g_7, hF_26⟩ := nS hj_3
      obtain ⟨g_8, hF_27⟩ := nS hF_26
      refine R_plan (ks := [9, 10]) (E := []) (Hr := ((Ent.obj b_3 (.cells #[.slice A_1 d0.fParams.length cap_1, .slice A_2 d0.fConds.length cap_2, .slice A_3 d0.fRes.length cap_3, .slice A_4 d0.fOuts.length cap_4] 27 (0, 0))) :: (Ent.row 49 7 (.slice A_19 ((([] : List TB0) ++ d0.fRes) ++ [(⟨d1, [78, 101, 116], ([] : List UInt8), ([] : List TI0), ([] : List (List UInt8)), (false), ([] : List TA0)⟩ : TB0)]).length cap_19) ((([] : List TB0) ++ d0.fRes) ++ [(⟨d1, [78, 101, 116], ([] : List UInt8), ([] : List TI0), ([] : List (List UInt8)), (false), ([] : List TA0)⟩ : TB0)]).length cs_13) :: (Ent.row 45 15 (.slice A_16 y_2.length cap_16) y_2.length cs_11) :: (Ent.row 43 10 (.slice A_6 ((([] : List TD0) ++ d0.fParams) ++ [(⟨d1, (false), (false), z_TE0, ([] : List TE0)⟩ : TD0)]).length cap_6) ((([] : List TD0) ++ d0.fParams) ++ [(⟨d1, (false), (false), z_TE0, ([] : List TE0)⟩ : TD0)]).length cs_2) :: (Ent.obj b_2 (.cells #[.int .i8 0, S [120], .int .i64 0, S [], S [], .slice none 0 0] 37 (0, 0))) :: H)) (.quiet 1 (.quiet 2 (.quiet 4 (.quiet 5 (.quiet 6 (.alt 0 (.alt 3 (.alt 7 (.alt 8 .done .none) .none) (.alt 7 (.alt 3 (.alt 8 .done .none) .none) .none)) (.alt 7 (.alt 0 (.alt 3 (.alt 8 .done .none) .none) .none) .none))))))) p_98 (by kernel_rfl) (by kernel_rfl) (by kernel_rfl) (Y1 (v := .pointer (some ((⟨b_1, 0, none⟩ : Addr).add 3))) rfl f rfl rfl (fun _ _ => by kernel_rfl) fun _ f => Y1 (v := .slice A_4 d0.fOuts.length cap_4) rfl f rfl rfl (fun _ pq => Y26 (v := .slice A_4 d0.fOuts.length cap_4) rfl (ad := (⟨b_1, 0, none⟩ : Addr).add 3) (pq.cell ((fzu ((((hM_2.trans hM_4).trans hM_5).trans hM_7).trans hM_9) hc_2) 3 _ rfl))) fun _ f => Y1 (v := S d1) rfl f rfl rfl (fun _ _ => by kernel_rfl) fun _ f => Y1 (v := .agg #[.int .i8 0, S [120], .int .i64 0, S [], S [], .slice none 0 0]) rfl f rfl rfl (fun _ pq => Y27 (cs := [.int .i8 0, S [120], .int .i64 0, S [], S [], .slice none 0 0]) rfl (ad := ⟨b_2, 0, none⟩) (own_cells (pq.ownCell 4 rfl) 0 rfl)) fun _ f => Y1 (v := .agg #[S d1, S [], .int .i8 0, S [120], .int .i64 0, S [], S [], .slice none 0 0]) rfl f rfl rfl (fun _ _ => by kernel_rfl) fun _ f => N_alt rfl (fun w_65 p_107 => ?_) ?_)
      ·refine V_allocS (k := 0) (c := 0) f p_107 (.cells #[] 51 (0, 0)) (by kernel_rfl) (fun _ => by kernel_rfl) fun b_17 w_66 p_108 _ f => W_end rfl (N_goN 1 (mR _) p_108 rfl (N_alt rfl (fun w_67 p_109 => ?_) ?_))
       ·have hr_23 : RepSeq M_9 (([] : List TC0).map emb_TC0) [] := rfl
        have p_110 : Hp w0 M_9 ((Ent.row 51 8 (.slice (some ⟨b_17, 0, none⟩) 0 0) ([] : List TC0).length []) :: (Ent.obj b_3 (.cells #[.slice A_1 d0.fParams.length cap_1, .slice A_2 d0.fConds.length cap_2, .slice A_3 d0.fRes.length cap_3, .slice A_4 d0.fOuts.length cap_4] 27 (0, 0))) :: (Ent.row 49 7 (.slice A_19 ((([] : List TB0) ++ d0.fRes) ++ [(⟨d1, [78, 101, 116], ([] : List UInt8), ([] : List TI0), ([] : List (List UInt8)), (false), ([] : List TA0)⟩ : TB0)]).length cap_19) ((([] : List TB0) ++ d0.fRes) ++ [(⟨d1, [78, 101, 116], ([] : List UInt8), ([] : List TI0), ([] : List (List UInt8)), (false), ([] : List TA0)⟩ : TB0)]).length cs_13) :: (Ent.row 45 15 (.slice A_16 y_2.length cap_16) y_2.length cs_11) :: (Ent.row 43 10 (.slice A_6 ((([] : List TD0) ++ d0.fParams) ++ [(⟨d1, (false), (false), z_TE0, ([] : List TE0)⟩ : TD0)]).length cap_6) ((([] : List TD0) ++ d0.fParams) ++ [(⟨d1, (false), (false), z_TE0, ([] : List TE0)⟩ : TD0)]).length cs_2) :: (Ent.obj b_2 (.cells #[.int .i8 0, S [120], .int .i64 0, S [], S [], .slice none 0 0] 37 (0, 0))) :: H) w_67 := p_109.objRow (n := 0) (cap := 0) (size := 8) (by decide) (by decide) (blk_eq (by decide) rfl) rfl rfl
        refine Y20 (z := .agg #[S [], S [], .int .i8 0, S [], .int .i64 0, S [], S [], .slice none 0 0]) (f := emb_TC0) (xs := ([] : List TC0)) (ys := d0.fOuts) (c := cap_4) f p_110 hr_23 (h_4.mono (((((hM_1.trans hM_2).trans hM_4).trans hM_5).trans hM_7).trans hM_9)) rfl rfl rfl g_7 (by omega) fun A_23 cap_23 cs_16 w_68 p_111 hr_24 _ f => W_end rfl (N_goN 1 (mR _) p_111 rfl (N_alt rfl (fun w_69 p_112 => ?_) ?_))
        ·refine V_allocS (k := 1) (c := 1) f p_112 (.cells #[S d1, S [], .int .i8 0, S [120], .int .i64 0, S [], S [], .slice none 0 0] 51 (0, 0)) (by kernel_rfl) (fun _ => by kernel_rfl) fun b_18 w_70 p_113 _ f => W_end rfl (N_goN 2 (mR _) p_113 rfl (N_alt rfl (fun w_71 p_114 => ?_) ?_))
         ·have p_115 := p_114.pl [1]
          refine Y19 (z := .agg #[S [], S [], .int .i8 0, S [], .int .i64 0, S [], S [], .slice none 0 0]) (f := emb_TC0) (xs := ([] : List TC0) ++ d0.fOuts) (ys := [(⟨d1, ([] : List UInt8), (⟨(0 : Int), [120], (0 : Int), ([] : List UInt8), ([] : List UInt8), ([] : List TH0)⟩ : TH0)⟩ : TC0)]) (news := [S d1, S [], .int .i8 0, S [120], .int .i64 0, S [], S [], .slice none 0 0]) (ad := ⟨b_18, 0, none⟩) (m := 1) (c := 1) f p_115 hr_24 (by exact ⟨_, _, rfl, TC0.shut Sli.nil, rfl⟩) rfl rfl rfl rfl (own_cells (p_115.ownCell 1 rfl) 0 rfl) (by exact g_8) (by have hg_ := g_8; first | omega | (simp only [List.length_cons, List.length_nil] at *; omega)) fun A_24 cap_24 cs_17 w_72 p_116 hr_25 _ f => ?_
          have p_117 := p_116.pl [1]
          have p_118 := p_117.drop
          refine W_end rfl (N_goN 1 (mR _) p_118 rfl (N_tail fun w_73 p_119 => Y f 1 fun _ f => Y21 f p_119 1 rfl rfl (b := b_3) (j := 3) (v := .slice A_24 ((([] : List TC0) ++ d0.fOuts) ++ [(⟨d1, ([] : List UInt8), (⟨(0 : Int), [120], (0 : Int), ([] : List UInt8), ([] : List UInt8), ([] : List TH0)⟩ : TH0)⟩ : TC0)]).length cap_24) rfl (by exact rfl) (by simp) (by simp) ((Ent.row 51 8 (.slice A_24 ((([] : List TC0) ++ d0.fOuts) ++ [(⟨d1, ([] : List UInt8), (⟨(0 : Int), [120], (0 : Int), ([] : List UInt8), ([] : List UInt8), ([] : List TH0)⟩ : TH0)⟩ : TC0)]).length cap_24) ((([] : List TC0) ++ d0.fOuts) ++ [(⟨d1, ([] : List UInt8), (⟨(0 : Int), [120], (0 : Int), ([] : List UInt8), ([] : List UInt8), ([] : List TH0)⟩ : TH0)⟩ : TC0)]).length cs_17) :: (Ent.obj b_3 (.cells #[.slice A_1 d0.fParams.length cap_1, .slice A_2 d0.fConds.length cap_2, .slice A_3 d0.fRes.length cap_3, .slice A_24 ((([] : List TC0) ++ d0.fOuts) ++ [(⟨d1, ([] : List UInt8), (⟨(0 : Int), [120], (0 : Int), ([] : List UInt8), ([] : List UInt8), ([] : List TH0)⟩ : TH0)⟩ : TC0)]).length cap_24] 27 (0, 0))) :: (Ent.row 49 7 (.slice A_19 ((([] : List TB0) ++ d0.fRes) ++ [(⟨d1, [78, 101, 116], ([] : List UInt8), ([] : List TI0), ([] : List (List UInt8)), (false), ([] : List TA0)⟩ : TB0)]).length cap_19) ((([] : List TB0) ++ d0.fRes) ++ [(⟨d1, [78, 101, 116], ([] : List UInt8), ([] : List TI0), ([] : List (List UInt8)), (false), ([] : List TA0)⟩ : TB0)]).length cs_13) :: (Ent.row 45 15 (.slice A_16 y_2.length cap_16) y_2.length cs_11) :: (Ent.row 43 10 (.slice A_6 ((([] : List TD0) ++ d0.fParams) ++ [(⟨d1, (false), (false), z_TE0, ([] : List TE0)⟩ : TD0)]).length cap_6) ((([] : List TD0) ++ d0.fParams) ++ [(⟨d1, (false), (false), z_TE0, ([] : List TE0)⟩ : TD0)]).length cs_2) :: (Ent.obj b_2 (.cells #[.int .i8 0, S [120], .int .i64 0, S [], S [], .slice none 0 0] 37 (0, 0))) :: H) rfl fun w_74 p_120 _ f => W_end rfl (N_te (T_n ?_))))
          exact ⟨(([] : List TC0) ++ d0.fOuts) ++ [(⟨d1, ([] : List UInt8), (⟨(0 : Int), [120], (0 : Int), ([] : List UInt8), ([] : List UInt8), ([] : List TH0)⟩ : TH0)⟩ : TC0)], (sI hF_27).symm, M_9, (mR _), A_24, cap_24, cs_17, hr_25, f.kp, p_120⟩
         exact N_none
        exact N_none
       refine N_alt rfl (fun w_75 p_121 => ?_) ?_
       ·refine V_allocS (k := 1) (c := 1) f p_121 (.cells #[S d1, S [], .int .i8 0, S [120], .int .i64 0, S [], S [], .slice none 0 0] 51 (0, 0)) (by kernel_rfl) (fun _ => by kernel_rfl) fun b_19 w_76 p_122 _ f => W_end rfl (N_goN 2 (mR _) p_122 rfl (N_alt rfl (fun w_77 p_123 => ?_) ?_))
        ·have p_124 := p_123.pl [1]
         have hr_26 : RepSeq M_9 (([] : List TC0).map emb_TC0) [] := rfl
         have p_125 : Hp w0 M_9 ((Ent.row 51 8 (.slice (some ⟨b_17, 0, none⟩) 0 0) ([] : List TC0).length []) :: (Ent.obj b_19 (.cells #[S d1, S [], .int .i8 0, S [120], .int .i64 0, S [], S [], .slice none 0 0] 51 (0, 0))) :: (Ent.obj b_3 (.cells #[.slice A_1 d0.fParams.length cap_1, .slice A_2 d0.fConds.length cap_2, .slice A_3 d0.fRes.length cap_3, .slice A_4 d0.fOuts.length cap_4] 27 (0, 0))) :: (Ent.row 49 7 (.slice A_19 ((([] : List TB0) ++ d0.fRes) ++ [(⟨d1, [78, 101, 116], ([] : List UInt8), ([] : List TI0), ([] : List (List UInt8)), (false), ([] : List TA0)⟩ : TB0)]).length cap_19) ((([] : List TB0) ++ d0.fRes) ++ [(⟨d1, [78, 101, 116], ([] : List UInt8), ([] : List TI0), ([] : List (List UInt8)), (false), ([] : List TA0)⟩ : TB0)]).length cs_13) :: (Ent.row 45 15 (.slice A_16 y_2.length cap_16) y_2.length cs_11) :: (Ent.row 43 10 (.slice A_6 ((([] : List TD0) ++ d0.fParams) ++ [(⟨d1, (false), (false), z_TE0, ([] : List TE0)⟩ : TD0)]).length cap_6) ((([] : List TD0) ++ d0.fParams) ++ [(⟨d1, (false), (false), z_TE0, ([] : List TE0)⟩ : TD0)]).length cs_2) :: (Ent.obj b_2 (.cells #[.int .i8 0, S [120], .int .i64 0, S [], S [], .slice none 0 0] 37 (0, 0))) :: H) w_77 := p_124.objRow (n := 0) (cap := 0) (size := 8) (by decide) (by decide) (blk_eq (by decide) rfl) rfl rfl
         refine Y20 (z := .agg #[S [], S [], .int .i8 0, S [], .int .i64 0, S [], S [], .slice none 0 0]) (f := emb_TC0) (xs := ([] : List TC0)) (ys := d0.fOuts) (c := cap_4) f p_125 hr_26 (h_4.mono (((((hM_1.trans hM_2).trans hM_4).trans hM_5).trans hM_7).trans hM_9)) rfl rfl rfl g_7 (by omega) fun A_25 cap_25 cs_18 w_78 p_126 hr_27 _ f => W_end rfl (N_goN 2 (mR _) p_126 rfl (N_alt rfl (fun w_79 p_127 => ?_) ?_))
         ·refine Y19 (z := .agg #[S [], S [], .int .i8 0, S [], .int .i64 0, S [], S [], .slice none 0 0]) (f := emb_TC0) (xs := ([] : List TC0) ++ d0.fOuts) (ys := [(⟨d1, ([] : List UInt8), (⟨(0 : Int), [120], (0 : Int), ([] : List UInt8), ([] : List UInt8), ([] : List TH0)⟩ : TH0)⟩ : TC0)]) (news := [S d1, S [], .int .i8 0, S [120], .int .i64 0, S [], S [], .slice none 0 0]) (ad := ⟨b_19, 0, none⟩) (m := 1) (c := 1) f p_127 hr_27 (by exact ⟨_, _, rfl, TC0.shut Sli.nil, rfl⟩) rfl rfl rfl rfl (own_cells (p_127.ownCell 1 rfl) 0 rfl) (by exact g_8) (by have hg_ := g_8; first | omega | (simp only [List.length_cons, List.length_nil] at *; omega)) fun A_26 cap_26 cs_19 w_80 p_128 hr_28 _ f => ?_
          have p_129 := p_128.pl [1]
          have p_130 := p_129.drop
          refine W_end rfl (N_goN 1 (mR _) p_130 rfl (N_tail fun w_81 p_131 => Y f 1 fun _ f => Y21 f p_131 1 rfl rfl (b := b_3) (j := 3) (v := .slice A_26 ((([] : List TC0) ++ d0.fOuts) ++ [(⟨d1, ([] : List UInt8), (⟨(0 : Int), [120], (0 : Int), ([] : List UInt8), ([] : List UInt8), ([] : List TH0)⟩ : TH0)⟩ : TC0)]).length cap_26) rfl (by exact rfl) (by simp) (by simp) ((Ent.row 51 8 (.slice A_26 ((([] : List TC0) ++ d0.fOuts) ++ [(⟨d1, ([] : List UInt8), (⟨(0 : Int), [120], (0 : Int), ([] : List UInt8), ([] : List UInt8), ([] : List TH0)⟩ : TH0)⟩ : TC0)]).length cap_26) ((([] : List TC0) ++ d0.fOuts) ++ [(⟨d1, ([] : List UInt8), (⟨(0 : Int), [120], (0 : Int), ([] : List UInt8), ([] : List UInt8), ([] : List TH0)⟩ : TH0)⟩ : TC0)]).length cs_19) :: (Ent.obj b_3 (.cells #[.slice A_1 d0.fParams.length cap_1, .slice A_2 d0.fConds.length cap_2, .slice A_3 d0.fRes.length cap_3, .slice A_26 ((([] : List TC0) ++ d0.fOuts) ++ [(⟨d1, ([] : List UInt8), (⟨(0 : Int), [120], (0 : Int), ([] : List UInt8), ([] : List UInt8), ([] : List TH0)⟩ : TH0)⟩ : TC0)]).length cap_26] 27 (0, 0))) :: (Ent.row 49 7 (.slice A_19 ((([] : List TB0) ++ d0.fRes) ++ [(⟨d1, [78, 101, 116], ([] : List UInt8), ([] : List TI0), ([] : List (List UInt8)), (false), ([] : List TA0)⟩ : TB0)]).length cap_19) ((([] : List TB0) ++ d0.fRes) ++ [(⟨d1, [78, 101, 116], ([] : List UInt8), ([] : List TI0), ([] : List (List UInt8)), (false), ([] : List TA0)⟩ : TB0)]).length cs_13) :: (Ent.row 45 15 (.slice A_16 y_2.length cap_16) y_2.length cs_11) :: (Ent.row 43 10 (.slice A_6 ((([] : List TD0) ++ d0.fParams) ++ [(⟨d1, (false), (false), z_TE0, ([] : List TE0)⟩ : TD0)]).length cap_6) ((([] : List TD0) ++ d0.fParams) ++ [(⟨d1, (false), (false), z_TE0, ([] : List TE0)⟩ : TD0)]).length cs_2) :: (Ent.obj b_2 (.cells #[.int .i8 0, S [120], .int .i64 0, S [], S [], .slice none 0 0] 37 (0, 0))) :: H) rfl fun w_82 p_132 _ f => W_end rfl (N_te (T_n ?_))))
          exact ⟨(([] : List TC0) ++ d0.fOuts) ++ [(⟨d1, ([] : List UInt8), (⟨(0 : Int), [120], (0 : Int), ([] : List UInt8), ([] : List UInt8), ([] : List TH0)⟩ : TH0)⟩ : TC0)], (sI hF_27).symm, M_9, (mR _), A_26, cap_26, cs_19, hr_28, f.kp, p_132⟩
         exact N_none
        exact N_none
       exact N_none
      refine N_alt rfl (fun w_83 p_133 => ?_) ?_
      ·refine V_allocS (k := 1) (c := 1) f p_133 (.cells #[S d1, S [], .int .i8 0, S [120], .int .i64 0, S [], S [], .slice none 0 0] 51 (0, 0)) (by kernel_rfl) (fun _ => by kernel_rfl) fun b_20 w_84 p_134 _ f => W_end rfl (N_goN 1 (mR _) p_134 rfl (N_alt rfl (fun w_85 p_135 => ?_) ?_))
       ·refine V_allocS (k := 0) (c := 0) f p_135 (.cells #[] 51 (0, 0)) (by kernel_rfl) (fun _ => by kernel_rfl) fun b_21 w_86 p_136 _ f => W_end rfl (N_goN 2 (mR _) p_136 rfl (N_alt rfl (fun w_87 p_137 => ?_) ?_))
        ·have hr_29 : RepSeq M_9 (([] : List TC0).map emb_TC0) [] := rfl
         have p_138 : Hp w0 M_9 ((Ent.row 51 8 (.slice (some ⟨b_21, 0, none⟩) 0 0) ([] : List TC0).length []) :: (Ent.obj b_20 (.cells #[S d1, S [], .int .i8 0, S [120], .int .i64 0, S [], S [], .slice none 0 0] 51 (0, 0))) :: (Ent.obj b_3 (.cells #[.slice A_1 d0.fParams.length cap_1, .slice A_2 d0.fConds.length cap_2, .slice A_3 d0.fRes.length cap_3, .slice A_4 d0.fOuts.length cap_4] 27 (0, 0))) :: (Ent.row 49 7 (.slice A_19 ((([] : List TB0) ++ d0.fRes) ++ [(⟨d1, [78, 101, 116], ([] : List UInt8), ([] : List TI0), ([] : List (List UInt8)), (false), ([] : List TA0)⟩ : TB0)]).length cap_19) ((([] : List TB0) ++ d0.fRes) ++ [(⟨d1, [78, 101, 116], ([] : List UInt8), ([] : List TI0), ([] : List (List UInt8)), (false), ([] : List TA0)⟩ : TB0)]).length cs_13) :: (Ent.row 45 15 (.slice A_16 y_2.length cap_16) y_2.length cs_11) :: (Ent.row 43 10 (.slice A_6 ((([] : List TD0) ++ d0.fParams) ++ [(⟨d1, (false), (false), z_TE0, ([] : List TE0)⟩ : TD0)]).length cap_6) ((([] : List TD0) ++ d0.fParams) ++ [(⟨d1, (false), (false), z_TE0, ([] : List TE0)⟩ : TD0)]).length cs_2) :: (Ent.obj b_2 (.cells #[.int .i8 0, S [120], .int .i64 0, S [], S [], .slice none 0 0] 37 (0, 0))) :: H) w_87 := p_137.objRow (n := 0) (cap := 0) (size := 8) (by decide) (by decide) (blk_eq (by decide) rfl) rfl rfl
         refine Y20 (z := .agg #[S [], S [], .int .i8 0, S [], .int .i64 0, S [], S [], .slice none 0 0]) (f := emb_TC0) (xs := ([] : List TC0)) (ys := d0.fOuts) (c := cap_4) f p_138 hr_29 (h_4.mono (((((hM_1.trans hM_2).trans hM_4).trans hM_5).trans hM_7).trans hM_9)) rfl rfl rfl g_7 (by omega) fun A_27 cap_27 cs_20 w_88 p_139 hr_30 _ f => W_end rfl (N_goN 2 (mR _) p_139 rfl (N_alt rfl (fun w_89 p_140 => ?_) ?_))
         ·refine Y19 (z := .agg #[S [], S [], .int .i8 0, S [], .int .i64 0, S [], S [], .slice none 0 0]) (f := emb_TC0) (xs := ([] : List TC0) ++ d0.fOuts) (ys := [(⟨d1, ([] : List UInt8), (⟨(0 : Int), [120], (0 : Int), ([] : List UInt8), ([] : List UInt8), ([] : List TH0)⟩ : TH0)⟩ : TC0)]) (news := [S d1, S [], .int .i8 0, S [120], .int .i64 0, S [], S [], .slice none 0 0]) (ad := ⟨b_20, 0, none⟩) (m := 1) (c := 1) f p_140 hr_30 (by exact ⟨_, _, rfl, TC0.shut Sli.nil, rfl⟩) rfl rfl rfl rfl (own_cells (p_140.ownCell 1 rfl) 0 rfl) (by exact g_8) (by have hg_ := g_8; first | omega | (simp only [List.length_cons, List.length_nil] at *; omega)) fun A_28 cap_28 cs_21 w_90 p_141 hr_31 _ f => ?_
          have p_142 := p_141.pl [1]
          have p_143 := p_142.drop
          refine W_end rfl (N_goN 1 (mR _) p_143 rfl (N_tail fun w_91 p_144 => Y f 1 fun _ f => Y21 f p_144 1 rfl rfl (b := b_3) (j := 3) (v := .slice A_28 ((([] : List TC0) ++ d0.fOuts) ++ [(⟨d1, ([] : List UInt8), (⟨(0 : Int), [120], (0 : Int), ([] : List UInt8), ([] : List UInt8), ([] : List TH0)⟩ : TH0)⟩ : TC0)]).length cap_28) rfl (by exact rfl) (by simp) (by simp) ((Ent.row 51 8 (.slice A_28 ((([] : List TC0) ++ d0.fOuts) ++ [(⟨d1, ([] : List UInt8), (⟨(0 : Int), [120], (0 : Int), ([] : List UInt8), ([] : List UInt8), ([] : List TH0)⟩ : TH0)⟩ : TC0)]).length cap_28) ((([] : List TC0) ++ d0.fOuts) ++ [(⟨d1, ([] : List UInt8), (⟨(0 : Int), [120], (0 : Int), ([] : List UInt8), ([] : List UInt8), ([] : List TH0)⟩ : TH0)⟩ : TC0)]).length cs_21) :: (Ent.obj b_3 (.cells #[.slice A_1 d0.fParams.length cap_1, .slice A_2 d0.fConds.length cap_2, .slice A_3 d0.fRes.length cap_3, .slice A_28 ((([] : List TC0) ++ d0.fOuts) ++ [(⟨d1, ([] : List UInt8), (⟨(0 : Int), [120], (0 : Int), ([] : List UInt8), ([] : List UInt8), ([] : List TH0)⟩ : TH0)⟩ : TC0)]).length cap_28] 27 (0, 0))) :: (Ent.row 49 7 (.slice A_19 ((([] : List TB0) ++ d0.fRes) ++ [(⟨d1, [78, 101, 116], ([] : List UInt8), ([] : List TI0), ([] : List (List UInt8)), (false), ([] : List TA0)⟩ : TB0)]).length cap_19) ((([] : List TB0) ++ d0.fRes) ++ [(⟨d1, [78, 101, 116], ([] : List UInt8), ([] : List TI0), ([] : List (List UInt8)), (false), ([] : List TA0)⟩ : TB0)]).length cs_13) :: (Ent.row 45 15 (.slice A_16 y_2.length cap_16) y_2.length cs_11) :: (Ent.row 43 10 (.slice A_6 ((([] : List TD0) ++ d0.fParams) ++ [(⟨d1, (false), (false), z_TE0, ([] : List TE0)⟩ : TD0)]).length cap_6) ((([] : List TD0) ++ d0.fParams) ++ [(⟨d1, (false), (false), z_TE0, ([] : List TE0)⟩ : TD0)]).length cs_2) :: (Ent.obj b_2 (.cells #[.int .i8 0, S [120], .int .i64 0, S [], S [], .slice none 0 0] 37 (0, 0))) :: H) rfl fun w_92 p_145 _ f => W_end rfl (N_te (T_n ?_))))
          exact ⟨(([] : List TC0) ++ d0.fOuts) ++ [(⟨d1, ([] : List UInt8), (⟨(0 : Int), [120], (0 : Int), ([] : List UInt8), ([] : List UInt8), ([] : List TH0)⟩ : TH0)⟩ : TC0)], (sI hF_27).symm, M_9, (mR _), A_28, cap_28, cs_21, hr_31, f.kp, p_145⟩
         exact N_none
        exact N_none
       exact N_none
      exact N_none
     ·rintro a_126 w_93 ⟨y_3, hq_3, M_10, hM_10, A_29, cap_29, cs_22, hr_32, f, p_146⟩
      subst j_3
      refine T_n (RR (Z (v := .agg #[.slice A_1 d0.fParams.length cap_1, .slice A_2 d0.fConds.length cap_2, .slice A_3 d0.fRes.length cap_3, .slice A_29 y_3.length cap_29]) f (Y27 (cs := [.slice A_1 d0.fParams.length cap_1, .slice A_2 d0.fConds.length cap_2, .slice A_3 d0.fRes.length cap_3, .slice A_29 y_3.length cap_29]) rfl (ad := ⟨b_3, 0, none⟩) (own_cells (p_146.ownCell 1 rfl) 0 rfl)) fun _ f => ?_))
      obtain ⟨M_11, A_30, cap_30, hM_11, hv_4, p_147, h_12, hb_4⟩ := p_146.lend (f := emb_TC0) (xs := y_3) szd_TC0 hr_32
      have f := Frm.set f 103 (v := .agg #[.slice A_1 d0.fParams.length cap_1, .slice A_2 d0.fConds.length cap_2, .slice A_3 d0.fRes.length cap_3, .slice A_29 y_3.length cap_29]) (v' := .agg #[.slice A_1 d0.fParams.length cap_1, .slice A_2 d0.fConds.length cap_2, .slice A_3 d0.fRes.length cap_3, .slice A_30 y_3.length cap_30]) (by kernel_rfl) (by rw [hv_4])
      have p_148 : Hp w0 M_11 ((Ent.obj b_3 (.cells #[.slice A_1 d0.fParams.length cap_1, .slice A_2 d0.fConds.length cap_2, .slice A_3 d0.fRes.length cap_3, .slice A_30 y_3.length cap_30] 27 (0, 0))) :: (Ent.row 49 7 (.slice A_19 ((([] : List TB0) ++ d0.fRes) ++ [(⟨d1, [78, 101, 116], ([] : List UInt8), ([] : List TI0), ([] : List (List UInt8)), (false), ([] : List TA0)⟩ : TB0)]).length cap_19) ((([] : List TB0) ++ d0.fRes) ++ [(⟨d1, [78, 101, 116], ([] : List UInt8), ([] : List TI0), ([] : List (List UInt8)), (false), ([] : List TA0)⟩ : TB0)]).length cs_13) :: (Ent.row 45 15 (.slice A_16 y_2.length cap_16) y_2.length cs_11) :: (Ent.row 43 10 (.slice A_6 ((([] : List TD0) ++ d0.fParams) ++ [(⟨d1, (false), (false), z_TE0, ([] : List TE0)⟩ : TD0)]).length cap_6) ((([] : List TD0) ++ d0.fParams) ++ [(⟨d1, (false), (false), z_TE0, ([] : List TE0)⟩ : TD0)]).length cs_2) :: (Ent.obj b_2 (.cells #[.int .i8 0, S [120], .int .i64 0, S [], S [], .slice none 0 0] 37 (0, 0))) :: H) w_93 := by rw [hv_4] at p_147; exact p_147
      obtain ⟨x_9, hx_9, hF_28⟩ := bS hF_25
      refine Y17 f p_148 (refs_Check_ok n _ _ (⟨d0.fParams, d0.fConds, d0.fRes, y_3⟩ : TA0) (TA0.shut (h_1.mono (((((((hM_1.trans hM_2).trans hM_4).trans hM_5).trans hM_7).trans hM_9).trans hM_10).trans hM_11)) (h_2.mono (((((((hM_1.trans hM_2).trans hM_4).trans hM_5).trans hM_7).trans hM_9).trans hM_10).trans hM_11)) (h_3.mono (((((((hM_1.trans hM_2).trans hM_4).trans hM_5).trans hM_7).trans hM_9).trans hM_10).trans hM_11)) h_12) x_9 hx_9) fun w_94 p_149 _ f => ?_
      obtain ⟨M_12, hM_12, p_150⟩ := hb_4 _ _ _ (mR _) p_149
      have p_151 : Hp w0 M_12 ((Ent.row 51 8 (.slice A_29 y_3.length cap_29) y_3.length cs_22) :: (Ent.obj b_3 (.cells #[.slice A_1 d0.fParams.length cap_1, .slice A_2 d0.fConds.length cap_2, .slice A_3 d0.fRes.length cap_3, .slice A_29 y_3.length cap_29] 27 (0, 0))) :: (Ent.row 49 7 (.slice A_19 ((([] : List TB0) ++ d0.fRes) ++ [(⟨d1, [78, 101, 116], ([] : List UInt8), ([] : List TI0), ([] : List (List UInt8)), (false), ([] : List TA0)⟩ : TB0)]).length cap_19) ((([] : List TB0) ++ d0.fRes) ++ [(⟨d1, [78, 101, 116], ([] : List UInt8), ([] : List TI0), ([] : List (List UInt8)), (false), ([] : List TA0)⟩ : TB0)]).length cs_13) :: (Ent.row 45 15 (.slice A_16 y_2.length cap_16) y_2.length cs_11) :: (Ent.row 43 10 (.slice A_6 ((([] : List TD0) ++ d0.fParams) ++ [(⟨d1, (false), (false), z_TE0, ([] : List TE0)⟩ : TD0)]).length cap_6) ((([] : List TD0) ++ d0.fParams) ++ [(⟨d1, (false), (false), z_TE0, ([] : List TE0)⟩ : TD0)]).length cs_2) :: (Ent.obj b_2 (.cells #[.int .i8 0, S [120], .int .i64 0, S [], S [], .slice none 0 0] 37 (0, 0))) :: H) w_94 := by rw [hv_4] at p_150 ⊢; exact p_150
      have f := Frm.set f 103 (v := .agg #[.slice A_1 d0.fParams.length cap_1, .slice A_2 d0.fConds.length cap_2, .slice A_3 d0.fRes.length cap_3, .slice A_30 y_3.length cap_30]) (v' := .agg #[.slice A_1 d0.fParams.length cap_1, .slice A_2 d0.fConds.length cap_2, .slice A_3 d0.fRes.length cap_3, .slice A_29 y_3.length cap_29]) (by kernel_rfl) (by rw [hv_4])
      refine Y f 5 fun _ f => eT (RR (Y f 1 fun _ f => Z f (Y26 (v := .slice A_29 y_3.length cap_29) rfl (ad := ⟨b_3, 3, none⟩) (p_151.ownCell 1 rfl 3)) fun _ f => Y f 1 fun _ f => Y14 f p_151 (fzu ((((((hM_2.trans hM_4).trans hM_5).trans hM_7).trans hM_9).trans hM_10).trans hM_12) hc_2) 3 rfl fun _ f => Y f 3 fun _ f => ?_))
      obtain ⟨x_10, hx_10, hF_29⟩ := bS hF_28
      obtain ⟨b_22, cap_31, hv_5, hcap_1⟩ := p_151.rowAddr 0 rfl (getI_pos hx_10)
      have f := f.st 108 (hv_5)
      refine Z f (Y24 rfl (ad := ⟨b_22, 0, none⟩) (len := y_3.length) (cap := cap_31) (k := .i64) (i := ((d0.fOuts.length : Nat) : Int)) (e := 51) (sz := 8) (getI_nn hx_10) (getI_lt hx_10)) fun _ f => ?_
      have f := f.st 108 (hv_5.symm)
      refine Y f 1 fun _ f => ?_
      obtain ⟨c_1, hl_1, hr_33, hc_3⟩ := RepSeq.get ((d0.fOuts.length : Nat) : Int).toNat (szd_all szd_TC0) (RepSeq.mono hM_12 _ _ hr_32) (getI_map hx_10)
      obtain ⟨A_31, cap_32, rfl, h_13⟩ := TC0.opn hr_33
      obtain ⟨x_11, hx_11, hF_30⟩ := bS hF_29
      replace hx_11 : (⟨x_10.fName, x_10.fCond, (⟨(3 : Int), ([] : List UInt8), (0 : Int), d1, ([] : List UInt8), ([] : List TH0)⟩ : TH0)⟩ : TC0) = x_11 := sI hx_11
      obtain ⟨x_12, hx_12, hF_31⟩ := bS hF_30
      replace hx_12 : y_3.set ((d0.fOuts.length : Nat) : Int).toNat x_11 = x_12 := sI hx_12
      refine W_rowstoreA (it := ((d0.fOuts.length : Nat) : Int)) (off := 2) (d := y_3) (f := emb_TC0) (xv := x_11) (vs := [.int .i8 3, S [], .int .i64 0, S d1, S [], .slice none 0 0]) (c0 := [S x_10.fName, S x_10.fCond, .int .i8 x_10.fE.fKind, S x_10.fE.fText, .int .i64 x_10.fE.fNum, S x_10.fE.fName, S x_10.fE.fAttr, .slice A_31 x_10.fE.fL.length cap_32]) (c1 := [S x_10.fName, S x_10.fCond, .int .i8 3, S [], .int .i64 0, S d1, S [], .slice none 0 0]) f p_151 hv_5 (by kernel_rfl) (by kernel_rfl) rfl rfl (by kernel_rfl) (by kernel_rfl) (by kernel_rfl) szd_TC0 hx_10 (RepSeq.mono hM_12 _ _ hr_32) rfl hc_3 (Nat.le_of_ble_eq_true rfl) rfl (by simp [Value.oneCell', S]) (by rw [← hx_11]; exact TC0.shut Sli.nil) fun cs_23 w_95 p_152 hr_34 _ f => ?_
      rw [hx_12] at hr_34
      have p_153 : Hp w0 M_12 ((Ent.row 51 8 (.slice A_29 (x_12).length cap_29) x_12.length cs_23) :: (Ent.obj b_3 (.cells #[.slice A_1 d0.fParams.length cap_1, .slice A_2 d0.fConds.length cap_2, .slice A_3 d0.fRes.length cap_3, .slice A_29 y_3.length cap_29] 27 (0, 0))) :: (Ent.row 49 7 (.slice A_19 ((([] : List TB0) ++ d0.fRes) ++ [(⟨d1, [78, 101, 116], ([] : List UInt8), ([] : List TI0), ([] : List (List UInt8)), (false), ([] : List TA0)⟩ : TB0)]).length cap_19) ((([] : List TB0) ++ d0.fRes) ++ [(⟨d1, [78, 101, 116], ([] : List UInt8), ([] : List TI0), ([] : List (List UInt8)), (false), ([] : List TA0)⟩ : TB0)]).length cs_13) :: (Ent.row 45 15 (.slice A_16 y_2.length cap_16) y_2.length cs_11) :: (Ent.row 43 10 (.slice A_6 ((([] : List TD0) ++ d0.fParams) ++ [(⟨d1, (false), (false), z_TE0, ([] : List TE0)⟩ : TD0)]).length cap_6) ((([] : List TD0) ++ d0.fParams) ++ [(⟨d1, (false), (false), z_TE0, ([] : List TE0)⟩ : TD0)]).length cs_2) :: (Ent.obj b_2 (.cells #[.int .i8 0, S [120], .int .i64 0, S [], S [], .slice none 0 0] 37 (0, 0))) :: H) w_95 := by rw [← hx_12]; exact p_152.rowVal (by simp only [List.length_set])
      have p_154 : Hp w0 M_12 ((Ent.row 51 8 (.slice A_29 (x_12).length cap_29) x_12.length cs_23) :: (Ent.obj b_3 (.cells #[.slice A_1 d0.fParams.length cap_1, .slice A_2 d0.fConds.length cap_2, .slice A_3 d0.fRes.length cap_3, .slice A_29 (x_12).length cap_29] 27 (0, 0))) :: (Ent.row 49 7 (.slice A_19 ((([] : List TB0) ++ d0.fRes) ++ [(⟨d1, [78, 101, 116], ([] : List UInt8), ([] : List TI0), ([] : List (List UInt8)), (false), ([] : List TA0)⟩ : TB0)]).length cap_19) ((([] : List TB0) ++ d0.fRes) ++ [(⟨d1, [78, 101, 116], ([] : List UInt8), ([] : List TI0), ([] : List (List UInt8)), (false), ([] : List TA0)⟩ : TB0)]).length cs_13) :: (Ent.row 45 15 (.slice A_16 y_2.length cap_16) y_2.length cs_11) :: (Ent.row 43 10 (.slice A_6 ((([] : List TD0) ++ d0.fParams) ++ [(⟨d1, (false), (false), z_TE0, ([] : List TE0)⟩ : TD0)]).length cap_6) ((([] : List TD0) ++ d0.fParams) ++ [(⟨d1, (false), (false), z_TE0, ([] : List TE0)⟩ : TD0)]).length cs_2) :: (Ent.obj b_2 (.cells #[.int .i8 0, S [120], .int .i64 0, S [], S [], .slice none 0 0] 37 (0, 0))) :: H) w_95 := by rw [← hx_12, List.length_set]; rw [← hx_12, List.length_set] at p_153; exact p_153
      refine eT (RR (Z (v := .agg #[.slice A_1 d0.fParams.length cap_1, .slice A_2 d0.fConds.length cap_2, .slice A_3 d0.fRes.length cap_3, .slice A_29 (x_12).length cap_29]) f (Y27 (cs := [.slice A_1 d0.fParams.length cap_1, .slice A_2 d0.fConds.length cap_2, .slice A_3 d0.fRes.length cap_3, .slice A_29 (x_12).length cap_29]) rfl (ad := ⟨b_3, 0, none⟩) (own_cells (p_154.ownCell 1 rfl) 0 rfl)) fun _ f => ?_))
      obtain ⟨M_13, A_32, cap_33, hM_13, hv_6, p_155, h_14, hb_5⟩ := p_154.lend (f := emb_TC0) (xs := x_12) szd_TC0 hr_34
      have f := Frm.set f 117 (v := .agg #[.slice A_1 d0.fParams.length cap_1, .slice A_2 d0.fConds.length cap_2, .slice A_3 d0.fRes.length cap_3, .slice A_29 (x_12).length cap_29]) (v' := .agg #[.slice A_1 d0.fParams.length cap_1, .slice A_2 d0.fConds.length cap_2, .slice A_3 d0.fRes.length cap_3, .slice A_32 x_12.length cap_33]) (by kernel_rfl) (by rw [hv_6])
      have p_156 : Hp w0 M_13 ((Ent.obj b_3 (.cells #[.slice A_1 d0.fParams.length cap_1, .slice A_2 d0.fConds.length cap_2, .slice A_3 d0.fRes.length cap_3, .slice A_32 x_12.length cap_33] 27 (0, 0))) :: (Ent.row 49 7 (.slice A_19 ((([] : List TB0) ++ d0.fRes) ++ [(⟨d1, [78, 101, 116], ([] : List UInt8), ([] : List TI0), ([] : List (List UInt8)), (false), ([] : List TA0)⟩ : TB0)]).length cap_19) ((([] : List TB0) ++ d0.fRes) ++ [(⟨d1, [78, 101, 116], ([] : List UInt8), ([] : List TI0), ([] : List (List UInt8)), (false), ([] : List TA0)⟩ : TB0)]).length cs_13) :: (Ent.row 45 15 (.slice A_16 y_2.length cap_16) y_2.length cs_11) :: (Ent.row 43 10 (.slice A_6 ((([] : List TD0) ++ d0.fParams) ++ [(⟨d1, (false), (false), z_TE0, ([] : List TE0)⟩ : TD0)]).length cap_6) ((([] : List TD0) ++ d0.fParams) ++ [(⟨d1, (false), (false), z_TE0, ([] : List TE0)⟩ : TD0)]).length cs_2) :: (Ent.obj b_2 (.cells #[.int .i8 0, S [120], .int .i64 0, S [], S [], .slice none 0 0] 37 (0, 0))) :: H) w_95 := by rw [hv_6] at p_155; exact p_155
      obtain ⟨x_13, hx_13, hF_32⟩ := bS hF_31
      refine Y17 f p_156 (refs_Check_ok n _ _ (⟨d0.fParams, d0.fConds, d0.fRes, x_12⟩ : TA0) (TA0.shut (h_1.mono ((((((((hM_1.trans hM_2).trans hM_4).trans hM_5).trans hM_7).trans hM_9).trans hM_10).trans hM_12).trans hM_13)) (h_2.mono ((((((((hM_1.trans hM_2).trans hM_4).trans hM_5).trans hM_7).trans hM_9).trans hM_10).trans hM_12).trans hM_13)) (h_3.mono ((((((((hM_1.trans hM_2).trans hM_4).trans hM_5).trans hM_7).trans hM_9).trans hM_10).trans hM_12).trans hM_13)) h_14) x_13 hx_13) fun w_96 p_157 _ f => ?_
      obtain ⟨M_14, hM_14, p_158⟩ := hb_5 _ _ _ (mR _) p_157
      have p_159 : Hp w0 M_14 ((Ent.row 51 8 (.slice A_29 (x_12).length cap_29) x_12.length cs_23) :: (Ent.obj b_3 (.cells #[.slice A_1 d0.fParams.length cap_1, .slice A_2 d0.fConds.length cap_2, .slice A_3 d0.fRes.length cap_3, .slice A_29 (x_12).length cap_29] 27 (0, 0))) :: (Ent.row 49 7 (.slice A_19 ((([] : List TB0) ++ d0.fRes) ++ [(⟨d1, [78, 101, 116], ([] : List UInt8), ([] : List TI0), ([] : List (List UInt8)), (false), ([] : List TA0)⟩ : TB0)]).length cap_19) ((([] : List TB0) ++ d0.fRes) ++ [(⟨d1, [78, 101, 116], ([] : List UInt8), ([] : List TI0), ([] : List (List UInt8)), (false), ([] : List TA0)⟩ : TB0)]).length cs_13) :: (Ent.row 45 15 (.slice A_16 y_2.length cap_16) y_2.length cs_11) :: (Ent.row 43 10 (.slice A_6 ((([] : List TD0) ++ d0.fParams) ++ [(⟨d1, (false), (false), z_TE0, ([] : List TE0)⟩ : TD0)]).length cap_6) ((([] : List TD0) ++ d0.fParams) ++ [(⟨d1, (false), (false), z_TE0, ([] : List TE0)⟩ : TD0)]).length cs_2) :: (Ent.obj b_2 (.cells #[.int .i8 0, S [120], .int .i64 0, S [], S [], .slice none 0 0] 37 (0, 0))) :: H) w_96 := by rw [hv_6] at p_158 ⊢; exact p_158
      have f := Frm.set f 117 (v := .agg #[.slice A_1 d0.fParams.length cap_1, .slice A_2 d0.fConds.length cap_2, .slice A_3 d0.fRes.length cap_3, .slice A_32 x_12.length cap_33]) (v' := .agg #[.slice A_1 d0.fParams.length cap_1, .slice A_2 d0.fConds.length cap_2, .slice A_3 d0.fRes.length cap_3, .slice A_29 (x_12).length cap_29]) (by kernel_rfl) (by rw [hv_6])
      refine Y f 5 fun _ f => eT (RR (Y f 1 fun _ f => Z f (Y26 (v := .slice A_29 (x_12).length cap_29) rfl (ad := ⟨b_3, 3, none⟩) (p_159.ownCell 1 rfl 3)) fun _ f => Y f 1 fun _ f => Y14 f p_159 (fzu (((((((hM_2.trans hM_4).trans hM_5).trans hM_7).trans hM_9).trans hM_10).trans hM_12).trans hM_14) hc_2) 3 rfl fun _ f => Y f 2 fun _ f => Z (v := .agg #[.int .i8 0, S [120], .int .i64 0, S [], S [], .slice none 0 0]) f (Y27 (cs := [.int .i8 0, S [120], .int .i64 0, S [], S [], .slice none 0 0]) rfl (ad := ⟨b_2, 0, none⟩) (own_cells (p_159.ownCell 5 rfl) 0 rfl)) fun _ f => Z (v := .agg #[.int .i8 0, S [120], .int .i64 0, S [], S [], .slice none 0 0]) f (Y27 (cs := [.int .i8 0, S [120], .int .i64 0, S [], S [], .slice none 0 0]) rfl (ad := ⟨b_2, 0, none⟩) (own_cells (p_159.ownCell 5 rfl) 0 rfl)) fun _ f => V_allocS (k := 2) (c := 2) f p_159 (.cells #[.int .i8 0, S [120], .int .i64 0, S [], S [], .slice none 0 0, .int .i8 0, S [120], .int .i64 0, S [], S [], .slice none 0 0] 37 (0, 0)) (by kernel_rfl) (fun _ => by kernel_rfl) fun b_23 w_97 p_160 _ f => Y f 1 fun _ f => ?_))
      obtain ⟨x_14, hx_14, hF_33⟩ := bS hF_32
      obtain ⟨b_24, cap_34, hv_7, hcap_2⟩ := p_160.rowAddr 1 rfl (getI_pos hx_14)
      have f := f.st 122 (hv_7)
      refine Z f (Y24 rfl (ad := ⟨b_24, 0, none⟩) (len := x_12.length) (cap := cap_34) (k := .i64) (i := ((d0.fOuts.length : Nat) : Int)) (e := 51) (sz := 8) (getI_nn hx_14) (getI_lt hx_14)) fun _ f => ?_
      have f := f.st 122 (hv_7.symm)
      refine Y f 1 fun _ f => ?_
      have hr_35 : RepSeq M_14 ([(⟨(0 : Int), [120], (0 : Int), ([] : List UInt8), ([] : List UInt8), ([] : List TH0)⟩ : TH0), (⟨(0 : Int), [120], (0 : Int), ([] : List UInt8), ([] : List UInt8), ([] : List TH0)⟩ : TH0)].map emb_TH0) [.int .i8 0, S [120], .int .i64 0, S [], S [], .slice none 0 0, .int .i8 0, S [120], .int .i64 0, S [], S [], .slice none 0 0] := ⟨_, _, rfl, TH0.shut Sli.nil, ⟨_, _, rfl, TH0.shut Sli.nil, rfl⟩⟩
      have p_161 : Hp w0 M_14 ((Ent.row 37 6 (.slice (some ⟨b_23, 0, none⟩) 2 2) [(⟨(0 : Int), [120], (0 : Int), ([] : List UInt8), ([] : List UInt8), ([] : List TH0)⟩ : TH0), (⟨(0 : Int), [120], (0 : Int), ([] : List UInt8), ([] : List UInt8), ([] : List TH0)⟩ : TH0)].length [.int .i8 0, S [120], .int .i64 0, S [], S [], .slice none 0 0, .int .i8 0, S [120], .int .i64 0, S [], S [], .slice none 0 0]) :: (Ent.row 51 8 (.slice A_29 (x_12).length cap_29) x_12.length cs_23) :: (Ent.obj b_3 (.cells #[.slice A_1 d0.fParams.length cap_1, .slice A_2 d0.fConds.length cap_2, .slice A_3 d0.fRes.length cap_3, .slice A_29 (x_12).length cap_29] 27 (0, 0))) :: (Ent.row 49 7 (.slice A_19 ((([] : List TB0) ++ d0.fRes) ++ [(⟨d1, [78, 101, 116], ([] : List UInt8), ([] : List TI0), ([] : List (List UInt8)), (false), ([] : List TA0)⟩ : TB0)]).length cap_19) ((([] : List TB0) ++ d0.fRes) ++ [(⟨d1, [78, 101, 116], ([] : List UInt8), ([] : List TI0), ([] : List (List UInt8)), (false), ([] : List TA0)⟩ : TB0)]).length cs_13) :: (Ent.row 45 15 (.slice A_16 y_2.length cap_16) y_2.length cs_11) :: (Ent.row 43 10 (.slice A_6 ((([] : List TD0) ++ d0.fParams) ++ [(⟨d1, (false), (false), z_TE0, ([] : List TE0)⟩ : TD0)]).length cap_6) ((([] : List TD0) ++ d0.fParams) ++ [(⟨d1, (false), (false), z_TE0, ([] : List TE0)⟩ : TD0)]).length cs_2) :: (Ent.obj b_2 (.cells #[.int .i8 0, S [120], .int .i64 0, S [], S [], .slice none 0 0] 37 (0, 0))) :: H) w_97 := p_160.objRow (n := 2) (cap := 2) (size := 6) (by decide) (by decide) (blk_eq (by decide) rfl) rfl rfl
      obtain ⟨A_33, cap_35, M_15, hv_8, hM_15, p_162, h_15⟩ := p_161.rowSli (f := emb_TH0) (xs := [(⟨(0 : Int), [120], (0 : Int), ([] : List UInt8), ([] : List UInt8), ([] : List TH0)⟩ : TH0), (⟨(0 : Int), [120], (0 : Int), ([] : List UInt8), ([] : List UInt8), ([] : List TH0)⟩ : TH0)]) szd_TH0 hr_35
      have f := Frm.set f 130 (v := .agg #[.int .i8 6, S [], .int .i64 0, S d1, S [], .slice (some ⟨b_23, 0, none⟩) 2 2]) (v' := .agg #[.int .i8 6, S [], .int .i64 0, S d1, S [], .slice A_33 [(⟨(0 : Int), [120], (0 : Int), ([] : List UInt8), ([] : List UInt8), ([] : List TH0)⟩ : TH0), (⟨(0 : Int), [120], (0 : Int), ([] : List UInt8), ([] : List UInt8), ([] : List TH0)⟩ : TH0)].length cap_35]) (by kernel_rfl) (by rw [hv_8])
      obtain ⟨c_2, hl_2, hr_36, hc_4⟩ := RepSeq.get ((d0.fOuts.length : Nat) : Int).toNat (szd_all szd_TC0) (RepSeq.mono (hM_14.trans hM_15) _ _ hr_34) (getI_map hx_14)
      obtain ⟨A_34, cap_36, rfl, h_16⟩ := TC0.opn hr_36
      obtain ⟨x_15, hx_15, hF_34⟩ := bS hF_33
      replace hx_15 : (⟨x_14.fName, x_14.fCond, (⟨(6 : Int), ([] : List UInt8), (0 : Int), d1, ([] : List UInt8), [(⟨(0 : Int), [120], (0 : Int), ([] : List UInt8), ([] : List UInt8), ([] : List TH0)⟩ : TH0), (⟨(0 : Int), [120], (0 : Int), ([] : List UInt8), ([] : List UInt8), ([] : List TH0)⟩ : TH0)]⟩ : TH0)⟩ : TC0) = x_15 := sI hx_15
      obtain ⟨x_16, hx_16, hF_35⟩ := bS hF_34
      replace hx_16 : x_12.set ((d0.fOuts.length : Nat) : Int).toNat x_15 = x_16 := sI hx_16
      refine W_rowstoreA (it := ((d0.fOuts.length : Nat) : Int)) (off := 2) (d := x_12) (f := emb_TC0) (xv := x_15) (vs := [.int .i8 6, S [], .int .i64 0, S d1, S [], .slice A_33 [(⟨(0 : Int), [120], (0 : Int), ([] : List UInt8), ([] : List UInt8), ([] : List TH0)⟩ : TH0), (⟨(0 : Int), [120], (0 : Int), ([] : List UInt8), ([] : List UInt8), ([] : List TH0)⟩ : TH0)].length cap_35]) (c0 := [S x_14.fName, S x_14.fCond, .int .i8 x_14.fE.fKind, S x_14.fE.fText, .int .i64 x_14.fE.fNum, S x_14.fE.fName, S x_14.fE.fAttr, .slice A_34 x_14.fE.fL.length cap_36]) (c1 := [S x_14.fName, S x_14.fCond, .int .i8 6, S [], .int .i64 0, S d1, S [], .slice A_33 [(⟨(0 : Int), [120], (0 : Int), ([] : List UInt8), ([] : List UInt8), ([] : List TH0)⟩ : TH0), (⟨(0 : Int), [120], (0 : Int), ([] : List UInt8), ([] : List UInt8), ([] : List TH0)⟩ : TH0)].length cap_35]) f p_162 hv_7 (by kernel_rfl) (by kernel_rfl) rfl rfl (by kernel_rfl) (by kernel_rfl) (by kernel_rfl) szd_TC0 hx_14 (RepSeq.mono (hM_14.trans hM_15) _ _ hr_34) rfl hc_4 (Nat.le_of_ble_eq_true rfl) rfl (by simp [Value.oneCell', S]) (by rw [← hx_15]; exact TC0.shut h_15) fun cs_24 w_98 p_163 hr_37 _ f => ?_
      rw [hx_16] at hr_37
      have p_164 : Hp w0 M_15 ((Ent.row 51 8 (.slice A_29 (x_16).length cap_29) x_16.length cs_24) :: (Ent.obj b_3 (.cells #[.slice A_1 d0.fParams.length cap_1, .slice A_2 d0.fConds.length cap_2, .slice A_3 d0.fRes.length cap_3, .slice A_29 (x_12).length cap_29] 27 (0, 0))) :: (Ent.row 49 7 (.slice A_19 ((([] : List TB0) ++ d0.fRes) ++ [(⟨d1, [78, 101, 116], ([] : List UInt8), ([] : List TI0), ([] : List (List UInt8)), (false), ([] : List TA0)⟩ : TB0)]).length cap_19) ((([] : List TB0) ++ d0.fRes) ++ [(⟨d1, [78, 101, 116], ([] : List UInt8), ([] : List TI0), ([] : List (List UInt8)), (false), ([] : List TA0)⟩ : TB0)]).length cs_13) :: (Ent.row 45 15 (.slice A_16 y_2.length cap_16) y_2.length cs_11) :: (Ent.row 43 10 (.slice A_6 ((([] : List TD0) ++ d0.fParams) ++ [(⟨d1, (false), (false), z_TE0, ([] : List TE0)⟩ : TD0)]).length cap_6) ((([] : List TD0) ++ d0.fParams) ++ [(⟨d1, (false), (false), z_TE0, ([] : List TE0)⟩ : TD0)]).length cs_2) :: (Ent.obj b_2 (.cells #[.int .i8 0, S [120], .int .i64 0, S [], S [], .slice none 0 0] 37 (0, 0))) :: H) w_98 := by rw [← hx_16]; exact p_163.rowVal (by simp only [List.length_set])
      have p_165 : Hp w0 M_15 ((Ent.row 51 8 (.slice A_29 (x_16).length cap_29) x_16.length cs_24) :: (Ent.obj b_3 (.cells #[.slice A_1 d0.fParams.length cap_1, .slice A_2 d0.fConds.length cap_2, .slice A_3 d0.fRes.length cap_3, .slice A_29 (x_16).length cap_29] 27 (0, 0))) :: (Ent.row 49 7 (.slice A_19 ((([] : List TB0) ++ d0.fRes) ++ [(⟨d1, [78, 101, 116], ([] : List UInt8), ([] : List TI0), ([] : List (List UInt8)), (false), ([] : List TA0)⟩ : TB0)]).length cap_19) ((([] : List TB0) ++ d0.fRes) ++ [(⟨d1, [78, 101, 116], ([] : List UInt8), ([] : List TI0), ([] : List (List UInt8)), (false), ([] : List TA0)⟩ : TB0)]).length cs_13) :: (Ent.row 45 15 (.slice A_16 y_2.length cap_16) y_2.length cs_11) :: (Ent.row 43 10 (.slice A_6 ((([] : List TD0) ++ d0.fParams) ++ [(⟨d1, (false), (false), z_TE0, ([] : List TE0)⟩ : TD0)]).length cap_6) ((([] : List TD0) ++ d0.fParams) ++ [(⟨d1, (false), (false), z_TE0, ([] : List TE0)⟩ : TD0)]).length cs_2) :: (Ent.obj b_2 (.cells #[.int .i8 0, S [120], .int .i64 0, S [], S [], .slice none 0 0] 37 (0, 0))) :: H) w_98 := by rw [← hx_16, List.length_set]; rw [← hx_16, List.length_set] at p_164; exact p_164
      refine eT (RR (Z (v := .agg #[.slice A_1 d0.fParams.length cap_1, .slice A_2 d0.fConds.length cap_2, .slice A_3 d0.fRes.length cap_3, .slice A_29 (x_16).length cap_29]) f (Y27 (cs := [.slice A_1 d0.fParams.length cap_1, .slice A_2 d0.fConds.length cap_2, .slice A_3 d0.fRes.length cap_3, .slice A_29 (x_16).length cap_29]) rfl (ad := ⟨b_3, 0, none⟩) (own_cells (p_165.ownCell 1 rfl) 0 rfl)) fun _ f => ?_))
      obtain ⟨M_16, A_35, cap_37, hM_16, hv_9, p_166, h_17, hb_6⟩ := p_165.lend (f := emb_TC0) (xs := x_16) szd_TC0 hr_37
      have f := Frm.set f 134 (v := .agg #[.slice A_1 d0.fParams.length cap_1, .slice A_2 d0.fConds.length cap_2, .slice A_3 d0.fRes.length cap_3, .slice A_29 (x_16).length cap_29]) (v' := .agg #[.slice A_1 d0.fParams.length cap_1, .slice A_2 d0.fConds.length cap_2, .slice A_3 d0.fRes.length cap_3, .slice A_35 x_16.length cap_37]) (by kernel_rfl) (by rw [hv_9])
      have p_167 : Hp w0 M_16 ((Ent.obj b_3 (.cells #[.slice A_1 d0.fParams.length cap_1, .slice A_2 d0.fConds.length cap_2, .slice A_3 d0.fRes.length cap_3, .slice A_35 x_16.length cap_37] 27 (0, 0))) :: (Ent.row 49 7 (.slice A_19 ((([] : List TB0) ++ d0.fRes) ++ [(⟨d1, [78, 101, 116], ([] : List UInt8), ([] : List TI0), ([] : List (List UInt8)), (false), ([] : List TA0)⟩ : TB0)]).length cap_19) ((([] : List TB0) ++ d0.fRes) ++ [(⟨d1, [78, 101, 116], ([] : List UInt8), ([] : List TI0), ([] : List (List UInt8)), (false), ([] : List TA0)⟩ : TB0)]).length cs_13) :: (Ent.row 45 15 (.slice A_16 y_2.length cap_16) y_2.length cs_11) :: (Ent.row 43 10 (.slice A_6 ((([] : List TD0) ++ d0.fParams) ++ [(⟨d1, (false), (false), z_TE0, ([] : List TE0)⟩ : TD0)]).length cap_6) ((([] : List TD0) ++ d0.fParams) ++ [(⟨d1, (false), (false), z_TE0, ([] : List TE0)⟩ : TD0)]).length cs_2) :: (Ent.obj b_2 (.cells #[.int .i8 0, S [120], .int .i64 0, S [], S [], .slice none 0 0] 37 (0, 0))) :: H) w_98 := by rw [hv_9] at p_166; exact p_166
      obtain ⟨x_17, hx_17, hF_36⟩ := bS hF_35
      refine Y17 f p_167 (refs_Check_ok n _ _ (⟨d0.fParams, d0.fConds, d0.fRes, x_16⟩ : TA0) (TA0.shut (h_1.mono ((((((((((hM_1.trans hM_2).trans hM_4).trans hM_5).trans hM_7).trans hM_9).trans hM_10).trans hM_12).trans hM_14).trans hM_15).trans hM_16)) (h_2.mono ((((((((((hM_1.trans hM_2).trans hM_4).trans hM_5).trans hM_7).trans hM_9).trans hM_10).trans hM_12).trans hM_14).trans hM_15).trans hM_16)) (h_3.mono ((((((((((hM_1.trans hM_2).trans hM_4).trans hM_5).trans hM_7).trans hM_9).trans hM_10).trans hM_12).trans hM_14).trans hM_15).trans hM_16)) h_17) x_17 hx_17) fun w_99 p_168 _ f => ?_
      obtain ⟨M_17, hM_17, p_169⟩ := hb_6 _ _ _ (mR _) p_168
      have p_170 : Hp w0 M_17 ((Ent.row 51 8 (.slice A_29 (x_16).length cap_29) x_16.length cs_24) :: (Ent.obj b_3 (.cells #[.slice A_1 d0.fParams.length cap_1, .slice A_2 d0.fConds.length cap_2, .slice A_3 d0.fRes.length cap_3, .slice A_29 (x_16).length cap_29] 27 (0, 0))) :: (Ent.row 49 7 (.slice A_19 ((([] : List TB0) ++ d0.fRes) ++ [(⟨d1, [78, 101, 116], ([] : List UInt8), ([] : List TI0), ([] : List (List UInt8)), (false), ([] : List TA0)⟩ : TB0)]).length cap_19) ((([] : List TB0) ++ d0.fRes) ++ [(⟨d1, [78, 101, 116], ([] : List UInt8), ([] : List TI0), ([] : List (List UInt8)), (false), ([] : List TA0)⟩ : TB0)]).length cs_13) :: (Ent.row 45 15 (.slice A_16 y_2.length cap_16) y_2.length cs_11) :: (Ent.row 43 10 (.slice A_6 ((([] : List TD0) ++ d0.fParams) ++ [(⟨d1, (false), (false), z_TE0, ([] : List TE0)⟩ : TD0)]).length cap_6) ((([] : List TD0) ++ d0.fParams) ++ [(⟨d1, (false), (false), z_TE0, ([] : List TE0)⟩ : TD0)]).length cs_2) :: (Ent.obj b_2 (.cells #[.int .i8 0, S [120], .int .i64 0, S [], S [], .slice none 0 0] 37 (0, 0))) :: H) w_99 := by rw [hv_9] at p_169 ⊢; exact p_169
      have f := Frm.set f 134 (v := .agg #[.slice A_1 d0.fParams.length cap_1, .slice A_2 d0.fConds.length cap_2, .slice A_3 d0.fRes.length cap_3, .slice A_35 x_16.length cap_37]) (v' := .agg #[.slice A_1 d0.fParams.length cap_1, .slice A_2 d0.fConds.length cap_2, .slice A_3 d0.fRes.length cap_3, .slice A_29 (x_16).length cap_29]) (by kernel_rfl) (by rw [hv_9])
      refine Y f 5 fun _ f => eT (RR (Y f 3 fun _ f => ?_))
      rcases cE hF_36 with ⟨h_18, hF_37⟩ | ⟨h_18, hF_52⟩
      ·have k_9 := dI.1 h_18
       have f := f.st 140 (cB h_18)
       refine Y f 4 fun _ f => ?_
       rcases cE hF_37 with ⟨h_19, hF_38⟩ | ⟨h_19, hF_51⟩
       ·have k_10 := dI.1 h_19
        have f := f.st 144 (cB h_19)
        refine Y f 4 fun _ f => ?_
        rcases cE hF_38 with ⟨h_20, hF_39⟩ | ⟨h_20, hF_50⟩
        ·have k_11 := dI.1 h_20
         have f := f.st 148 (cB h_20)
         refine Y f 4 fun _ f => ?_
         rcases cE hF_39 with ⟨h_21, hF_40⟩ | ⟨h_21, hF_49⟩
         ·have k_12 := dI.1 h_21
          have f := f.st 152 (cB h_21)
          refine Y f 4 fun _ f => ?_
          rcases cE hF_40 with ⟨h_22, hF_41⟩ | ⟨h_22, hF_48⟩
          ·have k_13 := dI.1 h_22
           have f := f.st 156 (cB h_22)
           refine Y f 2 fun _ f => ?_
           obtain ⟨g_9, hF_42⟩ := nS hF_41
           refine Z f (Y23 rfl (l := [79, 117, 116, 112, 117, 116, 115, 47]) (m := d1) g_9) fun _ f => Z f (Y28 rfl (l := x_13.1) (m := [79, 117, 116, 112, 117, 116, 115, 47] ++ d1)) fun _ f => Y f 2 fun _ f => ?_
           rcases cE hF_42 with ⟨h_23, hF_43⟩ | ⟨h_23, hF_47⟩
           ·have k_14 := dI.1 h_23
            have f := f.st 162 (cB h_23)
            refine Y f 4 fun _ f => ?_
            rcases cE hF_43 with ⟨h_24, hF_44⟩ | ⟨h_24, hF_46⟩
            ·have k_15 := dI.1 h_24
             have f := f.st 166 (cB h_24)
             obtain ⟨x_18, hx_18, hF_45⟩ := bS hF_44
             refine Y17 f p_170 (law16_wakes_ok n _  x_18 hx_18) fun w_100 p_171 _ f => Y f 2 fun _ f => eT (wp_ret (E_ret1 f rfl (by kernel_rfl : Vc.look _ 4 = some (.bool x_18)) ?_))
             obtain rfl := sI hF_45
             exact ⟨_, rfl, M_17, ((((((((((hM_1.trans hM_2).trans hM_4).trans hM_5).trans hM_7).trans hM_9).trans hM_10).trans hM_12).trans hM_14).trans hM_15).trans hM_17), (p_171.dropN 6), rfl⟩
            ·have k_16 := iff_f dI h_24
             have f := f.st 166 (cB h_24)
             refine Y f 3 fun _ f => eT (wp_ret (E_ret1 f rfl (by kernel_rfl : Vc.look _ 4 = some (.bool false)) ?_))
             obtain rfl := sI hF_46
             exact ⟨_, rfl, M_17, ((((((((((hM_1.trans hM_2).trans hM_4).trans hM_5).trans hM_7).trans hM_9).trans hM_10).trans hM_12).trans hM_14).trans hM_15).trans hM_17), (p_170.dropN 6), rfl⟩
           ·have k_17 := iff_f dI h_23
            have f := f.st 162 (cB h_23)
            refine Y f 7 fun _ f => eT (wp_ret (E_ret1 f rfl (by kernel_rfl : Vc.look _ 4 = some (.bool false)) ?_))
            obtain rfl := sI hF_47
            exact ⟨_, rfl, M_17, ((((((((((hM_1.trans hM_2).trans hM_4).trans hM_5).trans hM_7).trans hM_9).trans hM_10).trans hM_12).trans hM_14).trans hM_15).trans hM_17), (p_170.dropN 6), rfl⟩
          ·have k_18 := iff_f dI h_22
           have f := f.st 156 (cB h_22)
           refine Y f 13 fun _ f => eT (wp_ret (E_ret1 f rfl (by kernel_rfl : Vc.look _ 4 = some (.bool false)) ?_))
           obtain rfl := sI hF_48
           exact ⟨_, rfl, M_17, ((((((((((hM_1.trans hM_2).trans hM_4).trans hM_5).trans hM_7).trans hM_9).trans hM_10).trans hM_12).trans hM_14).trans hM_15).trans hM_17), (p_170.dropN 6), rfl⟩
         ·have k_19 := iff_f dI h_21
          have f := f.st 152 (cB h_21)
          refine Y f 17 fun _ f => eT (wp_ret (E_ret1 f rfl (by kernel_rfl : Vc.look _ 4 = some (.bool false)) ?_))
          obtain rfl := sI hF_49
          exact ⟨_, rfl, M_17, ((((((((((hM_1.trans hM_2).trans hM_4).trans hM_5).trans hM_7).trans hM_9).trans hM_10).trans hM_12).trans hM_14).trans hM_15).trans hM_17), (p_170.dropN 6), rfl⟩
        ·have k_20 := iff_f dI h_20
         have f := f.st 148 (cB h_20)
         refine Y f 21 fun _ f => eT (wp_ret (E_ret1 f rfl (by kernel_rfl : Vc.look _ 4 = some (.bool false)) ?_))
         obtain rfl := sI hF_50
         exact ⟨_, rfl, M_17, ((((((((((hM_1.trans hM_2).trans hM_4).trans hM_5).trans hM_7).trans hM_9).trans hM_10).trans hM_12).trans hM_14).trans hM_15).trans hM_17), (p_170.dropN 6), rfl⟩
       ·have k_21 := iff_f dI h_19
        have f := f.st 144 (cB h_19)
        refine Y f 25 fun _ f => eT (wp_ret (E_ret1 f rfl (by kernel_rfl : Vc.look _ 4 = some (.bool false)) ?_))
        obtain rfl := sI hF_51
        exact ⟨_, rfl, M_17, ((((((((((hM_1.trans hM_2).trans hM_4).trans hM_5).trans hM_7).trans hM_9).trans hM_10).trans hM_12).trans hM_14).trans hM_15).trans hM_17), (p_170.dropN 6), rfl⟩
      ·have k_22 := iff_f dI h_18
       have f := f.st 140 (cB h_18)
       refine Y f 29 fun _ f => eT (wp_ret (E_ret1 f rfl (by kernel_rfl : Vc.look _ 4 = some (.bool false)) ?_))
       obtain rfl := sI hF_52
       exact ⟨_, rfl, M_17, ((((((((((hM_1.trans hM_2).trans hM_4).trans hM_5).trans hM_7).trans hM_9).trans hM_10).trans hM_12).trans hM_14).trans hM_15).trans hM_17), (p_170.dropN 6), rfl⟩
theorem szs_app {α : Type} (f : α → Dat) (l : List α) (x : α) : dszs ((l ++ [x]).map f) = dszs (l.map f) + dsz (f x) := by
 rw [List.map_append, dszs_app, List.map_cons, List.map_nil, dszs, dszs]; omega
theorem set_last {α : Type} (l : List α) (x y : α) : (l ++ [x]).set l.length y = l ++ [y] := by
 rw [List.set_append_right _ _ (Nat.le_refl _), Nat.sub_self]; rfl
theorem get_last {α : Type} (l : List α) (x : α) : getI (l ++ [x]) ((l.length : Nat) : Int) = some x := by
 rw [getI_here (by rw [List.length_append, List.length_singleton]; omega), List.getElem_append_right (Nat.le_refl _)]; simp
theorem out_bad {t : TA0} {nm : List UInt8} {x : TH0} {e : Int} (hb : dsz (emb_TA0 t) ≤ 1048576) (hx : nm.length + 10 + dsz (emb_TH0 x) ≤ 2000) (h : OkT 2999999 t) (he : outE (pM t) (cM t) (rM t) (oN nm x) = e) (h0 : e ≠ 0) :
  refs_Check 3000000 ⟨t.fParams, t.fConds, t.fRes, t.fOuts ++ [oN nm x]⟩ = some (kO8 ++ nm, e) := by
 have hs := szT t
 have hs2 := szT ⟨t.fParams, t.fConds, t.fRes, t.fOuts ++ [oN nm x]⟩
 dsimp only at hs2
 rw [szs_app] at hs2
 have hz := sz_oN nm x
 have hl : t.fOuts.length < (t.fOuts ++ [oN nm x]).length := by rw [List.length_append, List.length_singleton]; omega
 have hlast : (t.fOuts ++ [oN nm x])[t.fOuts.length] = oN nm x := by rw [List.getElem_append_right (Nat.le_refl _)]; simp
 obtain ⟨a, e2, h1, -, -, h4⟩ := check_run (n := 3000000) (by decide) 3000000 ⟨t.fParams, t.fConds, t.fRes, t.fOuts ++ [oN nm x]⟩ (by omega) (by omega)
 obtain ⟨h5, h6⟩ := h4 t.fOuts.length hl (List.all_eq_true.2 h.cs) (List.all_eq_true.2 h.rs) (fun i hi hlt => by
  show outE (pM t) (cM t) (rM t) ((t.fOuts ++ [oN nm x])[i]) = 0
  rw [List.getElem_append_left hlt]
  exact h.os _ (List.getElem_mem hlt)) (by
  show outE (pM t) (cM t) (rM t) ((t.fOuts ++ [oN nm x])[t.fOuts.length]) ≠ 0
  rw [hlast, he]; exact h0)
 rw [show refs_Check 3000000 ⟨t.fParams, t.fConds, t.fRes, t.fOuts ++ [oN nm x]⟩ = some (a, e2) from h1]
 have h7 : e2 = outE (pM t) (cM t) (rM t) ((t.fOuts ++ [oN nm x])[t.fOuts.length]) := h6
 have h8 : a = kO8 ++ ((t.fOuts ++ [oN nm x])[t.fOuts.length]).fName := h5
 rw [hlast] at h7 h8
 rw [h7, h8, he]
 rfl
theorem check_ok {t : TA0} (hb : dsz (emb_TA0 t) ≤ 1100000) (h : OkT 2999999 t) : ∃ a, refs_Check 3000000 t = some (a, 0) := by
 obtain ⟨a, e, h1, h2, -⟩ := check_run (n := 3000000) (by decide) 3000000 t (by omega) hb
 have := h2.2 (okT_iff.2 h)
 subst this
 exact ⟨a, h1⟩
theorem refsMore_true (t : TA0) (hb : dsz (emb_TA0 t) ≤ 1048576) (nm : List UInt8) : law16_RefsMore 3000000 t nm = some true := by
 obtain ⟨g, hg⟩ := great13 (n := 3000000) (by decide) t (by omega)
 have hs := szT t
 have l1 := len_sz (f := emb_TD0) t.fParams
 have l2 := len_sz (f := emb_TF0) t.fConds
 have l3 := len_sz (f := emb_TB0) t.fRes
 have l4 := len_sz (f := emb_TC0) t.fOuts
 unfold law16_RefsMore
 rw [wakes16, bnd]
 have hy : ∃ y : Bool, ((ref13_Great 3000000 t).bind fun x_1 => bif x_1 then some true else bif decide ((400 : Int) < (nm.length : Int)) then some true else (law16_fresh 3000000 t nm).bind fun x_2 => some (!x_2)) = some y ∧ (y = false → nm.length ≤ 400 ∧ freshB t nm = true) := by
  rw [hg, bnd]
  cases g with
  | true => exact ⟨true, rfl, fun h => by cases h⟩
  | false =>
   rw [cF]
   by_cases h4 : (400 : Int) < (nm.length : Int)
   ·rw [decide_eq_true h4, cT]; exact ⟨true, rfl, fun h => by cases h⟩
   ·rw [decide_eq_false h4, cF, fresh_run (by decide) t (by omega) nm, bnd]
    exact ⟨_, rfl, fun h => ⟨by omega, by simpa using h⟩⟩
 obtain ⟨y, hy1, hy2⟩ := hy
 rw [hy1, bnd]
 cases y with
 | true => rw [cT]
 | false =>
  obtain ⟨hnm, hfr⟩ := hy2 rfl
  have hf := fresh_iff hfr
  obtain ⟨a, e, h1, h2, -⟩ := check_run (n := 3000000) (by decide) 3000000 t (by omega) (by omega)
  rw [cF, show refs_Check 3000000 t = some (a, e) from h1, bnd]
  dsimp only
  by_cases h0 : e = 0
  ·have hok : OkT 2999999 t := okT_iff.1 (h2.1 h0)
   rw [decide_eq_true h0, Bool.not_true, cF]
   simp only [List.nil_append, List.length_nil, Nat.zero_add]
   have z1 := sz_pN nm
   have z2 := sz_cN nm
   have z3 := sz_rN nm
   have z4 := sz_oN nm two
   have z5 := sz_refN nm
   have z6 := sz_ifN nm
   rw [sz_two] at z4
   obtain ⟨a1, e1⟩ := check_ok (by rw [← szT]; dsimp only; rw [szs_app]; omega) (more_p hok hf)
   obtain ⟨a2, e2⟩ := check_ok (by rw [← szT]; dsimp only; rw [szs_app]; omega) (more_c hok hf)
   obtain ⟨a3, e3⟩ := check_ok (by rw [← szT]; dsimp only; rw [szs_app]; omega) (more_r hok hf)
   obtain ⟨a4, e4⟩ := check_ok (by rw [← szT]; dsimp only; rw [szs_app]; omega) (more_o (nm := nm) hok)
   have e5 := out_bad (x := refN nm) hb (by omega) hok (ref_bad hf) (by decide)
   have e6 := out_bad (x := ifN nm) hb (by omega) hok (if_bad hf) (by decide)
   rw [need_t (by omega), need_t (by omega), show refs_Check 3000000 (⟨t.fParams ++ [(⟨nm, false, false, z_TE0, ([] : List TE0)⟩ : TD0)], t.fConds, t.fRes, t.fOuts⟩ : TA0) = some (a1, 0) from e1, bnd]
   rw [need_t (by omega), need_t (by omega), bnd, show refs_Check 3000000 (⟨t.fParams, t.fConds ++ [(⟨nm, 0, (⟨0, [120], 0, [], [], []⟩ : TH0), (⟨0, [120], 0, [], [], []⟩ : TH0), []⟩ : TF0)], t.fRes, t.fOuts⟩ : TA0) = some (a2, 0) from e2, bnd]
   rw [need_t (by omega), need_t (by omega), show refs_Check 3000000 (⟨t.fParams, t.fConds, t.fRes ++ [(⟨nm, [78, 101, 116], [], [], [], false, []⟩ : TB0)], t.fOuts⟩ : TA0) = some (a3, 0) from e3, bnd]
   rw [need_t (by omega), need_t (by omega), bnd, show refs_Check 3000000 (⟨t.fParams, t.fConds, t.fRes, t.fOuts ++ [(⟨nm, [], (⟨0, [120], 0, [], [], []⟩ : TH0)⟩ : TC0)]⟩ : TA0) = some (a4, 0) from e4, bnd]
   rw [get_last, bnd, bnd, Int.toNat_natCast, set_last, bnd]
   dsimp only
   rw [show refs_Check 3000000 (⟨t.fParams, t.fConds, t.fRes, t.fOuts ++ [(⟨nm, [], (⟨3, [], 0, nm, [], []⟩ : TH0)⟩ : TC0)]⟩ : TA0) = some (kO8 ++ nm, 160) from e5, bnd]
   rw [get_last, bnd, bnd, set_last, bnd]
   dsimp only
   rw [show refs_Check 3000000 (⟨t.fParams, t.fConds, t.fRes, t.fOuts ++ [(⟨nm, [], (⟨6, [], 0, nm, [], [(⟨0, [120], 0, [], [], []⟩ : TH0), (⟨0, [120], 0, [], [], []⟩ : TH0)]⟩ : TH0)⟩ : TC0)]⟩ : TA0) = some (kO8 ++ nm, 150) from e6, bnd]
   dsimp only
   rw [decide_eq_true rfl, cT, cT, cT, cT, decide_eq_true rfl, cT, need_t (by simp only [List.length_cons, List.length_nil]; omega), decide_eq_true (show kO8 ++ nm = [79, 117, 116, 112, 117, 116, 115, 47] ++ nm from rfl), cT, decide_eq_true rfl, cT]
  ·rw [decide_eq_false h0, Bool.not_false, cT]
theorem opa_TE0 {H : Type} {enc : TypeId × Value → H} {w : World} {B : DataW H → Nat} (hB : BulkOk B) : ∀ m, OpnAt enc Try.prog w 41 emb_TE0 B m := by
 intro m
 induction m using Nat.strongRecOn with
 | ind m ih =>
 intro cs x h
 obtain ⟨xs, n, rfl, rfl, hlen, hxl, hf⟩ := DataW.trod_struct Try.underlying41 h
 have hct : Try.prog.cellsOf 41 = 6 := by kernel_rfl
 rw [hct] at hlen
 obtain ⟨x0, x1, x2, x3, x4, x5, rfl⟩ : ∃ x0 x1 x2 x3 x4 x5, xs = [x0, x1, x2, x3, x4, x5] := by
  match xs, hxl with
  | [x0, x1, x2, x3, x4, x5], _ => exact ⟨x0, x1, x2, x3, x4, x5, rfl⟩
 have f0 : DataW.trod enc Try.prog w 0 (fun _ => true) true n 34 ((cs.drop 0).take (Try.prog.cellsOf 34)) = some x0 := hf 0 _ rfl
 rw [show Try.prog.cellsOf 34 = 1 by kernel_rfl] at f0
 obtain ⟨a0, r0, v0, b0⟩ := (fun _ => opa_int hB Try.underlying34) n _ _ f0
 have f1 : DataW.trod enc Try.prog w 0 (fun _ => true) true n 4 ((cs.drop 1).take (Try.prog.cellsOf 4)) = some x1 := hf 1 _ rfl
 rw [show Try.prog.cellsOf 4 = 1 by kernel_rfl] at f1
 obtain ⟨a1, r1, v1, b1⟩ := (fun _ => opa_bool hB Try.underlying4) n _ _ f1
 have f2 : DataW.trod enc Try.prog w 0 (fun _ => true) true n 3 ((cs.drop 2).take (Try.prog.cellsOf 3)) = some x2 := hf 2 _ rfl
 rw [show Try.prog.cellsOf 3 = 1 by kernel_rfl] at f2
 obtain ⟨a2, r2, v2, b2⟩ := (fun _ => opa_int hB Try.underlying3) n _ _ f2
 have f3 : DataW.trod enc Try.prog w 0 (fun _ => true) true n 9 ((cs.drop 3).take (Try.prog.cellsOf 9)) = some x3 := hf 3 _ rfl
 rw [show Try.prog.cellsOf 9 = 1 by kernel_rfl] at f3
 obtain ⟨a3, r3, v3, b3⟩ := (fun _ => opa_str hB Try.underlying9) n _ _ f3
 have f4 : DataW.trod enc Try.prog w 0 (fun _ => true) true n 38 ((cs.drop 4).take (Try.prog.cellsOf 38)) = some x4 := hf 4 _ rfl
 rw [show Try.prog.cellsOf 38 = 1 by kernel_rfl] at f4
 obtain ⟨a4, r4, v4, b4⟩ := (opa_slice0 (m := n) (e := 41) (sz := 6) hB Try.underlying38 (by kernel_rfl) (fun k hk => ih k (by omega))) _ _ f4
 have f5 : DataW.trod enc Try.prog w 0 (fun _ => true) true n 39 ((cs.drop 5).take (Try.prog.cellsOf 39)) = some x5 := hf 5 _ rfl
 rw [show Try.prog.cellsOf 39 = 1 by kernel_rfl] at f5
 obtain ⟨a5, r5, v5, b5⟩ := (opa_slice0 (m := n) (e := 9) (sz := 1) hB Try.underlying39 (by kernel_rfl) (fun k _ => (fun _ => opa_str hB Try.underlying9) k)) _ _ f5
 refine ⟨⟨a0, a1, a2, a3, a4, a5⟩, ?_, ?_, ?_⟩
 ·rw [emb_TE0_eq]
  have hcs : RepSeq (Mem.of w) _ (cs.drop 0) := (RepSeq.cut (k := 1) r0 (by rw [List.drop_drop]; exact (RepSeq.cut (k := 1) r1 (by rw [List.drop_drop]; exact (RepSeq.cut (k := 1) r2 (by rw [List.drop_drop]; exact (RepSeq.cut (k := 1) r3 (by rw [List.drop_drop]; exact (RepSeq.cut (k := 1) r4 (by rw [List.drop_drop]; exact (RepSeq.cut (k := 1) r5 (by rw [List.drop_drop]; exact (show RepSeq (Mem.of w) [] (cs.drop 6) from List.drop_eq_nil_of_le (by omega))))))))))))))
  exact hcs
 ·rw [emb_TE0_eq]; exact ⟨v0, ⟨v1, ⟨v2, ⟨v3, ⟨v4, ⟨v5, trivial⟩⟩⟩⟩⟩⟩
 ·rw [emb_TE0_eq]
  have := hB.agg ([x0, x1, x2, x3, x4, x5].map (·.1))
  simp only [List.map_cons, List.map_nil, List.sum_cons, List.sum_nil] at this ⊢
  simp only [dsz, dszs] at *
  omega
theorem opa_TD0 {H : Type} {enc : TypeId × Value → H} {w : World} {B : DataW H → Nat} (hB : BulkOk B) : ∀ m, OpnAt enc Try.prog w 43 emb_TD0 B m := by
 intro m
 induction m using Nat.strongRecOn with
 | ind m ih =>
 intro cs x h
 obtain ⟨xs, n, rfl, rfl, hlen, hxl, hf⟩ := DataW.trod_struct Try.underlying43 h
 have hct : Try.prog.cellsOf 43 = 10 := by kernel_rfl
 rw [hct] at hlen
 obtain ⟨x0, x1, x2, x3, x4, rfl⟩ : ∃ x0 x1 x2 x3 x4, xs = [x0, x1, x2, x3, x4] := by
  match xs, hxl with
  | [x0, x1, x2, x3, x4], _ => exact ⟨x0, x1, x2, x3, x4, rfl⟩
 have f0 : DataW.trod enc Try.prog w 0 (fun _ => true) true n 9 ((cs.drop 0).take (Try.prog.cellsOf 9)) = some x0 := hf 0 _ rfl
 rw [show Try.prog.cellsOf 9 = 1 by kernel_rfl] at f0
 obtain ⟨a0, r0, v0, b0⟩ := (fun _ => opa_str hB Try.underlying9) n _ _ f0
 have f1 : DataW.trod enc Try.prog w 0 (fun _ => true) true n 4 ((cs.drop 1).take (Try.prog.cellsOf 4)) = some x1 := hf 1 _ rfl
 rw [show Try.prog.cellsOf 4 = 1 by kernel_rfl] at f1
 obtain ⟨a1, r1, v1, b1⟩ := (fun _ => opa_bool hB Try.underlying4) n _ _ f1
 have f2 : DataW.trod enc Try.prog w 0 (fun _ => true) true n 4 ((cs.drop 2).take (Try.prog.cellsOf 4)) = some x2 := hf 2 _ rfl
 rw [show Try.prog.cellsOf 4 = 1 by kernel_rfl] at f2
 obtain ⟨a2, r2, v2, b2⟩ := (fun _ => opa_bool hB Try.underlying4) n _ _ f2
 have f3 : DataW.trod enc Try.prog w 0 (fun _ => true) true n 41 ((cs.drop 3).take (Try.prog.cellsOf 41)) = some x3 := hf 3 _ rfl
 rw [show Try.prog.cellsOf 41 = 6 by kernel_rfl] at f3
 obtain ⟨a3, r3, v3, b3⟩ := (opa_TE0 hB) n _ _ f3
 have f4 : DataW.trod enc Try.prog w 0 (fun _ => true) true n 38 ((cs.drop 9).take (Try.prog.cellsOf 38)) = some x4 := hf 4 _ rfl
 rw [show Try.prog.cellsOf 38 = 1 by kernel_rfl] at f4
 obtain ⟨a4, r4, v4, b4⟩ := (fun m => opa_slice0 (e := 41) (sz := 6) hB Try.underlying38 (by kernel_rfl) (fun k _ => (opa_TE0 hB) k)) n _ _ f4
 refine ⟨⟨a0, a1, a2, a3, a4⟩, ?_, ?_, ?_⟩
 ·rw [emb_TD0_eq]
  have hcs : RepSeq (Mem.of w) _ (cs.drop 0) := (RepSeq.cut (k := 1) r0 (by rw [List.drop_drop]; exact (RepSeq.cut (k := 1) r1 (by rw [List.drop_drop]; exact (RepSeq.cut (k := 1) r2 (by rw [List.drop_drop]; exact (RepSeq.cut (k := 6) r3 (by rw [List.drop_drop]; exact (RepSeq.cut (k := 1) r4 (by rw [List.drop_drop]; exact (show RepSeq (Mem.of w) [] (cs.drop 10) from List.drop_eq_nil_of_le (by omega))))))))))))
  exact hcs
 ·rw [emb_TD0_eq]; exact ⟨v0, ⟨v1, ⟨v2, ⟨v3, ⟨v4, trivial⟩⟩⟩⟩⟩
 ·rw [emb_TD0_eq]
  have := hB.agg ([x0, x1, x2, x3, x4].map (·.1))
  simp only [List.map_cons, List.map_nil, List.sum_cons, List.sum_nil] at this ⊢
  simp only [dsz, dszs] at *
  omega
theorem opa_TH0 {H : Type} {enc : TypeId × Value → H} {w : World} {B : DataW H → Nat} (hB : BulkOk B) : ∀ m, OpnAt enc Try.prog w 37 emb_TH0 B m := by
 intro m
 induction m using Nat.strongRecOn with
 | ind m ih =>
 intro cs x h
 obtain ⟨xs, n, rfl, rfl, hlen, hxl, hf⟩ := DataW.trod_struct Try.underlying37 h
 have hct : Try.prog.cellsOf 37 = 6 := by kernel_rfl
 rw [hct] at hlen
 obtain ⟨x0, x1, x2, x3, x4, x5, rfl⟩ : ∃ x0 x1 x2 x3 x4 x5, xs = [x0, x1, x2, x3, x4, x5] := by
  match xs, hxl with
  | [x0, x1, x2, x3, x4, x5], _ => exact ⟨x0, x1, x2, x3, x4, x5, rfl⟩
 have f0 : DataW.trod enc Try.prog w 0 (fun _ => true) true n 34 ((cs.drop 0).take (Try.prog.cellsOf 34)) = some x0 := hf 0 _ rfl
 rw [show Try.prog.cellsOf 34 = 1 by kernel_rfl] at f0
 obtain ⟨a0, r0, v0, b0⟩ := (fun _ => opa_int hB Try.underlying34) n _ _ f0
 have f1 : DataW.trod enc Try.prog w 0 (fun _ => true) true n 9 ((cs.drop 1).take (Try.prog.cellsOf 9)) = some x1 := hf 1 _ rfl
 rw [show Try.prog.cellsOf 9 = 1 by kernel_rfl] at f1
 obtain ⟨a1, r1, v1, b1⟩ := (fun _ => opa_str hB Try.underlying9) n _ _ f1
 have f2 : DataW.trod enc Try.prog w 0 (fun _ => true) true n 3 ((cs.drop 2).take (Try.prog.cellsOf 3)) = some x2 := hf 2 _ rfl
 rw [show Try.prog.cellsOf 3 = 1 by kernel_rfl] at f2
 obtain ⟨a2, r2, v2, b2⟩ := (fun _ => opa_int hB Try.underlying3) n _ _ f2
 have f3 : DataW.trod enc Try.prog w 0 (fun _ => true) true n 9 ((cs.drop 3).take (Try.prog.cellsOf 9)) = some x3 := hf 3 _ rfl
 rw [show Try.prog.cellsOf 9 = 1 by kernel_rfl] at f3
 obtain ⟨a3, r3, v3, b3⟩ := (fun _ => opa_str hB Try.underlying9) n _ _ f3
 have f4 : DataW.trod enc Try.prog w 0 (fun _ => true) true n 9 ((cs.drop 4).take (Try.prog.cellsOf 9)) = some x4 := hf 4 _ rfl
 rw [show Try.prog.cellsOf 9 = 1 by kernel_rfl] at f4
 obtain ⟨a4, r4, v4, b4⟩ := (fun _ => opa_str hB Try.underlying9) n _ _ f4
 have f5 : DataW.trod enc Try.prog w 0 (fun _ => true) true n 35 ((cs.drop 5).take (Try.prog.cellsOf 35)) = some x5 := hf 5 _ rfl
 rw [show Try.prog.cellsOf 35 = 1 by kernel_rfl] at f5
 obtain ⟨a5, r5, v5, b5⟩ := (opa_slice0 (m := n) (e := 37) (sz := 6) hB Try.underlying35 (by kernel_rfl) (fun k hk => ih k (by omega))) _ _ f5
 refine ⟨⟨a0, a1, a2, a3, a4, a5⟩, ?_, ?_, ?_⟩
 ·rw [emb_TH0_eq]
  have hcs : RepSeq (Mem.of w) _ (cs.drop 0) := (RepSeq.cut (k := 1) r0 (by rw [List.drop_drop]; exact (RepSeq.cut (k := 1) r1 (by rw [List.drop_drop]; exact (RepSeq.cut (k := 1) r2 (by rw [List.drop_drop]; exact (RepSeq.cut (k := 1) r3 (by rw [List.drop_drop]; exact (RepSeq.cut (k := 1) r4 (by rw [List.drop_drop]; exact (RepSeq.cut (k := 1) r5 (by rw [List.drop_drop]; exact (show RepSeq (Mem.of w) [] (cs.drop 6) from List.drop_eq_nil_of_le (by omega))))))))))))))
  exact hcs
 ·rw [emb_TH0_eq]; exact ⟨v0, ⟨v1, ⟨v2, ⟨v3, ⟨v4, ⟨v5, trivial⟩⟩⟩⟩⟩⟩
 ·rw [emb_TH0_eq]
  have := hB.agg ([x0, x1, x2, x3, x4, x5].map (·.1))
  simp only [List.map_cons, List.map_nil, List.sum_cons, List.sum_nil] at this ⊢
  simp only [dsz, dszs] at *
  omega
theorem opa_TF0 {H : Type} {enc : TypeId × Value → H} {w : World} {B : DataW H → Nat} (hB : BulkOk B) : ∀ m, OpnAt enc Try.prog w 45 emb_TF0 B m := by
 intro m
 induction m using Nat.strongRecOn with
 | ind m ih =>
 intro cs x h
 obtain ⟨xs, n, rfl, rfl, hlen, hxl, hf⟩ := DataW.trod_struct Try.underlying45 h
 have hct : Try.prog.cellsOf 45 = 15 := by kernel_rfl
 rw [hct] at hlen
 obtain ⟨x0, x1, x2, x3, x4, rfl⟩ : ∃ x0 x1 x2 x3 x4, xs = [x0, x1, x2, x3, x4] := by
  match xs, hxl with
  | [x0, x1, x2, x3, x4], _ => exact ⟨x0, x1, x2, x3, x4, rfl⟩
 have f0 : DataW.trod enc Try.prog w 0 (fun _ => true) true n 9 ((cs.drop 0).take (Try.prog.cellsOf 9)) = some x0 := hf 0 _ rfl
 rw [show Try.prog.cellsOf 9 = 1 by kernel_rfl] at f0
 obtain ⟨a0, r0, v0, b0⟩ := (fun _ => opa_str hB Try.underlying9) n _ _ f0
 have f1 : DataW.trod enc Try.prog w 0 (fun _ => true) true n 34 ((cs.drop 1).take (Try.prog.cellsOf 34)) = some x1 := hf 1 _ rfl
 rw [show Try.prog.cellsOf 34 = 1 by kernel_rfl] at f1
 obtain ⟨a1, r1, v1, b1⟩ := (fun _ => opa_int hB Try.underlying34) n _ _ f1
 have f2 : DataW.trod enc Try.prog w 0 (fun _ => true) true n 37 ((cs.drop 2).take (Try.prog.cellsOf 37)) = some x2 := hf 2 _ rfl
 rw [show Try.prog.cellsOf 37 = 6 by kernel_rfl] at f2
 obtain ⟨a2, r2, v2, b2⟩ := (opa_TH0 hB) n _ _ f2
 have f3 : DataW.trod enc Try.prog w 0 (fun _ => true) true n 37 ((cs.drop 8).take (Try.prog.cellsOf 37)) = some x3 := hf 3 _ rfl
 rw [show Try.prog.cellsOf 37 = 6 by kernel_rfl] at f3
 obtain ⟨a3, r3, v3, b3⟩ := (opa_TH0 hB) n _ _ f3
 have f4 : DataW.trod enc Try.prog w 0 (fun _ => true) true n 23 ((cs.drop 14).take (Try.prog.cellsOf 23)) = some x4 := hf 4 _ rfl
 rw [show Try.prog.cellsOf 23 = 1 by kernel_rfl] at f4
 obtain ⟨a4, r4, v4, b4⟩ := (opa_slice0 (m := n) (e := 45) (sz := 15) hB Try.underlying23 (by kernel_rfl) (fun k hk => ih k (by omega))) _ _ f4
 refine ⟨⟨a0, a1, a2, a3, a4⟩, ?_, ?_, ?_⟩
 ·rw [emb_TF0_eq]
  have hcs : RepSeq (Mem.of w) _ (cs.drop 0) := (RepSeq.cut (k := 1) r0 (by rw [List.drop_drop]; exact (RepSeq.cut (k := 1) r1 (by rw [List.drop_drop]; exact (RepSeq.cut (k := 6) r2 (by rw [List.drop_drop]; exact (RepSeq.cut (k := 6) r3 (by rw [List.drop_drop]; exact (RepSeq.cut (k := 1) r4 (by rw [List.drop_drop]; exact (show RepSeq (Mem.of w) [] (cs.drop 15) from List.drop_eq_nil_of_le (by omega))))))))))))
  exact hcs
 ·rw [emb_TF0_eq]; exact ⟨v0, ⟨v1, ⟨v2, ⟨v3, ⟨v4, trivial⟩⟩⟩⟩⟩
 ·rw [emb_TF0_eq]
  have := hB.agg ([x0, x1, x2, x3, x4].map (·.1))
  simp only [List.map_cons, List.map_nil, List.sum_cons, List.sum_nil] at this ⊢
  simp only [dsz, dszs] at *
  omega
theorem opa_TI0 {H : Type} {enc : TypeId × Value → H} {w : World} {B : DataW H → Nat} (hB : BulkOk B) : ∀ m, OpnAt enc Try.prog w 70 emb_TI0 B m := by
 intro m
 induction m using Nat.strongRecOn with
 | ind m ih =>
 intro cs x h
 obtain ⟨xs, n, rfl, rfl, hlen, hxl, hf⟩ := DataW.trod_struct Try.underlying70 h
 have hct : Try.prog.cellsOf 70 = 7 := by kernel_rfl
 rw [hct] at hlen
 obtain ⟨x0, x1, rfl⟩ : ∃ x0 x1, xs = [x0, x1] := by
  match xs, hxl with
  | [x0, x1], _ => exact ⟨x0, x1, rfl⟩
 have f0 : DataW.trod enc Try.prog w 0 (fun _ => true) true n 9 ((cs.drop 0).take (Try.prog.cellsOf 9)) = some x0 := hf 0 _ rfl
 rw [show Try.prog.cellsOf 9 = 1 by kernel_rfl] at f0
 obtain ⟨a0, r0, v0, b0⟩ := (fun _ => opa_str hB Try.underlying9) n _ _ f0
 have f1 : DataW.trod enc Try.prog w 0 (fun _ => true) true n 37 ((cs.drop 1).take (Try.prog.cellsOf 37)) = some x1 := hf 1 _ rfl
 rw [show Try.prog.cellsOf 37 = 6 by kernel_rfl] at f1
 obtain ⟨a1, r1, v1, b1⟩ := (opa_TH0 hB) n _ _ f1
 refine ⟨⟨a0, a1⟩, ?_, ?_, ?_⟩
 ·rw [emb_TI0_eq]
  have hcs : RepSeq (Mem.of w) _ (cs.drop 0) := (RepSeq.cut (k := 1) r0 (by rw [List.drop_drop]; exact (RepSeq.cut (k := 6) r1 (by rw [List.drop_drop]; exact (show RepSeq (Mem.of w) [] (cs.drop 7) from List.drop_eq_nil_of_le (by omega))))))
  exact hcs
 ·rw [emb_TI0_eq]; exact ⟨v0, ⟨v1, trivial⟩⟩
 ·rw [emb_TI0_eq]
  have := hB.agg ([x0, x1].map (·.1))
  simp only [List.map_cons, List.map_nil, List.sum_cons, List.sum_nil] at this ⊢
  simp only [dsz, dszs] at *
  omega
theorem opa_TC0 {H : Type} {enc : TypeId × Value → H} {w : World} {B : DataW H → Nat} (hB : BulkOk B) : ∀ m, OpnAt enc Try.prog w 51 emb_TC0 B m := by
 intro m
 induction m using Nat.strongRecOn with
 | ind m ih =>
 intro cs x h
 obtain ⟨xs, n, rfl, rfl, hlen, hxl, hf⟩ := DataW.trod_struct Try.underlying51 h
 have hct : Try.prog.cellsOf 51 = 8 := by kernel_rfl
 rw [hct] at hlen
 obtain ⟨x0, x1, x2, rfl⟩ : ∃ x0 x1 x2, xs = [x0, x1, x2] := by
  match xs, hxl with
  | [x0, x1, x2], _ => exact ⟨x0, x1, x2, rfl⟩
 have f0 : DataW.trod enc Try.prog w 0 (fun _ => true) true n 9 ((cs.drop 0).take (Try.prog.cellsOf 9)) = some x0 := hf 0 _ rfl
 rw [show Try.prog.cellsOf 9 = 1 by kernel_rfl] at f0
 obtain ⟨a0, r0, v0, b0⟩ := (fun _ => opa_str hB Try.underlying9) n _ _ f0
 have f1 : DataW.trod enc Try.prog w 0 (fun _ => true) true n 9 ((cs.drop 1).take (Try.prog.cellsOf 9)) = some x1 := hf 1 _ rfl
 rw [show Try.prog.cellsOf 9 = 1 by kernel_rfl] at f1
 obtain ⟨a1, r1, v1, b1⟩ := (fun _ => opa_str hB Try.underlying9) n _ _ f1
 have f2 : DataW.trod enc Try.prog w 0 (fun _ => true) true n 37 ((cs.drop 2).take (Try.prog.cellsOf 37)) = some x2 := hf 2 _ rfl
 rw [show Try.prog.cellsOf 37 = 6 by kernel_rfl] at f2
 obtain ⟨a2, r2, v2, b2⟩ := (opa_TH0 hB) n _ _ f2
 refine ⟨⟨a0, a1, a2⟩, ?_, ?_, ?_⟩
 ·rw [emb_TC0_eq]
  have hcs : RepSeq (Mem.of w) _ (cs.drop 0) := (RepSeq.cut (k := 1) r0 (by rw [List.drop_drop]; exact (RepSeq.cut (k := 1) r1 (by rw [List.drop_drop]; exact (RepSeq.cut (k := 6) r2 (by rw [List.drop_drop]; exact (show RepSeq (Mem.of w) [] (cs.drop 8) from List.drop_eq_nil_of_le (by omega))))))))
  exact hcs
 ·rw [emb_TC0_eq]; exact ⟨v0, ⟨v1, ⟨v2, trivial⟩⟩⟩
 ·rw [emb_TC0_eq]
  have := hB.agg ([x0, x1, x2].map (·.1))
  simp only [List.map_cons, List.map_nil, List.sum_cons, List.sum_nil] at this ⊢
  simp only [dsz, dszs] at *
  omega
theorem opa_TB0_TA0 {H : Type} {enc : TypeId × Value → H} {w : World} {B : DataW H → Nat} (hB : BulkOk B) : ∀ m, OpnAt enc Try.prog w 49 emb_TB0 B m ∧ OpnAt enc Try.prog w 27 emb_TA0 B m := by
 intro m
 induction m using Nat.strongRecOn with
 | ind m ih =>
 refine ⟨?_, ?_⟩
 ·skip
  intro cs x h
  obtain ⟨xs, n, rfl, rfl, hlen, hxl, hf⟩ := DataW.trod_struct Try.underlying49 h
  have hct : Try.prog.cellsOf 49 = 7 := by kernel_rfl
  rw [hct] at hlen
  obtain ⟨x0, x1, x2, x3, x4, x5, x6, rfl⟩ : ∃ x0 x1 x2 x3 x4 x5 x6, xs = [x0, x1, x2, x3, x4, x5, x6] := by
   match xs, hxl with
   | [x0, x1, x2, x3, x4, x5, x6], _ => exact ⟨x0, x1, x2, x3, x4, x5, x6, rfl⟩
  have f0 : DataW.trod enc Try.prog w 0 (fun _ => true) true n 9 ((cs.drop 0).take (Try.prog.cellsOf 9)) = some x0 := hf 0 _ rfl
  rw [show Try.prog.cellsOf 9 = 1 by kernel_rfl] at f0
  obtain ⟨a0, r0, v0, b0⟩ := (fun _ => opa_str hB Try.underlying9) n _ _ f0
  have f1 : DataW.trod enc Try.prog w 0 (fun _ => true) true n 9 ((cs.drop 1).take (Try.prog.cellsOf 9)) = some x1 := hf 1 _ rfl
  rw [show Try.prog.cellsOf 9 = 1 by kernel_rfl] at f1
  obtain ⟨a1, r1, v1, b1⟩ := (fun _ => opa_str hB Try.underlying9) n _ _ f1
  have f2 : DataW.trod enc Try.prog w 0 (fun _ => true) true n 9 ((cs.drop 2).take (Try.prog.cellsOf 9)) = some x2 := hf 2 _ rfl
  rw [show Try.prog.cellsOf 9 = 1 by kernel_rfl] at f2
  obtain ⟨a2, r2, v2, b2⟩ := (fun _ => opa_str hB Try.underlying9) n _ _ f2
  have f3 : DataW.trod enc Try.prog w 0 (fun _ => true) true n 46 ((cs.drop 3).take (Try.prog.cellsOf 46)) = some x3 := hf 3 _ rfl
  rw [show Try.prog.cellsOf 46 = 1 by kernel_rfl] at f3
  obtain ⟨a3, r3, v3, b3⟩ := (opa_slice0 (m := n) (e := 70) (sz := 7) hB Try.underlying46 (by kernel_rfl) (fun k _ => (opa_TI0 hB) k)) _ _ f3
  have f4 : DataW.trod enc Try.prog w 0 (fun _ => true) true n 39 ((cs.drop 4).take (Try.prog.cellsOf 39)) = some x4 := hf 4 _ rfl
  rw [show Try.prog.cellsOf 39 = 1 by kernel_rfl] at f4
  obtain ⟨a4, r4, v4, b4⟩ := (opa_slice0 (m := n) (e := 9) (sz := 1) hB Try.underlying39 (by kernel_rfl) (fun k _ => (fun _ => opa_str hB Try.underlying9) k)) _ _ f4
  have f5 : DataW.trod enc Try.prog w 0 (fun _ => true) true n 4 ((cs.drop 5).take (Try.prog.cellsOf 4)) = some x5 := hf 5 _ rfl
  rw [show Try.prog.cellsOf 4 = 1 by kernel_rfl] at f5
  obtain ⟨a5, r5, v5, b5⟩ := (fun _ => opa_bool hB Try.underlying4) n _ _ f5
  have f6 : DataW.trod enc Try.prog w 0 (fun _ => true) true n 47 ((cs.drop 6).take (Try.prog.cellsOf 47)) = some x6 := hf 6 _ rfl
  rw [show Try.prog.cellsOf 47 = 1 by kernel_rfl] at f6
  obtain ⟨a6, r6, v6, b6⟩ := (opa_slice0 (m := n) (e := 27) (sz := 4) hB Try.underlying47 (by kernel_rfl) (fun k hk => (ih k (by omega)).2)) _ _ f6
  refine ⟨⟨a0, a1, a2, a3, a4, a5, a6⟩, ?_, ?_, ?_⟩
  ·rw [emb_TB0_eq]
   have hcs : RepSeq (Mem.of w) _ (cs.drop 0) := (RepSeq.cut (k := 1) r0 (by rw [List.drop_drop]; exact (RepSeq.cut (k := 1) r1 (by rw [List.drop_drop]; exact (RepSeq.cut (k := 1) r2 (by rw [List.drop_drop]; exact (RepSeq.cut (k := 1) r3 (by rw [List.drop_drop]; exact (RepSeq.cut (k := 1) r4 (by rw [List.drop_drop]; exact (RepSeq.cut (k := 1) r5 (by rw [List.drop_drop]; exact (RepSeq.cut (k := 1) r6 (by rw [List.drop_drop]; exact (show RepSeq (Mem.of w) [] (cs.drop 7) from List.drop_eq_nil_of_le (by omega))))))))))))))))
   exact hcs
  ·rw [emb_TB0_eq]; exact ⟨v0, ⟨v1, ⟨v2, ⟨v3, ⟨v4, ⟨v5, ⟨v6, trivial⟩⟩⟩⟩⟩⟩⟩
  ·rw [emb_TB0_eq]
   have := hB.agg ([x0, x1, x2, x3, x4, x5, x6].map (·.1))
   simp only [List.map_cons, List.map_nil, List.sum_cons, List.sum_nil] at this ⊢
   simp only [dsz, dszs] at *
   omega
 ·skip
  intro cs x h
  obtain ⟨xs, n, rfl, rfl, hlen, hxl, hf⟩ := DataW.trod_struct Try.underlying27 h
  have hct : Try.prog.cellsOf 27 = 4 := by kernel_rfl
  rw [hct] at hlen
  obtain ⟨x0, x1, x2, x3, rfl⟩ : ∃ x0 x1 x2 x3, xs = [x0, x1, x2, x3] := by
   match xs, hxl with
   | [x0, x1, x2, x3], _ => exact ⟨x0, x1, x2, x3, rfl⟩
  have f0 : DataW.trod enc Try.prog w 0 (fun _ => true) true n 22 ((cs.drop 0).take (Try.prog.cellsOf 22)) = some x0 := hf 0 _ rfl
  rw [show Try.prog.cellsOf 22 = 1 by kernel_rfl] at f0
  obtain ⟨a0, r0, v0, b0⟩ := (opa_slice0 (m := n) (e := 43) (sz := 10) hB Try.underlying22 (by kernel_rfl) (fun k _ => (opa_TD0 hB) k)) _ _ f0
  have f1 : DataW.trod enc Try.prog w 0 (fun _ => true) true n 23 ((cs.drop 1).take (Try.prog.cellsOf 23)) = some x1 := hf 1 _ rfl
  rw [show Try.prog.cellsOf 23 = 1 by kernel_rfl] at f1
  obtain ⟨a1, r1, v1, b1⟩ := (opa_slice0 (m := n) (e := 45) (sz := 15) hB Try.underlying23 (by kernel_rfl) (fun k _ => (opa_TF0 hB) k)) _ _ f1
  have f2 : DataW.trod enc Try.prog w 0 (fun _ => true) true n 24 ((cs.drop 2).take (Try.prog.cellsOf 24)) = some x2 := hf 2 _ rfl
  rw [show Try.prog.cellsOf 24 = 1 by kernel_rfl] at f2
  obtain ⟨a2, r2, v2, b2⟩ := (opa_slice0 (m := n) (e := 49) (sz := 7) hB Try.underlying24 (by kernel_rfl) (fun k hk => (ih k (by omega)).1)) _ _ f2
  have f3 : DataW.trod enc Try.prog w 0 (fun _ => true) true n 25 ((cs.drop 3).take (Try.prog.cellsOf 25)) = some x3 := hf 3 _ rfl
  rw [show Try.prog.cellsOf 25 = 1 by kernel_rfl] at f3
  obtain ⟨a3, r3, v3, b3⟩ := (opa_slice0 (m := n) (e := 51) (sz := 8) hB Try.underlying25 (by kernel_rfl) (fun k _ => (opa_TC0 hB) k)) _ _ f3
  refine ⟨⟨a0, a1, a2, a3⟩, ?_, ?_, ?_⟩
  ·rw [emb_TA0_eq]
   have hcs : RepSeq (Mem.of w) _ (cs.drop 0) := (RepSeq.cut (k := 1) r0 (by rw [List.drop_drop]; exact (RepSeq.cut (k := 1) r1 (by rw [List.drop_drop]; exact (RepSeq.cut (k := 1) r2 (by rw [List.drop_drop]; exact (RepSeq.cut (k := 1) r3 (by rw [List.drop_drop]; exact (show RepSeq (Mem.of w) [] (cs.drop 4) from List.drop_eq_nil_of_le (by omega))))))))))
   exact hcs
  ·rw [emb_TA0_eq]; exact ⟨v0, ⟨v1, ⟨v2, ⟨v3, trivial⟩⟩⟩⟩
  ·rw [emb_TA0_eq]
   have := hB.agg ([x0, x1, x2, x3].map (·.1))
   simp only [List.map_cons, List.map_nil, List.sum_cons, List.sum_nil] at this ⊢
   simp only [dsz, dszs] at *
   omega
theorem opa_TA0 {H : Type} {enc : TypeId × Value → H} {w : World} {B : DataW H → Nat} (hB : BulkOk B) (m : Nat) : OpnAt enc Try.prog w 27 emb_TA0 B m := (opa_TB0_TA0 hB m).2
theorem bulk_all {H : Type} (l : List (DataW H)) : Rows.uptoBulkAll l = (l.map Rows.uptoBulk).sum := by
 induction l with
 | nil => simp [Rows.uptoBulkAll]
 | cons x l ih => simp only [Rows.uptoBulkAll, List.map_cons, List.sum_cons, ih]
theorem bulk_ok {H : Type} : BulkOk (H := H) Rows.uptoBulk where
 one d := by
  cases d with
  | lit l => cases l <;> simp [Rows.uptoBulk]
  | nil => simp [Rows.uptoBulk]
  | ptr d => simp [Rows.uptoBulk]
  | slice elems spare => simp [Rows.uptoBulk]
  | agg parts => simp [Rows.uptoBulk]
  | iface t d => simp [Rows.uptoBulk]
  | map entries => simp [Rows.uptoBulk]
  | held h => simp [Rows.uptoBulk]
 str l := by simp [Rows.uptoBulk]
 slice e s := by
  simp only [Rows.uptoBulk]
  rw [bulk_all e]
  omega
 agg e := by
  simp only [Rows.uptoBulk]
  rw [bulk_all e]
  exact Nat.le_refl _
theorem bulk_one {H : Type} {d : DataW H} {l : List (DataW H)} (h : Rows.uptoSmall H l = true) (hd : d ∈ l) : Rows.uptoBulk d ≤ 1048576 := by
 unfold Rows.uptoSmall at h
 have h := of_decide_eq_true h
 rw [bulk_all] at h
 have := le_sum (List.mem_map_of_mem (f := Rows.uptoBulk) hd)
 omega
end Go.Proofs.Ytpjgpnfdadpkkaa
end
