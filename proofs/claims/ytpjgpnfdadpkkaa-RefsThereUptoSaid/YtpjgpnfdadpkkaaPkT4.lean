/-
  Texts of this claim, packed (what nothing names is left out): RefsP5, G3, G4, G5, RefsP6, RefsP2, L1, L2, RefsL1, Op. Own work, partly printed by own programs. No condition.
-/
import Derived.Test.YtpjgpnfdadpkkaaPkT3
import Derived.Test.YtpjgpnfdadpkkaaPkT1
import Derived.Test.YtpjgpnfdadpkkaaPkT2
import Derived.Test.YtpjgpnfdadpkkaaRows
set_option linter.unusedVariables false
set_option linter.unusedSimpArgs false
set_option maxHeartbeats 2000000
namespace Go.Proofs.Ytpjgpnfdadpkkaa
open Go Go.Vc Go.RowKit
def outE (P C : List (List UInt8 × Bool)) (R : List (List UInt8 × TB0)) (o : TC0) : Int := bif !decide (o.fCond = []) && !hasB C o.fCond then 150 else usesI P C R o.fE
def okT : Nat → TA0 → Bool
  | 0, _ => false
  | k + 1, t => t.fConds.all (condOK (pM t) (cM t)) && (t.fRes.all (resOK (pM t) (cM t) (rM t) (okT k)) && t.fOuts.all fun o => decide (outE (pM t) (cM t) (rM t) o = 0))
def kO8 : List UInt8 := [79, 117, 116, 112, 117, 116, 115, 47]
abbrev opn (t : TA0) := (t.fParams, t.fConds, t.fRes, t.fOuts, pM t, cM t, rM t)
theorem stage1 {n : Nat} (hn : 2000000 ≤ n) (t : TA0) (hb : dsz (emb_TA0 t) ≤ 1100000) :
  ∃ b, loopF (refs_Check_s1 n t (opn t)) n (0 : Int) = some b ∧ ((∃ at_ e, b = .inl (at_, e) ∧ e ≠ 0 ∧ t.fConds.all (condOK (pM t) (cM t)) = false ∧ at_.length ≤ 12 * dsz (emb_TA0 t)) ∨ (b = .inr () ∧ t.fConds.all (condOK (pM t) (cM t)) = true)) := by
 have hs := szT t
 have hlen := len_sz (f := emb_TI0) t.fConds
 refine loop_inv (n := n) (step := refs_Check_s1 n t (opn t)) (s0 := (0 : Int)) (fun j s => s = (j : Int) ∧ ∀ i (h : i < t.fConds.length), i < j → condOK (pM t) (cM t) t.fConds[i] = true) _ t.fConds.length ⟨rfl, fun i _ h => absurd h (by omega)⟩
  (fun j s hj hI => ?_) (fun s hI => ?_) (by omega)
 ·obtain ⟨rfl, hI⟩ := hI
  have hm := mem_sz (f := emb_TI0) (List.getElem_mem hj)
  have hc := szC t.fConds[j]
  obtain ⟨e, he, hz⟩ := cond_run hn t.fParams t.fConds t.fRes t.fOuts (pM t) (cM t) (rM t) n t.fConds[j] (by omega) (by omega)
  unfold refs_Check_s1 refs_scope_cond
  dsimp only [opn]
  rw [decide_eq_true (by omega), cT, getI_here hj, bnd, he, bnd]
  by_cases h0 : e = 0
  ·rw [decide_eq_true h0, Bool.not_true, cF, need_i (by omega) (by omega)]
   refine .inl ⟨_, rfl, by simp, fun i h hi => ?_⟩
   by_cases e2 : i = j
   ·subst e2; exact hz.1 h0
   ·exact hI i h (by omega)
  ·rw [decide_eq_false h0, Bool.not_false, cT, need_t (by simp only [List.length_cons, List.length_nil]; omega)]
   refine .inr ⟨_, rfl, .inl ⟨_, e, rfl, h0, ?_, ?_⟩⟩
   ·rw [List.all_eq_false]
    exact ⟨_, List.getElem_mem hj, fun h => h0 (hz.2 h)⟩
   ·simp only [List.length_append, List.length_cons, List.length_nil]; omega
 ·obtain ⟨rfl, hI⟩ := hI
  unfold refs_Check_s1
  rw [decide_eq_false (by omega), cF]
  refine ⟨_, rfl, .inr ⟨rfl, ?_⟩⟩
  rw [List.all_eq_true]
  intro x hx
  obtain ⟨i, hi, rfl⟩ := List.getElem_of_mem hx
  exact hI i hi hi
theorem join2 (a b s : List UInt8) : Lib.join [a, b] s = a ++ (s ++ b) := by simp [Lib.join]
theorem place_run {n : Nat} (hn : 2000000 ≤ n) (a b : List UInt8) (ha : a ≠ []) (hb : b ≠ []) (hl : a.length + 1 + b.length ≤ 140737488355328) : refs_place n [a, b] = some (a ++ ([47] ++ b)) := by
 unfold refs_place slices_DeleteFuncstring_string slices_IndexFuncstring_string_2
 obtain ⟨c, hc, hc2⟩ := loop_idx (n := n) (step := slices_IndexFuncstring_string_2_s1 n [a, b]) (fun k => decide ([a, b].getD k [] = [])) 2 (fun k hk => by
  unfold slices_IndexFuncstring_string_2_s1 refs_place_1
  rw [decide_eq_true (by simp only [List.length_cons, List.length_nil]; omega), cT, getI_at [] (by simpa using hk), bnd, bnd, need_i (by omega) (by omega)]
  cases decide ([a, b].getD k [] = []) <;> rfl) (by
  unfold slices_IndexFuncstring_string_2_s1
  rw [decide_eq_false (by simp), cF]) (by omega)
 rw [hc, bnd]
 rcases hc2 with ⟨i, hi, rfl, hq⟩ | ⟨rfl, hq⟩
 ·have := of_decide_eq_true hq
  rcases (by omega : i = 0 ∨ i = 1) with rfl | rfl
  ·exact absurd this ha
  ·exact absurd this hb
 ·dsimp only
  rw [bnd, decide_eq_true rfl, need_t rfl, bnd]
  unfold h_Join
  rw [join2, need_t ⟨by simp, by simp, by simp only [List.length_append, List.length_cons, List.length_nil]; omega⟩, bnd]
theorem stage2 {n : Nat} (hn : 2000000 ≤ n) (rc : TA0 → Option (List UInt8 × Int)) (chk : TA0 → Bool) (t : TA0) (hb : dsz (emb_TA0 t) ≤ 1100000)
  (hrc : ∀ x ∈ t.fRes, ∀ t2 ∈ x.fInner, ∃ at_ e, rc t2 = some (at_, e) ∧ (e = 0 ↔ chk t2 = true) ∧ at_.length ≤ 12 * dsz (emb_TA0 t2)) :
  ∃ b, loopF (refs_Check_s2 n rc t (opn t)) n (0 : Int) = some b ∧ ((∃ at_ e, b = .inl (at_, e) ∧ e ≠ 0 ∧ t.fRes.all (resOK (pM t) (cM t) (rM t) chk) = false ∧ at_.length ≤ 12 * dsz (emb_TA0 t)) ∨ (b = .inr () ∧ t.fRes.all (resOK (pM t) (cM t) (rM t) chk) = true)) := by
 have hs := szT t
 have hlen := len_sz (f := emb_TB0) t.fRes
 refine loop_inv (n := n) (step := refs_Check_s2 n rc t (opn t)) (s0 := (0 : Int)) (fun j s => s = (j : Int) ∧ ∀ i (h : i < t.fRes.length), i < j → resOK (pM t) (cM t) (rM t) chk t.fRes[i] = true) _ t.fRes.length ⟨rfl, fun i _ h => absurd h (by omega)⟩
  (fun j s hj hI => ?_) (fun s hI => ?_) (by omega)
 ·obtain ⟨rfl, hI⟩ := hI
  have hm := mem_sz (f := emb_TB0) (List.getElem_mem hj)
  have hc := szR t.fRes[j]
  obtain ⟨at_, e, he, hz, hl⟩ := resource_run hn rc chk t.fParams t.fConds t.fRes t.fOuts (pM t) (cM t) (rM t) (bdR hb) t.fRes[j] (by omega) (hrc _ (List.getElem_mem hj))
  unfold refs_Check_s2
  dsimp only [opn]
  rw [decide_eq_true (by omega), cT, getI_here hj, bnd, he, bnd]
  dsimp only
  by_cases h0 : e = 0
  ·rw [decide_eq_true h0, Bool.not_true, cF, need_i (by omega) (by omega)]
   refine .inl ⟨_, rfl, by simp, fun i h hi => ?_⟩
   by_cases e2 : i = j
   ·subst e2; exact hz.1 h0
   ·exact hI i h (by omega)
  ·have hbad : t.fRes.all (resOK (pM t) (cM t) (rM t) chk) = false := by
    rw [List.all_eq_false]
    exact ⟨_, List.getElem_mem hj, fun h => h0 (hz.2 h)⟩
   rw [decide_eq_false h0, Bool.not_false, cT]
   by_cases h1 : at_ = []
   ·rw [decide_eq_true h1, cT, need_t (by simp only [List.length_cons, List.length_nil]; omega)]
    refine .inr ⟨_, rfl, .inl ⟨_, e, rfl, h0, hbad, ?_⟩⟩
    simp only [List.length_append, List.length_cons, List.length_nil]; omega
   ·rw [decide_eq_false h1, cF, need_t (by simp only [List.length_cons, List.length_nil]; omega), place_run hn _ _ (by simp) h1 (by simp only [List.length_append, List.length_cons, List.length_nil]; omega), bnd]
    refine .inr ⟨_, rfl, .inl ⟨_, e, rfl, h0, hbad, ?_⟩⟩
    simp only [List.length_append, List.length_cons, List.length_nil]; omega
 ·obtain ⟨rfl, hI⟩ := hI
  unfold refs_Check_s2
  rw [decide_eq_false (by omega), cF]
  refine ⟨_, rfl, .inr ⟨rfl, ?_⟩⟩
  rw [List.all_eq_true]
  intro x hx
  obtain ⟨i, hi, rfl⟩ := List.getElem_of_mem hx
  exact hI i hi hi
theorem stage3 {n : Nat} (hn : 2000000 ≤ n) (t : TA0) (hb : dsz (emb_TA0 t) ≤ 1100000) :
  ∃ b, loopF (refs_Check_s3 n t (opn t)) n (0 : Int) = some b ∧ ((∃ j, ∃ h : j < t.fOuts.length, b = .inl (kO8 ++ t.fOuts[j].fName, outE (pM t) (cM t) (rM t) t.fOuts[j]) ∧ outE (pM t) (cM t) (rM t) t.fOuts[j] ≠ 0 ∧ ∀ i (hi : i < t.fOuts.length), i < j → outE (pM t) (cM t) (rM t) t.fOuts[i] = 0) ∨ (b = .inr () ∧ ∀ i (hi : i < t.fOuts.length), outE (pM t) (cM t) (rM t) t.fOuts[i] = 0)) := by
 have hs := szT t
 have hlen := len_sz (f := emb_TC0) t.fOuts
 refine loop_inv (n := n) (step := refs_Check_s3 n t (opn t)) (s0 := (0 : Int)) (fun j s => s = (j : Int) ∧ ∀ i (h : i < t.fOuts.length), i < j → outE (pM t) (cM t) (rM t) t.fOuts[i] = 0) _ t.fOuts.length ⟨rfl, fun i _ h => absurd h (by omega)⟩
  (fun j s hj hI => ?_) (fun s hI => ?_) (by omega)
 ·obtain ⟨rfl, hI⟩ := hI
  have hm := mem_sz (f := emb_TC0) (List.getElem_mem hj)
  have hc := szO t.fOuts[j]
  unfold refs_Check_s3
  dsimp only [opn]
  rw [decide_eq_true (by omega), cT, getI_here hj, bnd, eta_X, uses_run hn t.fParams t.fConds t.fRes t.fOuts (pM t) (cM t) (rM t) (bdR hb) t.fOuts[j].fE (by omega), bnd]
  have e1 : (bif !decide (t.fOuts[j].fCond = []) then some (!((mget (cM t) t.fOuts[j].fCond).getD false)) else some false : Option Bool) = some (!decide (t.fOuts[j].fCond = []) && !hasB (cM t) t.fOuts[j].fCond) := by
   cases decide (t.fOuts[j].fCond = []) <;> rfl
  have e2 : (bif !decide (t.fOuts[j].fCond = []) && !hasB (cM t) t.fOuts[j].fCond then some (150 : Int) else some (usesI (pM t) (cM t) (rM t) t.fOuts[j].fE) : Option Int) = some (outE (pM t) (cM t) (rM t) t.fOuts[j]) := by
   unfold outE
   cases (!decide (t.fOuts[j].fCond = []) && !hasB (cM t) t.fOuts[j].fCond) <;> rfl
  rw [e1, bnd, e2, bnd]
  by_cases h0 : outE (pM t) (cM t) (rM t) t.fOuts[j] = 0
  ·rw [decide_eq_true h0, Bool.not_true, cF, need_i (by omega) (by omega)]
   refine .inl ⟨_, rfl, by simp, fun i h hi => ?_⟩
   by_cases e2 : i = j
   ·subst e2; exact h0
   ·exact hI i h (by omega)
  ·rw [decide_eq_false h0, Bool.not_false, cT, need_t (by simp only [List.length_cons, List.length_nil]; omega)]
   exact .inr ⟨_, rfl, .inl ⟨j, hj, rfl, h0, hI⟩⟩
 ·obtain ⟨rfl, hI⟩ := hI
  unfold refs_Check_s3
  rw [decide_eq_false (by omega), cF]
  exact ⟨_, rfl, .inr ⟨rfl, fun i hi => hI i hi hi⟩⟩
theorem check_run {n : Nat} (hn : 2000000 ≤ n) : ∀ (k : Nat) (t : TA0), dsz (emb_TA0 t) < k → dsz (emb_TA0 t) ≤ 1100000 →
  ∃ at_ e, refs_Check_k n k t = some (at_, e) ∧ (e = 0 ↔ okT k t = true) ∧ at_.length ≤ 12 * dsz (emb_TA0 t) ∧
   (∀ j (h : j < t.fOuts.length), t.fConds.all (condOK (pM t) (cM t)) = true → t.fRes.all (resOK (pM t) (cM t) (rM t) (okT (k - 1))) = true → (∀ i (hi : i < t.fOuts.length), i < j → outE (pM t) (cM t) (rM t) t.fOuts[i] = 0) → outE (pM t) (cM t) (rM t) t.fOuts[j] ≠ 0 →
    at_ = kO8 ++ t.fOuts[j].fName ∧ e = outE (pM t) (cM t) (rM t) t.fOuts[j])
 | 0, t, hk, hb => absurd hk (by omega)
 | k + 1, t, hk, hb => by
  have hs := szT t
  unfold refs_Check_k refs_Check_b okT
  rw [open_run hn t hb, bnd, Nat.add_sub_cancel]
  obtain ⟨b1, h1, c1⟩ := stage1 hn t hb
  obtain ⟨b2, h2, c2⟩ := stage2 hn (refs_Check_k n k) (okT k) t hb (fun x hx t2 ht2 => by
   have m1 := mem_sz (f := emb_TB0) hx
   have m2 := mem_sz (f := emb_TA0) ht2
   have hr := szR x
   obtain ⟨a, e, g1, g2, g3, -⟩ := check_run hn k t2 (by omega) (by omega)
   exact ⟨a, e, g1, g2, g3⟩)
  obtain ⟨b3, h3, c3⟩ := stage3 hn t hb
  rw [show loopF (refs_Check_s1 n t (t.fParams, t.fConds, t.fRes, t.fOuts, pM t, cM t, rM t)) n (0 : Int) = some b1 from h1, bnd]
  rcases c1 with ⟨a, e, rfl, k1, k2, k3⟩ | ⟨rfl, k1⟩
  ·refine ⟨a, e, rfl, ?_, k3, fun j h hc => ?_⟩
   ·rw [k2, Bool.false_and]; simp [k1]
   ·rw [k2] at hc; cases hc
  dsimp only
  rw [show loopF (refs_Check_s2 n (refs_Check_k n k) t (t.fParams, t.fConds, t.fRes, t.fOuts, pM t, cM t, rM t)) n (0 : Int) = some b2 from h2, bnd, k1, Bool.true_and]
  rcases c2 with ⟨a, e, rfl, q1, q2, q3⟩ | ⟨rfl, q1⟩
  ·refine ⟨a, e, rfl, ?_, q3, fun j h hc hr => ?_⟩
   ·rw [q2, Bool.false_and]; simp [q1]
   ·rw [q2] at hr; cases hr
  dsimp only
  rw [show loopF (refs_Check_s3 n t (t.fParams, t.fConds, t.fRes, t.fOuts, pM t, cM t, rM t)) n (0 : Int) = some b3 from h3, bnd, q1, Bool.true_and]
  rcases c3 with ⟨j, hj, rfl, p1, p2⟩ | ⟨rfl, p1⟩
  ·have hm := mem_sz (f := emb_TC0) (List.getElem_mem hj)
   have hc := szO t.fOuts[j]
   refine ⟨_, _, rfl, ?_, ?_, fun j2 h2 _ _ hlt hne => ?_⟩
   ·have : (t.fOuts.all fun o => decide (outE (pM t) (cM t) (rM t) o = 0)) = false := by
     rw [List.all_eq_false]
     exact ⟨_, List.getElem_mem hj, by simp [p1]⟩
    rw [this]; simp [p1]
   ·simp only [kO8, List.length_append, List.length_cons, List.length_nil]; omega
   ·have : j2 = j := by
     rcases Nat.lt_trichotomy j2 j with h | h | h
     ·exact absurd (p2 j2 h2 h) hne
     ·exact h
     ·exact absurd (hlt j hj h) p1
    subst this
    exact ⟨rfl, rfl⟩
  ·refine ⟨_, _, rfl, ?_, by simp, fun j2 h2 _ _ hlt hne => absurd (p1 j2 h2) hne⟩
   have : (t.fOuts.all fun o => decide (outE (pM t) (cM t) (rM t) o = 0)) = true := by
    rw [List.all_eq_true]
    intro o ho
    obtain ⟨i, hi, rfl⟩ := List.getElem_of_mem ho
    exact decide_eq_true (p1 i hi)
   rw [this]; simp
def ref16_Uses_s1 (n : Nat) (rec_ref16_Uses : TF0 → Option (List TF0)) (d0 : TF0) (s_1 : List TF0 × Int) : Option (Lp (List TF0 × Int) (List TF0)) :=
    bif (decide (s_1.2 < ((d0.fL.length : Nat) : Int))) then
      ((getI d0.fL s_1.2).bind fun x_1 =>
      (rec_ref16_Uses x_1).bind fun x_2 =>
      need ((s_1.1.length + x_2.length) * 88 ≤ 140737488355328) <|
      need (inR .i64 (s_1.2 + 1)) <|
      some (.nx (s_1.1 ++ x_2, s_1.2 + 1)))
    else
      some (.br s_1.1)
def ref16_Uses_b (n : Nat) (rec_ref16_Uses : TF0 → Option (List TF0)) (d0 : TF0) : Option (List TF0) :=
  ((bif (decide (d0.fKind = 3)) then
      (some ((true)))
    else
      bif (decide (d0.fKind = 4)) then
        (some ((true)))
      else
        some ((decide (d0.fKind = 6))) : Option Bool)).bind fun y_1 =>
  ((bif y_1 then
      (need ((([] : List TF0).length + 1) * 88 ≤ 140737488355328) <|
      some (([] : List TF0) ++ [(⟨d0.fKind, d0.fText, d0.fNum, d0.fName, d0.fAttr, d0.fL⟩ : TF0)]))
    else
      some (([] : List TF0)) : Option (List TF0))).bind fun y_2 =>
  (loopF (ref16_Uses_s1 n rec_ref16_Uses d0) n (y_2, (0 : Int))).bind fun y_3 =>
  some (y_3)
set_option maxRecDepth 20000 in
theorem ref16_Uses_b_ok (n : Nat) (rec_ref16_Uses : TF0 → Option (List TF0)) (hrec_ref16_Uses : ∀ (M : Mem) (c0 : List Value) (d0 : TF0) (h0 : Rep M (emb_TF0 d0) c0) (r : List TF0) (hF : rec_ref16_Uses d0 = some r), Ok Try.prog M 61 [.agg c0.toArray] (fun M' v => ∃ (A0 : Option Addr) (k0 : Nat), v = .slice A0 r.length k0 ∧ Sli M' 6 emb_TF0 A0 k0 r)) (M : Mem) (c0 : List Value) (d0 : TF0) (h0 : Rep M (emb_TF0 d0) c0) (r : List TF0) (hF : ref16_Uses_b n rec_ref16_Uses d0 = some r) : Ok Try.prog M 61 [.agg c0.toArray] (fun M' v => ∃ (A0 : Option Addr) (k0 : Nat), v = .slice A0 r.length k0 ∧ Sli M' 6 emb_TF0 A0 k0 r) := by
 unfold ref16_Uses_b at hF
 intro M1 hM0 w0 H w p0
 replace h0 := Rep.mono hM0 _ _ h0
 obtain ⟨A_1, cap_1, rfl, h_1⟩ := TF0.opn h0
 refine R_enter 38 Try.func61 rfl rfl (by simp) fun a0 f0 => RR (Y13 (cs := #[.int .i8 d0.fKind, S d0.fText, .int .i64 d0.fNum, S d0.fName, S d0.fAttr, .slice A_1 d0.fL.length cap_1]) (T := 37) f0 p0 fun b_1 M_1 w_1 hM_1 hc_1 p_1 _ f => ?_)
 have hc_2 := fz_box hc_1
 refine Y f 1 fun _ f => eT (RR (Y f 1 fun _ f => eT (R_seq (R_seq ?_))))
 obtain ⟨j_1, hj_1, hF_1⟩ := bS hF
 refine R_mid (fun a_15 w_2 => ∃ y_1 : Bool, j_1 = y_1 ∧ ∃ M_2 : Mem, M_1.le M_2 ∧ Frm 38 [(1, .pointer (some (⟨b_1, 0, none⟩))), (3, .slice none 0 0), (17, .bool y_1)] a_15 ∧ Hp w0 M_2 (H) w_2) ?_ ?_
 ·refine R_reg (Y f 1 fun _ f => Y15 f p_1 hc_2 0 rfl fun _ f => Y f 2 fun _ f => ?_)
  rcases cE hj_1 with ⟨h_2, hF_2⟩ | ⟨h_2, hF_3⟩
  ·have k_1 := dI.1 h_2
   have f := f.st 8 (cB h_2)
   refine Y f 9 fun _ f => eT ?_
   exact ⟨(true), (sI hF_2).symm, M_1, (mR _), f.kp, p_1⟩
  ·have k_2 := iff_f dI h_2
   have f := f.st 8 (cB h_2)
   refine Y f 1 fun _ f => Y15 f p_1 hc_2 0 rfl fun _ f => Y f 3 fun _ f => ?_
   rcases cE hF_3 with ⟨h_3, hF_4⟩ | ⟨h_3, hF_5⟩
   ·have k_3 := dI.1 h_3
    have f := f.st 13 (cB h_3)
    refine Y f 4 fun _ f => eT ?_
    exact ⟨(true), (sI hF_4).symm, M_1, (mR _), f.kp, p_1⟩
   ·have k_4 := iff_f dI h_3
    have f := f.st 13 (cB h_3)
    refine Y f 1 fun _ f => Y15 f p_1 hc_2 0 rfl fun _ f => Y f 2 fun _ f => eT ?_
    exact ⟨(decide (d0.fKind = 6)), (sI hF_5).symm, M_1, (mR _), f.kp, p_1⟩
 ·rintro a_15 w_2 ⟨y_1, hq_1, M_2, hM_2, f, p_2⟩
  subst j_1
  refine T_n ?_
  obtain ⟨j_2, hj_2, hF_6⟩ := bS hF_1
  refine R_mid (fun a_21 w_5 => ∃ y_2 : List TF0, j_2 = y_2 ∧ ∃ M_3 : Mem, M_2.le M_3 ∧ ∃ (A_4 : Option Addr), ∃ (cap_4 : Nat), ∃ (cs_2 : List Value), RepSeq M_3 (y_2.map emb_TF0) cs_2 ∧ Frm 38 [(1, .pointer (some (⟨b_1, 0, none⟩))), (3, .slice A_4 y_2.length cap_4)] a_21 ∧ Hp w0 M_3 ((Ent.row 37 6 (.slice A_4 y_2.length cap_4) y_2.length cs_2) :: H) w_5) ?_ ?_
  ·refine RcF f hj_2 (fun h_4 hF_7 => ?_) fun h_4 hF_9 => ?_
   ·refine R_reg (Y f 1 fun _ f => Z (v := .agg #[.int .i8 d0.fKind, S d0.fText, .int .i64 d0.fNum, S d0.fName, S d0.fAttr, .slice A_1 d0.fL.length cap_1]) f (Y28 (cs := [.int .i8 d0.fKind, S d0.fText, .int .i64 d0.fNum, S d0.fName, S d0.fAttr, .slice A_1 d0.fL.length cap_1]) rfl (ad := ⟨b_1, 0, none⟩) (fun j v h => p_2.cell ((fzu hM_2 hc_2) j v h))) fun _ f => V_allocS (k := 1) (c := 1) f p_2 (.cells #[.int .i8 d0.fKind, S d0.fText, .int .i64 d0.fNum, S d0.fName, S d0.fAttr, .slice A_1 d0.fL.length cap_1] 37 (0, 0)) (by kernel_rfl) (fun _ => by kernel_rfl) fun b_2 w_3 p_3 _ f => ?_)
    obtain ⟨A_2, cap_2, hv_1⟩ : ∃ A cap, Value.slice none 0 0 = .slice A ([] : List TF0).length cap := ⟨none, 0, rfl⟩
    have p_4 : Hp w0 M_2 ((Ent.row 37 6 (.slice A_2 ([] : List TF0).length cap_2) ([] : List TF0).length []) :: (Ent.obj b_2 (.cells #[.int .i8 d0.fKind, S d0.fText, .int .i64 d0.fNum, S d0.fName, S d0.fAttr, .slice A_1 d0.fL.length cap_1] 37 (0, 0))) :: H) w_3 := by rw [← hv_1]; exact p_3.nilRow 37 6
    have f := f.st 18 (hv_1)
    have hr_1 : RepSeq M_2 (([] : List TF0).map emb_TF0) [] := rfl
    obtain ⟨g_1, hF_8⟩ := nS hF_7
    refine Y20 (z := .agg #[.int .i8 0, S [], .int .i64 0, S [], S [], .slice none 0 0]) (f := emb_TF0) (xs := ([] : List TF0)) (ys := [(⟨d0.fKind, d0.fText, d0.fNum, d0.fName, d0.fAttr, d0.fL⟩ : TF0)]) (news := [.int .i8 d0.fKind, S d0.fText, .int .i64 d0.fNum, S d0.fName, S d0.fAttr, .slice A_1 d0.fL.length cap_1]) (ad := ⟨b_2, 0, none⟩) (m := 1) (c := 1) f p_4 hr_1 (by exact ⟨_, _, rfl, TF0.shut (h_1.mono (hM_1.trans hM_2)), rfl⟩) rfl rfl rfl rfl (own_cells (p_4.ownCell 1 rfl) 0 rfl) (by exact g_1) (by have hg_ := g_1; first | omega | (simp only [List.length_cons, List.length_nil] at *; omega)) fun A_3 cap_3 cs_1 w_4 p_5 hr_2 _ f => ?_
    have p_6 := p_5.pl [1]
    have p_7 := p_6.drop
    refine Y f 1 fun _ f => eT ?_
    exact ⟨([] : List TF0) ++ [(⟨d0.fKind, d0.fText, d0.fNum, d0.fName, d0.fAttr, d0.fL⟩ : TF0)], (sI hF_8).symm, M_2, (mR _), A_3, cap_3, cs_1, hr_2, f.kp, p_7⟩
   ·refine wp_skip ?_
    obtain ⟨A_5, cap_5, hv_2⟩ : ∃ A cap, Value.slice none 0 0 = .slice A ([] : List TF0).length cap := ⟨none, 0, rfl⟩
    have p_9 : Hp w0 M_2 ((Ent.row 37 6 (.slice A_5 ([] : List TF0).length cap_5) ([] : List TF0).length []) :: H) w_2 := by rw [← hv_2]; exact p_2.nilRow 37 6
    have f := f.st 3 (hv_2)
    have hr_4 : RepSeq M_2 (([] : List TF0).map emb_TF0) [] := rfl
    refine T_n ?_
    exact ⟨([] : List TF0), (sI hF_9).symm, M_2, (mR _), A_5, cap_5, [], hr_4, f.kp, p_9⟩
  ·rintro a_21 w_5 ⟨y_2, hq_2, M_3, hM_3, A_4, cap_4, cs_2, hr_3, f, p_8⟩
   subst j_2
   refine T_n (R_seq (RR (Y f 1 fun _ f => eT (wp_block ?_))))
   obtain ⟨b_3, hL_1, hF_10⟩ := bS hF_6
   refine wp_mono (Q := fun e a w => (e = .exit 0 ∧ (∃ y_3 : List TF0, b_3 = y_3 ∧ ∃ M_6 : Mem, M_3.le M_6 ∧ ∃ (A_10 : Option Addr), ∃ (cap_10 : Nat), ∃ (cs_5 : List Value), RepSeq M_6 (y_3.map emb_TF0) cs_5 ∧ Frm 38 [(3, .slice A_10 y_3.length cap_10)] a ∧ Hp w0 M_6 ((Ent.row 37 6 (.slice A_10 y_3.length cap_10) y_3.length cs_5) :: H) w))) (R_loop (n := 38) (w0 := w0) (M := M_3) (fun (x : Nat × (List TF0 × Int) × (Option Addr) × Nat × (List Value)) => match x with | (m_1, s_1, A_6, cap_6, cs_3) => [(1, .pointer (some (⟨b_1, 0, none⟩))), (3, .slice A_6 s_1.1.length cap_6), (4, .int .i64 s_1.2)]) (fun (x : Nat × (List TF0 × Int) × (Option Addr) × Nat × (List Value)) => match x with | (m_1, s_1, A_6, cap_6, cs_3) => ((Ent.row 37 6 (.slice A_6 s_1.1.length cap_6) s_1.1.length cs_3) :: H)) (fun (x : Nat × (List TF0 × Int) × (Option Addr) × Nat × (List Value)) (MM : Mem) => match x with | (m_1, s_1, A_6, cap_6, cs_3) => loopF (ref16_Uses_s1 n rec_ref16_Uses d0) m_1 s_1 = some b_3 ∧ RepSeq MM (s_1.1.map emb_TF0) cs_3) (fun (x : Nat × (List TF0 × Int) × (Option Addr) × Nat × (List Value)) => match x with | (m_1, s_1, A_6, cap_6, cs_3) => m_1) (n, (y_2, (0 : Int)), A_4, cap_4, cs_2) (f.kp) p_8 ⟨hL_1, hr_3⟩ ?_) ?_
   ·rintro ⟨m_1, s_1, A_6, cap_6, cs_3⟩ M_4 _ w_6 hM_4 I_1 f p_10
    obtain ⟨I_1L, hr_5⟩ := I_1
    obtain ⟨m_2, r_1, rfl, hs_1, hn_1⟩ := loop_step I_1L
    unfold ref16_Uses_s1 at hs_1
    refine R_seq (RR (Y f 2 fun _ f => Y15 f p_10 (fzu ((hM_2.trans hM_3).trans hM_4) hc_2) 5 rfl fun _ f => Y f 2 fun _ f => eT (RcF f hs_1 (fun h_5 hF_11 => ?_) fun h_5 hF_16 => ?_)))
    ·have k_7 := dI.1 h_5
     refine wp_skip (T_n (R_seq (wp_block (R_reg (Y f 2 fun _ f => Y15 f p_10 (fzu ((hM_2.trans hM_3).trans hM_4) hc_2) 5 rfl fun _ f => Y f 1 fun _ f => ?_)))))
     obtain ⟨x_1, hx_1, hF_12⟩ := bS hF_11
     obtain ⟨ad_1, c_1, e_1, -, hr_6, hc_3⟩ := Sli.at_ (h_1.mono (((hM_1.trans hM_2).trans hM_3).trans hM_4)) hx_1
     obtain ⟨A_7, cap_7, rfl, h_6⟩ := TF0.opn hr_6
     refine Z f (Y26 e_1 rfl (len := d0.fL.length) (cap := cap_1) (k := .i64) (i := s_1.2) (e := 37) (sz := 6) (getI_nn hx_1) (getI_lt hx_1)) fun _ f => Z (v := .agg #[.int .i8 x_1.fKind, S x_1.fText, .int .i64 x_1.fNum, S x_1.fName, S x_1.fAttr, .slice A_7 x_1.fL.length cap_7]) f (Y28 (cs := [.int .i8 x_1.fKind, S x_1.fText, .int .i64 x_1.fNum, S x_1.fName, S x_1.fAttr, .slice A_7 x_1.fL.length cap_7]) rfl (ad := ad_1.add (s_1.2.toNat * 6)) (fun j v h => p_10.cell (hc_3 j v h))) fun _ f => ?_
     obtain ⟨x_2, hx_2, hF_13⟩ := bS hF_12
     refine Y16 f p_10 (hrec_ref16_Uses _ _ x_1 (TF0.shutx (x := x_1) h_6) x_2 hx_2) fun _ M_5 w_7 hM_5 p_11 q_1 _ f => ?_
     obtain ⟨A_8, cap_8, rfl, h_7⟩ := q_1
     obtain ⟨g_2, hF_14⟩ := nS hF_13
     refine Y21 (z := .agg #[.int .i8 0, S [], .int .i64 0, S [], S [], .slice none 0 0]) (f := emb_TF0) (xs := s_1.1) (ys := x_2) (c := cap_8) f p_11 (RepSeq.mono hM_5 _ _ hr_5) h_7 rfl rfl rfl g_2 (by omega) fun A_9 cap_9 cs_4 w_8 p_12 hr_7 _ f => Y f 1 fun _ f => W_end rfl (B_n (T_n (R_reg (Y f 1 fun _ f => ?_))))
     obtain ⟨g_3, hF_15⟩ := nS hF_14
     refine Y f 1 fun _ f => ?_
     have f := f.st 28 (congrArg (Value.int .i64) (inR_wrap g_3))
     refine Y f 1 fun _ f => eT ?_
     obtain rfl := sI hF_15
     exact ⟨⟨m_2, (s_1.1 ++ x_2, s_1.2 + 1), A_9, cap_9, cs_4⟩, Nat.lt_succ_self _, M_5, (hM_4.trans hM_5), ⟨hn_1, hr_7⟩, f.kp, p_12⟩
    ·have k_8 := iff_f dI h_5
     refine wp_exit (T_x (T_x ?_))
     obtain rfl := sI hF_16
     exact ⟨rfl, s_1.1, (sI hn_1).symm, M_4, hM_4, A_6, cap_6, cs_3, hr_5, f.kp, p_10⟩
   ·rintro _ _ w_10 ⟨rfl, y_3, hq_, M_6, hM_6, A_10, cap_10, cs_5, hr_8, f, p_13⟩
    subst b_3
    refine B_x (T_n (RR (Y f 2 fun _ f => eT (wp_ret ?_))))
    obtain ⟨A_11, cap_11, M_7, hv_3, hM_7, p_14, h_8⟩ := p_13.rowSli (f := emb_TF0) (xs := y_3) szd_TF0 hr_8
    have f := f.st 2 (hv_3)
    refine E_ret1 f rfl (by kernel_rfl : Vc.look _ 2 = some (.slice A_11 y_3.length cap_11)) ?_
    obtain rfl := sI hF_10
    exact ⟨_, rfl, M_7, ((((hM_1.trans hM_2).trans hM_3).trans hM_6).trans hM_7), p_14, ⟨A_11, cap_11, rfl, h_8⟩⟩
def ref16_Uses_k (n : Nat) : Nat → TF0 → Option (List TF0)
  | 0 => fun _ => none
  | k + 1 => ref16_Uses_b n (ref16_Uses_k n k)
def ref16_Uses (n : Nat) (d0 : TF0) : Option (List TF0) := ref16_Uses_k n n d0
theorem ref16_Uses_ok (n : Nat) (M : Mem) (c0 : List Value) (d0 : TF0) (h0 : Rep M (emb_TF0 d0) c0) (r : List TF0) (hF : ref16_Uses n d0 = some r) : Ok Try.prog M 61 [.agg c0.toArray] (fun M' v => ∃ (A0 : Option Addr) (k0 : Nat), v = .slice A0 r.length k0 ∧ Sli M' 6 emb_TF0 A0 k0 r) := by
 have key : ∀ (k : Nat) (M : Mem) (c0 : List Value) (d0 : TF0) (h0 : Rep M (emb_TF0 d0) c0) (r : List TF0) (hF : ref16_Uses_k n k d0 = some r), Ok Try.prog M 61 [.agg c0.toArray] (fun M' v => ∃ (A0 : Option Addr) (k0 : Nat), v = .slice A0 r.length k0 ∧ Sli M' 6 emb_TF0 A0 k0 r) := by
  intro k
  induction k with
  | zero => intro M c0 d0 h0 r hF; simp [ref16_Uses_k] at hF
  | succ k ih => intro M c0 d0 h0 r hF; exact ref16_Uses_b_ok n (ref16_Uses_k n k) ih M c0 d0 h0 r hF
 exact key n M c0 d0 h0 r hF
def ref16_insert_s1 (n : Nat) (d0 : List (List UInt8)) (d1 : List UInt8) (s_1 : Int) : Option (Lp Int Int) :=
    bif (decide (s_1 < ((d0.length : Nat) : Int))) then
      ((getI d0 s_1).bind fun x_1 =>
      bif (Op.bytesLess x_1 d1) then
        (need (inR .i64 (s_1 + 1)) <|
        some (.nx (s_1 + 1)))
      else
        some (.br s_1))
    else
      some (.br s_1)
def ref16_insert (n : Nat) (d0 : List (List UInt8)) (d1 : List UInt8) : Option (List (List UInt8)) :=
  (loopF (ref16_insert_s1 n d0 d1) n (0 : Int)).bind fun y_1 =>
  ((bif (decide (y_1 < ((d0.length : Nat) : Int))) then
      ((getI d0 y_1).bind fun x_2 =>
      some ((decide (x_2 = d1))))
    else
      some ((false)) : Option Bool)).bind fun y_2 =>
  bif y_2 then
    (some (d0))
  else
    need (0 ≤ 0 ∧ 0 ≤ y_1 ∧ y_1 ≤ (d0.length : Int)) <|
    need ((([] : List (List UInt8)).length + ((d0.take y_1.toNat).drop 0).length) * 16 ≤ 140737488355328) <|
    need (((([] : List (List UInt8)) ++ ((d0.take y_1.toNat).drop 0)).length + 1) * 16 ≤ 140737488355328) <|
    need (0 ≤ y_1 ∧ y_1 ≤ (d0.length : Int)) <|
    need ((((([] : List (List UInt8)) ++ ((d0.take y_1.toNat).drop 0)) ++ [d1]).length + (d0.drop y_1.toNat).length) * 16 ≤ 140737488355328) <|
    some (((([] : List (List UInt8)) ++ ((d0.take y_1.toNat).drop 0)) ++ [d1]) ++ (d0.drop y_1.toNat))
set_option maxRecDepth 20000 in
theorem ref16_insert_ok (n : Nat) (M : Mem) (A0 : Option Addr) (cap0 : Nat) (d0 : List (List UInt8)) (h0 : Sli M 1 Dat.str A0 cap0 d0) (d1 : List UInt8) (r : List (List UInt8)) (hF : ref16_insert n d0 d1 = some r) : Ok Try.prog M 62 [.slice A0 d0.length cap0, S d1] (fun M' v => ∃ (A0 : Option Addr) (k0 : Nat), v = .slice A0 r.length k0 ∧ Sli M' 1 Dat.str A0 k0 r) := by
 unfold ref16_insert at hF
 intro M1 hM0 w0 H w p0
 replace h0 := h0.mono hM0
 refine R_enter 48 Try.func62 rfl rfl (by simp) fun a0 f0 => RR (Y f0 1 fun _ f => eT (RR (Y f 1 fun _ f => eT (R_seq (wp_block ?_)))))
 obtain ⟨b_1, hL_1, hF_1⟩ := bS hF
 refine wp_mono (Q := fun e a w => (e = .exit 0 ∧ (∃ y_1 : Int, b_1 = y_1 ∧ ∃ M_2 : Mem, M1.le M_2 ∧ Frm 48 [(0, .slice A0 d0.length cap0), (1, S d1), (5, .int .i64 y_1)] a ∧ Hp w0 M_2 (H) w))) (R_loop (n := 48) (w0 := w0) (M := M1) (fun (x : Nat × Int) => match x with | (m_1, s_1) => [(0, .slice A0 d0.length cap0), (1, S d1), (5, .int .i64 s_1)]) (fun (x : Nat × Int) => match x with | (m_1, s_1) => (H)) (fun (x : Nat × Int) (MM : Mem) => match x with | (m_1, s_1) => loopF (ref16_insert_s1 n d0 d1) m_1 s_1 = some b_1) (fun (x : Nat × Int) => match x with | (m_1, s_1) => m_1) (n, (0 : Int)) (f.kp) p0 hL_1 ?_) ?_
 ·rintro ⟨m_1, s_1⟩ M_1 _ w_1 hM_1 I_1 f p_1
  have I_1L := I_1
  obtain ⟨m_2, r_1, rfl, hs_1, hn_1⟩ := loop_step I_1L
  unfold ref16_insert_s1 at hs_1
  refine R_seq (RR (Y f 5 fun _ f => ?_))
  rcases cE hs_1 with ⟨h_1, hF_2⟩ | ⟨h_1, hF_7⟩
  ·have k_1 := dI.1 h_1
   have f := f.st 11 (cB h_1)
   refine Y f 2 fun _ f => ?_
   obtain ⟨x_1, hx_1, hF_3⟩ := bS hF_2
   obtain ⟨ad_1, c_1, e_1, -, hr_1, hc_1⟩ := Sli.at_ (h0.mono hM_1) hx_1
   obtain rfl : c_1 = [S x_1] := hr_1
   refine Z f (Y26 e_1 rfl (len := d0.length) (cap := cap0) (k := .i64) (i := s_1) (e := 9) (sz := 1) (getI_nn hx_1) (getI_lt hx_1)) fun _ f => Y15 f p_1 hc_1 0 rfl fun _ f => Y f 1 fun _ f => Z (v := .bool (Op.bytesLess x_1 d1)) f (X_strlt rfl (l := x_1) (m := d1) (by kernel_rfl) (by kernel_rfl)) fun _ f => Y f 1 fun _ f => eT (RcF f hF_3 (fun h_2 hF_4 => ?_) fun h_2 hF_6 => ?_)
   ·refine wp_skip (T_n (wp_block (R_reg (Y f 1 fun _ f => ?_))))
    obtain ⟨g_1, hF_5⟩ := nS hF_4
    refine Y f 1 fun _ f => ?_
    have f := f.st 20 (congrArg (Value.int .i64) (inR_wrap g_1))
    refine Y f 1 fun _ f => W_end rfl (B_n (T_n ?_))
    obtain rfl := sI hF_5
    exact ⟨⟨m_2, s_1 + 1⟩, Nat.lt_succ_self _, M_1, hM_1, hn_1, f.kp, p_1⟩
   ·refine wp_exit (T_x (T_x ?_))
    obtain rfl := sI hF_6
    exact ⟨rfl, s_1, (sI hn_1).symm, M_1, hM_1, f.kp, p_1⟩
  ·have k_4 := iff_f dI h_1
   have f := f.st 11 (cB h_1)
   refine Y f 7 fun _ f => eT (Y7 f (wp_exit (T_x (T_x ?_))))
   obtain rfl := sI hF_7
   exact ⟨rfl, s_1, (sI hn_1).symm, M_1, hM_1, f.kp, p_1⟩
 ·rintro _ _ w_3 ⟨rfl, y_1, hq_, M_2, hM_2, f, p_2⟩
  subst b_1
  refine B_x (T_n (R_seq (R_seq ?_)))
  obtain ⟨j_1, hj_1, hF_8⟩ := bS hF_1
  refine R_mid (fun a_25 w_4 => ∃ y_2 : Bool, j_1 = y_2 ∧ ∃ M_3 : Mem, M_2.le M_3 ∧ Frm 48 [(0, .slice A0 d0.length cap0), (1, S d1), (5, .int .i64 y_1), (32, .bool y_2)] a_25 ∧ Hp w0 M_3 (H) w_4) ?_ ?_
  ·refine R_reg (Y f 5 fun _ f => ?_)
   rcases cE hj_1 with ⟨h_3, hF_9⟩ | ⟨h_3, hF_11⟩
   ·have k_5 := dI.1 h_3
    have f := f.st 25 (cB h_3)
    refine Y f 2 fun _ f => ?_
    obtain ⟨x_2, hx_2, hF_10⟩ := bS hF_9
    obtain ⟨ad_2, c_2, e_2, -, hr_2, hc_2⟩ := Sli.at_ (h0.mono hM_2) hx_2
    obtain rfl : c_2 = [S x_2] := hr_2
    refine Z f (Y26 e_2 rfl (len := d0.length) (cap := cap0) (k := .i64) (i := y_1) (e := 9) (sz := 1) (getI_nn hx_2) (getI_lt hx_2)) fun _ f => Y15 f p_2 hc_2 0 rfl fun _ f => Y f 1 fun _ f => Z f (Y31 rfl (l := x_2) (m := d1)) fun _ f => Y f 1 fun _ f => eT ?_
    exact ⟨(decide (x_2 = d1)), (sI hF_10).symm, M_2, (mR _), f.kp, p_2⟩
   ·have k_6 := iff_f dI h_3
    have f := f.st 25 (cB h_3)
    refine Y f 7 fun _ f => eT ?_
    exact ⟨(false), (sI hF_11).symm, M_2, (mR _), f.kp, p_2⟩
  ·rintro a_25 w_4 ⟨y_2, hq_1, M_3, hM_3, f, p_3⟩
   subst j_1
   refine T_n (RcF f hF_8 (fun h_4 hF_12 => ?_) fun h_4 hF_13 => ?_)
   ·refine RR (Y f 2 fun _ f => eT (wp_ret (T_r (E_ret1 f rfl (by kernel_rfl : Vc.look _ 4 = some (.slice A0 d0.length cap0)) ?_))))
    obtain rfl := sI hF_12
    exact ⟨_, rfl, M_3, (hM_2.trans hM_3), p_3, ⟨A0, cap0, rfl, (h0.mono (hM_2.trans hM_3))⟩⟩
   ·refine wp_skip (T_n (RR (Y f 1 fun _ f => eT (RR (Y f 3 fun _ f => ?_)))))
    obtain ⟨g_2, hF_14⟩ := nS hF_13
    have h_5 : Sli M_3 1 Dat.str (cutA A0 1 0 cap0) (cap0 - 0) ((d0.take y_1.toNat).drop 0) := Sli.cut (h0.mono (hM_2.trans hM_3)) (by omega) (by omega)
    have hl_3 := Sli.len (h0.mono (hM_2.trans hM_3))
    refine Z f (Y30 rfl (A := A0) (len := d0.length) (cap := cap0) (k' := .i64) (b := y_1) (e := 9) (sz := 1) (by omega) (by omega)) fun _ f => ?_
    have f := Frm.set f 37 (v := .slice (cutA A0 1 0 cap0) y_1.toNat cap0) (v' := .slice (cutA A0 1 0 cap0) ((d0.take y_1.toNat).drop 0).length (cap0 - 0)) (by kernel_rfl) (by congr 1; simp; omega)
    obtain ⟨A_1, cap_1, hv_1⟩ : ∃ A cap, Value.slice none 0 0 = .slice A ([] : List (List UInt8)).length cap := ⟨none, 0, rfl⟩
    have p_4 : Hp w0 M_3 ((Ent.row 9 1 (.slice A_1 ([] : List (List UInt8)).length cap_1) ([] : List (List UInt8)).length []) :: H) w_4 := by rw [← hv_1]; exact p_3.nilRow 9 1
    have f := f.st 34 (hv_1)
    have hr_3 : RepSeq M_3 (([] : List (List UInt8)).map Dat.str) [] := rfl
    obtain ⟨g_3, hF_15⟩ := nS hF_14
    refine Y21 (z := S []) (f := Dat.str) (xs := ([] : List (List UInt8))) (ys := (d0.take y_1.toNat).drop 0) (c := (cap0 - 0)) f p_4 hr_3 h_5 rfl rfl rfl g_3 (by omega) fun A_2 cap_2 cs_1 w_5 p_5 hr_4 _ f => Y f 1 fun _ f => eT (RR (Y f 2 fun _ f => V_allocS (k := 1) (c := 1) f p_5 (.cells #[S d1] 9 (0, 0)) (by kernel_rfl) (fun _ => by kernel_rfl) fun b_2 w_6 p_6 _ f => ?_))
    have p_7 := p_6.pl [1]
    obtain ⟨g_4, hF_16⟩ := nS hF_15
    refine Y20 (z := S []) (f := Dat.str) (xs := ([] : List (List UInt8)) ++ ((d0.take y_1.toNat).drop 0)) (ys := [d1]) (news := [S d1]) (ad := ⟨b_2, 0, none⟩) (m := 1) (c := 1) f p_7 hr_4 (by exact ⟨_, _, rfl, rfl, rfl⟩) rfl rfl rfl rfl (own_cells (p_7.ownCell 1 rfl) 0 rfl) (by exact g_4) (by have hg_ := g_4; first | omega | (simp only [List.length_cons, List.length_nil] at *; omega)) fun A_3 cap_3 cs_2 w_7 p_8 hr_5 _ f => ?_
    have p_9 := p_8.pl [1]
    have p_10 := p_9.drop
    refine Y f 1 fun _ f => eT (RR (Y f 3 fun _ f => ?_))
    obtain ⟨g_5, hF_17⟩ := nS hF_16
    have h_6 : Sli M_3 1 Dat.str (cutA A0 1 y_1.toNat cap0) (cap0 - y_1.toNat) (d0.drop y_1.toNat) := Sli.cutFrom (h0.mono (hM_2.trans hM_3)) (by omega)
    refine Z f (Y29 rfl (A := A0) (len := d0.length) (cap := cap0) (k := .i64) (a := y_1) (e := 9) (sz := 1) g_5.1 g_5.2) fun _ f => ?_
    have f := Frm.set f 46 (v := .slice (cutA A0 1 y_1.toNat cap0) (d0.length - y_1.toNat) (cap0 - y_1.toNat)) (v' := .slice (cutA A0 1 y_1.toNat cap0) (d0.drop y_1.toNat).length (cap0 - y_1.toNat)) (by kernel_rfl) (by rw [List.length_drop])
    obtain ⟨g_6, hF_18⟩ := nS hF_17
    refine Y21 (z := S []) (f := Dat.str) (xs := (([] : List (List UInt8)) ++ ((d0.take y_1.toNat).drop 0)) ++ [d1]) (ys := d0.drop y_1.toNat) (c := (cap0 - y_1.toNat)) f p_10 hr_5 h_6 rfl rfl rfl g_6 (by omega) fun A_4 cap_4 cs_3 w_8 p_11 hr_6 _ f => Y f 1 fun _ f => eT (wp_ret ?_)
    obtain ⟨A_5, cap_5, M_4, hv_2, hM_4, p_12, h_7⟩ := p_11.rowSli (f := Dat.str) (xs := ((([] : List (List UInt8)) ++ ((d0.take y_1.toNat).drop 0)) ++ [d1]) ++ (d0.drop y_1.toNat)) szd_str hr_6
    have f := f.st 4 (hv_2)
    refine E_ret1 f rfl (by kernel_rfl : Vc.look _ 4 = some (.slice A_5 (((([] : List (List UInt8)) ++ ((d0.take y_1.toNat).drop 0)) ++ [d1]) ++ (d0.drop y_1.toNat)).length cap_5)) ?_
    obtain rfl := sI hF_18
    exact ⟨_, rfl, M_4, ((hM_2.trans hM_3).trans hM_4), p_12, ⟨A_5, cap_5, rfl, h_7⟩⟩
def ref16_Resources_s1 (n : Nat) (x_1 : List TF0) (s_1 : List (List UInt8) × Int) : Option (Lp (List (List UInt8) × Int) (List (List UInt8))) :=
    bif (decide (s_1.2 < ((x_1.length : Nat) : Int))) then
      ((getI x_1 s_1.2).bind fun x_2 =>
      bif (!(decide (x_2.fKind = 6))) then
        ((getI x_1 s_1.2).bind fun x_3 =>
        (ref16_insert n s_1.1 x_3.fName).bind fun x_4 =>
        need (inR .i64 (s_1.2 + 1)) <|
        some (.nx (x_4, s_1.2 + 1)))
      else
        need (inR .i64 (s_1.2 + 1)) <|
        some (.nx (s_1.1, s_1.2 + 1)))
    else
      some (.br s_1.1)
def ref16_Resources (n : Nat) (d0 : TF0) : Option (List (List UInt8)) :=
  (ref16_Uses n d0).bind fun x_1 =>
  (loopF (ref16_Resources_s1 n x_1) n (([] : List (List UInt8)), (0 : Int))).bind fun y_1 =>
  some (y_1)
set_option maxRecDepth 20000 in
theorem ref16_Resources_ok (n : Nat) (M : Mem) (c0 : List Value) (d0 : TF0) (h0 : Rep M (emb_TF0 d0) c0) (r : List (List UInt8)) (hF : ref16_Resources n d0 = some r) : Ok Try.prog M 45 [.agg c0.toArray] (fun M' v => ∃ (A0 : Option Addr) (k0 : Nat), v = .slice A0 r.length k0 ∧ Sli M' 1 Dat.str A0 k0 r) := by
 unfold ref16_Resources at hF
 intro M1 hM0 w0 H w p0
 replace h0 := Rep.mono hM0 _ _ h0
 obtain ⟨A_1, cap_1, rfl, h_1⟩ := TF0.opn h0
 refine R_enter 28 Try.func45 rfl rfl (by simp) fun a0 f0 => RR (Y13 (cs := #[.int .i8 d0.fKind, S d0.fText, .int .i64 d0.fNum, S d0.fName, S d0.fAttr, .slice A_1 d0.fL.length cap_1]) (T := 37) f0 p0 fun b_1 M_1 w_1 hM_1 hc_1 p_1 _ f => ?_)
 have hc_2 := fz_box hc_1
 refine Y f 1 fun _ f => eT (RR (Y f 1 fun _ f => eT (RR (Z (v := .agg #[.int .i8 d0.fKind, S d0.fText, .int .i64 d0.fNum, S d0.fName, S d0.fAttr, .slice A_1 d0.fL.length cap_1]) f (Y28 (cs := [.int .i8 d0.fKind, S d0.fText, .int .i64 d0.fNum, S d0.fName, S d0.fAttr, .slice A_1 d0.fL.length cap_1]) rfl (ad := ⟨b_1, 0, none⟩) (fun j v h => p_1.cell (hc_2 j v h))) fun _ f => ?_))))
 obtain ⟨x_1, hx_1, hF_1⟩ := bS hF
 refine Y16 f p_1 (ref16_Uses_ok n _ _ d0 (TF0.shutx (x := d0) (h_1.mono hM_1)) x_1 hx_1) fun _ M_2 w_2 hM_2 p_2 q_1 _ f => ?_
 obtain ⟨A_2, cap_2, rfl, h_2⟩ := q_1
 refine Y f 1 fun _ f => eT (R_seq (RR (Y f 1 fun _ f => eT (wp_block ?_))))
 obtain ⟨b_2, hL_1, hF_2⟩ := bS hF_1
 refine wp_mono (Q := fun e a w => (e = .exit 0 ∧ (∃ y_1 : List (List UInt8), b_2 = y_1 ∧ ∃ M_5 : Mem, M_2.le M_5 ∧ ∃ (A_7 : Option Addr), ∃ (cap_7 : Nat), Sli M_5 1 Dat.str A_7 cap_7 y_1 ∧ Frm 28 [(3, .slice A_7 y_1.length cap_7)] a ∧ Hp w0 M_5 (H) w))) (R_loop (n := 28) (w0 := w0) (M := M_2) (fun (x : Nat × (List (List UInt8) × Int) × (Option Addr) × Nat) => match x with | (m_1, s_1, A_3, cap_3) => [(3, .slice A_3 s_1.1.length cap_3), (4, .slice A_2 x_1.length cap_2), (5, .int .i64 s_1.2)]) (fun (x : Nat × (List (List UInt8) × Int) × (Option Addr) × Nat) => match x with | (m_1, s_1, A_3, cap_3) => (H)) (fun (x : Nat × (List (List UInt8) × Int) × (Option Addr) × Nat) (MM : Mem) => match x with | (m_1, s_1, A_3, cap_3) => loopF (ref16_Resources_s1 n x_1) m_1 s_1 = some b_2 ∧ Sli MM 1 Dat.str A_3 cap_3 s_1.1) (fun (x : Nat × (List (List UInt8) × Int) × (Option Addr) × Nat) => match x with | (m_1, s_1, A_3, cap_3) => m_1) (n, (([] : List (List UInt8)), (0 : Int)), none, 0) (f.kp) p_2 ⟨hL_1, Sli.nil⟩ ?_) ?_
 ·rintro ⟨m_1, s_1, A_3, cap_3⟩ M_3 _ w_3 hM_3 I_1 f p_3
  obtain ⟨I_1L, h_3⟩ := I_1
  obtain ⟨m_2, r_1, rfl, hs_1, hn_1⟩ := loop_step I_1L
  unfold ref16_Resources_s1 at hs_1
  refine R_seq (RR (Y f 4 fun _ f => eT (RcF f hs_1 (fun h_4 hF_3 => ?_) fun h_4 hF_11 => ?_)))
  ·have k_1 := dI.1 h_4
   refine wp_skip (T_n (R_seq (wp_block (RR (Y f 2 fun _ f => ?_)))))
   obtain ⟨x_2, hx_2, hF_4⟩ := bS hF_3
   obtain ⟨ad_1, c_1, e_1, -, hr_1, hc_3⟩ := Sli.at_ (h_2.mono hM_3) hx_2
   obtain ⟨A_4, cap_4, rfl, h_5⟩ := TF0.opn hr_1
   refine Z f (Y26 e_1 rfl (len := x_1.length) (cap := cap_2) (k := .i64) (i := s_1.2) (e := 37) (sz := 6) (getI_nn hx_2) (getI_lt hx_2)) fun _ f => Y f 1 fun _ f => Y15 f p_3 hc_3 0 rfl fun _ f => Y f 1 fun _ f => eT (RcF f hF_4 (fun h_6 hF_5 => ?_) fun h_6 hF_9 => ?_)
   ·have k_2 : ¬ (x_2.fKind = 6) := (not_iff dI).1 h_6
    refine R_reg (Y f 3 fun _ f => ?_)
    obtain ⟨x_3, hx_3, hF_6⟩ := bS hF_5
    obtain ⟨ad_2, c_2, e_2, -, hr_2, hc_4⟩ := Sli.at_ (h_2.mono hM_3) hx_3
    obtain ⟨A_5, cap_5, rfl, h_7⟩ := TF0.opn hr_2
    refine Z f (Y26 e_2 rfl (len := x_1.length) (cap := cap_2) (k := .i64) (i := s_1.2) (e := 37) (sz := 6) (getI_nn hx_3) (getI_lt hx_3)) fun _ f => Y f 1 fun _ f => Y15 f p_3 hc_4 3 rfl fun _ f => ?_
    obtain ⟨x_4, hx_4, hF_7⟩ := bS hF_6
    refine Y16 f p_3 (ref16_insert_ok n _ A_3 cap_3 s_1.1 h_3 x_3.fName x_4 hx_4) fun _ M_4 w_4 hM_4 p_4 q_2 _ f => ?_
    obtain ⟨A_6, cap_6, rfl, h_8⟩ := q_2
    refine Y f 1 fun _ f => W_end rfl (B_n (T_n (R_reg (Y f 1 fun _ f => ?_))))
    obtain ⟨g_1, hF_8⟩ := nS hF_7
    refine Y f 1 fun _ f => ?_
    have f := f.st 13 (congrArg (Value.int .i64) (inR_wrap g_1))
    refine Y f 1 fun _ f => eT ?_
    obtain rfl := sI hF_8
    exact ⟨⟨m_2, (x_4, s_1.2 + 1), A_6, cap_6⟩, Nat.lt_succ_self _, M_4, (hM_3.trans hM_4), ⟨hn_1, h_8⟩, f.kp, p_4⟩
   ·have k_3 : ¬ (¬ (x_2.fKind = 6)) := iff_f (not_iff dI) h_6
    refine wp_skip (B_n (T_n (R_reg (Y f 1 fun _ f => ?_))))
    obtain ⟨g_2, hF_10⟩ := nS hF_9
    refine Y f 1 fun _ f => ?_
    have f := f.st 13 (congrArg (Value.int .i64) (inR_wrap g_2))
    refine Y f 1 fun _ f => eT ?_
    obtain rfl := sI hF_10
    exact ⟨⟨m_2, (s_1.1, s_1.2 + 1), A_3, cap_3⟩, Nat.lt_succ_self _, M_3, hM_3, ⟨hn_1, h_3⟩, f.kp, p_3⟩
  ·have k_4 := iff_f dI h_4
   refine wp_exit (T_x (T_x ?_))
   obtain rfl := sI hF_11
   exact ⟨rfl, s_1.1, (sI hn_1).symm, M_3, hM_3, A_3, cap_3, h_3, f.kp, p_3⟩
 ·rintro _ _ w_6 ⟨rfl, y_1, hq_, M_5, hM_5, A_7, cap_7, h_9, f, p_5⟩
  subst b_2
  refine B_x (T_n (RR (Y f 2 fun _ f => eT (wp_ret (E_ret1 f rfl (by kernel_rfl : Vc.look _ 2 = some (.slice A_7 y_1.length cap_7)) ?_)))))
  obtain rfl := sI hF_2
  exact ⟨_, rfl, M_5, ((hM_1.trans hM_2).trans hM_5), p_5, ⟨A_7, cap_7, rfl, h_9⟩⟩
def ref16_Find_s1 (n : Nat) (d0 : TA0) (d1 : List UInt8) (s_1 : Int × List UInt8 × List UInt8 × List UInt8 × List TH0 × List (List UInt8) × Bool × List TA0) : Option (Lp (Int × List UInt8 × List UInt8 × List UInt8 × List TH0 × List (List UInt8) × Bool × List TA0) (Sum (List UInt8 × List UInt8 × List UInt8 × List TH0 × List (List UInt8) × Bool × List TA0) (List UInt8 × List UInt8 × List UInt8 × List TH0 × List (List UInt8) × Bool × List TA0))) :=
    bif (decide (s_1.1 < ((d0.fRes.length : Nat) : Int))) then
      ((getI d0.fRes s_1.1).bind fun x_1 =>
      bif (decide (x_1.fId = d1)) then
        ((getI d0.fRes s_1.1).bind fun x_2 =>
        some (.br (.inl (x_2.fId, x_2.fType, x_2.fCond, x_2.fProps, x_2.fDepends, (x_2.fRetain), x_2.fInner))))
      else
        need (inR .i64 (s_1.1 + 1)) <|
        some (.nx (s_1.1 + 1, s_1.2.1, s_1.2.2.1, s_1.2.2.2.1, s_1.2.2.2.2.1, s_1.2.2.2.2.2.1, (s_1.2.2.2.2.2.2.1), s_1.2.2.2.2.2.2.2)))
    else
      some (.br (.inr (s_1.2.1, s_1.2.2.1, s_1.2.2.2.1, s_1.2.2.2.2.1, s_1.2.2.2.2.2.1, (s_1.2.2.2.2.2.2.1), s_1.2.2.2.2.2.2.2)))
def ref16_Find (n : Nat) (d0 : TA0) (d1 : List UInt8) : Option (TB0 × Bool) :=
  (loopF (ref16_Find_s1 n d0 d1) n ((0 : Int), ([] : List UInt8), ([] : List UInt8), ([] : List UInt8), ([] : List TH0), ([] : List (List UInt8)), (false), ([] : List TA0))).bind fun b_3 =>
  (match b_3 with 
  | .inl y_1 => some (((⟨y_1.1, y_1.2.1, y_1.2.2.1, y_1.2.2.2.1, y_1.2.2.2.2.1, (y_1.2.2.2.2.2.1), y_1.2.2.2.2.2.2⟩ : TB0), (true))) 
  | .inr y_2 => some ((z_TB0, (false))))
set_option maxRecDepth 20000 in
theorem ref16_Find_ok (n : Nat) (M : Mem) (c0 : List Value) (d0 : TA0) (h0 : Rep M (emb_TA0 d0) c0) (d1 : List UInt8) (r : TB0 × Bool) (hF : ref16_Find n d0 d1 = some r) : Ok Try.prog M 11 [.agg c0.toArray, S d1] (fun M' v => ∃ (c0 : List Value), v = .tuple #[.agg c0.toArray, .bool r.2] ∧ Rep M' (emb_TB0 r.1) c0) := by
 unfold ref16_Find at hF
 intro M1 hM0 w0 H w p0
 replace h0 := Rep.mono hM0 _ _ h0
 obtain ⟨A_1, cap_1, A_2, cap_2, A_3, cap_3, A_4, cap_4, rfl, h_1, h_2, h_3, h_4⟩ := TA0.opn h0
 refine R_enter 28 Try.func11 rfl rfl (by simp) fun a0 f0 => RR (Y13 (cs := #[.slice A_1 d0.fParams.length cap_1, .slice A_2 d0.fConds.length cap_2, .slice A_3 d0.fRes.length cap_3, .slice A_4 d0.fOuts.length cap_4]) (T := 27) f0 p0 fun b_1 M_1 w_1 hM_1 hc_1 p_1 _ f => ?_)
 have hc_2 := fz_box hc_1
 refine Y12 f p_1 (.cells #[S [], S [], S [], .slice none 0 0, .slice none 0 0, .bool false, .slice none 0 0] 49 (0, 0)) fun b_2 w_2 p_2 _ f => Y f 1 fun _ f => eT (R_seq (RR (Y f 1 fun _ f => eT (wp_block ?_))))
 obtain ⟨b_3, hL_1, hF_1⟩ := bS hF
 refine wp_mono (Q := fun e a w => (e = .ret ∧ (∃ y_1 : List UInt8 × List UInt8 × List UInt8 × List TH0 × List (List UInt8) × Bool × List TA0, b_3 = .inl y_1 ∧ ∃ M_3 : Mem, M_1.le M_3 ∧ ∃ (A_14 : Option Addr), ∃ (cap_14 : Nat), ∃ (A_15 : Option Addr), ∃ (cap_15 : Nat), ∃ (A_16 : Option Addr), ∃ (cap_16 : Nat), Sli M_3 7 emb_TH0 A_14 cap_14 y_1.2.2.2.1 ∧ Sli M_3 1 Dat.str A_15 cap_15 y_1.2.2.2.2.1 ∧ Sli M_3 4 emb_TA0 A_16 cap_16 y_1.2.2.2.2.2.2 ∧ Frm 28 [(4, .pointer (some (⟨b_2, 0, none⟩))), (5, .bool true)] a ∧ Hp w0 M_3 ((Ent.obj b_2 (.cells #[S y_1.1, S y_1.2.1, S y_1.2.2.1, .slice A_14 y_1.2.2.2.1.length cap_14, .slice A_15 y_1.2.2.2.2.1.length cap_15, .bool y_1.2.2.2.2.2.1, .slice A_16 y_1.2.2.2.2.2.2.length cap_16] 49 (0, 0))) :: H) w)) ∨ (e = .exit 0 ∧ (∃ y_2 : List UInt8 × List UInt8 × List UInt8 × List TH0 × List (List UInt8) × Bool × List TA0, b_3 = .inr y_2 ∧ ∃ M_4 : Mem, M_1.le M_4 ∧ ∃ (A_17 : Option Addr), ∃ (cap_17 : Nat), ∃ (A_18 : Option Addr), ∃ (cap_18 : Nat), ∃ (A_19 : Option Addr), ∃ (cap_19 : Nat), Sli M_4 7 emb_TH0 A_17 cap_17 y_2.2.2.2.1 ∧ Sli M_4 1 Dat.str A_18 cap_18 y_2.2.2.2.2.1 ∧ Sli M_4 4 emb_TA0 A_19 cap_19 y_2.2.2.2.2.2.2 ∧ Frm 28 [(4, .pointer (some (⟨b_2, 0, none⟩)))] a ∧ Hp w0 M_4 ((Ent.obj b_2 (.cells #[S y_2.1, S y_2.2.1, S y_2.2.2.1, .slice A_17 y_2.2.2.2.1.length cap_17, .slice A_18 y_2.2.2.2.2.1.length cap_18, .bool y_2.2.2.2.2.2.1, .slice A_19 y_2.2.2.2.2.2.2.length cap_19] 49 (0, 0))) :: H) w))) (R_loop (n := 28) (w0 := w0) (M := M_1) (fun (x : Nat × (Int × List UInt8 × List UInt8 × List UInt8 × List TH0 × List (List UInt8) × Bool × List TA0) × (Option Addr) × Nat × (Option Addr) × Nat × (Option Addr) × Nat) => match x with | (m_1, s_1, A_5, cap_5, A_6, cap_6, A_7, cap_7) => [(1, S d1), (2, .pointer (some (⟨b_1, 0, none⟩))), (4, .pointer (some (⟨b_2, 0, none⟩))), (6, .int .i64 s_1.1)]) (fun (x : Nat × (Int × List UInt8 × List UInt8 × List UInt8 × List TH0 × List (List UInt8) × Bool × List TA0) × (Option Addr) × Nat × (Option Addr) × Nat × (Option Addr) × Nat) => match x with | (m_1, s_1, A_5, cap_5, A_6, cap_6, A_7, cap_7) => ((Ent.obj b_2 (.cells #[S s_1.2.1, S s_1.2.2.1, S s_1.2.2.2.1, .slice A_5 s_1.2.2.2.2.1.length cap_5, .slice A_6 s_1.2.2.2.2.2.1.length cap_6, .bool s_1.2.2.2.2.2.2.1, .slice A_7 s_1.2.2.2.2.2.2.2.length cap_7] 49 (0, 0))) :: H)) (fun (x : Nat × (Int × List UInt8 × List UInt8 × List UInt8 × List TH0 × List (List UInt8) × Bool × List TA0) × (Option Addr) × Nat × (Option Addr) × Nat × (Option Addr) × Nat) (MM : Mem) => match x with | (m_1, s_1, A_5, cap_5, A_6, cap_6, A_7, cap_7) => loopF (ref16_Find_s1 n d0 d1) m_1 s_1 = some b_3 ∧ Sli MM 7 emb_TH0 A_5 cap_5 s_1.2.2.2.2.1 ∧ Sli MM 1 Dat.str A_6 cap_6 s_1.2.2.2.2.2.1 ∧ Sli MM 4 emb_TA0 A_7 cap_7 s_1.2.2.2.2.2.2.2) (fun (x : Nat × (Int × List UInt8 × List UInt8 × List UInt8 × List TH0 × List (List UInt8) × Bool × List TA0) × (Option Addr) × Nat × (Option Addr) × Nat × (Option Addr) × Nat) => match x with | (m_1, s_1, A_5, cap_5, A_6, cap_6, A_7, cap_7) => m_1) (n, ((0 : Int), ([] : List UInt8), ([] : List UInt8), ([] : List UInt8), ([] : List TH0), ([] : List (List UInt8)), (false), ([] : List TA0)), none, 0, none, 0, none, 0) (f.kp) p_2 ⟨hL_1, Sli.nil, Sli.nil, Sli.nil⟩ ?_) ?_
 ·rintro ⟨m_1, s_1, A_5, cap_5, A_6, cap_6, A_7, cap_7⟩ M_2 _ w_3 hM_2 I_1 f p_3
  obtain ⟨I_1L, h_5, h_6, h_7⟩ := I_1
  obtain ⟨m_2, r_1, rfl, hs_1, hn_1⟩ := loop_step I_1L
  unfold ref16_Find_s1 at hs_1
  refine R_seq (RR (Y f 2 fun _ f => Y15 f p_3 (fzu hM_2 hc_2) 2 rfl fun _ f => Y f 2 fun _ f => eT (RcF f hs_1 (fun h_8 hF_2 => ?_) fun h_8 hF_8 => ?_)))
  ·have k_1 := dI.1 h_8
   refine wp_skip (T_n (R_seq (wp_block (RR (Y f 1 fun _ f => Y15 f p_3 (fzu hM_2 hc_2) 2 rfl fun _ f => Y f 1 fun _ f => ?_)))))
   obtain ⟨x_1, hx_1, hF_3⟩ := bS hF_2
   obtain ⟨ad_1, c_1, e_1, -, hr_1, hc_3⟩ := Sli.at_ (h_3.mono (hM_1.trans hM_2)) hx_1
   obtain ⟨A_8, cap_8, A_9, cap_9, A_10, cap_10, rfl, h_9, h_10, h_11⟩ := TB0.opn hr_1
   refine Z f (Y26 e_1 rfl (len := d0.fRes.length) (cap := cap_3) (k := .i64) (i := s_1.1) (e := 49) (sz := 7) (getI_nn hx_1) (getI_lt hx_1)) fun _ f => Y f 1 fun _ f => Y15 f p_3 hc_3 0 rfl fun _ f => Y f 1 fun _ f => Z f (Y31 rfl (l := x_1.fId) (m := d1)) fun _ f => eT (RcF f hF_3 (fun h_12 hF_4 => ?_) fun h_12 hF_6 => ?_)
   ·have k_2 := dI.1 h_12
    refine RR (Y f 1 fun _ f => Y15 f p_3 (fzu hM_2 hc_2) 2 rfl fun _ f => Y f 1 fun _ f => ?_)
    obtain ⟨x_2, hx_2, hF_5⟩ := bS hF_4
    obtain ⟨ad_2, c_2, e_2, -, hr_2, hc_4⟩ := Sli.at_ (h_3.mono (hM_1.trans hM_2)) hx_2
    obtain ⟨A_11, cap_11, A_12, cap_12, A_13, cap_13, rfl, h_13, h_14, h_15⟩ := TB0.opn hr_2
    refine Z f (Y26 e_2 rfl (len := d0.fRes.length) (cap := cap_3) (k := .i64) (i := s_1.1) (e := 49) (sz := 7) (getI_nn hx_2) (getI_lt hx_2)) fun _ f => Z (v := .agg #[S x_2.fId, S x_2.fType, S x_2.fCond, .slice A_11 x_2.fProps.length cap_11, .slice A_12 x_2.fDepends.length cap_12, .bool x_2.fRetain, .slice A_13 x_2.fInner.length cap_13]) f (Y28 (cs := [S x_2.fId, S x_2.fType, S x_2.fCond, .slice A_11 x_2.fProps.length cap_11, .slice A_12 x_2.fDepends.length cap_12, .bool x_2.fRetain, .slice A_13 x_2.fInner.length cap_13]) rfl (ad := ad_2.add (s_1.1.toNat * 7)) (fun j v h => p_3.cell (hc_4 j v h))) fun _ f => Y23 (vs := [S x_2.fId, S x_2.fType, S x_2.fCond, .slice A_11 x_2.fProps.length cap_11, .slice A_12 x_2.fDepends.length cap_12, .bool x_2.fRetain, .slice A_13 x_2.fInner.length cap_13]) (j := 0) f p_3 rfl rfl (by simp [Value.oneCell', S]) (by simp) (by decide) (cs' := #[S x_2.fId, S x_2.fType, S x_2.fCond, .slice A_11 x_2.fProps.length cap_11, .slice A_12 x_2.fDepends.length cap_12, .bool x_2.fRetain, .slice A_13 x_2.fInner.length cap_13]) (by kernel_rfl) fun w_4 p_4 _ f => Y f 1 fun _ f => eT (wp_ret (B_r (T_r (T_r ?_))))
    obtain rfl := sI hF_5
    exact .inl ⟨rfl, (x_2.fId, x_2.fType, x_2.fCond, x_2.fProps, x_2.fDepends, (x_2.fRetain), x_2.fInner), (sI hn_1).symm, M_2, hM_2, A_11, cap_11, A_12, cap_12, A_13, cap_13, h_13, h_14, h_15, f.kp, p_4⟩
   ·have k_3 := iff_f dI h_12
    refine wp_skip (B_n (T_n (R_reg (Y f 1 fun _ f => ?_))))
    obtain ⟨g_1, hF_7⟩ := nS hF_6
    refine Y f 1 fun _ f => ?_
    have f := f.st 13 (congrArg (Value.int .i64) (inR_wrap g_1))
    refine Y f 1 fun _ f => eT ?_
    obtain rfl := sI hF_7
    exact ⟨⟨m_2, (s_1.1 + 1, s_1.2.1, s_1.2.2.1, s_1.2.2.2.1, s_1.2.2.2.2.1, s_1.2.2.2.2.2.1, (s_1.2.2.2.2.2.2.1), s_1.2.2.2.2.2.2.2), A_5, cap_5, A_6, cap_6, A_7, cap_7⟩, Nat.lt_succ_self _, M_2, hM_2, ⟨hn_1, h_5, h_6, h_7⟩, f.kp, p_3⟩
  ·have k_4 := iff_f dI h_8
   refine wp_exit (T_x (T_x ?_))
   obtain rfl := sI hF_8
   exact .inr ⟨rfl, (s_1.2.1, s_1.2.2.1, s_1.2.2.2.1, s_1.2.2.2.2.1, s_1.2.2.2.2.2.1, (s_1.2.2.2.2.2.2.1), s_1.2.2.2.2.2.2.2), (sI hn_1).symm, M_2, hM_2, A_5, cap_5, A_6, cap_6, A_7, cap_7, h_5, h_6, h_7, f.kp, p_3⟩
 ·rintro _ _ w_7 (⟨rfl, y_1, rfl, M_3, hM_3, A_14, cap_14, A_15, cap_15, A_16, cap_16, h_16, h_17, h_18, f, p_5⟩ | ⟨rfl, y_2, rfl, M_4, hM_4, A_17, cap_17, A_18, cap_18, A_19, cap_19, h_19, h_20, h_21, f, p_6⟩)
  ·refine B_r (T_r (E_rv2 f rfl (Y10 (cs := [S y_1.1, S y_1.2.1, S y_1.2.2.1, .slice A_14 y_1.2.2.2.1.length cap_14, .slice A_15 y_1.2.2.2.2.1.length cap_15, .bool y_1.2.2.2.2.2.1, .slice A_16 y_1.2.2.2.2.2.2.length cap_16]) (ad := ⟨b_2, 0, none⟩) f (own_cells (p_5.ownCell 0 rfl) 0 rfl)) (Y11 (v := .bool true) f) ?_))
   obtain rfl := sI hF_1
   exact ⟨_, rfl, M_3, (hM_1.trans hM_3), (p_5.dropN 1), ⟨[S y_1.1, S y_1.2.1, S y_1.2.2.1, .slice A_14 y_1.2.2.2.1.length cap_14, .slice A_15 y_1.2.2.2.2.1.length cap_15, .bool y_1.2.2.2.2.2.1, .slice A_16 y_1.2.2.2.2.2.2.length cap_16], rfl, (TB0.shut h_16 h_17 h_18)⟩⟩
  ·refine B_x (T_n (RR (Y f 1 fun _ f => Y23 (vs := [S [], S [], S [], .slice none 0 0, .slice none 0 0, .bool false, .slice none 0 0]) (j := 0) f p_6 rfl rfl (by simp [Value.oneCell', S]) (by simp) (by decide) (cs' := #[S [], S [], S [], .slice none 0 0, .slice none 0 0, .bool false, .slice none 0 0]) (by kernel_rfl) fun w_8 p_7 _ f => Y f 1 fun _ f => eT (wp_ret (E_rv2 f rfl (Y10 (cs := [S [], S [], S [], .slice none 0 0, .slice none 0 0, .bool false, .slice none 0 0]) (ad := ⟨b_2, 0, none⟩) f (own_cells (p_7.ownCell 0 rfl) 0 rfl)) (Y11 (v := .bool false) f) ?_)))))
   obtain rfl := sI hF_1
   exact ⟨_, rfl, M_4, (hM_1.trans hM_4), (p_7.dropN 1), ⟨[S [], S [], S [], .slice none 0 0, .slice none 0 0, .bool false, .slice none 0 0], rfl, (TB0.shut Sli.nil Sli.nil Sli.nil)⟩⟩
def ref16_Output_s1 (n : Nat) (d0 : TA0) (d1 : List UInt8) (s_1 : Int × List UInt8 × List UInt8 × Int × List UInt8 × Int × List UInt8 × List UInt8 × List TF0) : Option (Lp (Int × List UInt8 × List UInt8 × Int × List UInt8 × Int × List UInt8 × List UInt8 × List TF0) (Sum (List UInt8 × List UInt8 × Int × List UInt8 × Int × List UInt8 × List UInt8 × List TF0) (List UInt8 × List UInt8 × Int × List UInt8 × Int × List UInt8 × List UInt8 × List TF0))) :=
    bif (decide (s_1.1 < ((d0.fOuts.length : Nat) : Int))) then
      ((getI d0.fOuts s_1.1).bind fun x_1 =>
      bif (decide (x_1.fName = d1)) then
        ((getI d0.fOuts s_1.1).bind fun x_2 =>
        some (.br (.inl (x_2.fName, x_2.fCond, x_2.fE.fKind, x_2.fE.fText, x_2.fE.fNum, x_2.fE.fName, x_2.fE.fAttr, x_2.fE.fL))))
      else
        need (inR .i64 (s_1.1 + 1)) <|
        some (.nx (s_1.1 + 1, s_1.2.1, s_1.2.2.1, s_1.2.2.2.1, s_1.2.2.2.2.1, s_1.2.2.2.2.2.1, s_1.2.2.2.2.2.2.1, s_1.2.2.2.2.2.2.2.1, s_1.2.2.2.2.2.2.2.2)))
    else
      some (.br (.inr (s_1.2.1, s_1.2.2.1, s_1.2.2.2.1, s_1.2.2.2.2.1, s_1.2.2.2.2.2.1, s_1.2.2.2.2.2.2.1, s_1.2.2.2.2.2.2.2.1, s_1.2.2.2.2.2.2.2.2)))
def ref16_Output (n : Nat) (d0 : TA0) (d1 : List UInt8) : Option (TC0 × Bool) :=
  (loopF (ref16_Output_s1 n d0 d1) n ((0 : Int), ([] : List UInt8), ([] : List UInt8), (0 : Int), ([] : List UInt8), (0 : Int), ([] : List UInt8), ([] : List UInt8), ([] : List TF0))).bind fun b_3 =>
  (match b_3 with 
  | .inl y_1 => some (((⟨y_1.1, y_1.2.1, (⟨y_1.2.2.1, y_1.2.2.2.1, y_1.2.2.2.2.1, y_1.2.2.2.2.2.1, y_1.2.2.2.2.2.2.1, y_1.2.2.2.2.2.2.2⟩ : TF0)⟩ : TC0), (true))) 
  | .inr y_2 => some (((⟨([] : List UInt8), ([] : List UInt8), z_TF0⟩ : TC0), (false))))
set_option maxRecDepth 20000 in
theorem ref16_Output_ok (n : Nat) (M : Mem) (c0 : List Value) (d0 : TA0) (h0 : Rep M (emb_TA0 d0) c0) (d1 : List UInt8) (r : TC0 × Bool) (hF : ref16_Output n d0 d1 = some r) : Ok Try.prog M 12 [.agg c0.toArray, S d1] (fun M' v => ∃ (c0 : List Value), v = .tuple #[.agg c0.toArray, .bool r.2] ∧ Rep M' (emb_TC0 r.1) c0) := by
 unfold ref16_Output at hF
 intro M1 hM0 w0 H w p0
 replace h0 := Rep.mono hM0 _ _ h0
 obtain ⟨A_1, cap_1, A_2, cap_2, A_3, cap_3, A_4, cap_4, rfl, h_1, h_2, h_3, h_4⟩ := TA0.opn h0
 refine R_enter 28 Try.func12 rfl rfl (by simp) fun a0 f0 => RR (Y13 (cs := #[.slice A_1 d0.fParams.length cap_1, .slice A_2 d0.fConds.length cap_2, .slice A_3 d0.fRes.length cap_3, .slice A_4 d0.fOuts.length cap_4]) (T := 27) f0 p0 fun b_1 M_1 w_1 hM_1 hc_1 p_1 _ f => ?_)
 have hc_2 := fz_box hc_1
 refine Y12 f p_1 (.cells #[S [], S [], .int .i8 0, S [], .int .i64 0, S [], S [], .slice none 0 0] 51 (0, 0)) fun b_2 w_2 p_2 _ f => Y f 1 fun _ f => eT (R_seq (RR (Y f 1 fun _ f => eT (wp_block ?_))))
 obtain ⟨b_3, hL_1, hF_1⟩ := bS hF
 refine wp_mono (Q := fun e a w => (e = .ret ∧ (∃ y_1 : List UInt8 × List UInt8 × Int × List UInt8 × Int × List UInt8 × List UInt8 × List TF0, b_3 = .inl y_1 ∧ ∃ M_3 : Mem, M_1.le M_3 ∧ ∃ (A_8 : Option Addr), ∃ (cap_8 : Nat), Sli M_3 6 emb_TF0 A_8 cap_8 y_1.2.2.2.2.2.2.2 ∧ Frm 28 [(4, .pointer (some (⟨b_2, 0, none⟩))), (5, .bool true)] a ∧ Hp w0 M_3 ((Ent.obj b_2 (.cells #[S y_1.1, S y_1.2.1, .int .i8 y_1.2.2.1, S y_1.2.2.2.1, .int .i64 y_1.2.2.2.2.1, S y_1.2.2.2.2.2.1, S y_1.2.2.2.2.2.2.1, .slice A_8 y_1.2.2.2.2.2.2.2.length cap_8] 51 (0, 0))) :: H) w)) ∨ (e = .exit 0 ∧ (∃ y_2 : List UInt8 × List UInt8 × Int × List UInt8 × Int × List UInt8 × List UInt8 × List TF0, b_3 = .inr y_2 ∧ ∃ M_4 : Mem, M_1.le M_4 ∧ ∃ (A_9 : Option Addr), ∃ (cap_9 : Nat), Sli M_4 6 emb_TF0 A_9 cap_9 y_2.2.2.2.2.2.2.2 ∧ Frm 28 [(4, .pointer (some (⟨b_2, 0, none⟩)))] a ∧ Hp w0 M_4 ((Ent.obj b_2 (.cells #[S y_2.1, S y_2.2.1, .int .i8 y_2.2.2.1, S y_2.2.2.2.1, .int .i64 y_2.2.2.2.2.1, S y_2.2.2.2.2.2.1, S y_2.2.2.2.2.2.2.1, .slice A_9 y_2.2.2.2.2.2.2.2.length cap_9] 51 (0, 0))) :: H) w))) (R_loop (n := 28) (w0 := w0) (M := M_1) (fun (x : Nat × (Int × List UInt8 × List UInt8 × Int × List UInt8 × Int × List UInt8 × List UInt8 × List TF0) × (Option Addr) × Nat) => match x with | (m_1, s_1, A_5, cap_5) => [(1, S d1), (2, .pointer (some (⟨b_1, 0, none⟩))), (4, .pointer (some (⟨b_2, 0, none⟩))), (6, .int .i64 s_1.1)]) (fun (x : Nat × (Int × List UInt8 × List UInt8 × Int × List UInt8 × Int × List UInt8 × List UInt8 × List TF0) × (Option Addr) × Nat) => match x with | (m_1, s_1, A_5, cap_5) => ((Ent.obj b_2 (.cells #[S s_1.2.1, S s_1.2.2.1, .int .i8 s_1.2.2.2.1, S s_1.2.2.2.2.1, .int .i64 s_1.2.2.2.2.2.1, S s_1.2.2.2.2.2.2.1, S s_1.2.2.2.2.2.2.2.1, .slice A_5 s_1.2.2.2.2.2.2.2.2.length cap_5] 51 (0, 0))) :: H)) (fun (x : Nat × (Int × List UInt8 × List UInt8 × Int × List UInt8 × Int × List UInt8 × List UInt8 × List TF0) × (Option Addr) × Nat) (MM : Mem) => match x with | (m_1, s_1, A_5, cap_5) => loopF (ref16_Output_s1 n d0 d1) m_1 s_1 = some b_3 ∧ Sli MM 6 emb_TF0 A_5 cap_5 s_1.2.2.2.2.2.2.2.2) (fun (x : Nat × (Int × List UInt8 × List UInt8 × Int × List UInt8 × Int × List UInt8 × List UInt8 × List TF0) × (Option Addr) × Nat) => match x with | (m_1, s_1, A_5, cap_5) => m_1) (n, ((0 : Int), ([] : List UInt8), ([] : List UInt8), (0 : Int), ([] : List UInt8), (0 : Int), ([] : List UInt8), ([] : List UInt8), ([] : List TF0)), none, 0) (f.kp) p_2 ⟨hL_1, Sli.nil⟩ ?_) ?_
 ·rintro ⟨m_1, s_1, A_5, cap_5⟩ M_2 _ w_3 hM_2 I_1 f p_3
  obtain ⟨I_1L, h_5⟩ := I_1
  obtain ⟨m_2, r_1, rfl, hs_1, hn_1⟩ := loop_step I_1L
  unfold ref16_Output_s1 at hs_1
  refine R_seq (RR (Y f 2 fun _ f => Y15 f p_3 (fzu hM_2 hc_2) 3 rfl fun _ f => Y f 2 fun _ f => eT (RcF f hs_1 (fun h_6 hF_2 => ?_) fun h_6 hF_8 => ?_)))
  ·have k_1 := dI.1 h_6
   refine wp_skip (T_n (R_seq (wp_block (RR (Y f 1 fun _ f => Y15 f p_3 (fzu hM_2 hc_2) 3 rfl fun _ f => Y f 1 fun _ f => ?_)))))
   obtain ⟨x_1, hx_1, hF_3⟩ := bS hF_2
   obtain ⟨ad_1, c_1, e_1, -, hr_1, hc_3⟩ := Sli.at_ (h_4.mono (hM_1.trans hM_2)) hx_1
   obtain ⟨A_6, cap_6, rfl, h_7⟩ := TC0.opn hr_1
   refine Z f (Y26 e_1 rfl (len := d0.fOuts.length) (cap := cap_4) (k := .i64) (i := s_1.1) (e := 51) (sz := 8) (getI_nn hx_1) (getI_lt hx_1)) fun _ f => Y f 1 fun _ f => Y15 f p_3 hc_3 0 rfl fun _ f => Y f 1 fun _ f => Z f (Y31 rfl (l := x_1.fName) (m := d1)) fun _ f => eT (RcF f hF_3 (fun h_8 hF_4 => ?_) fun h_8 hF_6 => ?_)
   ·have k_2 := dI.1 h_8
    refine RR (Y f 1 fun _ f => Y15 f p_3 (fzu hM_2 hc_2) 3 rfl fun _ f => Y f 1 fun _ f => ?_)
    obtain ⟨x_2, hx_2, hF_5⟩ := bS hF_4
    obtain ⟨ad_2, c_2, e_2, -, hr_2, hc_4⟩ := Sli.at_ (h_4.mono (hM_1.trans hM_2)) hx_2
    obtain ⟨A_7, cap_7, rfl, h_9⟩ := TC0.opn hr_2
    refine Z f (Y26 e_2 rfl (len := d0.fOuts.length) (cap := cap_4) (k := .i64) (i := s_1.1) (e := 51) (sz := 8) (getI_nn hx_2) (getI_lt hx_2)) fun _ f => Z (v := .agg #[S x_2.fName, S x_2.fCond, .int .i8 x_2.fE.fKind, S x_2.fE.fText, .int .i64 x_2.fE.fNum, S x_2.fE.fName, S x_2.fE.fAttr, .slice A_7 x_2.fE.fL.length cap_7]) f (Y28 (cs := [S x_2.fName, S x_2.fCond, .int .i8 x_2.fE.fKind, S x_2.fE.fText, .int .i64 x_2.fE.fNum, S x_2.fE.fName, S x_2.fE.fAttr, .slice A_7 x_2.fE.fL.length cap_7]) rfl (ad := ad_2.add (s_1.1.toNat * 8)) (fun j v h => p_3.cell (hc_4 j v h))) fun _ f => Y23 (vs := [S x_2.fName, S x_2.fCond, .int .i8 x_2.fE.fKind, S x_2.fE.fText, .int .i64 x_2.fE.fNum, S x_2.fE.fName, S x_2.fE.fAttr, .slice A_7 x_2.fE.fL.length cap_7]) (j := 0) f p_3 rfl rfl (by simp [Value.oneCell', S]) (by simp) (by decide) (cs' := #[S x_2.fName, S x_2.fCond, .int .i8 x_2.fE.fKind, S x_2.fE.fText, .int .i64 x_2.fE.fNum, S x_2.fE.fName, S x_2.fE.fAttr, .slice A_7 x_2.fE.fL.length cap_7]) (by kernel_rfl) fun w_4 p_4 _ f => Y f 1 fun _ f => eT (wp_ret (B_r (T_r (T_r ?_))))
    obtain rfl := sI hF_5
    exact .inl ⟨rfl, (x_2.fName, x_2.fCond, x_2.fE.fKind, x_2.fE.fText, x_2.fE.fNum, x_2.fE.fName, x_2.fE.fAttr, x_2.fE.fL), (sI hn_1).symm, M_2, hM_2, A_7, cap_7, h_9, f.kp, p_4⟩
   ·have k_3 := iff_f dI h_8
    refine wp_skip (B_n (T_n (R_reg (Y f 1 fun _ f => ?_))))
    obtain ⟨g_1, hF_7⟩ := nS hF_6
    refine Y f 1 fun _ f => ?_
    have f := f.st 13 (congrArg (Value.int .i64) (inR_wrap g_1))
    refine Y f 1 fun _ f => eT ?_
    obtain rfl := sI hF_7
    exact ⟨⟨m_2, (s_1.1 + 1, s_1.2.1, s_1.2.2.1, s_1.2.2.2.1, s_1.2.2.2.2.1, s_1.2.2.2.2.2.1, s_1.2.2.2.2.2.2.1, s_1.2.2.2.2.2.2.2.1, s_1.2.2.2.2.2.2.2.2), A_5, cap_5⟩, Nat.lt_succ_self _, M_2, hM_2, ⟨hn_1, h_5⟩, f.kp, p_3⟩
  ·have k_4 := iff_f dI h_6
   refine wp_exit (T_x (T_x ?_))
   obtain rfl := sI hF_8
   exact .inr ⟨rfl, (s_1.2.1, s_1.2.2.1, s_1.2.2.2.1, s_1.2.2.2.2.1, s_1.2.2.2.2.2.1, s_1.2.2.2.2.2.2.1, s_1.2.2.2.2.2.2.2.1, s_1.2.2.2.2.2.2.2.2), (sI hn_1).symm, M_2, hM_2, A_5, cap_5, h_5, f.kp, p_3⟩
 ·rintro _ _ w_7 (⟨rfl, y_1, rfl, M_3, hM_3, A_8, cap_8, h_10, f, p_5⟩ | ⟨rfl, y_2, rfl, M_4, hM_4, A_9, cap_9, h_11, f, p_6⟩)
  ·refine B_r (T_r (E_rv2 f rfl (Y10 (cs := [S y_1.1, S y_1.2.1, .int .i8 y_1.2.2.1, S y_1.2.2.2.1, .int .i64 y_1.2.2.2.2.1, S y_1.2.2.2.2.2.1, S y_1.2.2.2.2.2.2.1, .slice A_8 y_1.2.2.2.2.2.2.2.length cap_8]) (ad := ⟨b_2, 0, none⟩) f (own_cells (p_5.ownCell 0 rfl) 0 rfl)) (Y11 (v := .bool true) f) ?_))
   obtain rfl := sI hF_1
   exact ⟨_, rfl, M_3, (hM_1.trans hM_3), (p_5.dropN 1), ⟨[S y_1.1, S y_1.2.1, .int .i8 y_1.2.2.1, S y_1.2.2.2.1, .int .i64 y_1.2.2.2.2.1, S y_1.2.2.2.2.2.1, S y_1.2.2.2.2.2.2.1, .slice A_8 y_1.2.2.2.2.2.2.2.length cap_8], rfl, (TC0.shut h_10)⟩⟩
  ·refine B_x (T_n (RR (Y f 1 fun _ f => Y23 (vs := [S [], S [], .int .i8 0, S [], .int .i64 0, S [], S [], .slice none 0 0]) (j := 0) f p_6 rfl rfl (by simp [Value.oneCell', S]) (by simp) (by decide) (cs' := #[S [], S [], .int .i8 0, S [], .int .i64 0, S [], S [], .slice none 0 0]) (by kernel_rfl) fun w_8 p_7 _ f => Y f 1 fun _ f => eT (wp_ret (E_rv2 f rfl (Y10 (cs := [S [], S [], .int .i8 0, S [], .int .i64 0, S [], S [], .slice none 0 0]) (ad := ⟨b_2, 0, none⟩) f (own_cells (p_7.ownCell 0 rfl) 0 rfl)) (Y11 (v := .bool false) f) ?_)))))
   obtain rfl := sI hF_1
   exact ⟨_, rfl, M_4, (hM_1.trans hM_4), (p_7.dropN 1), ⟨[S [], S [], .int .i8 0, S [], .int .i64 0, S [], S [], .slice none 0 0], rfl, (TC0.shut Sli.nil)⟩⟩
def law16_fresh_s1 (n : Nat) (d0 : TA0) (d1 : List UInt8) (s_1 : Int) : Option (Lp Int (Sum Unit Unit)) :=
    bif (decide (s_1 < ((d0.fParams.length : Nat) : Int))) then
      ((getI d0.fParams s_1).bind fun x_1 =>
      bif (decide (x_1.fName = d1)) then
        (some (.br (.inl ())))
      else
        need (inR .i64 (s_1 + 1)) <|
        some (.nx (s_1 + 1)))
    else
      some (.br (.inr ()))
def law16_fresh_s2 (n : Nat) (d0 : TA0) (d1 : List UInt8) (s_2 : Int) : Option (Lp Int (Sum Unit Unit)) :=
    bif (decide (s_2 < ((d0.fConds.length : Nat) : Int))) then
      ((getI d0.fConds s_2).bind fun x_2 =>
      bif (decide (x_2.fName = d1)) then
        (some (.br (.inl ())))
      else
        need (inR .i64 (s_2 + 1)) <|
        some (.nx (s_2 + 1)))
    else
      some (.br (.inr ()))
def law16_fresh (n : Nat) (d0 : TA0) (d1 : List UInt8) : Option Bool :=
  (loopF (law16_fresh_s1 n d0 d1) n (0 : Int)).bind fun b_2 =>
  (match b_2 with 
  | .inl y_1 => some ((false)) 
  | .inr y_2 => (loopF (law16_fresh_s2 n d0 d1) n (0 : Int)).bind fun b_3 =>
    (match b_3 with 
    | .inl y_3 => some ((false)) 
    | .inr y_4 => (ref16_Find n d0 d1).bind fun x_3 =>
      (ref16_Output n d0 d1).bind fun x_4 =>
      bif !x_3.2 then
        (some ((!x_4.2)))
      else
        some ((false))))
set_option maxRecDepth 20000 in
theorem law16_fresh_ok (n : Nat) (M : Mem) (c0 : List Value) (d0 : TA0) (h0 : Rep M (emb_TA0 d0) c0) (d1 : List UInt8) (r : Bool) (hF : law16_fresh n d0 d1 = some r) : Ok Try.prog M 6 [.agg c0.toArray, S d1] (fun _ v => v = .bool r) := by
 unfold law16_fresh at hF
 intro M1 hM0 w0 H w p0
 replace h0 := Rep.mono hM0 _ _ h0
 obtain ⟨A_1, cap_1, A_2, cap_2, A_3, cap_3, A_4, cap_4, rfl, h_1, h_2, h_3, h_4⟩ := TA0.opn h0
 refine R_enter 59 Try.func6 rfl rfl (by simp) fun a0 f0 => RR (Y13 (cs := #[.slice A_1 d0.fParams.length cap_1, .slice A_2 d0.fConds.length cap_2, .slice A_3 d0.fRes.length cap_3, .slice A_4 d0.fOuts.length cap_4]) (T := 27) f0 p0 fun b_1 M_1 w_1 hM_1 hc_1 p_1 _ f => ?_)
 have hc_2 := fz_box hc_1
 refine Y f 1 fun _ f => eT (R_seq (RR (Y f 1 fun _ f => eT (wp_block ?_))))
 obtain ⟨b_2, hL_1, hF_1⟩ := bS hF
 refine wp_mono (Q := fun e a w => (e = .ret ∧ (∃ y_1 : Unit, b_2 = .inl y_1 ∧ ∃ M_3 : Mem, M_1.le M_3 ∧ Frm 59 [(4, .bool false)] a ∧ Hp w0 M_3 (H) w)) ∨ (e = .exit 0 ∧ (∃ y_2 : Unit, b_2 = .inr y_2 ∧ ∃ M_4 : Mem, M_1.le M_4 ∧ Frm 59 [(1, S d1), (2, .pointer (some (⟨b_1, 0, none⟩)))] a ∧ Hp w0 M_4 (H) w))) (R_loop (n := 59) (w0 := w0) (M := M_1) (fun (x : Nat × Int) => match x with | (m_1, s_1) => [(1, S d1), (2, .pointer (some (⟨b_1, 0, none⟩))), (5, .int .i64 s_1)]) (fun (x : Nat × Int) => match x with | (m_1, s_1) => (H)) (fun (x : Nat × Int) (MM : Mem) => match x with | (m_1, s_1) => loopF (law16_fresh_s1 n d0 d1) m_1 s_1 = some b_2) (fun (x : Nat × Int) => match x with | (m_1, s_1) => m_1) (n, (0 : Int)) (f.kp) p_1 hL_1 ?_) ?_
 ·rintro ⟨m_1, s_1⟩ M_2 _ w_2 hM_2 I_1 f p_2
  have I_1L := I_1
  obtain ⟨m_2, r_1, rfl, hs_1, hn_1⟩ := loop_step I_1L
  unfold law16_fresh_s1 at hs_1
  refine R_seq (RR (Y f 2 fun _ f => Y15 f p_2 (fzu hM_2 hc_2) 0 rfl fun _ f => Y f 2 fun _ f => eT (RcF f hs_1 (fun h_5 hF_2 => ?_) fun h_5 hF_7 => ?_)))
  ·have k_1 := dI.1 h_5
   refine wp_skip (T_n (R_seq (wp_block (RR (Y f 1 fun _ f => Y15 f p_2 (fzu hM_2 hc_2) 0 rfl fun _ f => Y f 1 fun _ f => ?_)))))
   obtain ⟨x_1, hx_1, hF_3⟩ := bS hF_2
   obtain ⟨ad_1, c_1, e_1, -, hr_1, hc_3⟩ := Sli.at_ (h_1.mono (hM_1.trans hM_2)) hx_1
   obtain ⟨A_5, cap_5, A_6, cap_6, A_7, cap_7, rfl, h_6, h_7, h_8⟩ := TD0.opn hr_1
   refine Z f (Y26 e_1 rfl (len := d0.fParams.length) (cap := cap_1) (k := .i64) (i := s_1) (e := 43) (sz := 10) (getI_nn hx_1) (getI_lt hx_1)) fun _ f => Y f 1 fun _ f => Y15 f p_2 hc_3 0 rfl fun _ f => Y f 1 fun _ f => Z f (Y31 rfl (l := x_1.fName) (m := d1)) fun _ f => eT (RcF f hF_3 (fun h_9 hF_4 => ?_) fun h_9 hF_5 => ?_)
   ·have k_2 := dI.1 h_9
    refine RR (Y f 1 fun _ f => eT (wp_ret (B_r (T_r (T_r ?_)))))
    obtain rfl := sI hF_4
    exact .inl ⟨rfl, (), (sI hn_1).symm, M_2, hM_2, f.kp, p_2⟩
   ·have k_3 := iff_f dI h_9
    refine wp_skip (B_n (T_n (R_reg (Y f 1 fun _ f => ?_))))
    obtain ⟨g_1, hF_6⟩ := nS hF_5
    refine Y f 1 fun _ f => ?_
    have f := f.st 17 (congrArg (Value.int .i64) (inR_wrap g_1))
    refine Y f 1 fun _ f => eT ?_
    obtain rfl := sI hF_6
    exact ⟨⟨m_2, s_1 + 1⟩, Nat.lt_succ_self _, M_2, hM_2, hn_1, f.kp, p_2⟩
  ·have k_4 := iff_f dI h_5
   refine wp_exit (T_x (T_x ?_))
   obtain rfl := sI hF_7
   exact .inr ⟨rfl, (), (sI hn_1).symm, M_2, hM_2, f.kp, p_2⟩
 ·rintro _ _ w_5 (⟨rfl, y_1, rfl, M_3, hM_3, f, p_3⟩ | ⟨rfl, y_2, rfl, M_4, hM_4, f, p_4⟩)
  ·refine B_r (T_r (E_ret1 f rfl (by kernel_rfl : Vc.look _ 4 = some (.bool false)) ?_))
   obtain rfl := sI hF_1
   exact ⟨_, rfl, M_3, (hM_1.trans hM_3), p_3, rfl⟩
  ·refine B_x (T_n (R_seq (RR (Y f 1 fun _ f => eT (wp_block ?_)))))
   obtain ⟨b_3, hL_2, hF_8⟩ := bS hF_1
   refine wp_mono (Q := fun e a w => (e = .ret ∧ (∃ y_3 : Unit, b_3 = .inl y_3 ∧ ∃ M_6 : Mem, M_4.le M_6 ∧ Frm 59 [(4, .bool false)] a ∧ Hp w0 M_6 (H) w)) ∨ (e = .exit 2 ∧ (∃ y_4 : Unit, b_3 = .inr y_4 ∧ ∃ M_7 : Mem, M_4.le M_7 ∧ Frm 59 [(1, S d1), (2, .pointer (some (⟨b_1, 0, none⟩)))] a ∧ Hp w0 M_7 (H) w))) (R_loop (n := 59) (w0 := w0) (M := M_4) (fun (x : Nat × Int) => match x with | (m_3, s_2) => [(1, S d1), (2, .pointer (some (⟨b_1, 0, none⟩))), (6, .int .i64 s_2)]) (fun (x : Nat × Int) => match x with | (m_3, s_2) => (H)) (fun (x : Nat × Int) (MM : Mem) => match x with | (m_3, s_2) => loopF (law16_fresh_s2 n d0 d1) m_3 s_2 = some b_3) (fun (x : Nat × Int) => match x with | (m_3, s_2) => m_3) (n, (0 : Int)) (f.kp) p_4 hL_2 ?_) ?_
   ·rintro ⟨m_3, s_2⟩ M_5 _ w_6 hM_5 I_2 f p_5
    have I_2L := I_2
    obtain ⟨m_4, r_2, rfl, hs_2, hn_2⟩ := loop_step I_2L
    unfold law16_fresh_s2 at hs_2
    refine R_seq (RR (Y f 2 fun _ f => Y15 f p_5 (fzu (hM_4.trans hM_5) hc_2) 1 rfl fun _ f => Y f 2 fun _ f => eT (RcF f hs_2 (fun h_10 hF_9 => ?_) fun h_10 hF_14 => ?_)))
    ·have k_5 := dI.1 h_10
     refine wp_skip (T_n (R_seq (wp_block (RR (Y f 1 fun _ f => Y15 f p_5 (fzu (hM_4.trans hM_5) hc_2) 1 rfl fun _ f => Y f 1 fun _ f => ?_)))))
     obtain ⟨x_2, hx_2, hF_10⟩ := bS hF_9
     obtain ⟨ad_2, c_2, e_2, -, hr_2, hc_4⟩ := Sli.at_ (h_2.mono ((hM_1.trans hM_4).trans hM_5)) hx_2
     obtain ⟨A_8, cap_8, A_9, cap_9, A_10, cap_10, rfl, h_11, h_12, h_13⟩ := TI0.opn hr_2
     refine Z f (Y26 e_2 rfl (len := d0.fConds.length) (cap := cap_2) (k := .i64) (i := s_2) (e := 45) (sz := 15) (getI_nn hx_2) (getI_lt hx_2)) fun _ f => Y f 1 fun _ f => Y15 f p_5 hc_4 0 rfl fun _ f => Y f 1 fun _ f => Z f (Y31 rfl (l := x_2.fName) (m := d1)) fun _ f => eT (RcF f hF_10 (fun h_14 hF_11 => ?_) fun h_14 hF_12 => ?_)
     ·have k_6 := dI.1 h_14
      refine RR (Y f 1 fun _ f => eT (wp_ret (B_r (T_r (T_r ?_)))))
      obtain rfl := sI hF_11
      exact .inl ⟨rfl, (), (sI hn_2).symm, M_5, hM_5, f.kp, p_5⟩
     ·have k_7 := iff_f dI h_14
      refine wp_skip (B_n (T_n (R_reg (Y f 1 fun _ f => ?_))))
      obtain ⟨g_2, hF_13⟩ := nS hF_12
      refine Y f 1 fun _ f => ?_
      have f := f.st 32 (congrArg (Value.int .i64) (inR_wrap g_2))
      refine Y f 1 fun _ f => eT ?_
      obtain rfl := sI hF_13
      exact ⟨⟨m_4, s_2 + 1⟩, Nat.lt_succ_self _, M_5, hM_5, hn_2, f.kp, p_5⟩
    ·have k_8 := iff_f dI h_10
     refine wp_exit (T_x (T_x ?_))
     obtain rfl := sI hF_14
     exact .inr ⟨rfl, (), (sI hn_2).symm, M_5, hM_5, f.kp, p_5⟩
   ·rintro _ _ w_9 (⟨rfl, y_3, rfl, M_6, hM_6, f, p_6⟩ | ⟨rfl, y_4, rfl, M_7, hM_7, f, p_7⟩)
    ·refine B_r (T_r (E_ret1 f rfl (by kernel_rfl : Vc.look _ 4 = some (.bool false)) ?_))
     obtain rfl := sI hF_8
     exact ⟨_, rfl, M_6, ((hM_1.trans hM_4).trans hM_6), p_6, rfl⟩
    ·refine B_x (T_n (RR (Z (v := .agg #[.slice A_1 d0.fParams.length cap_1, .slice A_2 d0.fConds.length cap_2, .slice A_3 d0.fRes.length cap_3, .slice A_4 d0.fOuts.length cap_4]) f (Y28 (cs := [.slice A_1 d0.fParams.length cap_1, .slice A_2 d0.fConds.length cap_2, .slice A_3 d0.fRes.length cap_3, .slice A_4 d0.fOuts.length cap_4]) rfl (ad := ⟨b_1, 0, none⟩) (fun j v h => p_7.cell ((fzu (hM_4.trans hM_7) hc_2) j v h))) fun _ f => Y f 1 fun _ f => ?_)))
     obtain ⟨x_3, hx_3, hF_15⟩ := bS hF_8
     refine Y16 f p_7 (ref16_Find_ok n _ _ d0 (TA0.shutx (x := d0) (h_1.mono ((hM_1.trans hM_4).trans hM_7)) (h_2.mono ((hM_1.trans hM_4).trans hM_7)) (h_3.mono ((hM_1.trans hM_4).trans hM_7)) (h_4.mono ((hM_1.trans hM_4).trans hM_7))) d1 x_3 hx_3) fun _ M_8 w_10 hM_8 p_8 q_1 _ f => ?_
     obtain ⟨c_3, rfl, hr_3⟩ := q_1
     obtain ⟨A_11, cap_11, A_12, cap_12, A_13, cap_13, rfl, h_15, h_16, h_17⟩ := TB0.opn hr_3
     refine Y f 3 fun _ f => Y12 f p_8 (.cells #[S [], S [], S [], .slice none 0 0, .slice none 0 0, .bool false, .slice none 0 0] 49 (0, 0)) fun b_4 w_11 p_9 _ f => Y23 (vs := [S x_3.1.fId, S x_3.1.fType, S x_3.1.fCond, .slice A_11 x_3.1.fProps.length cap_11, .slice A_12 x_3.1.fDepends.length cap_12, .bool x_3.1.fRetain, .slice A_13 x_3.1.fInner.length cap_13]) (j := 0) f p_9 rfl rfl (by simp [Value.oneCell', S]) (by simp) (by decide) (cs' := #[S x_3.1.fId, S x_3.1.fType, S x_3.1.fCond, .slice A_11 x_3.1.fProps.length cap_11, .slice A_12 x_3.1.fDepends.length cap_12, .bool x_3.1.fRetain, .slice A_13 x_3.1.fInner.length cap_13]) (by kernel_rfl) fun w_12 p_10 _ f => Y f 1 fun _ f => eT (RR (Z (v := .agg #[.slice A_1 d0.fParams.length cap_1, .slice A_2 d0.fConds.length cap_2, .slice A_3 d0.fRes.length cap_3, .slice A_4 d0.fOuts.length cap_4]) f (Y28 (cs := [.slice A_1 d0.fParams.length cap_1, .slice A_2 d0.fConds.length cap_2, .slice A_3 d0.fRes.length cap_3, .slice A_4 d0.fOuts.length cap_4]) rfl (ad := ⟨b_1, 0, none⟩) (fun j v h => p_10.cell ((fzu ((hM_4.trans hM_7).trans hM_8) hc_2) j v h))) fun _ f => Y f 1 fun _ f => ?_))
     obtain ⟨x_4, hx_4, hF_16⟩ := bS hF_15
     refine Y16 f p_10 (ref16_Output_ok n _ _ d0 (TA0.shutx (x := d0) (h_1.mono (((hM_1.trans hM_4).trans hM_7).trans hM_8)) (h_2.mono (((hM_1.trans hM_4).trans hM_7).trans hM_8)) (h_3.mono (((hM_1.trans hM_4).trans hM_7).trans hM_8)) (h_4.mono (((hM_1.trans hM_4).trans hM_7).trans hM_8))) d1 x_4 hx_4) fun _ M_9 w_13 hM_9 p_11 q_2 _ f => ?_
     obtain ⟨c_4, rfl, hr_4⟩ := q_2
     obtain ⟨A_14, cap_14, rfl, h_18⟩ := TC0.opn hr_4
     refine Y f 3 fun _ f => Y12 f p_11 (.cells #[S [], S [], .int .i8 0, S [], .int .i64 0, S [], S [], .slice none 0 0] 51 (0, 0)) fun b_5 w_14 p_12 _ f => Y23 (vs := [S x_4.1.fName, S x_4.1.fCond, .int .i8 x_4.1.fE.fKind, S x_4.1.fE.fText, .int .i64 x_4.1.fE.fNum, S x_4.1.fE.fName, S x_4.1.fE.fAttr, .slice A_14 x_4.1.fE.fL.length cap_14]) (j := 0) f p_12 rfl rfl (by simp [Value.oneCell', S]) (by simp) (by decide) (cs' := #[S x_4.1.fName, S x_4.1.fCond, .int .i8 x_4.1.fE.fKind, S x_4.1.fE.fText, .int .i64 x_4.1.fE.fNum, S x_4.1.fE.fName, S x_4.1.fE.fAttr, .slice A_14 x_4.1.fE.fL.length cap_14]) (by kernel_rfl) fun w_15 p_13 _ f => Y f 1 fun _ f => eT (RR (Y f 3 fun _ f => ?_))
     rcases cE hF_16 with ⟨h_19, hF_17⟩ | ⟨h_19, hF_18⟩
     ·have k_9 : (x_3.2) = false := by simpa using h_19
      have f := f.st 55 (cB h_19)
      refine Y f 4 fun _ f => eT (wp_ret (E_ret1 f rfl (by kernel_rfl : Vc.look _ 4 = some (.bool !x_4.2)) ?_))
      obtain rfl := sI hF_17
      exact ⟨_, rfl, M_9, ((((hM_1.trans hM_4).trans hM_7).trans hM_8).trans hM_9), (p_13.dropN 2), rfl⟩
     ·have k_10 : (x_3.2) = true := by simpa using h_19
      have f := f.st 55 (cB h_19)
      refine Y f 4 fun _ f => eT (wp_ret (E_ret1 f rfl (by kernel_rfl : Vc.look _ 4 = some (.bool false)) ?_))
      obtain rfl := sI hF_18
      exact ⟨_, rfl, M_9, ((((hM_1.trans hM_4).trans hM_7).trans hM_8).trans hM_9), (p_13.dropN 2), rfl⟩
def law16_names_s1 (n : Nat) (d0 : TA0) (x_1 : List (List UInt8)) (s_1 : Int) : Option (Lp Int (Sum Unit Unit)) :=
    bif (decide (s_1 < ((x_1.length : Nat) : Int))) then
      ((getI x_1 s_1).bind fun x_2 =>
      (law16_fresh n d0 x_2).bind fun x_3 =>
      bif x_3 then
        (some (.br (.inl ())))
      else
        need (inR .i64 (s_1 + 1)) <|
        some (.nx (s_1 + 1)))
    else
      some (.br (.inr ()))
def law16_names (n : Nat) (d0 : TA0) (d1 : TF0) : Option Bool :=
  (ref16_Resources n d1).bind fun x_1 =>
  (loopF (law16_names_s1 n d0 x_1) n (0 : Int)).bind fun b_3 =>
  (match b_3 with 
  | .inl y_1 => some ((false)) 
  | .inr y_2 => some ((true)))
theorem law16_names_ok (n : Nat) (M : Mem) (c0 : List Value) (d0 : TA0) (h0 : Rep M (emb_TA0 d0) c0) (c1 : List Value) (d1 : TF0) (h1 : Rep M (emb_TF0 d1) c1) (r : Bool) (hF : law16_names n d0 d1 = some r) : Ok Try.prog M 19 [.agg c0.toArray, .agg c1.toArray] (fun _ v => v = .bool r) := by
 unfold law16_names at hF
 intro M1 hM0 w0 H w p0
 replace h0 := Rep.mono hM0 _ _ h0
 replace h1 := Rep.mono hM0 _ _ h1
 obtain ⟨A_1, cap_1, A_2, cap_2, A_3, cap_3, A_4, cap_4, rfl, h_1, h_2, h_3, h_4⟩ := TA0.opn h0
 obtain ⟨A_5, cap_5, rfl, h_5⟩ := TF0.opn h1
 refine R_enter 21 Try.func19 rfl rfl (by simp) fun a0 f0 => RR (Y13 (cs := #[.slice A_1 d0.fParams.length cap_1, .slice A_2 d0.fConds.length cap_2, .slice A_3 d0.fRes.length cap_3, .slice A_4 d0.fOuts.length cap_4]) (T := 27) f0 p0 fun b_1 M_1 w_1 hM_1 hc_1 p_1 _ f => ?_)
 have hc_2 := fz_box hc_1
 refine Y13 (cs := #[.int .i8 d1.fKind, S d1.fText, .int .i64 d1.fNum, S d1.fName, S d1.fAttr, .slice A_5 d1.fL.length cap_5]) (T := 37) f p_1 fun b_2 M_2 w_2 hM_2 hc_3 p_2 _ f => ?_
 have hc_4 := fz_box hc_3
 refine Y f 1 fun _ f => eT (RR (Z (v := .agg #[.int .i8 d1.fKind, S d1.fText, .int .i64 d1.fNum, S d1.fName, S d1.fAttr, .slice A_5 d1.fL.length cap_5]) f (Y28 (cs := [.int .i8 d1.fKind, S d1.fText, .int .i64 d1.fNum, S d1.fName, S d1.fAttr, .slice A_5 d1.fL.length cap_5]) rfl (ad := ⟨b_2, 0, none⟩) (fun j v h => p_2.cell (hc_4 j v h))) fun _ f => ?_))
 obtain ⟨x_1, hx_1, hF_1⟩ := bS hF
 refine Y16 f p_2 (ref16_Resources_ok n _ _ d1 (TF0.shutx (x := d1) (h_5.mono (hM_1.trans hM_2))) x_1 hx_1) fun _ M_3 w_3 hM_3 p_3 q_1 _ f => ?_
 obtain ⟨A_6, cap_6, rfl, h_6⟩ := q_1
 refine Y f 1 fun _ f => eT (R_seq (RR (Y f 1 fun _ f => eT (wp_block ?_))))
 obtain ⟨b_3, hL_1, hF_2⟩ := bS hF_1
 refine wp_mono (Q := fun e a w => (e = .ret ∧ (∃ y_1 : Unit, b_3 = .inl y_1 ∧ ∃ M_5 : Mem, M_3.le M_5 ∧ Frm 21 [(4, .bool false)] a ∧ Hp w0 M_5 (H) w)) ∨ (e = .exit 0 ∧ (∃ y_2 : Unit, b_3 = .inr y_2 ∧ ∃ M_6 : Mem, M_3.le M_6 ∧ Frm 21 [] a ∧ Hp w0 M_6 (H) w))) (R_loop (n := 21) (w0 := w0) (M := M_3) (fun (x : Nat × Int) => match x with | (m_1, s_1) => [(2, .pointer (some (⟨b_1, 0, none⟩))), (5, .slice A_6 x_1.length cap_6), (6, .int .i64 s_1)]) (fun (x : Nat × Int) => match x with | (m_1, s_1) => (H)) (fun (x : Nat × Int) (MM : Mem) => match x with | (m_1, s_1) => loopF (law16_names_s1 n d0 x_1) m_1 s_1 = some b_3) (fun (x : Nat × Int) => match x with | (m_1, s_1) => m_1) (n, (0 : Int)) (f.kp) p_3 hL_1 ?_) ?_
 ·rintro ⟨m_1, s_1⟩ M_4 _ w_4 hM_4 I_1 f p_4
  have I_1L := I_1
  obtain ⟨m_2, r_1, rfl, hs_1, hn_1⟩ := loop_step I_1L
  unfold law16_names_s1 at hs_1
  refine R_seq (RR (Y f 4 fun _ f => eT (RcF f hs_1 (fun h_7 hF_3 => ?_) fun h_7 hF_9 => ?_)))
  ·have k_1 := dI.1 h_7
   refine wp_skip (T_n (R_seq (wp_block (R_seq (R_draw p_4 (by kernel_rfl) (by kernel_rfl) (Y2 (v := .agg #[.slice A_1 d0.fParams.length cap_1, .slice A_2 d0.fConds.length cap_2, .slice A_3 d0.fRes.length cap_3, .slice A_4 d0.fOuts.length cap_4]) f (fun _ pq => Y28 (cs := [.slice A_1 d0.fParams.length cap_1, .slice A_2 d0.fConds.length cap_2, .slice A_3 d0.fRes.length cap_3, .slice A_4 d0.fOuts.length cap_4]) rfl (ad := ⟨b_1, 0, none⟩) (fun j v h => pq.cell ((fzu ((hM_2.trans hM_3).trans hM_4) hc_2) j v h))) fun _ f => Y5 default f 2 fun _ f => ?_))))))
   obtain ⟨x_2, hx_2, hF_4⟩ := bS hF_3
   obtain ⟨ad_1, c_1, e_1, -, hr_1, hc_5⟩ := Sli.at_ (h_6.mono hM_4) hx_2
   obtain rfl : c_1 = [S x_2] := hr_1
   refine Y2 (v := .pointer (some (ad_1.add (s_1.toNat * 1)))) f (fun _ pq => Y26 e_1 rfl (len := x_1.length) (cap := cap_6) (k := .i64) (i := s_1) (e := 9) (sz := 1) (getI_nn hx_2) (getI_lt hx_2)) fun _ f => Y4 f hc_5 0 rfl fun _ f => ?_
   obtain ⟨x_3, hx_3, hF_5⟩ := bS hF_4
   refine Y3 f (law16_fresh_ok n _ _ d0 (TA0.shutx (x := d0) (h_1.mono (((hM_1.trans hM_2).trans hM_3).trans hM_4)) (h_2.mono (((hM_1.trans hM_2).trans hM_3).trans hM_4)) (h_3.mono (((hM_1.trans hM_2).trans hM_3).trans hM_4)) (h_4.mono (((hM_1.trans hM_2).trans hM_3).trans hM_4))) x_2 x_3 hx_3) fun _ f => Q_end rfl ?_
   intro w_6 p_6
   refine T_n (RcF f hF_5 (fun h_8 hF_6 => ?_) fun h_8 hF_7 => ?_)
   ·refine RR (Y f 1 fun _ f => eT (wp_ret (B_r (T_r (T_r ?_)))))
    obtain rfl := sI hF_6
    exact .inl ⟨rfl, (), (sI hn_1).symm, M_4, hM_4, f.kp, p_6⟩
   ·refine wp_skip (B_n (T_n (R_reg (Y f 1 fun _ f => ?_))))
    obtain ⟨g_1, hF_8⟩ := nS hF_7
    refine Y f 1 fun _ f => ?_
    have f := f.st 14 (congrArg (Value.int .i64) (inR_wrap g_1))
    refine Y f 1 fun _ f => eT ?_
    obtain rfl := sI hF_8
    exact ⟨⟨m_2, s_1 + 1⟩, Nat.lt_succ_self _, M_4, hM_4, hn_1, f.kp, p_6⟩
  ·have k_4 := iff_f dI h_7
   refine wp_exit (T_x (T_x ?_))
   obtain rfl := sI hF_9
   exact .inr ⟨rfl, (), (sI hn_1).symm, M_4, hM_4, f.kp, p_4⟩
 ·rintro _ _ w_9 (⟨rfl, y_1, rfl, M_5, hM_5, f, p_7⟩ | ⟨rfl, y_2, rfl, M_6, hM_6, f, p_8⟩)
  ·refine B_r (T_r (E_ret1 f rfl (by kernel_rfl : Vc.look _ 4 = some (.bool false)) ?_))
   obtain rfl := sI hF_2
   exact ⟨_, rfl, M_5, (((hM_1.trans hM_2).trans hM_3).trans hM_5), p_7, rfl⟩
  ·refine B_x (T_n (RR (Y f 1 fun _ f => eT (wp_ret (E_ret1 f rfl (by kernel_rfl : Vc.look _ 4 = some (.bool true)) ?_)))))
   obtain rfl := sI hF_2
   exact ⟨_, rfl, M_6, (((hM_1.trans hM_2).trans hM_3).trans hM_6), p_8, rfl⟩
def law16_there_s2 (n : Nat) (d0 : TA0) (x_1 : TB0) (s_2 : Int) : Option (Lp Int (Sum Unit Unit)) :=
    bif (decide (s_2 < ((x_1.fProps.length : Nat) : Int))) then
      ((getI x_1.fProps s_2).bind fun x_2 =>
      (law16_names n d0 (⟨x_2.fE.fKind, x_2.fE.fText, x_2.fE.fNum, x_2.fE.fName, x_2.fE.fAttr, x_2.fE.fL⟩ : TF0)).bind fun x_3 =>
      bif !x_3 then
        (some (.br (.inl ())))
      else
        need (inR .i64 (s_2 + 1)) <|
        some (.nx (s_2 + 1)))
    else
      some (.br (.inr ()))
def law16_there_s3 (n : Nat) (d0 : TA0) (x_1 : TB0) (s_3 : Int) : Option (Lp Int (Sum Unit Unit)) :=
    bif (decide (s_3 < ((x_1.fDepends.length : Nat) : Int))) then
      ((((getI x_1.fDepends s_3).bind fun x_4 =>
        (ref16_Find n d0 x_4).bind fun x_5 =>
        some ((x_5.2)) : Option Bool)).bind fun y_4 =>
      bif !y_4 then
        (some (.br (.inl ())))
      else
        need (inR .i64 (s_3 + 1)) <|
        some (.nx (s_3 + 1)))
    else
      some (.br (.inr ()))
def law16_there_s1 (n : Nat) (rec_law16_there : TA0 → Int → Option Bool) (d0 : TA0) (d1 : Int) (s_1 : Int) : Option (Lp Int (Sum Unit Unit)) :=
    ((bif (decide (s_1 < ((d0.fRes.length : Nat) : Int))) then
        (some ((decide (d1 < 5))))
      else
        some ((false)) : Option Bool)).bind fun y_1 =>
    bif y_1 then
      ((getI d0.fRes s_1).bind fun x_1 =>
      (loopF (law16_there_s2 n d0 x_1) n (0 : Int)).bind fun b_4 =>
      (match b_4 with 
      | .inl y_2 => some (.br (.inl ())) 
      | .inr y_3 => (loopF (law16_there_s3 n d0 x_1) n (0 : Int)).bind fun b_5 =>
        (match b_5 with 
        | .inl y_5 => some (.br (.inl ())) 
        | .inr y_6 => bif (decide (x_1.fType = [83, 116, 97, 99, 107])) then
            (bif (!(decide (((x_1.fInner.length : Nat) : Int) = 1))) then
              (some (.br (.inl ())))
            else
              (getI x_1.fInner (0 : Int)).bind fun x_9 =>
              need (inR .i64 (d1 + 1)) <|
              (rec_law16_there x_9 (d1 + 1)).bind fun x_10 =>
              bif !x_10 then
                (some (.br (.inl ())))
              else
                need (inR .i64 (s_1 + 1)) <|
                some (.nx (s_1 + 1)))
          else
            need (inR .i64 (s_1 + 1)) <|
            some (.nx (s_1 + 1)))))
    else
      some (.br (.inr ()))
def law16_there_s4 (n : Nat) (d0 : TA0) (s_4 : Int) : Option (Lp Int (Sum Unit Unit)) :=
    bif (decide (s_4 < ((d0.fOuts.length : Nat) : Int))) then
      ((getI d0.fOuts s_4).bind fun x_11 =>
      (law16_names n d0 (⟨x_11.fE.fKind, x_11.fE.fText, x_11.fE.fNum, x_11.fE.fName, x_11.fE.fAttr, x_11.fE.fL⟩ : TF0)).bind fun x_12 =>
      bif !x_12 then
        (some (.br (.inl ())))
      else
        need (inR .i64 (s_4 + 1)) <|
        some (.nx (s_4 + 1)))
    else
      some (.br (.inr ()))
def law16_there_b (n : Nat) (rec_law16_there : TA0 → Int → Option Bool) (d0 : TA0) (d1 : Int) : Option Bool :=
  (loopF (law16_there_s1 n rec_law16_there d0 d1) n (0 : Int)).bind fun b_2 =>
  (match b_2 with 
  | .inl y_7 => some ((false)) 
  | .inr y_8 => (loopF (law16_there_s4 n d0) n (0 : Int)).bind fun b_9 =>
    (match b_9 with 
    | .inl y_9 => some ((false)) 
    | .inr y_10 => some ((true))))
set_option maxRecDepth 20000 in
theorem law16_there_b_ok (n : Nat) (rec_law16_there : TA0 → Int → Option Bool) (hrec_law16_there : ∀ (M : Mem) (c0 : List Value) (d0 : TA0) (h0 : Rep M (emb_TA0 d0) c0) (d1 : Int) (r : Bool) (hF : rec_law16_there d0 d1 = some r), Ok Try.prog M 9 [.agg c0.toArray, .int .i64 d1] (fun _ v => v = .bool r)) (M : Mem) (c0 : List Value) (d0 : TA0) (h0 : Rep M (emb_TA0 d0) c0) (d1 : Int) (r : Bool) (hF : law16_there_b n rec_law16_there d0 d1 = some r) : Ok Try.prog M 9 [.agg c0.toArray, .int .i64 d1] (fun _ v => v = .bool r) := by
 unfold law16_there_b at hF
 intro M1 hM0 w0 H w p0
 replace h0 := Rep.mono hM0 _ _ h0
 obtain ⟨A_1, cap_1, A_2, cap_2, A_3, cap_3, A_4, cap_4, rfl, h_1, h_2, h_3, h_4⟩ := TA0.opn h0
 refine R_enter 98 Try.func9 rfl rfl (by simp) fun a0 f0 => RR (Y13 (cs := #[.slice A_1 d0.fParams.length cap_1, .slice A_2 d0.fConds.length cap_2, .slice A_3 d0.fRes.length cap_3, .slice A_4 d0.fOuts.length cap_4]) (T := 27) f0 p0 fun b_1 M_1 w_1 hM_1 hc_1 p_1 _ f => ?_)
 have hc_2 := fz_box hc_1
 refine Y f 1 fun _ f => eT (R_seq (RR (Y f 1 fun _ f => eT (wp_block ?_))))
 obtain ⟨b_2, hL_1, hF_1⟩ := bS hF
 refine wp_mono (Q := fun e a w => (e = .ret ∧ (∃ y_7 : Unit, b_2 = .inl y_7 ∧ ∃ M_14 : Mem, M_1.le M_14 ∧ Frm 98 [(4, .bool false)] a ∧ Hp w0 M_14 (H) w)) ∨ (e = .exit 0 ∧ (∃ y_8 : Unit, b_2 = .inr y_8 ∧ ∃ M_15 : Mem, M_1.le M_15 ∧ Frm 98 [(2, .pointer (some (⟨b_1, 0, none⟩)))] a ∧ Hp w0 M_15 (H) w))) (R_loop (n := 98) (w0 := w0) (M := M_1) (fun (x : Nat × Int) => match x with | (m_1, s_1) => [(1, .int .i64 d1), (2, .pointer (some (⟨b_1, 0, none⟩))), (5, .int .i64 s_1)]) (fun (x : Nat × Int) => match x with | (m_1, s_1) => (H)) (fun (x : Nat × Int) (MM : Mem) => match x with | (m_1, s_1) => loopF (law16_there_s1 n rec_law16_there d0 d1) m_1 s_1 = some b_2) (fun (x : Nat × Int) => match x with | (m_1, s_1) => m_1) (n, (0 : Int)) (f.kp) p_1 hL_1 ?_) ?_
 ·rintro ⟨m_1, s_1⟩ M_2 _ w_2 hM_2 I_1 f p_2
  have I_1L := I_1
  obtain ⟨m_2, r_1, rfl, hs_1, hn_1⟩ := loop_step I_1L
  unfold law16_there_s1 at hs_1
  refine R_seq (R_seq ?_)
  obtain ⟨j_1, hj_1, hF_2⟩ := bS hs_1
  refine R_mid (fun a_10 w_3 => ∃ y_1 : Bool, j_1 = y_1 ∧ ∃ M_3 : Mem, M_2.le M_3 ∧ Frm 98 [(1, .int .i64 d1), (2, .pointer (some (⟨b_1, 0, none⟩))), (5, .int .i64 s_1), (20, .bool y_1)] a_10 ∧ Hp w0 M_3 (H) w_3) ?_ ?_
  ·refine R_reg (Y f 2 fun _ f => Y15 f p_2 (fzu hM_2 hc_2) 2 rfl fun _ f => Y f 3 fun _ f => ?_)
   rcases cE hj_1 with ⟨h_5, hF_3⟩ | ⟨h_5, hF_4⟩
   ·have k_1 := dI.1 h_5
    have f := f.st 17 (cB h_5)
    refine Y f 3 fun _ f => eT ?_
    exact ⟨(decide (d1 < 5)), (sI hF_3).symm, M_2, (mR _), f.kp, p_2⟩
   ·have k_2 := iff_f dI h_5
    have f := f.st 17 (cB h_5)
    refine Y f 3 fun _ f => eT ?_
    exact ⟨(false), (sI hF_4).symm, M_2, (mR _), f.kp, p_2⟩
  ·rintro a_10 w_3 ⟨y_1, hq_1, M_3, hM_3, f, p_3⟩
   subst j_1
   refine T_n (RcF f hF_2 (fun h_6 hF_5 => ?_) fun h_6 hF_35 => ?_)
   ·refine wp_skip (T_n (R_seq (wp_block (RR (Y f 1 fun _ f => Y15 f p_3 (fzu (hM_2.trans hM_3) hc_2) 2 rfl fun _ f => Y f 1 fun _ f => ?_)))))
    obtain ⟨x_1, hx_1, hF_6⟩ := bS hF_5
    obtain ⟨ad_1, c_1, e_1, -, hr_1, hc_3⟩ := Sli.at_ (h_3.mono ((hM_1.trans hM_2).trans hM_3)) hx_1
    obtain ⟨A_5, cap_5, A_6, cap_6, A_7, cap_7, rfl, h_7, h_8, h_9⟩ := TB0.opn hr_1
    refine Z f (Y26 e_1 rfl (len := d0.fRes.length) (cap := cap_3) (k := .i64) (i := s_1) (e := 49) (sz := 7) (getI_nn hx_1) (getI_lt hx_1)) fun _ f => Z (v := .agg #[S x_1.fId, S x_1.fType, S x_1.fCond, .slice A_5 x_1.fProps.length cap_5, .slice A_6 x_1.fDepends.length cap_6, .bool x_1.fRetain, .slice A_7 x_1.fInner.length cap_7]) f (Y28 (cs := [S x_1.fId, S x_1.fType, S x_1.fCond, .slice A_5 x_1.fProps.length cap_5, .slice A_6 x_1.fDepends.length cap_6, .bool x_1.fRetain, .slice A_7 x_1.fInner.length cap_7]) rfl (ad := ad_1.add (s_1.toNat * 7)) (fun j v h => p_3.cell (hc_3 j v h))) fun _ f => Y12 f p_3 (.cells #[S [], S [], S [], .slice none 0 0, .slice none 0 0, .bool false, .slice none 0 0] 49 (0, 0)) fun b_3 w_4 p_4 _ f => Y23 (vs := [S x_1.fId, S x_1.fType, S x_1.fCond, .slice A_5 x_1.fProps.length cap_5, .slice A_6 x_1.fDepends.length cap_6, .bool x_1.fRetain, .slice A_7 x_1.fInner.length cap_7]) (j := 0) f p_4 rfl rfl (by simp [Value.oneCell', S]) (by simp) (by decide) (cs' := #[S x_1.fId, S x_1.fType, S x_1.fCond, .slice A_5 x_1.fProps.length cap_5, .slice A_6 x_1.fDepends.length cap_6, .bool x_1.fRetain, .slice A_7 x_1.fInner.length cap_7]) (by kernel_rfl) fun w_5 p_5 _ f => eT (R_seq (RR (Y f 1 fun _ f => eT (wp_block ?_))))
    obtain ⟨b_4, hL_2, hF_7⟩ := bS hF_6
    refine wp_mono (Q := fun e a w => (e = .ret ∧ (∃ y_2 : Unit, b_4 = .inl y_2 ∧ ∃ M_5 : Mem, M_3.le M_5 ∧ Frm 98 [(4, .bool false)] a ∧ Hp w0 M_5 ((Ent.obj b_3 (.cells #[S x_1.fId, S x_1.fType, S x_1.fCond, .slice A_5 x_1.fProps.length cap_5, .slice A_6 x_1.fDepends.length cap_6, .bool x_1.fRetain, .slice A_7 x_1.fInner.length cap_7] 49 (0, 0))) :: H) w)) ∨ (e = .exit 2 ∧ (∃ y_3 : Unit, b_4 = .inr y_3 ∧ ∃ M_6 : Mem, M_3.le M_6 ∧ Frm 98 [(1, .int .i64 d1), (2, .pointer (some (⟨b_1, 0, none⟩))), (5, .int .i64 s_1), (6, .pointer (some (⟨b_3, 0, none⟩)))] a ∧ Hp w0 M_6 ((Ent.obj b_3 (.cells #[S x_1.fId, S x_1.fType, S x_1.fCond, .slice A_5 x_1.fProps.length cap_5, .slice A_6 x_1.fDepends.length cap_6, .bool x_1.fRetain, .slice A_7 x_1.fInner.length cap_7] 49 (0, 0))) :: H) w))) (R_loop (n := 98) (w0 := w0) (M := M_3) (fun (x : Nat × Int) => match x with | (m_3, s_2) => [(1, .int .i64 d1), (2, .pointer (some (⟨b_1, 0, none⟩))), (5, .int .i64 s_1), (6, .pointer (some (⟨b_3, 0, none⟩))), (7, .int .i64 s_2)]) (fun (x : Nat × Int) => match x with | (m_3, s_2) => ((Ent.obj b_3 (.cells #[S x_1.fId, S x_1.fType, S x_1.fCond, .slice A_5 x_1.fProps.length cap_5, .slice A_6 x_1.fDepends.length cap_6, .bool x_1.fRetain, .slice A_7 x_1.fInner.length cap_7] 49 (0, 0))) :: H)) (fun (x : Nat × Int) (MM : Mem) => match x with | (m_3, s_2) => loopF (law16_there_s2 n d0 x_1) m_3 s_2 = some b_4) (fun (x : Nat × Int) => match x with | (m_3, s_2) => m_3) (n, (0 : Int)) (f.kp) p_5 hL_2 ?_) ?_
    ·rintro ⟨m_3, s_2⟩ M_4 _ w_6 hM_4 I_2 f p_6
     have I_2L := I_2
     obtain ⟨m_4, r_2, rfl, hs_2, hn_2⟩ := loop_step I_2L
     unfold law16_there_s2 at hs_2
     refine R_seq (RR (Y f 2 fun _ f => Z f (Y27 (v := .slice A_5 x_1.fProps.length cap_5) rfl (ad := ⟨b_3, 3, none⟩) (p_6.ownCell 0 rfl 3)) fun _ f => Y f 2 fun _ f => eT (RcF f hs_2 (fun h_10 hF_8 => ?_) fun h_10 hF_14 => ?_)))
     ·have k_4 := dI.1 h_10
      refine wp_skip (T_n (R_seq (wp_block (R_seq (R_draw p_6 (by kernel_rfl) (by kernel_rfl) (Y2 (v := .agg #[.slice A_1 d0.fParams.length cap_1, .slice A_2 d0.fConds.length cap_2, .slice A_3 d0.fRes.length cap_3, .slice A_4 d0.fOuts.length cap_4]) f (fun _ pq => Y28 (cs := [.slice A_1 d0.fParams.length cap_1, .slice A_2 d0.fConds.length cap_2, .slice A_3 d0.fRes.length cap_3, .slice A_4 d0.fOuts.length cap_4]) rfl (ad := ⟨b_1, 0, none⟩) (fun j v h => pq.cell ((fzu ((hM_2.trans hM_3).trans hM_4) hc_2) j v h))) fun _ f => Y5 default f 1 fun _ f => Y2 (v := .slice A_5 x_1.fProps.length cap_5) f (fun _ pq => Y27 (v := .slice A_5 x_1.fProps.length cap_5) rfl (ad := ⟨b_3, 3, none⟩) (pq.ownCell 0 rfl 3)) fun _ f => Y5 default f 1 fun _ f => ?_))))))
      obtain ⟨x_2, hx_2, hF_9⟩ := bS hF_8
      obtain ⟨ad_2, c_2, e_2, -, hr_2, hc_4⟩ := Sli.at_ (h_7.mono hM_4) hx_2
      obtain ⟨A_8, cap_8, rfl, h_11⟩ := TH0.opn hr_2
      refine Y2 (v := .pointer (some (ad_2.add (s_2.toNat * 7)))) f (fun _ pq => Y26 e_2 rfl (len := x_1.fProps.length) (cap := cap_5) (k := .i64) (i := s_2) (e := 70) (sz := 7) (getI_nn hx_2) (getI_lt hx_2)) fun _ f => Y5 default f 1 fun _ f => Y2 (v := .agg #[.int .i8 x_2.fE.fKind, S x_2.fE.fText, .int .i64 x_2.fE.fNum, S x_2.fE.fName, S x_2.fE.fAttr, .slice A_8 x_2.fE.fL.length cap_8]) f (fun _ pq => Y28 (cs := [.int .i8 x_2.fE.fKind, S x_2.fE.fText, .int .i64 x_2.fE.fNum, S x_2.fE.fName, S x_2.fE.fAttr, .slice A_8 x_2.fE.fL.length cap_8]) rfl (ad := (ad_2.add (s_2.toNat * 7)).add 1) (fz_part (base := ad_2.add (s_2.toNat * 7)) (fun j v h => pq.cell (hc_4 j v h)) 1 rfl)) fun _ f => ?_
      obtain ⟨x_3, hx_3, hF_10⟩ := bS hF_9
      refine Y3 f (law16_names_ok n _ _ d0 (TA0.shutx (x := d0) (h_1.mono (((hM_1.trans hM_2).trans hM_3).trans hM_4)) (h_2.mono (((hM_1.trans hM_2).trans hM_3).trans hM_4)) (h_3.mono (((hM_1.trans hM_2).trans hM_3).trans hM_4)) (h_4.mono (((hM_1.trans hM_2).trans hM_3).trans hM_4))) _ (⟨x_2.fE.fKind, x_2.fE.fText, x_2.fE.fNum, x_2.fE.fName, x_2.fE.fAttr, x_2.fE.fL⟩ : TF0) (TF0.shut h_11) x_3 hx_3) fun _ f => Y5 default f 1 fun _ f => Q_end rfl ?_
      intro w_8 p_8
      refine T_n (RcF f hF_10 (fun h_12 hF_11 => ?_) fun h_12 hF_12 => ?_)
      ·have k_5 : (x_3) = false := by simpa using h_12
       refine RR (Y f 1 fun _ f => eT (wp_ret (B_r (T_r (T_r ?_)))))
       obtain rfl := sI hF_11
       exact .inl ⟨rfl, (), (sI hn_2).symm, M_4, hM_4, f.kp, p_8⟩
      ·have k_6 : (x_3) = true := by simpa using h_12
       refine wp_skip (B_n (T_n (R_reg (Y f 1 fun _ f => ?_))))
       obtain ⟨g_1, hF_13⟩ := nS hF_12
       refine Y f 1 fun _ f => ?_
       have f := f.st 34 (congrArg (Value.int .i64) (inR_wrap g_1))
       refine Y f 1 fun _ f => eT ?_
       obtain rfl := sI hF_13
       exact ⟨⟨m_4, s_2 + 1⟩, Nat.lt_succ_self _, M_4, hM_4, hn_2, f.kp, p_8⟩
     ·have k_7 := iff_f dI h_10
      refine wp_exit (T_x (T_x ?_))
      obtain rfl := sI hF_14
      exact .inr ⟨rfl, (), (sI hn_2).symm, M_4, hM_4, f.kp, p_6⟩
    ·rintro _ _ w_11 (⟨rfl, y_2, rfl, M_5, hM_5, f, p_9⟩ | ⟨rfl, y_3, rfl, M_6, hM_6, f, p_10⟩)
     ·refine B_r (T_r (B_r (T_r (T_r ?_))))
      obtain rfl := sI hF_7
      exact .inl ⟨rfl, (), (sI hn_1).symm, M_5, ((hM_2.trans hM_3).trans hM_5), f.kp, (p_9.dropN 1)⟩
     ·refine B_x (T_n (R_seq (RR (Y f 1 fun _ f => eT (wp_block ?_)))))
      obtain ⟨b_5, hL_3, hF_15⟩ := bS hF_7
      refine wp_mono (Q := fun e a w => (e = .ret ∧ (∃ y_5 : Unit, b_5 = .inl y_5 ∧ ∃ M_12 : Mem, M_6.le M_12 ∧ Frm 98 [(4, .bool false)] a ∧ Hp w0 M_12 ((Ent.obj b_3 (.cells #[S x_1.fId, S x_1.fType, S x_1.fCond, .slice A_5 x_1.fProps.length cap_5, .slice A_6 x_1.fDepends.length cap_6, .bool x_1.fRetain, .slice A_7 x_1.fInner.length cap_7] 49 (0, 0))) :: H) w)) ∨ (e = .exit 4 ∧ (∃ y_6 : Unit, b_5 = .inr y_6 ∧ ∃ M_13 : Mem, M_6.le M_13 ∧ Frm 98 [(1, .int .i64 d1), (2, .pointer (some (⟨b_1, 0, none⟩))), (5, .int .i64 s_1), (6, .pointer (some (⟨b_3, 0, none⟩)))] a ∧ Hp w0 M_13 ((Ent.obj b_3 (.cells #[S x_1.fId, S x_1.fType, S x_1.fCond, .slice A_5 x_1.fProps.length cap_5, .slice A_6 x_1.fDepends.length cap_6, .bool x_1.fRetain, .slice A_7 x_1.fInner.length cap_7] 49 (0, 0))) :: H) w))) (R_loop (n := 98) (w0 := w0) (M := M_6) (fun (x : Nat × Int) => match x with | (m_5, s_3) => [(1, .int .i64 d1), (2, .pointer (some (⟨b_1, 0, none⟩))), (5, .int .i64 s_1), (6, .pointer (some (⟨b_3, 0, none⟩))), (8, .int .i64 s_3)]) (fun (x : Nat × Int) => match x with | (m_5, s_3) => ((Ent.obj b_3 (.cells #[S x_1.fId, S x_1.fType, S x_1.fCond, .slice A_5 x_1.fProps.length cap_5, .slice A_6 x_1.fDepends.length cap_6, .bool x_1.fRetain, .slice A_7 x_1.fInner.length cap_7] 49 (0, 0))) :: H)) (fun (x : Nat × Int) (MM : Mem) => match x with | (m_5, s_3) => loopF (law16_there_s3 n d0 x_1) m_5 s_3 = some b_5) (fun (x : Nat × Int) => match x with | (m_5, s_3) => m_5) (n, (0 : Int)) (f.kp) p_10 hL_3 ?_) ?_
      ·rintro ⟨m_5, s_3⟩ M_7 _ w_12 hM_7 I_3 f p_11
       have I_3L := I_3
       obtain ⟨m_6, r_3, rfl, hs_3, hn_3⟩ := loop_step I_3L
       unfold law16_there_s3 at hs_3
       refine R_seq (RR (Y f 2 fun _ f => Z f (Y27 (v := .slice A_6 x_1.fDepends.length cap_6) rfl (ad := ⟨b_3, 4, none⟩) (p_11.ownCell 0 rfl 4)) fun _ f => Y f 2 fun _ f => eT (RcF f hs_3 (fun h_13 hF_16 => ?_) fun h_13 hF_23 => ?_)))
       ·have k_8 := dI.1 h_13
        refine wp_skip (T_n (R_seq (wp_block (R_seq ?_))))
        obtain ⟨j_2, hj_2, hF_17⟩ := bS hF_16
        refine R_mid (fun a_74 w_30 => ∃ y_4 : Bool, j_2 = y_4 ∧ ∃ M_11 : Mem, M_7.le M_11 ∧ Frm 98 [(1, .int .i64 d1), (2, .pointer (some (⟨b_1, 0, none⟩))), (5, .int .i64 s_1), (6, .pointer (some (⟨b_3, 0, none⟩))), (8, .int .i64 s_3), (10, .bool y_4)] a_74 ∧ Hp w0 M_11 ((Ent.obj b_3 (.cells #[S x_1.fId, S x_1.fType, S x_1.fCond, .slice A_5 x_1.fProps.length cap_5, .slice A_6 x_1.fDepends.length cap_6, .bool x_1.fRetain, .slice A_7 x_1.fInner.length cap_7] 49 (0, 0))) :: H) w_30) ?_ ?_
        ·obtain ⟨x_4, hx_4, hF_18⟩ := bS hj_2
         obtain ⟨x_5, hx_5, hF_19⟩ := bS hF_18
         refine R_plan (ks := [12]) (E := []) (Hr := ((Ent.obj b_3 (.cells #[S x_1.fId, S x_1.fType, S x_1.fCond, .slice A_5 x_1.fProps.length cap_5, .slice A_6 x_1.fDepends.length cap_6, .bool x_1.fRetain, .slice A_7 x_1.fInner.length cap_7] 49 (0, 0))) :: H)) (.quiet 0 (.quiet 1 (.quiet 2 (.quiet 3 (.quiet 4 (.quiet 5 (.alt 6 (.quiet 7 (.quiet 8 (.quiet 9 (.alt 10 (.alt 11 .done .none) .none)))) (.alt 10 (.alt 6 (.quiet 7 (.quiet 8 (.quiet 9 (.alt 11 .done .none)))) .none) .none)))))))) p_11 (by kernel_rfl) (by kernel_rfl) (by kernel_rfl) (Y1 (v := .agg #[.slice A_1 d0.fParams.length cap_1, .slice A_2 d0.fConds.length cap_2, .slice A_3 d0.fRes.length cap_3, .slice A_4 d0.fOuts.length cap_4]) rfl f rfl rfl (fun _ pq => Y28 (cs := [.slice A_1 d0.fParams.length cap_1, .slice A_2 d0.fConds.length cap_2, .slice A_3 d0.fRes.length cap_3, .slice A_4 d0.fOuts.length cap_4]) rfl (ad := ⟨b_1, 0, none⟩) (fun j v h => pq.cell ((fzu (((hM_2.trans hM_3).trans hM_6).trans hM_7) hc_2) j v h))) fun _ f => Y1 (v := .pointer (some (⟨b_3, 4, none⟩))) rfl f rfl rfl (fun _ _ => by kernel_rfl) fun _ f => Y1 (v := .slice A_6 x_1.fDepends.length cap_6) rfl f rfl rfl (fun _ pq => Y27 (v := .slice A_6 x_1.fDepends.length cap_6) rfl (ad := ⟨b_3, 4, none⟩) (pq.ownCell 0 rfl 4)) fun _ f => Y1 (v := .int .i64 s_3) rfl f rfl rfl (fun _ _ => by kernel_rfl) fun _ f => ?_)
         obtain ⟨ad_4, c_5, e_4, -, hr_5, hc_6⟩ := Sli.at_ (h_8.mono (hM_6.trans hM_7)) hx_4
         obtain rfl : c_5 = [S x_4] := hr_5
         refine Y1 (v := .pointer (some (ad_4.add (s_3.toNat * 1)))) rfl f rfl rfl (fun _ pq => Y26 e_4 rfl (len := x_1.fDepends.length) (cap := cap_6) (k := .i64) (i := s_3) (e := 9) (sz := 1) (getI_nn hx_4) (getI_lt hx_4)) fun _ f => Y1 (v := S x_4) rfl f rfl rfl (fun _ pq => Y27 (v := S x_4) rfl (ad := ad_4.add (s_3.toNat * 1)) (pq.cell (hc_6 0 _ rfl))) fun _ f => N_alt rfl (fun w_16 p_15 => ?_) ?_
         ·refine Y16 f p_15 (ref16_Find_ok n _ _ d0 (TA0.shutx (x := d0) (h_1.mono ((((hM_1.trans hM_2).trans hM_3).trans hM_6).trans hM_7)) (h_2.mono ((((hM_1.trans hM_2).trans hM_3).trans hM_6).trans hM_7)) (h_3.mono ((((hM_1.trans hM_2).trans hM_3).trans hM_6).trans hM_7)) (h_4.mono ((((hM_1.trans hM_2).trans hM_3).trans hM_6).trans hM_7))) x_4 x_5 hx_5) fun _ M_9 w_17 hM_9 p_16 q_2 _ f => ?_
          obtain ⟨c_6, rfl, hr_6⟩ := q_2
          obtain ⟨A_12, cap_12, A_13, cap_13, A_14, cap_14, rfl, h_17, h_18, h_19⟩ := TB0.opn hr_6
          refine W_end rfl (N_goN 0 hM_9 p_16 rfl (Y1 (v := .tuple #[.agg #[S x_5.1.fId, S x_5.1.fType, S x_5.1.fCond, .slice A_12 x_5.1.fProps.length cap_12, .slice A_13 x_5.1.fDepends.length cap_13, .bool x_5.1.fRetain, .slice A_14 x_5.1.fInner.length cap_14], .bool x_5.2]) rfl f rfl rfl (fun _ _ => by kernel_rfl) fun _ f => Y1 (v := .agg #[S x_5.1.fId, S x_5.1.fType, S x_5.1.fCond, .slice A_12 x_5.1.fProps.length cap_12, .slice A_13 x_5.1.fDepends.length cap_13, .bool x_5.1.fRetain, .slice A_14 x_5.1.fInner.length cap_14]) rfl f rfl rfl (fun _ _ => by kernel_rfl) fun _ f => Y1 (v := .bool x_5.2) rfl f rfl rfl (fun _ _ => by kernel_rfl) fun _ f => N_alt rfl (fun w_18 p_17 => ?_) ?_))
          ·refine Y12 f p_17 (.cells #[S [], S [], S [], .slice none 0 0, .slice none 0 0, .bool false, .slice none 0 0] 49 (0, 0)) fun b_7 w_19 p_18 _ f => W_end rfl (N_goN 1 hM_9 p_18 rfl (N_alt rfl (fun w_20 p_19 => ?_) ?_))
           ·refine Y23 (vs := [S x_5.1.fId, S x_5.1.fType, S x_5.1.fCond, .slice A_12 x_5.1.fProps.length cap_12, .slice A_13 x_5.1.fDepends.length cap_13, .bool x_5.1.fRetain, .slice A_14 x_5.1.fInner.length cap_14]) (j := 0) f p_19 rfl rfl (by simp [Value.oneCell', S]) (by simp) (by decide) (cs' := #[S x_5.1.fId, S x_5.1.fType, S x_5.1.fCond, .slice A_12 x_5.1.fProps.length cap_12, .slice A_13 x_5.1.fDepends.length cap_13, .bool x_5.1.fRetain, .slice A_14 x_5.1.fInner.length cap_14]) (by kernel_rfl) fun w_21 p_20 _ f => W_end rfl (N_goN 1 hM_9 p_20 rfl (N_tail fun w_22 p_21 => Y f 1 fun _ f => W_end rfl (N_te (T_n ?_))))
            exact ⟨(x_5.2), (sI hF_19).symm, M_9, hM_9, f.kp, (p_21.dropN 1)⟩
           exact N_none
          exact N_none
         refine N_alt rfl (fun w_23 p_22 => ?_) ?_
         ·refine Y12 f p_22 (.cells #[S [], S [], S [], .slice none 0 0, .slice none 0 0, .bool false, .slice none 0 0] 49 (0, 0)) fun b_8 w_24 p_23 _ f => W_end rfl (N_goN 1 (mR _) p_23 rfl (N_alt rfl (fun w_25 p_24 => ?_) ?_))
          ·refine Y16 f p_24 (ref16_Find_ok n _ _ d0 (TA0.shutx (x := d0) (h_1.mono ((((hM_1.trans hM_2).trans hM_3).trans hM_6).trans hM_7)) (h_2.mono ((((hM_1.trans hM_2).trans hM_3).trans hM_6).trans hM_7)) (h_3.mono ((((hM_1.trans hM_2).trans hM_3).trans hM_6).trans hM_7)) (h_4.mono ((((hM_1.trans hM_2).trans hM_3).trans hM_6).trans hM_7))) x_4 x_5 hx_5) fun _ M_10 w_26 hM_10 p_25 q_3 _ f => ?_
           obtain ⟨c_7, rfl, hr_7⟩ := q_3
           obtain ⟨A_15, cap_15, A_16, cap_16, A_17, cap_17, rfl, h_20, h_21, h_22⟩ := TB0.opn hr_7
           refine W_end rfl (N_goN 1 hM_10 p_25 rfl (Y1 (v := .tuple #[.agg #[S x_5.1.fId, S x_5.1.fType, S x_5.1.fCond, .slice A_15 x_5.1.fProps.length cap_15, .slice A_16 x_5.1.fDepends.length cap_16, .bool x_5.1.fRetain, .slice A_17 x_5.1.fInner.length cap_17], .bool x_5.2]) rfl f rfl rfl (fun _ _ => by kernel_rfl) fun _ f => Y1 (v := .agg #[S x_5.1.fId, S x_5.1.fType, S x_5.1.fCond, .slice A_15 x_5.1.fProps.length cap_15, .slice A_16 x_5.1.fDepends.length cap_16, .bool x_5.1.fRetain, .slice A_17 x_5.1.fInner.length cap_17]) rfl f rfl rfl (fun _ _ => by kernel_rfl) fun _ f => Y1 (v := .bool x_5.2) rfl f rfl rfl (fun _ _ => by kernel_rfl) fun _ f => N_alt rfl (fun w_27 p_26 => ?_) ?_))
           ·refine Y23 (vs := [S x_5.1.fId, S x_5.1.fType, S x_5.1.fCond, .slice A_15 x_5.1.fProps.length cap_15, .slice A_16 x_5.1.fDepends.length cap_16, .bool x_5.1.fRetain, .slice A_17 x_5.1.fInner.length cap_17]) (j := 0) f p_26 rfl rfl (by simp [Value.oneCell', S]) (by simp) (by decide) (cs' := #[S x_5.1.fId, S x_5.1.fType, S x_5.1.fCond, .slice A_15 x_5.1.fProps.length cap_15, .slice A_16 x_5.1.fDepends.length cap_16, .bool x_5.1.fRetain, .slice A_17 x_5.1.fInner.length cap_17]) (by kernel_rfl) fun w_28 p_27 _ f => W_end rfl (N_goN 1 hM_10 p_27 rfl (N_tail fun w_29 p_28 => Y f 1 fun _ f => W_end rfl (N_te (T_n ?_))))
            exact ⟨(x_5.2), (sI hF_19).symm, M_10, hM_10, f.kp, (p_28.dropN 1)⟩
           exact N_none
          exact N_none
         exact N_none
        ·rintro a_74 w_30 ⟨y_4, hq_2, M_11, hM_11, f, p_29⟩
         subst j_2
         refine T_n (RR (Y f 2 fun _ f => eT (RcF f hF_17 (fun h_23 hF_20 => ?_) fun h_23 hF_21 => ?_)))
         ·have k_9 : (y_4) = false := by simpa using h_23
          refine RR (Y f 1 fun _ f => eT (wp_ret (B_r (T_r (T_r ?_)))))
          obtain rfl := sI hF_20
          exact .inl ⟨rfl, (), (sI hn_3).symm, M_11, (hM_7.trans hM_11), f.kp, p_29⟩
         ·have k_10 : (y_4) = true := by simpa using h_23
          refine wp_skip (B_n (T_n (R_reg (Y f 1 fun _ f => ?_))))
          obtain ⟨g_2, hF_22⟩ := nS hF_21
          refine Y f 1 fun _ f => ?_
          have f := f.st 50 (congrArg (Value.int .i64) (inR_wrap g_2))
          refine Y f 1 fun _ f => eT ?_
          obtain rfl := sI hF_22
          exact ⟨⟨m_6, s_3 + 1⟩, Nat.lt_succ_self _, M_11, (hM_7.trans hM_11), hn_3, f.kp, p_29⟩
       ·have k_11 := iff_f dI h_13
        refine wp_exit (T_x (T_x ?_))
        obtain rfl := sI hF_23
        exact .inr ⟨rfl, (), (sI hn_3).symm, M_7, hM_7, f.kp, p_11⟩
      ·rintro _ _ w_33 (⟨rfl, y_5, rfl, M_12, hM_12, f, p_30⟩ | ⟨rfl, y_6, rfl, M_13, hM_13, f, p_31⟩)
       ·refine B_r (T_r (B_r (T_r (T_r ?_))))
        obtain rfl := sI hF_15
        exact .inl ⟨rfl, (), (sI hn_1).symm, M_12, (((hM_2.trans hM_3).trans hM_6).trans hM_12), f.kp, (p_30.dropN 1)⟩
       ·refine B_x (T_n (RR (Y f 1 fun _ f => Z f (Y27 (v := S x_1.fType) rfl (ad := ⟨b_3, 1, none⟩) (p_31.ownCell 0 rfl 1)) fun _ f => Z f (Y31 rfl (l := x_1.fType) (m := [83, 116, 97, 99, 107])) fun _ f => Y f 1 fun _ f => ?_)))
        rcases cE hF_15 with ⟨h_24, hF_24⟩ | ⟨h_24, hF_33⟩
        ·have k_12 := dI.1 h_24
         have f := f.st 66 (cB h_24)
         refine Y f 1 fun _ f => Z f (Y27 (v := .slice A_7 x_1.fInner.length cap_7) rfl (ad := ⟨b_3, 6, none⟩) (p_31.ownCell 0 rfl 6)) fun _ f => Y f 3 fun _ f => ?_
         rcases cE hF_24 with ⟨h_25, hF_25⟩ | ⟨h_25, hF_26⟩
         ·have k_13 : ¬ (((x_1.fInner.length : Nat) : Int) = 1) := (not_iff dI).1 h_25
          have f := f.st 71 (cB h_25)
          refine Y f 10 fun _ f => eT (Y8 f (RR (Y f 1 fun _ f => eT (wp_ret (B_r (T_r (T_r ?_)))))))
          obtain rfl := sI hF_25
          exact .inl ⟨rfl, (), (sI hn_1).symm, M_13, (((hM_2.trans hM_3).trans hM_6).trans hM_13), f.kp, (p_31.dropN 1)⟩
         ·have k_14 : ¬ (¬ (((x_1.fInner.length : Nat) : Int) = 1)) := iff_f (not_iff dI) h_25
          have f := f.st 71 (cB h_25)
          refine Y f 1 fun _ f => Z f (Y27 (v := .slice A_7 x_1.fInner.length cap_7) rfl (ad := ⟨b_3, 6, none⟩) (p_31.ownCell 0 rfl 6)) fun _ f => ?_
          obtain ⟨x_9, hx_6, hF_27⟩ := bS hF_26
          obtain ⟨ad_5, c_8, e_5, -, hr_8, hc_7⟩ := Sli.at_ (h_9.mono (hM_6.trans hM_13)) hx_6
          obtain ⟨A_18, cap_18, A_19, cap_19, A_20, cap_20, A_21, cap_21, rfl, h_26, h_27, h_28, h_29⟩ := TA0.opn hr_8
          refine Z f (Y26 e_5 rfl (len := x_1.fInner.length) (cap := cap_7) (k := .i64) (i := (0 : Int)) (e := 27) (sz := 4) (getI_nn hx_6) (getI_lt hx_6)) fun _ f => Z (v := .agg #[.slice A_18 x_9.fParams.length cap_18, .slice A_19 x_9.fConds.length cap_19, .slice A_20 x_9.fRes.length cap_20, .slice A_21 x_9.fOuts.length cap_21]) f (Y28 (cs := [.slice A_18 x_9.fParams.length cap_18, .slice A_19 x_9.fConds.length cap_19, .slice A_20 x_9.fRes.length cap_20, .slice A_21 x_9.fOuts.length cap_21]) rfl (ad := ad_5.add ((0 : Int).toNat * 4)) (fun j v h => p_31.cell (hc_7 j v h))) fun _ f => Y f 1 fun _ f => ?_
          obtain ⟨g_3, hF_28⟩ := nS hF_27
          refine Y f 1 fun _ f => ?_
          have f := f.st 77 (congrArg (Value.int .i64) (inR_wrap g_3))
          obtain ⟨x_10, hx_7, hF_29⟩ := bS hF_28
          refine Y18 f p_31 (hrec_law16_there _ _ x_9 (TA0.shutx (x := x_9) h_26 h_27 h_28 h_29) (d1 + 1) x_10 hx_7) fun w_34 p_32 _ f => Y f 3 fun _ f => eT (RcF f hF_29 (fun h_30 hF_30 => ?_) fun h_30 hF_31 => ?_)
          ·have k_15 : (x_10) = false := by simpa using h_30
           refine RR (Y f 1 fun _ f => eT (wp_ret (B_r (T_r (T_r ?_)))))
           obtain rfl := sI hF_30
           exact .inl ⟨rfl, (), (sI hn_1).symm, M_13, (((hM_2.trans hM_3).trans hM_6).trans hM_13), f.kp, (p_32.dropN 1)⟩
          ·have k_16 : (x_10) = true := by simpa using h_30
           refine wp_skip (B_n (T_n (R_reg (Y f 1 fun _ f => ?_))))
           obtain ⟨g_4, hF_32⟩ := nS hF_31
           refine Y f 1 fun _ f => ?_
           have f := f.st 22 (congrArg (Value.int .i64) (inR_wrap g_4))
           refine Y f 1 fun _ f => eT ?_
           obtain rfl := sI hF_32
           exact ⟨⟨m_2, s_1 + 1⟩, Nat.lt_succ_self _, M_13, (((hM_2.trans hM_3).trans hM_6).trans hM_13), hn_1, f.kp, (p_32.dropN 1)⟩
        ·have k_17 := iff_f dI h_24
         have f := f.st 66 (cB h_24)
         refine Y f 15 fun _ f => eT (Y7 f (wp_skip (B_n (T_n (R_reg (Y f 1 fun _ f => ?_))))))
         obtain ⟨g_5, hF_34⟩ := nS hF_33
         refine Y f 1 fun _ f => ?_
         have f := f.st 22 (congrArg (Value.int .i64) (inR_wrap g_5))
         refine Y f 1 fun _ f => eT ?_
         obtain rfl := sI hF_34
         exact ⟨⟨m_2, s_1 + 1⟩, Nat.lt_succ_self _, M_13, (((hM_2.trans hM_3).trans hM_6).trans hM_13), hn_1, f.kp, (p_31.dropN 1)⟩
   ·refine wp_exit (T_x (T_x ?_))
    obtain rfl := sI hF_35
    exact .inr ⟨rfl, (), (sI hn_1).symm, M_3, (hM_2.trans hM_3), f.kp, p_3⟩
 ·rintro _ _ w_37 (⟨rfl, y_7, rfl, M_14, hM_14, f, p_33⟩ | ⟨rfl, y_8, rfl, M_15, hM_15, f, p_34⟩)
  ·refine B_r (T_r (E_ret1 f rfl (by kernel_rfl : Vc.look _ 4 = some (.bool false)) ?_))
   obtain rfl := sI hF_1
   exact ⟨_, rfl, M_14, (hM_1.trans hM_14), p_33, rfl⟩
  ·refine B_x (T_n (R_seq (RR (Y f 1 fun _ f => eT (wp_block ?_)))))
   obtain ⟨b_9, hL_4, hF_36⟩ := bS hF_1
   refine wp_mono (Q := fun e a w => (e = .ret ∧ (∃ y_9 : Unit, b_9 = .inl y_9 ∧ ∃ M_17 : Mem, M_15.le M_17 ∧ Frm 98 [(4, .bool false)] a ∧ Hp w0 M_17 (H) w)) ∨ (e = .exit 6 ∧ (∃ y_10 : Unit, b_9 = .inr y_10 ∧ ∃ M_18 : Mem, M_15.le M_18 ∧ Frm 98 [] a ∧ Hp w0 M_18 (H) w))) (R_loop (n := 98) (w0 := w0) (M := M_15) (fun (x : Nat × Int) => match x with | (m_7, s_4) => [(2, .pointer (some (⟨b_1, 0, none⟩))), (11, .int .i64 s_4)]) (fun (x : Nat × Int) => match x with | (m_7, s_4) => (H)) (fun (x : Nat × Int) (MM : Mem) => match x with | (m_7, s_4) => loopF (law16_there_s4 n d0) m_7 s_4 = some b_9) (fun (x : Nat × Int) => match x with | (m_7, s_4) => m_7) (n, (0 : Int)) (f.kp) p_34 hL_4 ?_) ?_
   ·rintro ⟨m_7, s_4⟩ M_16 _ w_38 hM_16 I_4 f p_35
    have I_4L := I_4
    obtain ⟨m_8, r_4, rfl, hs_4, hn_4⟩ := loop_step I_4L
    unfold law16_there_s4 at hs_4
    refine R_seq (RR (Y f 2 fun _ f => Y15 f p_35 (fzu (hM_15.trans hM_16) hc_2) 3 rfl fun _ f => Y f 2 fun _ f => eT (RcF f hs_4 (fun h_31 hF_37 => ?_) fun h_31 hF_43 => ?_)))
    ·have k_19 := dI.1 h_31
     refine wp_skip (T_n (R_seq (wp_block (R_seq (R_draw p_35 (by kernel_rfl) (by kernel_rfl) (Y2 (v := .agg #[.slice A_1 d0.fParams.length cap_1, .slice A_2 d0.fConds.length cap_2, .slice A_3 d0.fRes.length cap_3, .slice A_4 d0.fOuts.length cap_4]) f (fun _ pq => Y28 (cs := [.slice A_1 d0.fParams.length cap_1, .slice A_2 d0.fConds.length cap_2, .slice A_3 d0.fRes.length cap_3, .slice A_4 d0.fOuts.length cap_4]) rfl (ad := ⟨b_1, 0, none⟩) (fun j v h => pq.cell ((fzu (hM_15.trans hM_16) hc_2) j v h))) fun _ f => Y5 default f 1 fun _ f => Y4 f (fzu (hM_15.trans hM_16) hc_2) 3 rfl fun _ f => Y5 default f 1 fun _ f => ?_))))))
     obtain ⟨x_11, hx_8, hF_38⟩ := bS hF_37
     obtain ⟨ad_6, c_9, e_6, -, hr_9, hc_8⟩ := Sli.at_ (h_4.mono ((hM_1.trans hM_15).trans hM_16)) hx_8
     obtain ⟨A_22, cap_22, rfl, h_32⟩ := TC0.opn hr_9
     refine Y2 (v := .pointer (some (ad_6.add (s_4.toNat * 8)))) f (fun _ pq => Y26 e_6 rfl (len := d0.fOuts.length) (cap := cap_4) (k := .i64) (i := s_4) (e := 51) (sz := 8) (getI_nn hx_8) (getI_lt hx_8)) fun _ f => Y5 default f 1 fun _ f => Y2 (v := .agg #[.int .i8 x_11.fE.fKind, S x_11.fE.fText, .int .i64 x_11.fE.fNum, S x_11.fE.fName, S x_11.fE.fAttr, .slice A_22 x_11.fE.fL.length cap_22]) f (fun _ pq => Y28 (cs := [.int .i8 x_11.fE.fKind, S x_11.fE.fText, .int .i64 x_11.fE.fNum, S x_11.fE.fName, S x_11.fE.fAttr, .slice A_22 x_11.fE.fL.length cap_22]) rfl (ad := (ad_6.add (s_4.toNat * 8)).add 2) (fz_part (base := ad_6.add (s_4.toNat * 8)) (fun j v h => pq.cell (hc_8 j v h)) 2 rfl)) fun _ f => ?_
     obtain ⟨x_12, hx_9, hF_39⟩ := bS hF_38
     refine Y3 f (law16_names_ok n _ _ d0 (TA0.shutx (x := d0) (h_1.mono ((hM_1.trans hM_15).trans hM_16)) (h_2.mono ((hM_1.trans hM_15).trans hM_16)) (h_3.mono ((hM_1.trans hM_15).trans hM_16)) (h_4.mono ((hM_1.trans hM_15).trans hM_16))) _ (⟨x_11.fE.fKind, x_11.fE.fText, x_11.fE.fNum, x_11.fE.fName, x_11.fE.fAttr, x_11.fE.fL⟩ : TF0) (TF0.shut h_32) x_12 hx_9) fun _ f => Y5 default f 1 fun _ f => Q_end rfl ?_
     intro w_40 p_37
     refine T_n (RcF f hF_39 (fun h_33 hF_40 => ?_) fun h_33 hF_41 => ?_)
     ·have k_20 : (x_12) = false := by simpa using h_33
      refine RR (Y f 1 fun _ f => eT (wp_ret (B_r (T_r (T_r ?_)))))
      obtain rfl := sI hF_40
      exact .inl ⟨rfl, (), (sI hn_4).symm, M_16, hM_16, f.kp, p_37⟩
     ·have k_21 : (x_12) = true := by simpa using h_33
      refine wp_skip (B_n (T_n (R_reg (Y f 1 fun _ f => ?_))))
      obtain ⟨g_6, hF_42⟩ := nS hF_41
      refine Y f 1 fun _ f => ?_
      have f := f.st 88 (congrArg (Value.int .i64) (inR_wrap g_6))
      refine Y f 1 fun _ f => eT ?_
      obtain rfl := sI hF_42
      exact ⟨⟨m_8, s_4 + 1⟩, Nat.lt_succ_self _, M_16, hM_16, hn_4, f.kp, p_37⟩
    ·have k_22 := iff_f dI h_31
     refine wp_exit (T_x (T_x ?_))
     obtain rfl := sI hF_43
     exact .inr ⟨rfl, (), (sI hn_4).symm, M_16, hM_16, f.kp, p_35⟩
   ·rintro _ _ w_43 (⟨rfl, y_9, rfl, M_17, hM_17, f, p_38⟩ | ⟨rfl, y_10, rfl, M_18, hM_18, f, p_39⟩)
    ·refine B_r (T_r (E_ret1 f rfl (by kernel_rfl : Vc.look _ 4 = some (.bool false)) ?_))
     obtain rfl := sI hF_36
     exact ⟨_, rfl, M_17, ((hM_1.trans hM_15).trans hM_17), p_38, rfl⟩
    ·refine B_x (T_n (RR (Y f 1 fun _ f => eT (wp_ret (E_ret1 f rfl (by kernel_rfl : Vc.look _ 4 = some (.bool true)) ?_)))))
     obtain rfl := sI hF_36
     exact ⟨_, rfl, M_18, ((hM_1.trans hM_15).trans hM_18), p_39, rfl⟩
def law16_there_k (n : Nat) : Nat → TA0 → Int → Option Bool
  | 0 => fun _ _ => none
  | k + 1 => law16_there_b n (law16_there_k n k)
def law16_there (n : Nat) (d0 : TA0) (d1 : Int) : Option Bool := law16_there_k n n d0 d1
theorem law16_there_ok (n : Nat) (M : Mem) (c0 : List Value) (d0 : TA0) (h0 : Rep M (emb_TA0 d0) c0) (d1 : Int) (r : Bool) (hF : law16_there n d0 d1 = some r) : Ok Try.prog M 9 [.agg c0.toArray, .int .i64 d1] (fun _ v => v = .bool r) := by
 have key : ∀ (k : Nat) (M : Mem) (c0 : List Value) (d0 : TA0) (h0 : Rep M (emb_TA0 d0) c0) (d1 : Int) (r : Bool) (hF : law16_there_k n k d0 d1 = some r), Ok Try.prog M 9 [.agg c0.toArray, .int .i64 d1] (fun _ v => v = .bool r) := by
  intro k
  induction k with
  | zero => intro M c0 d0 h0 d1 r hF; simp [law16_there_k] at hF
  | succ k ih => intro M c0 d0 h0 d1 r hF; exact law16_there_b_ok n (law16_there_k n k) ih M c0 d0 h0 d1 r hF
 exact key n M c0 d0 h0 d1 r hF
theorem usesVs_app : ∀ (l m : List TF0), usesVs (l ++ m) = usesVs l ++ usesVs m
 | [], m => by simp [usesVs]
 | x :: r, m => by simp [usesVs, usesVs_app r m]
theorem usesVs_take {l : List TF0} {i : Nat} (h : i < l.length) : usesVs (l.take (i + 1)) = usesVs (l.take i) ++ usesV l[i] := by
 rw [List.take_add_one, List.getElem?_eq_getElem h, usesVs_app]
 simp [usesVs]
theorem usesVs_take_len (l : List TF0) (i : Nat) : (usesVs (l.take i)).length ≤ (usesVs l).length := by
 conv => rhs; rw [← List.take_append_drop i l, usesVs_app, List.length_append]
 omega
theorem ruses_run {n : Nat} (hn : 2000000 ≤ n) : ∀ (k : Nat) (x : TF0), dsz (emb_TF0 x) < k → dsz (emb_TF0 x) ≤ 1100000 → ref16_Uses_k n k x = some (usesV x)
 | 0, x, hk, hb => absurd hk (by omega)
 | k + 1, x, hk, hb => by
  have hs := szE x
  have hl := len_sz (f := emb_TF0) x.fL
  have h1 := uses_len x
  have h2 := sizeX_sz x
  have h3 := congrArg List.length (usesV_eq x)
  rw [List.length_append] at h3
  unfold ref16_Uses_k ref16_Uses_b
  have e1 : (bif decide (x.fKind = 3) then some true else bif decide (x.fKind = 4) then some true else some (decide (x.fKind = 6)) : Option Bool) = some (isUse x.fKind) := by
   unfold isUse
   cases decide (x.fKind = 3) <;> cases decide (x.fKind = 4) <;> rfl
  have e2 : (bif isUse x.fKind then need ((([] : List TF0).length + 1) * 88 ≤ 140737488355328) (some (([] : List TF0) ++ [(⟨x.fKind, x.fText, x.fNum, x.fName, x.fAttr, x.fL⟩ : TF0)])) else some ([] : List TF0) : Option (List TF0)) = some (bif isUse x.fKind then [x] else []) := by
   rw [eta_X, need_t (by simp)]
   cases isUse x.fKind <;> rfl
  rw [e1, bnd, e2, bnd]
  have := loop_all (n := n) (step := ref16_Uses_s1 n (ref16_Uses_k n k) x) (fun j => ((bif isUse x.fKind then [x] else []) ++ usesVs (x.fL.take j), (j : Int))) x.fL.length (usesV x) (fun j hj => by
   have hm := mem_sz (f := emb_TF0) (List.getElem_mem hj)
   have ht := usesVs_take_len x.fL (j + 1)
   rw [usesVs_take hj, List.length_append] at ht
   unfold ref16_Uses_s1
   dsimp only
   rw [decide_eq_true (by omega), cT, getI_here hj, bnd, ruses_run hn k x.fL[j] (by omega) (by omega), bnd, need_t (by rw [List.length_append]; omega), need_i (by omega) (by omega), usesVs_take hj, List.append_assoc]
   rfl) (by
   unfold ref16_Uses_s1
   dsimp only
   rw [decide_eq_false (by omega), cF, List.take_length, ← usesV_eq]) (by omega)
  rw [List.take_zero] at this
  rw [show usesVs [] = [] from rfl, List.append_nil] at this
  rw [show ((0 : Nat) : Int) = 0 from rfl] at this
  rw [this, bnd]
theorem insert_run {n : Nat} (hn : 2000000 ≤ n) (d0 : List (List UInt8)) (d1 : List UInt8) (hl : d0.length ≤ 1100000) : ∃ r, ref16_insert n d0 d1 = some r ∧ (∀ z ∈ r, z ∈ d0 ∨ z = d1) ∧ r.length ≤ d0.length + 1 := by
 obtain ⟨b, hb, b0, b1⟩ := loop_inv (n := n) (step := ref16_insert_s1 n d0 d1) (s0 := (0 : Int)) (fun j s => s = (j : Int)) (fun b => 0 ≤ b ∧ b ≤ (d0.length : Int)) d0.length rfl
  (fun j s hj hI => by
   subst hI
   unfold ref16_insert_s1
   rw [decide_eq_true (by omega), cT, getI_here hj, bnd]
   cases Op.bytesLess d0[j] d1 with
   | true => rw [cT, need_i (by omega) (by omega)]; exact .inl ⟨_, rfl, by simp⟩
   | false => rw [cF]; exact .inr ⟨_, rfl, by omega, by omega⟩)
  (fun s hI => by subst hI; unfold ref16_insert_s1; rw [decide_eq_false (by omega), cF]; exact ⟨_, rfl, by omega, by omega⟩) (by omega)
 unfold ref16_insert
 rw [hb, bnd]
 obtain ⟨c, hc⟩ : ∃ c, (bif decide (b < ((d0.length : Nat) : Int)) then (getI d0 b).bind fun x_2 => some (decide (x_2 = d1)) else some false : Option Bool) = some c := by
  by_cases h : b < ((d0.length : Nat) : Int)
  ·rw [decide_eq_true h, cT, getI_in [] b0 h, bnd]; exact ⟨_, rfl⟩
  ·rw [decide_eq_false h, cF]; exact ⟨_, rfl⟩
 rw [hc, bnd]
 cases c with
 | true => rw [cT]; exact ⟨_, rfl, fun z hz => .inl hz, by omega⟩
 | false =>
  have l1 : ((d0.take b.toNat).drop 0).length ≤ d0.length := by rw [List.drop_zero, List.length_take]; omega
  have l2 : (d0.drop b.toNat).length ≤ d0.length := by rw [List.length_drop]; omega
  rw [cF, need_t ⟨by omega, by omega, by omega⟩, need_t (by simp only [List.length_nil]; omega), need_t (by simp only [List.nil_append]; omega), need_t ⟨by omega, by omega⟩, need_t (by simp only [List.nil_append, List.length_append, List.length_cons, List.length_nil]; omega)]
  refine ⟨_, rfl, fun z hz => ?_, ?_⟩
  ·rw [List.nil_append, List.drop_zero, List.mem_append, List.mem_append] at hz
   rcases hz with (hz | hz) | hz
   ·exact .inl (List.mem_of_mem_take hz)
   ·exact .inr (List.mem_singleton.1 hz)
   ·exact .inl (List.mem_of_mem_drop hz)
  ·rw [List.nil_append, List.drop_zero, List.length_append, List.length_append, List.length_take, List.length_drop, List.length_singleton]; omega
theorem resources_run {n : Nat} (hn : 2000000 ≤ n) (x : TF0) (hb : dsz (emb_TF0 x) ≤ 1100000) : ∃ l, ref16_Resources n x = some l ∧ (∀ z ∈ l, ∃ y ∈ usesV x, y.fKind ≠ 6 ∧ y.fName = z) ∧ l.length ≤ 1100000 := by
 have h1 := uses_len x
 have h2 := sizeX_sz x
 unfold ref16_Resources ref16_Uses
 rw [ruses_run hn n x (by omega) hb, bnd]
 obtain ⟨b, g1, g2, g3⟩ := loop_inv (n := n) (step := ref16_Resources_s1 n (usesV x)) (s0 := (([] : List (List UInt8)), (0 : Int))) (fun j s => s.2 = (j : Int) ∧ s.1.length ≤ j ∧ ∀ z ∈ s.1, ∃ y ∈ usesV x, y.fKind ≠ 6 ∧ y.fName = z) (fun b => (∀ z ∈ b, ∃ y ∈ usesV x, y.fKind ≠ 6 ∧ y.fName = z) ∧ b.length ≤ 1100000) (usesV x).length
  ⟨rfl, Nat.le_refl _, fun z hz => by cases hz⟩
  (fun j s hj hI => by
   obtain ⟨a, i⟩ := s
   obtain ⟨f1, f2, f3⟩ := hI
   dsimp only at f1 f2 f3
   subst f1
   unfold ref16_Resources_s1
   dsimp only
   rw [decide_eq_true (by omega), cT, getI_here hj, bnd]
   by_cases h6 : (usesV x)[j].fKind = 6
   ·rw [decide_eq_true h6, Bool.not_true, cF, need_i (by omega) (by omega)]
    exact .inl ⟨_, rfl, by dsimp only; omega, by dsimp only; omega, f3⟩
   ·obtain ⟨r, r1, r2, r3⟩ := insert_run hn a (usesV x)[j].fName (by omega)
    rw [decide_eq_false h6, Bool.not_false, cT, bnd, r1, bnd, need_i (by omega) (by omega)]
    refine .inl ⟨_, rfl, by dsimp only; omega, by dsimp only; omega, fun z hz => ?_⟩
    rcases r2 z hz with h | h
    ·exact f3 z h
    ·exact ⟨_, List.getElem_mem hj, h6, h.symm⟩)
  (fun s hI => by
   obtain ⟨a, i⟩ := s
   obtain ⟨f1, f2, f3⟩ := hI
   dsimp only at f1 f2 f3
   subst f1
   unfold ref16_Resources_s1
   dsimp only
   rw [decide_eq_false (by omega), cF]
   exact ⟨_, rfl, f3, by omega⟩) (by omega)
 rw [g1, bnd]
 exact ⟨b, rfl, g2, g3⟩
def resHas (t : TA0) (nm : List UInt8) : Bool := t.fRes.any fun r => decide (r.fId = nm)
def freshB (t : TA0) (nm : List UInt8) : Bool := !(t.fParams.any fun p => decide (p.fName = nm)) && (!(t.fConds.any fun p => decide (p.fName = nm)) && (!resHas t nm && !outHas t nm))
theorem any_true {α : Type} {q : α → Bool} {l : List α} {i : Nat} (h : i < l.length) (hq : q l[i] = true) : l.any q = true := List.any_eq_true.2 ⟨_, List.getElem_mem h, hq⟩
theorem any_false {α : Type} {q : α → Bool} {l : List α} (h : ∀ i (h : i < l.length), q l[i] = false) : l.any q = false := by
 rw [List.any_eq_false]
 intro x hx
 obtain ⟨i, hi, rfl⟩ := List.getElem_of_mem hx
 rw [h i hi]; simp
theorem rfind_run {n : Nat} (t : TA0) (nm : List UInt8) (hl : t.fRes.length < n) (hl2 : t.fRes.length ≤ 1100000) : ∃ r, ref16_Find n t nm = some (r, resHas t nm) := by
 unfold ref16_Find
 obtain ⟨b, g1, g2⟩ := loop_inv (n := n) (step := ref16_Find_s1 n t nm) (s0 := ((0 : Int), ([] : List UInt8), ([] : List UInt8), ([] : List UInt8), ([] : List TH0), ([] : List (List UInt8)), false, ([] : List TA0))) (fun j s => s.1 = (j : Int) ∧ ∀ i (h : i < t.fRes.length), i < j → decide (t.fRes[i].fId = nm) = false)
  (fun b => (∃ y, b = .inl y ∧ resHas t nm = true) ∨ (∃ y, b = .inr y ∧ resHas t nm = false)) t.fRes.length ⟨rfl, fun i _ h => absurd h (by omega)⟩
  (fun j s hj hI => by
   obtain ⟨i, s⟩ := s
   obtain ⟨f1, f2⟩ := hI
   dsimp only at f1
   subst f1
   unfold ref16_Find_s1
   dsimp only
   rw [decide_eq_true (show (j : Int) < ((t.fRes.length : Nat) : Int) by omega), cT, getI_here hj, bnd]
   by_cases h : t.fRes[j].fId = nm
   ·rw [decide_eq_true h, cT, bnd]
    exact .inr ⟨_, rfl, .inl ⟨_, rfl, any_true hj (decide_eq_true h)⟩⟩
   ·rw [decide_eq_false h, cF, need_i (by omega) (by omega)]
    refine .inl ⟨_, rfl, by simp, fun i hi hij => ?_⟩
    by_cases e : i = j
    ·subst e; exact decide_eq_false h
    ·exact f2 i hi (by omega))
  (fun s hI => by
   obtain ⟨i, s⟩ := s
   obtain ⟨f1, f2⟩ := hI
   dsimp only at f1
   subst f1
   unfold ref16_Find_s1
   dsimp only
   rw [decide_eq_false (show ¬ (t.fRes.length : Int) < ((t.fRes.length : Nat) : Int) by omega), cF]
   exact ⟨_, rfl, .inr ⟨_, rfl, any_false fun i hi => f2 i hi hi⟩⟩) hl
 rw [g1, bnd]
 rcases g2 with ⟨y, rfl, h⟩ | ⟨y, rfl, h⟩
 ·rw [h]; exact ⟨_, rfl⟩
 ·rw [h]; exact ⟨_, rfl⟩
theorem routput_run {n : Nat} (t : TA0) (nm : List UInt8) (hl : t.fOuts.length < n) (hl2 : t.fOuts.length ≤ 1100000) : ∃ r, ref16_Output n t nm = some (r, outHas t nm) := by
 unfold ref16_Output
 obtain ⟨b, g1, g2⟩ := loop_inv (n := n) (step := ref16_Output_s1 n t nm) (s0 := ((0 : Int), ([] : List UInt8), ([] : List UInt8), (0 : Int), ([] : List UInt8), (0 : Int), ([] : List UInt8), ([] : List UInt8), ([] : List TF0))) (fun j s => s.1 = (j : Int) ∧ ∀ i (h : i < t.fOuts.length), i < j → decide (t.fOuts[i].fName = nm) = false)
  (fun b => (∃ y, b = .inl y ∧ outHas t nm = true) ∨ (∃ y, b = .inr y ∧ outHas t nm = false)) t.fOuts.length ⟨rfl, fun i _ h => absurd h (by omega)⟩
  (fun j s hj hI => by
   obtain ⟨i, s⟩ := s
   obtain ⟨f1, f2⟩ := hI
   dsimp only at f1
   subst f1
   unfold ref16_Output_s1
   dsimp only
   rw [decide_eq_true (show (j : Int) < ((t.fOuts.length : Nat) : Int) by omega), cT, getI_here hj, bnd]
   by_cases h : t.fOuts[j].fName = nm
   ·rw [decide_eq_true h, cT, bnd]
    exact .inr ⟨_, rfl, .inl ⟨_, rfl, any_true hj (decide_eq_true h)⟩⟩
   ·rw [decide_eq_false h, cF, need_i (by omega) (by omega)]
    refine .inl ⟨_, rfl, by simp, fun i hi hij => ?_⟩
    by_cases e : i = j
    ·subst e; exact decide_eq_false h
    ·exact f2 i hi (by omega))
  (fun s hI => by
   obtain ⟨i, s⟩ := s
   obtain ⟨f1, f2⟩ := hI
   dsimp only at f1
   subst f1
   unfold ref16_Output_s1
   dsimp only
   rw [decide_eq_false (show ¬ (t.fOuts.length : Int) < ((t.fOuts.length : Nat) : Int) by omega), cF]
   exact ⟨_, rfl, .inr ⟨_, rfl, any_false fun i hi => f2 i hi hi⟩⟩) hl
 rw [g1, bnd]
 rcases g2 with ⟨y, rfl, h⟩ | ⟨y, rfl, h⟩
 ·rw [h]; exact ⟨_, rfl⟩
 ·rw [h]; exact ⟨_, rfl⟩
theorem fresh_run {n : Nat} (hn : 2000000 ≤ n) (t : TA0) (hb : dsz (emb_TA0 t) ≤ 1100000) (nm : List UInt8) : law16_fresh n t nm = some (freshB t nm) := by
 have hs := szT t
 have l1 := len_sz (f := emb_TD0) t.fParams
 have l2 := len_sz (f := emb_TI0) t.fConds
 have l3 := len_sz (f := emb_TB0) t.fRes
 have l4 := len_sz (f := emb_TC0) t.fOuts
 have a1 := loop_inv (n := n) (step := law16_fresh_s1 n t nm) (s0 := (0 : Int)) (fun j s => s = (j : Int) ∧ ∀ i (h : i < t.fParams.length), i < j → decide (t.fParams[i].fName = nm) = false)
  (fun b => (b = .inl () ∧ (t.fParams.any fun p => decide (p.fName = nm)) = true) ∨ (b = .inr () ∧ (t.fParams.any fun p => decide (p.fName = nm)) = false)) t.fParams.length ⟨rfl, fun i _ h => absurd h (by omega)⟩
  (fun j s hj hI => by
   obtain ⟨rfl, f2⟩ := hI
   unfold law16_fresh_s1
   rw [decide_eq_true (show (j : Int) < ((t.fParams.length : Nat) : Int) by omega), cT, getI_here hj, bnd]
   by_cases h : t.fParams[j].fName = nm
   ·rw [decide_eq_true h, cT]
    exact .inr ⟨_, rfl, .inl ⟨rfl, any_true hj (decide_eq_true h)⟩⟩
   ·rw [decide_eq_false h, cF, need_i (by omega) (by omega)]
    refine .inl ⟨_, rfl, by simp, fun i hi hij => ?_⟩
    by_cases e : i = j
    ·subst e; exact decide_eq_false h
    ·exact f2 i hi (by omega))
  (fun s hI => by
   obtain ⟨rfl, f2⟩ := hI
   unfold law16_fresh_s1
   rw [decide_eq_false (by omega), cF]
   exact ⟨_, rfl, .inr ⟨rfl, any_false fun i hi => f2 i hi hi⟩⟩) (by omega)
 have a2 := loop_inv (n := n) (step := law16_fresh_s2 n t nm) (s0 := (0 : Int)) (fun j s => s = (j : Int) ∧ ∀ i (h : i < t.fConds.length), i < j → decide (t.fConds[i].fName = nm) = false)
  (fun b => (b = .inl () ∧ (t.fConds.any fun p => decide (p.fName = nm)) = true) ∨ (b = .inr () ∧ (t.fConds.any fun p => decide (p.fName = nm)) = false)) t.fConds.length ⟨rfl, fun i _ h => absurd h (by omega)⟩
  (fun j s hj hI => by
   obtain ⟨rfl, f2⟩ := hI
   unfold law16_fresh_s2
   rw [decide_eq_true (show (j : Int) < ((t.fConds.length : Nat) : Int) by omega), cT, getI_here hj, bnd]
   by_cases h : t.fConds[j].fName = nm
   ·rw [decide_eq_true h, cT]
    exact .inr ⟨_, rfl, .inl ⟨rfl, any_true hj (decide_eq_true h)⟩⟩
   ·rw [decide_eq_false h, cF, need_i (by omega) (by omega)]
    refine .inl ⟨_, rfl, by simp, fun i hi hij => ?_⟩
    by_cases e : i = j
    ·subst e; exact decide_eq_false h
    ·exact f2 i hi (by omega))
  (fun s hI => by
   obtain ⟨rfl, f2⟩ := hI
   unfold law16_fresh_s2
   rw [decide_eq_false (by omega), cF]
   exact ⟨_, rfl, .inr ⟨rfl, any_false fun i hi => f2 i hi hi⟩⟩) (by omega)
 obtain ⟨r1, e1⟩ := rfind_run (n := n) t nm (by omega) (by omega)
 obtain ⟨r2, e2⟩ := routput_run (n := n) t nm (by omega) (by omega)
 unfold law16_fresh freshB
 obtain ⟨b1, h1, c1⟩ := a1
 obtain ⟨b2, h2, c2⟩ := a2
 rw [h1, bnd]
 rcases c1 with ⟨rfl, k1⟩ | ⟨rfl, k1⟩
 ·rw [k1]; rfl
 rw [k1]
 dsimp only
 rw [h2, bnd]
 rcases c2 with ⟨rfl, k2⟩ | ⟨rfl, k2⟩
 ·rw [k2]; rfl
 rw [k2]
 dsimp only
 rw [e1, bnd, e2, bnd]
 cases resHas t nm <;> rfl
theorem names_run {n : Nat} (hn : 2000000 ≤ n) (t : TA0) (hb : dsz (emb_TA0 t) ≤ 1100000) (x : TF0) (hx : dsz (emb_TF0 x) ≤ 1100000) (h : ∀ y ∈ usesV x, y.fKind ≠ 6 → freshB t y.fName = false) : law16_names n t x = some true := by
 obtain ⟨l, h1, h2, h3⟩ := resources_run hn x hx
 obtain ⟨b, g1, g2⟩ := loop_inv (n := n) (step := law16_names_s1 n t l) (s0 := (0 : Int)) (fun j s => s = (j : Int)) (fun b => b = .inr ()) l.length rfl
  (fun j s hj hI => by
   subst hI
   obtain ⟨y, y1, y2, y3⟩ := h2 _ (List.getElem_mem hj)
   have := h y y1 y2
   rw [y3] at this
   unfold law16_names_s1
   rw [decide_eq_true (by omega), cT, getI_here hj, bnd, fresh_run hn t hb, bnd, this, cF, need_i (by omega) (by omega)]
   exact .inl ⟨_, rfl, by simp⟩)
  (fun s hI => by subst hI; unfold law16_names_s1; rw [decide_eq_false (by omega), cF]; exact ⟨_, rfl, rfl⟩) (by omega)
 unfold law16_names
 rw [h1, bnd, g1, bnd, g2]
theorem use_there {t : TA0} {y : TF0} (hk : isUse y.fKind = true) (h0 : useV (pM t) (cM t) (rM t) y = 0) (h6 : y.fKind ≠ 6) : freshB t y.fName = false := by
 have hres : (mget (rM t) y.fName).isSome = true → resHas t y.fName = true := fun h => by
  rw [mget_rM] at h
  obtain ⟨r, hr⟩ := Option.isSome_iff_exists.1 h
  have h1 := List.find?_some hr
  have h2 := List.mem_of_find?_eq_some hr
  exact List.any_eq_true.2 ⟨r, h2, h1⟩
 have key : (t.fParams.any fun p => decide (p.fName = y.fName)) = true ∨ resHas t y.fName = true := by
  unfold useV at h0
  rw [decide_eq_false h6, cF] at h0
  by_cases h3 : y.fKind = 3
  ·rw [decide_eq_true h3, cT] at h0
   cases hp : hasB (pM t) y.fName with
   | true => exact .inl (by rw [← hasB_pM]; exact hp)
   | false =>
    cases hr : (mget (rM t) y.fName).isSome with
    | true => exact .inr (hres hr)
    | false => rw [hp, hr] at h0; exact absurd h0 (by simp)
  ·rw [decide_eq_false h3, cF] at h0
   cases hr : (mget (rM t) y.fName).isSome with
   | true => exact .inr (hres hr)
   | false =>
    have hn : mget (rM t) y.fName = none := by
     cases hm : mget (rM t) y.fName with
     | none => rfl
     | some r => rw [hm] at hr; cases hr
    have hz : stk ((none : Option TB0).getD z_TB0) = false := by decide
    rw [hr, hn, hz, cF, Bool.false_and, cF] at h0
    exact absurd h0 (by decide)
 unfold freshB
 rcases key with h | h
 ·rw [h]; rfl
 ·rw [h]; simp
theorem uses_there {n : Nat} (hn : 2000000 ≤ n) (t : TA0) (hb : dsz (emb_TA0 t) ≤ 1100000) (x : TF0) (hx : dsz (emb_TF0 x) ≤ 1100000) (h0 : usesI (pM t) (cM t) (rM t) x = 0) : law16_names n t x = some true :=
 names_run hn t hb x hx fun y hy h6 => use_there (uses_kind x y hy) (usesI_zero.1 h0 y hy) h6
theorem there_run {n : Nat} (hn : 2000000 ≤ n) : ∀ (k : Nat) (t : TA0) (deep : Int), 0 ≤ deep → deep ≤ 5 → okT k t = true → dsz (emb_TA0 t) ≤ 1100000 → law16_there_k n k t deep = some true
 | 0, t, deep, _, _, h, _ => by cases h
 | k + 1, t, deep, hd0, hd5, h, hb => by
  have hs := szT t
  have l3 := len_sz (f := emb_TB0) t.fRes
  have l4 := len_sz (f := emb_TC0) t.fOuts
  unfold okT at h
  rw [Bool.and_eq_true, Bool.and_eq_true] at h
  obtain ⟨-, hr, ho⟩ := h
  rw [List.all_eq_true] at hr ho
  unfold law16_there_k law16_there_b
  obtain ⟨b, g1, g2⟩ := loop_inv (n := n) (step := law16_there_s1 n (law16_there_k n k) t deep) (s0 := (0 : Int)) (fun j s => s = (j : Int)) (fun b => b = .inr ()) t.fRes.length rfl
   (fun j s hj hI => by
    subst hI
    have hm := mem_sz (f := emb_TB0) (List.getElem_mem hj)
    have hz := szR t.fRes[j]
    have lp := len_sz (f := emb_TH0) t.fRes[j].fProps
    have ld := len_sz (f := Dat.str) t.fRes[j].fDepends
    have hok := hr _ (List.getElem_mem hj)
    unfold resOK at hok
    simp only [Bool.and_eq_true] at hok
    obtain ⟨-, k2, -, k4, k5, k6⟩ := hok
    rw [List.all_eq_true] at k5
    unfold law16_there_s1
    rw [decide_eq_true (by omega), cT, bnd]
    by_cases hd : deep < 5
    ·rw [decide_eq_true hd, cT, getI_here hj, bnd]
     obtain ⟨b, p1, p2⟩ := loop_inv (n := n) (step := law16_there_s2 n t t.fRes[j]) (s0 := (0 : Int)) (fun j s => s = (j : Int)) (fun b => b = .inr ()) t.fRes[j].fProps.length rfl
      (fun i s hi hI => by
       subst hI
       have hm2 := mem_sz (f := emb_TH0) (List.getElem_mem hi)
       have hp := szPr t.fRes[j].fProps[i]
       have hpo := k5 _ (List.getElem_mem hi)
       unfold propOK at hpo
       rw [Bool.and_eq_true] at hpo
       unfold law16_there_s2
       rw [decide_eq_true (by omega), cT, getI_here hi, bnd, eta_X, uses_there hn t hb _ (by omega) (of_decide_eq_true hpo.2), bnd, Bool.not_true, cF, need_i (by omega) (by omega)]
       exact .inl ⟨_, rfl, by simp⟩)
      (fun s hI => by subst hI; unfold law16_there_s2; rw [decide_eq_false (by omega), cF]; exact ⟨_, rfl, rfl⟩) (by omega)
     rw [p1, bnd, p2]
     dsimp only
     obtain ⟨b, q1, q2⟩ := loop_inv (n := n) (step := law16_there_s3 n t t.fRes[j]) (s0 := (0 : Int)) (fun j s => s = (j : Int)) (fun b => b = .inr ()) t.fRes[j].fDepends.length rfl
      (fun i s hi hI => by
       subst hI
       obtain ⟨r, hrr⟩ := rfind_run (n := n) t t.fRes[j].fDepends[i] (by omega) (by omega)
       have hres : resHas t t.fRes[j].fDepends[i] = true := by
        have hb4 : depsBad (rM t) t.fRes[j] = false := by cases hh : depsBad (rM t) t.fRes[j] with | false => rfl | true => rw [hh] at k4; cases k4
        unfold depsBad at hb4
        rw [List.any_eq_false] at hb4
        have := hb4 _ (List.getElem_mem hi)
        rw [Bool.or_eq_true, not_or] at this
        have h1 : (mget (rM t) t.fRes[j].fDepends[i]).isSome = true := by
         cases hh : (mget (rM t) t.fRes[j].fDepends[i]).isSome with
         | true => rfl
         | false => exact absurd (by rw [hh]; rfl) this.1
        rw [mget_rM] at h1
        obtain ⟨r, hr⟩ := Option.isSome_iff_exists.1 h1
        have h7 := List.find?_some hr
        exact List.any_eq_true.2 ⟨r, List.mem_of_find?_eq_some hr, h7⟩
       unfold law16_there_s3
       rw [decide_eq_true (by omega), cT, getI_here hi, bnd, hrr, bnd, bnd]
       dsimp only
       rw [hres, Bool.not_true, cF, need_i (by omega) (by omega)]
       exact .inl ⟨_, rfl, by simp⟩)
      (fun s hI => by subst hI; unfold law16_there_s3; rw [decide_eq_false (by omega), cF]; exact ⟨_, rfl, rfl⟩) (by omega)
     rw [q1, bnd, q2]
     dsimp only
     by_cases hst : t.fRes[j].fType = [83, 116, 97, 99, 107]
     ·have hk : stk t.fRes[j] = true := decide_eq_true hst
      unfold typedB at k2
      rw [hk, cT] at k2
      obtain ⟨t2, ht2⟩ := List.length_eq_one_iff.1 (of_decide_eq_true k2)
      rw [hk, ht2, Bool.not_true, Bool.false_or] at k6
      rw [ht2] at hz ⊢
      simp only [List.map_cons, List.map_nil, dszs] at hz
      have hg : getI [t2] (0 : Int) = some t2 := rfl
      have hrec := there_run hn k t2 (deep + 1) (by omega) (by omega) k6 (by omega)
      rw [decide_eq_true hst, cT, decide_eq_true (show ((([t2] : List TA0).length : Nat) : Int) = 1 from rfl), Bool.not_true, cF, hg, bnd, need_i (by omega) (by omega), hrec, bnd, Bool.not_true, cF, need_i (by omega) (by omega)]
      exact .inl ⟨_, rfl, by simp⟩
     ·rw [decide_eq_false hst, cF, need_i (by omega) (by omega)]
      exact .inl ⟨_, rfl, by simp⟩
    ·rw [decide_eq_false hd, cF]
     exact .inr ⟨_, rfl, rfl⟩)
   (fun s hI => by subst hI; unfold law16_there_s1; rw [decide_eq_false (by omega), cF, bnd, cF]; exact ⟨_, rfl, rfl⟩) (by omega)
  rw [g1, bnd, g2]
  dsimp only
  obtain ⟨b, p1, p2⟩ := loop_inv (n := n) (step := law16_there_s4 n t) (s0 := (0 : Int)) (fun j s => s = (j : Int)) (fun b => b = .inr ()) t.fOuts.length rfl
   (fun i s hi hI => by
    subst hI
    have hm2 := mem_sz (f := emb_TC0) (List.getElem_mem hi)
    have hp := szO t.fOuts[i]
    have hoo := of_decide_eq_true (ho _ (List.getElem_mem hi))
    have hu : usesI (pM t) (cM t) (rM t) t.fOuts[i].fE = 0 := by
     unfold outE at hoo
     cases hh : (!decide (t.fOuts[i].fCond = []) && !hasB (cM t) t.fOuts[i].fCond) with
     | true => rw [hh, cT] at hoo; exact absurd hoo (by decide)
     | false => rw [hh, cF] at hoo; exact hoo
    unfold law16_there_s4
    rw [decide_eq_true (by omega), cT, getI_here hi, bnd, eta_X, uses_there hn t hb _ (by omega) hu, bnd, Bool.not_true, cF, need_i (by omega) (by omega)]
    exact .inl ⟨_, rfl, by simp⟩)
   (fun s hI => by subst hI; unfold law16_there_s4; rw [decide_eq_false (by omega), cF]; exact ⟨_, rfl, rfl⟩) (by omega)
  rw [p1, bnd, p2]
theorem w_params {n : Nat} (hn : 2000000 ≤ n) (t : TA0) (hb : dsz (emb_TA0 t) ≤ 1100000) (a : Int) (h0 : 0 ≤ a) (h1 : a ≤ 60) (hl : t.fParams.length ≤ 60) :
  ∃ b, loopF (ref13_weight_s1 n t) n (a, (0 : Int)) = some b ∧ ∀ y, b = .inr y → 0 ≤ y ∧ y ≤ 100000000 := by
 have hs := szT t
 refine loop_inv (step := ref13_weight_s1 n t) (n := n) (s0 := (a, (0 : Int))) (fun k s => s.2 = (k : Int) ∧ 0 ≤ s.1 ∧ s.1 ≤ 60 + 1100000 * k) (fun b => ∀ y, b = .inr y → 0 ≤ y ∧ y ≤ 100000000) t.fParams.length ⟨rfl, h0, by dsimp only; omega⟩
  (fun q s hq hI => ?_) (fun s hI => ?_) (by omega)
 ·obtain ⟨x, i⟩ := s
  obtain ⟨e1, e2, e3⟩ := hI
  dsimp only at e1 e2 e3
  subst e1
  have hm := mem_sz (f := emb_TD0) (List.getElem_mem hq)
  have hp := szP t.fParams[q]
  have ha := len_sz (f := emb_TE0) t.fParams[q].fAllowed
  unfold ref13_weight_s1
  dsimp only
  rw [decide_eq_true (by omega), cT, getI_here hq, bnd, need_i (by omega) (by omega), bnd]
  by_cases h6 : (60 : Int) < ((t.fParams[q].fAllowed.length : Nat) : Int)
  ·rw [decide_eq_true h6, cT, bnd, cT]
   exact .inr ⟨_, rfl, fun y h => by cases h⟩
  rw [decide_eq_false h6, cF, bnd, eta_V]
  obtain ⟨g, hg⟩ := great03 (n := n) (by omega) t.fParams[q].fDefault
  rw [hg, bnd, bnd]
  cases g with
  | true => rw [cT]; exact .inr ⟨_, rfl, fun y h => by cases h⟩
  | false =>
   rw [cF]
   obtain ⟨b, hb1, -⟩ := loop_inv (step := ref13_weight_s2 n t (x, (q : Int))) (n := n) (s0 := (0 : Int)) (fun k s => s = (k : Int)) (fun _ => True) t.fParams[q].fAllowed.length rfl
    (fun j s hj hI => by
     subst hI
     unfold ref13_weight_s2
     dsimp only
     obtain ⟨g, hg⟩ := great03 (n := n) (by omega) t.fParams[q].fAllowed[j]
     rw [getI_here hq, bnd, decide_eq_true (by omega), cT, bnd, getI_here hj, bnd, hg, bnd]
     cases g with
     | true => rw [cT]; exact .inr ⟨_, rfl, trivial⟩
     | false => rw [cF, need_i (by omega) (by omega)]; exact .inl ⟨_, rfl, by simp⟩)
    (fun s hI => by
     subst hI
     unfold ref13_weight_s2
     dsimp only
     rw [getI_here hq, bnd, decide_eq_false (by omega), cF]; exact ⟨_, rfl, trivial⟩) (by omega)
   rw [hb1, bnd]
   cases b with
   | inl u => exact .inr ⟨_, rfl, fun y h => by cases h⟩
   | inr u =>
    dsimp only
    rw [need_i (by omega) (by omega)]
    exact .inl ⟨_, rfl, by dsimp only; omega, by dsimp only; omega, by dsimp only; omega⟩
 ·obtain ⟨x, i⟩ := s
  obtain ⟨e1, e2, e3⟩ := hI
  dsimp only at e1 e2 e3
  subst e1
  unfold ref13_weight_s1
  dsimp only
  rw [decide_eq_false (by omega), cF]
  exact ⟨_, rfl, fun y h => by cases h; omega⟩
theorem w_conds {n : Nat} (hn : 2000000 ≤ n) (t : TA0) (hb : dsz (emb_TA0 t) ≤ 1100000) (a : Int) (h0 : 0 ≤ a) (h1 : a ≤ 100000000) (hl : t.fConds.length ≤ 60) :
  ∃ b, loopF (ref13_weight_s3 n t) n (a, (0 : Int)) = some b ∧ 0 ≤ b ∧ b ≤ 180000000 := by
 have hs := szT t
 refine loop_inv (step := ref13_weight_s3 n t) (n := n) (s0 := (a, (0 : Int))) (fun k s => s.2 = (k : Int) ∧ 0 ≤ s.1 ∧ s.1 ≤ 100000000 + 1100000 * k) (fun b => 0 ≤ b ∧ b ≤ 180000000) t.fConds.length ⟨rfl, h0, by dsimp only; omega⟩
  (fun q s hq hI => ?_) (fun s hI => ?_) (by omega)
 ·obtain ⟨x, i⟩ := s
  obtain ⟨e1, e2, e3⟩ := hI
  dsimp only at e1 e2 e3
  subst e1
  have hm := mem_sz (f := emb_TI0) (List.getElem_mem hq)
  obtain ⟨w, g1, g2, g3⟩ := c_weight hn 13 n 0 t.fConds[q] (by omega) (by omega) (by omega)
  rw [show ((0 : Nat) : Int) = 0 from rfl] at g1
  unfold ref13_weight_s3 ref13_weightCond
  dsimp only
  rw [decide_eq_true (by omega), cT, getI_here hq, bnd, g1, bnd, need_i (by omega) (by omega), need_i (by omega) (by omega)]
  exact .inl ⟨_, rfl, by dsimp only; omega, by dsimp only; omega, by dsimp only; omega⟩
 ·obtain ⟨x, i⟩ := s
  obtain ⟨e1, e2, e3⟩ := hI
  dsimp only at e1 e2 e3
  subst e1
  unfold ref13_weight_s3
  dsimp only
  rw [decide_eq_false (by omega), cF]
  exact ⟨_, rfl, by omega, by omega⟩
theorem w_outs {n : Nat} (hn : 2000000 ≤ n) (t : TA0) (hb : dsz (emb_TA0 t) ≤ 1100000) (a : Int) : ∃ b, loopF (ref13_weight_s4 n t a) n (0 : Int) = some b := by
 have hs := szT t
 have hlen := len_sz (f := emb_TC0) t.fOuts
 obtain ⟨b, h, -⟩ := loop_inv (step := ref13_weight_s4 n t a) (n := n) (s0 := (0 : Int)) (fun k s => s = (k : Int)) (fun _ => True) t.fOuts.length rfl
  (fun q s hq hI => by
   subst hI
   have hm := mem_sz (f := emb_TC0) (List.getElem_mem hq)
   have ho := szO t.fOuts[q]
   obtain ⟨g, hg⟩ := great12 hn (x := t.fOuts[q].fE) (by omega)
   unfold ref13_weight_s4
   rw [decide_eq_true (by omega), cT, bnd]
   by_cases h6 : a < 4000
   ·rw [decide_eq_true h6, cT, getI_here hq, bnd, eta_X, hg, bnd]
    cases g with
    | true => rw [cT]; exact .inr ⟨_, rfl, trivial⟩
    | false => rw [cF, need_i (by omega) (by omega)]; exact .inl ⟨_, rfl, by simp⟩
   ·rw [decide_eq_false h6, cF]; exact .inr ⟨_, rfl, trivial⟩)
  (fun s hI => by subst hI; unfold ref13_weight_s4; rw [decide_eq_false (by omega), cF, bnd, cF]; exact ⟨_, rfl, trivial⟩) (by omega)
 exact ⟨b, h⟩
theorem w_props {n : Nat} (hn : 2000000 ≤ n) (t : TA0) (hb : dsz (emb_TA0 t) ≤ 1100000) (a : Int) {q : Nat} (hq : q < t.fRes.length) : ∃ b, loopF (ref13_weight_s6 n t (a, (q : Int))) n (0 : Int) = some b := by
 have hs := szT t
 have hm := mem_sz (f := emb_TB0) (List.getElem_mem hq)
 have hr := szR t.fRes[q]
 have hlen := len_sz (f := emb_TH0) t.fRes[q].fProps
 obtain ⟨b, h, -⟩ := loop_inv (step := ref13_weight_s6 n t (a, (q : Int))) (n := n) (s0 := (0 : Int)) (fun k s => s = (k : Int)) (fun _ => True) t.fRes[q].fProps.length rfl
  (fun j s hj hI => by
   subst hI
   have hm2 := mem_sz (f := emb_TH0) (List.getElem_mem hj)
   have hp := szPr t.fRes[q].fProps[j]
   obtain ⟨g, hg⟩ := great12 hn (x := t.fRes[q].fProps[j].fE) (by omega)
   unfold ref13_weight_s6
   dsimp only
   rw [getI_here hq, bnd, decide_eq_true (by omega), cT, bnd, getI_here hj, bnd, eta_X, hg, bnd]
   cases g with
   | true => rw [cT]; exact .inr ⟨_, rfl, trivial⟩
   | false => rw [cF, need_i (by omega) (by omega)]; exact .inl ⟨_, rfl, by simp⟩)
  (fun s hI => by subst hI; unfold ref13_weight_s6; dsimp only; rw [getI_here hq, bnd, decide_eq_false (by omega), cF]; exact ⟨_, rfl, trivial⟩) (by omega)
 exact ⟨b, h⟩
theorem t_weight {n : Nat} (hn : 2000000 ≤ n) : ∀ (left k d : Nat) (B : Int) (t : TA0), d + left = 5 → left < k → dsz (emb_TA0 t) ≤ 1100000 → B = 200000000 * 5 ^ left →
  ∃ w : Int, ref13_weight_k n k t (d : Int) = some w ∧ 0 ≤ w ∧ w ≤ B
 | left, k, d, B, t, hd, hk, hb, hB => by
  obtain ⟨k, rfl⟩ : ∃ r, k = r + 1 := ⟨k - 1, by omega⟩
  have hs := szT t
  have l1 := len_sz (f := emb_TD0) t.fParams
  have l2 := len_sz (f := emb_TI0) t.fConds
  have l3 := len_sz (f := emb_TB0) t.fRes
  have l4 := len_sz (f := emb_TC0) t.fOuts
  have hBs : 200000000 ≤ B ∧ B ≤ 625000000000 ∧ (0 < left → ∃ B' : Int, B' = 200000000 * 5 ^ (left - 1) ∧ B = 5 * B' ∧ 200000000 ≤ B') := by
   rcases (by omega : left = 0 ∨ left = 1 ∨ left = 2 ∨ left = 3 ∨ left = 4 ∨ left = 5) with rfl | rfl | rfl | rfl | rfl | rfl <;> subst hB <;> first | exact ⟨by decide, by decide, fun h => absurd h (by decide)⟩ | exact ⟨by decide, by decide, fun h => ⟨_, rfl, by decide, by decide⟩⟩
  obtain ⟨hB1, hB2, hB3⟩ := hBs
  unfold ref13_weight_k ref13_weight_b
  rw [need_i (by omega) (by omega), need_i (by omega) (by omega), need_i (by omega) (by omega)]
  by_cases h0 : left = 0
  ·rw [decide_eq_true (by omega), cT, bnd, cT]
   exact ⟨_, rfl, by omega, by omega⟩
  rw [decide_eq_false (by omega), cF, bnd]
  by_cases h5 : (60 : Int) < (((((t.fParams.length : Nat) : Int) + ((t.fConds.length : Nat) : Int)) + ((t.fRes.length : Nat) : Int)) + ((t.fOuts.length : Nat) : Int))
  ·rw [decide_eq_true h5, cT]
   exact ⟨_, rfl, by omega, by omega⟩
  rw [decide_eq_false h5, cF]
  obtain ⟨b, e1, p1⟩ := w_params hn t hb _ (by omega : (0 : Int) ≤ ((((t.fParams.length : Nat) : Int) + ((t.fConds.length : Nat) : Int)) + ((t.fRes.length : Nat) : Int)) + ((t.fOuts.length : Nat) : Int)) (by omega) (by omega)
  rw [e1, bnd]
  cases b with
  | inl u => exact ⟨_, rfl, by omega, by omega⟩
  | inr y6 =>
   obtain ⟨q1, q2⟩ := p1 _ rfl
   obtain ⟨y7, e2, q3, q4⟩ := w_conds hn t hb y6 q1 q2 (by omega)
   dsimp only
   rw [e2, bnd]
   obtain ⟨b, e3⟩ := w_outs hn t hb y7
   rw [e3, bnd]
   cases b with
   | inl u => exact ⟨_, rfl, by omega, by omega⟩
   | inr u =>
    dsimp only
    obtain ⟨B', hB', hBB, hBl⟩ := hB3 (by omega)
    obtain ⟨b, e4, p4⟩ := loop_inv (step := ref13_weight_s5 n (ref13_weight_k n k) t (d : Int)) (n := n) (s0 := (y7, (0 : Int))) (fun k s => s.2 = (k : Int) ∧ 0 ≤ s.1 ∧ s.1 ≤ B) (fun b => ∀ y, b = .inr y → 0 ≤ y ∧ y ≤ B) t.fRes.length ⟨rfl, q3, by dsimp only; omega⟩
     (fun q s hq hI => by
      obtain ⟨x, i⟩ := s
      obtain ⟨e1, e2, e3⟩ := hI
      dsimp only at e1 e2 e3
      subst e1
      have hm := mem_sz (f := emb_TB0) (List.getElem_mem hq)
      have hr := szR t.fRes[q]
      have m1 := len_sz (f := emb_TH0) t.fRes[q].fProps
      have m2 := len_sz (f := Dat.str) t.fRes[q].fDepends
      have m3 := len_sz (f := emb_TA0) t.fRes[q].fInner
      unfold ref13_weight_s5
      dsimp only
      rw [decide_eq_true (by omega), cT, bnd]
      by_cases h6 : x < 4000
      ·rw [decide_eq_true h6, cT, getI_here hq, bnd, need_i (by omega) (by omega), bnd, need_i (by omega) (by omega), bnd, need_i (by omega) (by omega), bnd]
       by_cases h7 : (60 : Int) < ((t.fRes[q].fProps.length : Nat) : Int)
       ·rw [decide_eq_true h7, cT, bnd, cT]; exact .inr ⟨_, rfl, fun y h => by cases h⟩
       rw [decide_eq_false h7, cF, bnd]
       by_cases h8 : (60 : Int) < ((t.fRes[q].fDepends.length : Nat) : Int)
       ·rw [decide_eq_true h8, cT, bnd, cT]; exact .inr ⟨_, rfl, fun y h => by cases h⟩
       rw [decide_eq_false h8, cF, bnd, bnd]
       by_cases h9 : (4 : Int) < ((t.fRes[q].fInner.length : Nat) : Int)
       ·rw [decide_eq_true h9, cT]; exact .inr ⟨_, rfl, fun y h => by cases h⟩
       rw [decide_eq_false h9, cF]
       obtain ⟨b, hb1⟩ := w_props hn t hb x hq
       rw [hb1, bnd]
       cases b with
       | inl u => exact .inr ⟨_, rfl, fun y h => by cases h⟩
       | inr u =>
        dsimp only
        obtain ⟨z, hz, hz1, hz2⟩ := loop_inv (step := ref13_weight_s7 n (ref13_weight_k n k) t (d : Int) (x, (q : Int))) (n := n) (s0 := (((x + ((t.fRes[q].fProps.length : Nat) : Int)) + ((t.fRes[q].fDepends.length : Nat) : Int)) + ((t.fRes[q].fInner.length : Nat) : Int), (0 : Int)))
         (fun k s => s.2 = (k : Int) ∧ 0 ≤ s.1 ∧ s.1 ≤ 5000 + B' * k) (fun b => 0 ≤ b ∧ b ≤ 5000 + B' * t.fRes[q].fInner.length) t.fRes[q].fInner.length ⟨rfl, by dsimp only; omega, by dsimp only; simp; omega⟩
         (fun j s hj hI => by
          obtain ⟨y, i⟩ := s
          obtain ⟨f1, f2, f3⟩ := hI
          dsimp only at f1 f2 f3
          subst f1
          have hm2 := mem_sz (f := emb_TA0) (List.getElem_mem hj)
          obtain ⟨w, g1, g2, g3⟩ := t_weight hn (left - 1) k (d + 1) B' t.fRes[q].fInner[j] (by omega) (by omega) (by omega) hB'
          have e : (d : Int) + 1 = ((d + 1 : Nat) : Int) := by omega
          have hj4 : B' * (j : Int) ≤ B' * 4 := Int.mul_le_mul_of_nonneg_left (by omega) (by omega)
          have hjm : B' * ((j + 1 : Nat) : Int) = B' * (j : Int) + B' := by push_cast; rw [Int.mul_add, Int.mul_one]
          unfold ref13_weight_s7
          dsimp only
          rw [getI_here hq, bnd, decide_eq_true (by omega), cT, bnd, getI_here hj, bnd, need_i (by omega) (by omega), e, g1, bnd, need_i (by omega) (by omega), need_i (by omega) (by omega)]
          exact .inl ⟨_, rfl, by dsimp only; omega, by dsimp only; omega, by dsimp only; omega⟩)
         (fun s hI => by
          obtain ⟨y, i⟩ := s
          obtain ⟨f1, f2, f3⟩ := hI
          dsimp only at f1 f2 f3
          subst f1
          unfold ref13_weight_s7
          dsimp only
          rw [getI_here hq, bnd, decide_eq_false (by omega), cF]
          exact ⟨_, rfl, f2, f3⟩) (by omega)
        have hj4 : B' * (t.fRes[q].fInner.length : Int) ≤ B' * 4 := Int.mul_le_mul_of_nonneg_left (by omega) (by omega)
        rw [hz, bnd, need_i (by omega) (by omega)]
        exact .inl ⟨_, rfl, by dsimp only; omega, by dsimp only; omega, by dsimp only; omega⟩
      ·rw [decide_eq_false h6, cF]
       exact .inr ⟨_, rfl, fun y h => by cases h; omega⟩)
     (fun s hI => by
      obtain ⟨x, i⟩ := s
      obtain ⟨e1, e2, e3⟩ := hI
      dsimp only at e1 e2 e3
      subst e1
      unfold ref13_weight_s5
      dsimp only
      rw [decide_eq_false (by omega), cF, bnd, cF]
      exact ⟨_, rfl, fun y h => by cases h; omega⟩) (by omega)
    rw [e4, bnd]
    cases b with
    | inl u => exact ⟨_, rfl, by omega, by omega⟩
    | inr y17 => exact ⟨_, rfl, (p4 _ rfl).1, (p4 _ rfl).2⟩
theorem great13 {n : Nat} (hn : 2000000 ≤ n) (t : TA0) (hb : dsz (emb_TA0 t) ≤ 1100000) : ∃ g, ref13_Great n t = some g := by
 obtain ⟨w, g1, -⟩ := t_weight hn 5 n 0 _ t rfl (by omega) hb rfl
 rw [show ((0 : Nat) : Int) = 0 from rfl] at g1
 unfold ref13_Great ref13_weight
 rw [g1, bnd]
 exact ⟨_, rfl⟩
def law16_wakes (n : Nat) : Option Bool :=
  (refs_Resources n (⟨(7 : Int), ([] : List UInt8), (0 : Int), ([] : List UInt8), ([] : List UInt8), [(⟨(2 : Int), ([] : List UInt8), (0 : Int), ([] : List UInt8), ([] : List UInt8), [(⟨(3 : Int), ([] : List UInt8), (0 : Int), [66], ([] : List UInt8), ([] : List TF0)⟩ : TF0), (⟨(4 : Int), ([] : List UInt8), (0 : Int), [65], [65, 114, 110], ([] : List TF0)⟩ : TF0)]⟩ : TF0)]⟩ : TF0)).bind fun x_1 =>
  (refs_Check n (⟨([] : List TD0), ([] : List TI0), [(⟨[65], [68, 105, 115, 107], ([] : List UInt8), ([] : List TH0), ([] : List (List UInt8)), (false), ([] : List TA0)⟩ : TB0), (⟨[66], [68, 105, 115, 99], ([] : List UInt8), ([] : List TH0), ([] : List (List UInt8)), (false), ([] : List TA0)⟩ : TB0)], ([] : List TC0)⟩ : TA0)).bind fun x_2 =>
  bif (decide (((x_1.length : Nat) : Int) = 2)) then
    ((getI x_1 (0 : Int)).bind fun x_3 =>
    bif (decide (x_3 = [65])) then
      ((getI x_1 (1 : Int)).bind fun x_4 =>
      bif (decide (x_4 = [66])) then
        (bif (decide (x_2.1 = [82, 101, 115, 111, 117, 114, 99, 101, 115, 47, 66])) then
          (some ((decide (x_2.2 = 90))))
        else
          some ((false)))
      else
        some ((false)))
    else
      some ((false)))
  else
    some ((false))
set_option maxRecDepth 20000 in
theorem law16_wakes_ok (n : Nat) (M : Mem)  (r : Bool) (hF : law16_wakes n = some r) : Ok Try.prog M 7 [] (fun _ v => v = .bool r) := by
 unfold law16_wakes at hF
 intro M1 hM0 w0 H w p0
 refine R_enter 46 Try.func7 rfl rfl (by simp) fun a0 f0 => RR (Y f0 1 fun _ f => eT (RR (Y f 1 fun _ f => Y12 f p0 (.cells #[.int .i8 0, S [], .int .i64 0, S [], S [], .slice none 0 0] 37 (0, 0)) fun b_1 w_1 p_1 _ f => Y23 (vs := [.int .i8 3, S [], .int .i64 0, S [66], S [], .slice none 0 0]) (j := 0) f p_1 rfl rfl (by simp [Value.oneCell', S]) (by simp) (by decide) (cs' := #[.int .i8 3, S [], .int .i64 0, S [66], S [], .slice none 0 0]) (by kernel_rfl) fun w_2 p_2 _ f => eT (RR (Y f 1 fun _ f => Y12 f p_2 (.cells #[.int .i8 0, S [], .int .i64 0, S [], S [], .slice none 0 0] 37 (0, 0)) fun b_2 w_3 p_3 _ f => Y23 (vs := [.int .i8 4, S [], .int .i64 0, S [65], S [65, 114, 110], .slice none 0 0]) (j := 0) f p_3 rfl rfl (by simp [Value.oneCell', S]) (by simp) (by decide) (cs' := #[.int .i8 4, S [], .int .i64 0, S [65], S [65, 114, 110], .slice none 0 0]) (by kernel_rfl) fun w_4 p_4 _ f => ?_)))))
 refine eT (RR (Z (v := .agg #[.int .i8 3, S [], .int .i64 0, S [66], S [], .slice none 0 0]) f (Y28 (cs := [.int .i8 3, S [], .int .i64 0, S [66], S [], .slice none 0 0]) rfl (ad := ⟨b_1, 0, none⟩) (own_cells (p_4.ownCell 1 rfl) 0 rfl)) fun _ f => Z (v := .agg #[.int .i8 4, S [], .int .i64 0, S [65], S [65, 114, 110], .slice none 0 0]) f (Y28 (cs := [.int .i8 4, S [], .int .i64 0, S [65], S [65, 114, 110], .slice none 0 0]) rfl (ad := ⟨b_2, 0, none⟩) (own_cells (p_4.ownCell 0 rfl) 0 rfl)) fun _ f => V_allocS (k := 2) (c := 2) f p_4 (.cells #[.int .i8 3, S [], .int .i64 0, S [66], S [], .slice none 0 0, .int .i8 4, S [], .int .i64 0, S [65], S [65, 114, 110], .slice none 0 0] 37 (0, 0)) (by kernel_rfl) (fun _ => by kernel_rfl) fun b_3 w_5 p_5 _ f => Y f 1 fun _ f => V_allocS (k := 1) (c := 1) f p_5 (.cells #[.int .i8 2, S [], .int .i64 0, S [], S [], .slice (some ⟨b_3, 0, none⟩) 2 2] 37 (0, 0)) (by kernel_rfl) (fun _ => by kernel_rfl) fun b_4 w_6 p_6 _ f => Y f 1 fun _ f => ?_))
 have p_7 := p_6.pl [1]
 have hr_1 : RepSeq M1 ([(⟨(3 : Int), ([] : List UInt8), (0 : Int), [66], ([] : List UInt8), ([] : List TF0)⟩ : TF0), (⟨(4 : Int), ([] : List UInt8), (0 : Int), [65], [65, 114, 110], ([] : List TF0)⟩ : TF0)].map emb_TF0) [.int .i8 3, S [], .int .i64 0, S [66], S [], .slice none 0 0, .int .i8 4, S [], .int .i64 0, S [65], S [65, 114, 110], .slice none 0 0] := ⟨_, _, rfl, TF0.shut Sli.nil, ⟨_, _, rfl, TF0.shut Sli.nil, rfl⟩⟩
 have p_8 : Hp w0 M1 ((Ent.row 37 6 (.slice (some ⟨b_3, 0, none⟩) 2 2) [(⟨(3 : Int), ([] : List UInt8), (0 : Int), [66], ([] : List UInt8), ([] : List TF0)⟩ : TF0), (⟨(4 : Int), ([] : List UInt8), (0 : Int), [65], [65, 114, 110], ([] : List TF0)⟩ : TF0)].length [.int .i8 3, S [], .int .i64 0, S [66], S [], .slice none 0 0, .int .i8 4, S [], .int .i64 0, S [65], S [65, 114, 110], .slice none 0 0]) :: (Ent.obj b_4 (.cells #[.int .i8 2, S [], .int .i64 0, S [], S [], .slice (some ⟨b_3, 0, none⟩) 2 2] 37 (0, 0))) :: (Ent.obj b_2 (.cells #[.int .i8 4, S [], .int .i64 0, S [65], S [65, 114, 110], .slice none 0 0] 37 (0, 0))) :: (Ent.obj b_1 (.cells #[.int .i8 3, S [], .int .i64 0, S [66], S [], .slice none 0 0] 37 (0, 0))) :: H) w_6 := p_7.objRow (n := 2) (cap := 2) (size := 6) (by decide) (by decide) (blk_eq (by decide) rfl) rfl rfl
 obtain ⟨A_1, cap_1, M_1, hv_1, hM_1, p_9, h_1⟩ := p_8.rowSli (f := emb_TF0) (xs := [(⟨(3 : Int), ([] : List UInt8), (0 : Int), [66], ([] : List UInt8), ([] : List TF0)⟩ : TF0), (⟨(4 : Int), ([] : List UInt8), (0 : Int), [65], [65, 114, 110], ([] : List TF0)⟩ : TF0)]) szd_TF0 hr_1
 have p_10 : Hp w0 M_1 ((Ent.obj b_4 (.cells #[.int .i8 2, S [], .int .i64 0, S [], S [], .slice A_1 [(⟨(3 : Int), ([] : List UInt8), (0 : Int), [66], ([] : List UInt8), ([] : List TF0)⟩ : TF0), (⟨(4 : Int), ([] : List UInt8), (0 : Int), [65], [65, 114, 110], ([] : List TF0)⟩ : TF0)].length cap_1] 37 (0, 0))) :: (Ent.obj b_2 (.cells #[.int .i8 4, S [], .int .i64 0, S [65], S [65, 114, 110], .slice none 0 0] 37 (0, 0))) :: (Ent.obj b_1 (.cells #[.int .i8 3, S [], .int .i64 0, S [66], S [], .slice none 0 0] 37 (0, 0))) :: H) w_6 := by rw [hv_1] at p_9; exact p_9
 have hr_2 : RepSeq M_1 ([(⟨(2 : Int), ([] : List UInt8), (0 : Int), ([] : List UInt8), ([] : List UInt8), [(⟨(3 : Int), ([] : List UInt8), (0 : Int), [66], ([] : List UInt8), ([] : List TF0)⟩ : TF0), (⟨(4 : Int), ([] : List UInt8), (0 : Int), [65], [65, 114, 110], ([] : List TF0)⟩ : TF0)]⟩ : TF0)].map emb_TF0) [.int .i8 2, S [], .int .i64 0, S [], S [], .slice A_1 [(⟨(3 : Int), ([] : List UInt8), (0 : Int), [66], ([] : List UInt8), ([] : List TF0)⟩ : TF0), (⟨(4 : Int), ([] : List UInt8), (0 : Int), [65], [65, 114, 110], ([] : List TF0)⟩ : TF0)].length cap_1] := ⟨_, _, rfl, TF0.shut h_1, rfl⟩
 have p_11 : Hp w0 M_1 ((Ent.row 37 6 (.slice (some ⟨b_4, 0, none⟩) 1 1) [(⟨(2 : Int), ([] : List UInt8), (0 : Int), ([] : List UInt8), ([] : List UInt8), [(⟨(3 : Int), ([] : List UInt8), (0 : Int), [66], ([] : List UInt8), ([] : List TF0)⟩ : TF0), (⟨(4 : Int), ([] : List UInt8), (0 : Int), [65], [65, 114, 110], ([] : List TF0)⟩ : TF0)]⟩ : TF0)].length [.int .i8 2, S [], .int .i64 0, S [], S [], .slice A_1 [(⟨(3 : Int), ([] : List UInt8), (0 : Int), [66], ([] : List UInt8), ([] : List TF0)⟩ : TF0), (⟨(4 : Int), ([] : List UInt8), (0 : Int), [65], [65, 114, 110], ([] : List TF0)⟩ : TF0)].length cap_1]) :: (Ent.obj b_2 (.cells #[.int .i8 4, S [], .int .i64 0, S [65], S [65, 114, 110], .slice none 0 0] 37 (0, 0))) :: (Ent.obj b_1 (.cells #[.int .i8 3, S [], .int .i64 0, S [66], S [], .slice none 0 0] 37 (0, 0))) :: H) w_6 := p_10.objRow (n := 1) (cap := 1) (size := 6) (by decide) (by decide) (blk_eq (by decide) rfl) rfl rfl
 obtain ⟨A_2, cap_2, M_2, hv_2, hM_2, p_12, h_2⟩ := p_11.rowSli (f := emb_TF0) (xs := [(⟨(2 : Int), ([] : List UInt8), (0 : Int), ([] : List UInt8), ([] : List UInt8), [(⟨(3 : Int), ([] : List UInt8), (0 : Int), [66], ([] : List UInt8), ([] : List TF0)⟩ : TF0), (⟨(4 : Int), ([] : List UInt8), (0 : Int), [65], [65, 114, 110], ([] : List TF0)⟩ : TF0)]⟩ : TF0)]) szd_TF0 hr_2
 have f := Frm.set f 13 (v := .agg #[.int .i8 7, S [], .int .i64 0, S [], S [], .slice (some ⟨b_4, 0, none⟩) 1 1]) (v' := .agg #[.int .i8 7, S [], .int .i64 0, S [], S [], .slice A_2 [(⟨(2 : Int), ([] : List UInt8), (0 : Int), ([] : List UInt8), ([] : List UInt8), [(⟨(3 : Int), ([] : List UInt8), (0 : Int), [66], ([] : List UInt8), ([] : List TF0)⟩ : TF0), (⟨(4 : Int), ([] : List UInt8), (0 : Int), [65], [65, 114, 110], ([] : List TF0)⟩ : TF0)]⟩ : TF0)].length cap_2]) (by kernel_rfl) (by rw [hv_2])
 obtain ⟨x_1, hx_1, hF_1⟩ := bS hF
 refine Y17 (E := []) (H := ((Ent.obj b_2 (.cells #[.int .i8 4, S [], .int .i64 0, S [65], S [65, 114, 110], .slice none 0 0] 37 (0, 0))) :: (Ent.obj b_1 (.cells #[.int .i8 3, S [], .int .i64 0, S [66], S [], .slice none 0 0] 37 (0, 0))) :: H)) f p_12 (refs_Resources_ok n _ _ (⟨(7 : Int), ([] : List UInt8), (0 : Int), ([] : List UInt8), ([] : List UInt8), [(⟨(2 : Int), ([] : List UInt8), (0 : Int), ([] : List UInt8), ([] : List UInt8), [(⟨(3 : Int), ([] : List UInt8), (0 : Int), [66], ([] : List UInt8), ([] : List TF0)⟩ : TF0), (⟨(4 : Int), ([] : List UInt8), (0 : Int), [65], [65, 114, 110], ([] : List TF0)⟩ : TF0)]⟩ : TF0)]⟩ : TF0) (TF0.shut h_2) x_1 hx_1) fun _ M_3 E_1 w_7 hM_3 p_13 q_1 _ f => ?_
 obtain ⟨A_3, cap_3, cs_1, rfl, rfl, hr_3⟩ := q_1
 refine Y f 1 fun _ f => eT (RR (Y f 2 fun _ f => V_allocS (k := 2) (c := 2) f p_13 (.cells #[S [65], S [68, 105, 115, 107], S [], .slice none 0 0, .slice none 0 0, .bool false, .slice none 0 0, S [66], S [68, 105, 115, 99], S [], .slice none 0 0, .slice none 0 0, .bool false, .slice none 0 0] 49 (0, 0)) (by kernel_rfl) (fun _ => by kernel_rfl) fun b_5 w_8 p_14 _ f => Y f 1 fun _ f => ?_))
 have hr_4 : RepSeq M_3 ([(⟨[65], [68, 105, 115, 107], ([] : List UInt8), ([] : List TH0), ([] : List (List UInt8)), (false), ([] : List TA0)⟩ : TB0), (⟨[66], [68, 105, 115, 99], ([] : List UInt8), ([] : List TH0), ([] : List (List UInt8)), (false), ([] : List TA0)⟩ : TB0)].map emb_TB0) [S [65], S [68, 105, 115, 107], S [], .slice none 0 0, .slice none 0 0, .bool false, .slice none 0 0, S [66], S [68, 105, 115, 99], S [], .slice none 0 0, .slice none 0 0, .bool false, .slice none 0 0] := ⟨_, _, rfl, TB0.shut Sli.nil Sli.nil Sli.nil, ⟨_, _, rfl, TB0.shut Sli.nil Sli.nil Sli.nil, rfl⟩⟩
 have p_15 : Hp w0 M_3 ((Ent.row 49 7 (.slice (some ⟨b_5, 0, none⟩) 2 2) [(⟨[65], [68, 105, 115, 107], ([] : List UInt8), ([] : List TH0), ([] : List (List UInt8)), (false), ([] : List TA0)⟩ : TB0), (⟨[66], [68, 105, 115, 99], ([] : List UInt8), ([] : List TH0), ([] : List (List UInt8)), (false), ([] : List TA0)⟩ : TB0)].length [S [65], S [68, 105, 115, 107], S [], .slice none 0 0, .slice none 0 0, .bool false, .slice none 0 0, S [66], S [68, 105, 115, 99], S [], .slice none 0 0, .slice none 0 0, .bool false, .slice none 0 0]) :: (Ent.row 9 1 (.slice A_3 x_1.length cap_3) x_1.length cs_1) :: (Ent.obj b_2 (.cells #[.int .i8 4, S [], .int .i64 0, S [65], S [65, 114, 110], .slice none 0 0] 37 (0, 0))) :: (Ent.obj b_1 (.cells #[.int .i8 3, S [], .int .i64 0, S [66], S [], .slice none 0 0] 37 (0, 0))) :: H) w_8 := p_14.objRow (n := 2) (cap := 2) (size := 7) (by decide) (by decide) (blk_eq (by decide) rfl) rfl rfl
 obtain ⟨A_4, cap_4, M_4, hv_3, hM_4, p_16, h_3⟩ := p_15.rowSli (f := emb_TB0) (xs := [(⟨[65], [68, 105, 115, 107], ([] : List UInt8), ([] : List TH0), ([] : List (List UInt8)), (false), ([] : List TA0)⟩ : TB0), (⟨[66], [68, 105, 115, 99], ([] : List UInt8), ([] : List TH0), ([] : List (List UInt8)), (false), ([] : List TA0)⟩ : TB0)]) szd_TB0 hr_4
 have f := Frm.set f 19 (v := .agg #[.slice none 0 0, .slice none 0 0, .slice (some ⟨b_5, 0, none⟩) 2 2, .slice none 0 0]) (v' := .agg #[.slice none 0 0, .slice none 0 0, .slice A_4 [(⟨[65], [68, 105, 115, 107], ([] : List UInt8), ([] : List TH0), ([] : List (List UInt8)), (false), ([] : List TA0)⟩ : TB0), (⟨[66], [68, 105, 115, 99], ([] : List UInt8), ([] : List TH0), ([] : List (List UInt8)), (false), ([] : List TA0)⟩ : TB0)].length cap_4, .slice none 0 0]) (by kernel_rfl) (by rw [hv_3])
 obtain ⟨x_2, hx_2, hF_2⟩ := bS hF_1
 refine Y18 f p_16 (refs_Check_ok n _ _ (⟨([] : List TD0), ([] : List TI0), [(⟨[65], [68, 105, 115, 107], ([] : List UInt8), ([] : List TH0), ([] : List (List UInt8)), (false), ([] : List TA0)⟩ : TB0), (⟨[66], [68, 105, 115, 99], ([] : List UInt8), ([] : List TH0), ([] : List (List UInt8)), (false), ([] : List TA0)⟩ : TB0)], ([] : List TC0)⟩ : TA0) (TA0.shut Sli.nil Sli.nil h_3 Sli.nil) x_2 hx_2) fun w_9 p_17 _ f => Y f 5 fun _ f => eT (RR (Y f 4 fun _ f => ?_))
 rcases cE hF_2 with ⟨h_4, hF_3⟩ | ⟨h_4, hF_12⟩
 ·have k_1 := dI.1 h_4
  have f := f.st 26 (cB h_4)
  refine Y f 1 fun _ f => ?_
  obtain ⟨x_3, hx_3, hF_4⟩ := bS hF_3
  obtain ⟨b_6, cap_5, hv_4, hcap_1⟩ := p_17.rowAddr 0 rfl (getI_pos hx_3)
  have f := f.st 27 (hv_4)
  refine Z f (Y25 rfl (ad := ⟨b_6, 0, none⟩) (len := x_1.length) (cap := cap_5) (k := .i64) (i := (0 : Int)) (e := 9) (sz := 1) (getI_nn hx_3) (getI_lt hx_3)) fun _ f => ?_
  have f := f.st 27 (hv_4.symm)
  obtain ⟨c_1, -, hr_5, hc_1⟩ := RepSeq.get (0 : Int).toNat (szd_all szd_str) (RepSeq.mono hM_4 _ _ hr_3) (getI_map hx_3)
  obtain rfl : c_1 = [S x_3] := hr_5
  refine Z f (Y27 (v := S x_3) rfl (ad := (⟨b_6, 0, none⟩ : Addr).add ((0 : Int).toNat * 1)) (by simpa [Addr.add] using (fun j v h => row_at (p_17.rowCell 0 rfl hv_4) hc_1 j v h) 0 _ rfl)) fun _ f => Z f (Y31 rfl (l := x_3) (m := [65])) fun _ f => Y f 2 fun _ f => ?_
  rcases cE hF_4 with ⟨h_5, hF_5⟩ | ⟨h_5, hF_11⟩
  ·have k_2 := dI.1 h_5
   have f := f.st 32 (cB h_5)
   refine Y f 1 fun _ f => ?_
   obtain ⟨x_4, hx_4, hF_6⟩ := bS hF_5
   obtain ⟨b_7, cap_6, hv_5, hcap_2⟩ := p_17.rowAddr 0 rfl (getI_pos hx_4)
   have f := f.st 33 (hv_5)
   refine Z f (Y25 rfl (ad := ⟨b_7, 0, none⟩) (len := x_1.length) (cap := cap_6) (k := .i64) (i := (1 : Int)) (e := 9) (sz := 1) (getI_nn hx_4) (getI_lt hx_4)) fun _ f => ?_
   have f := f.st 33 (hv_5.symm)
   obtain ⟨c_2, -, hr_6, hc_2⟩ := RepSeq.get (1 : Int).toNat (szd_all szd_str) (RepSeq.mono hM_4 _ _ hr_3) (getI_map hx_4)
   obtain rfl : c_2 = [S x_4] := hr_6
   refine Z f (Y27 (v := S x_4) rfl (ad := (⟨b_7, 0, none⟩ : Addr).add ((1 : Int).toNat * 1)) (by simpa [Addr.add] using (fun j v h => row_at (p_17.rowCell 0 rfl hv_5) hc_2 j v h) 0 _ rfl)) fun _ f => Z f (Y31 rfl (l := x_4) (m := [66])) fun _ f => Y f 2 fun _ f => ?_
   rcases cE hF_6 with ⟨h_6, hF_7⟩ | ⟨h_6, hF_10⟩
   ·have k_3 := dI.1 h_6
    have f := f.st 38 (cB h_6)
    refine Y f 1 fun _ f => Z f (Y31 rfl (l := x_2.1) (m := [82, 101, 115, 111, 117, 114, 99, 101, 115, 47, 66])) fun _ f => Y f 2 fun _ f => ?_
    rcases cE hF_7 with ⟨h_7, hF_8⟩ | ⟨h_7, hF_9⟩
    ·have k_4 := dI.1 h_7
     have f := f.st 42 (cB h_7)
     refine Y f 4 fun _ f => eT (wp_ret (E_ret1 f rfl (by kernel_rfl : Vc.look _ 0 = some (.bool (decide (x_2.2 = 90)))) ?_))
     obtain rfl := sI hF_8
     exact ⟨_, rfl, M_4, (((hM_1.trans hM_2).trans hM_3).trans hM_4), (p_17.dropN 3), rfl⟩
    ·have k_5 := iff_f dI h_7
     have f := f.st 42 (cB h_7)
     refine Y f 4 fun _ f => eT (wp_ret (E_ret1 f rfl (by kernel_rfl : Vc.look _ 0 = some (.bool false)) ?_))
     obtain rfl := sI hF_9
     exact ⟨_, rfl, M_4, (((hM_1.trans hM_2).trans hM_3).trans hM_4), (p_17.dropN 3), rfl⟩
   ·have k_6 := iff_f dI h_6
    have f := f.st 38 (cB h_6)
    refine Y f 8 fun _ f => eT (wp_ret (E_ret1 f rfl (by kernel_rfl : Vc.look _ 0 = some (.bool false)) ?_))
    obtain rfl := sI hF_10
    exact ⟨_, rfl, M_4, (((hM_1.trans hM_2).trans hM_3).trans hM_4), (p_17.dropN 3), rfl⟩
  ·have k_7 := iff_f dI h_5
   have f := f.st 32 (cB h_5)
   refine Y f 14 fun _ f => eT (wp_ret (E_ret1 f rfl (by kernel_rfl : Vc.look _ 0 = some (.bool false)) ?_))
   obtain rfl := sI hF_11
   exact ⟨_, rfl, M_4, (((hM_1.trans hM_2).trans hM_3).trans hM_4), (p_17.dropN 3), rfl⟩
 ·have k_8 := iff_f dI h_4
  have f := f.st 26 (cB h_4)
  refine Y f 20 fun _ f => eT (wp_ret (E_ret1 f rfl (by kernel_rfl : Vc.look _ 0 = some (.bool false)) ?_))
  obtain rfl := sI hF_12
  exact ⟨_, rfl, M_4, (((hM_1.trans hM_2).trans hM_3).trans hM_4), (p_17.dropN 3), rfl⟩
def law16_RefsThere (n : Nat) (d0 : TA0) : Option Bool :=
  (ref13_Great n d0).bind fun x_1 =>
  bif x_1 then
    ((law16_wakes n).bind fun x_2 =>
    some ((x_2)))
  else
    (refs_Check n d0).bind fun x_3 =>
    bif (!(decide (x_3.2 = 0))) then
      ((law16_wakes n).bind fun x_4 =>
      some ((x_4)))
    else
      (law16_there n d0 (0 : Int)).bind fun x_5 =>
      bif x_5 then
        ((law16_wakes n).bind fun x_6 =>
        some ((x_6)))
      else
        some ((false))
theorem law16_RefsThere_ok (n : Nat) (M : Mem) (c0 : List Value) (d0 : TA0) (h0 : Rep M (emb_TA0 d0) c0) (r : Bool) (hF : law16_RefsThere n d0 = some r) : Ok Try.prog M 4 [.agg c0.toArray] (fun _ v => v = .bool r) := by
 unfold law16_RefsThere at hF
 intro M1 hM0 w0 H w p0
 replace h0 := Rep.mono hM0 _ _ h0
 obtain ⟨A_1, cap_1, A_2, cap_2, A_3, cap_3, A_4, cap_4, rfl, h_1, h_2, h_3, h_4⟩ := TA0.opn h0
 refine R_enter 22 Try.func4 rfl rfl (by simp) fun a0 f0 => RR (Y13 (cs := #[.slice A_1 d0.fParams.length cap_1, .slice A_2 d0.fConds.length cap_2, .slice A_3 d0.fRes.length cap_3, .slice A_4 d0.fOuts.length cap_4]) (T := 27) f0 p0 fun b_1 M_1 w_1 hM_1 hc_1 p_1 _ f => ?_)
 have hc_2 := fz_box hc_1
 refine Y f 1 fun _ f => eT (R_seq (RR (Z (v := .agg #[.slice A_1 d0.fParams.length cap_1, .slice A_2 d0.fConds.length cap_2, .slice A_3 d0.fRes.length cap_3, .slice A_4 d0.fOuts.length cap_4]) f (Y28 (cs := [.slice A_1 d0.fParams.length cap_1, .slice A_2 d0.fConds.length cap_2, .slice A_3 d0.fRes.length cap_3, .slice A_4 d0.fOuts.length cap_4]) rfl (ad := ⟨b_1, 0, none⟩) (fun j v h => p_1.cell (hc_2 j v h))) fun _ f => ?_)))
 obtain ⟨x_1, hx_1, hF_1⟩ := bS hF
 refine Y18 f p_1 (ref13_Great_ok n _ _ d0 (TA0.shutx (x := d0) (h_1.mono hM_1) (h_2.mono hM_1) (h_3.mono hM_1) (h_4.mono hM_1)) x_1 hx_1) fun w_2 p_2 _ f => eT (RcF f hF_1 (fun h_5 hF_2 => ?_) fun h_5 hF_4 => ?_)
 ·refine RR ?_
  obtain ⟨x_2, hx_2, hF_3⟩ := bS hF_2
  refine Y18 f p_2 (law16_wakes_ok n _  x_2 hx_2) fun w_3 p_3 _ f => Y f 1 fun _ f => eT (wp_ret (T_r (E_ret1 f rfl (by kernel_rfl : Vc.look _ 2 = some (.bool x_2)) ?_)))
  obtain rfl := sI hF_3
  exact ⟨_, rfl, M_1, hM_1, p_3, rfl⟩
 ·refine wp_skip (T_n (RR (Z (v := .agg #[.slice A_1 d0.fParams.length cap_1, .slice A_2 d0.fConds.length cap_2, .slice A_3 d0.fRes.length cap_3, .slice A_4 d0.fOuts.length cap_4]) f (Y28 (cs := [.slice A_1 d0.fParams.length cap_1, .slice A_2 d0.fConds.length cap_2, .slice A_3 d0.fRes.length cap_3, .slice A_4 d0.fOuts.length cap_4]) rfl (ad := ⟨b_1, 0, none⟩) (fun j v h => p_2.cell (hc_2 j v h))) fun _ f => ?_)))
  obtain ⟨x_3, hx_3, hF_5⟩ := bS hF_4
  refine Y18 f p_2 (refs_Check_ok n _ _ d0 (TA0.shutx (x := d0) (h_1.mono hM_1) (h_2.mono hM_1) (h_3.mono hM_1) (h_4.mono hM_1)) x_3 hx_3) fun w_4 p_4 _ f => Y f 5 fun _ f => eT (RR (Y f 3 fun _ f => ?_))
  rcases cE hF_5 with ⟨h_6, hF_6⟩ | ⟨h_6, hF_8⟩
  ·have k_3 : ¬ (x_3.2 = 0) := (not_iff dI).1 h_6
   have f := f.st 15 (cB h_6)
   refine Y f 4 fun _ f => ?_
   obtain ⟨x_4, hx_4, hF_7⟩ := bS hF_6
   refine Y18 f p_4 (law16_wakes_ok n _  x_4 hx_4) fun w_5 p_5 _ f => Y f 2 fun _ f => eT (wp_ret (E_ret1 f rfl (by kernel_rfl : Vc.look _ 2 = some (.bool x_4)) ?_))
   obtain rfl := sI hF_7
   exact ⟨_, rfl, M_1, hM_1, p_5, rfl⟩
  ·have k_4 : ¬ (¬ (x_3.2 = 0)) := iff_f (not_iff dI) h_6
   have f := f.st 15 (cB h_6)
   refine Z (v := .agg #[.slice A_1 d0.fParams.length cap_1, .slice A_2 d0.fConds.length cap_2, .slice A_3 d0.fRes.length cap_3, .slice A_4 d0.fOuts.length cap_4]) f (Y28 (cs := [.slice A_1 d0.fParams.length cap_1, .slice A_2 d0.fConds.length cap_2, .slice A_3 d0.fRes.length cap_3, .slice A_4 d0.fOuts.length cap_4]) rfl (ad := ⟨b_1, 0, none⟩) (fun j v h => p_4.cell (hc_2 j v h))) fun _ f => ?_
   obtain ⟨x_5, hx_5, hF_9⟩ := bS hF_8
   refine Y18 f p_4 (law16_there_ok n _ _ d0 (TA0.shutx (x := d0) (h_1.mono hM_1) (h_2.mono hM_1) (h_3.mono hM_1) (h_4.mono hM_1)) (0 : Int) x_5 hx_5) fun w_6 p_6 _ f => Y f 2 fun _ f => ?_
   rcases cE hF_9 with ⟨h_7, hF_10⟩ | ⟨h_7, hF_12⟩
   ·have f := f.st 19 (cB h_7)
    obtain ⟨x_6, hx_6, hF_11⟩ := bS hF_10
    refine Y18 f p_6 (law16_wakes_ok n _  x_6 hx_6) fun w_7 p_7 _ f => Y f 2 fun _ f => eT (wp_ret (E_ret1 f rfl (by kernel_rfl : Vc.look _ 2 = some (.bool x_6)) ?_))
    obtain rfl := sI hF_11
    exact ⟨_, rfl, M_1, hM_1, p_7, rfl⟩
   ·have f := f.st 19 (cB h_7)
    refine Y f 3 fun _ f => eT (wp_ret (E_ret1 f rfl (by kernel_rfl : Vc.look _ 2 = some (.bool false)) ?_))
    obtain rfl := sI hF_12
    exact ⟨_, rfl, M_1, hM_1, p_6, rfl⟩
set_option maxRecDepth 100000 in
theorem wakes16 : law16_wakes 3000000 = some true := by decide +kernel
theorem refsThere_true (t : TA0) (hb : dsz (emb_TA0 t) ≤ 1048576) : law16_RefsThere 3000000 t = some true := by
 obtain ⟨g, hg⟩ := great13 (n := 3000000) (by decide) t (by omega)
 unfold law16_RefsThere
 rw [hg, bnd, wakes16, bnd]
 cases g with
 | true => rw [cT]
 | false =>
  obtain ⟨a, e, h1, h2, -⟩ := check_run (n := 3000000) (by decide) 3000000 t (by omega) (by omega)
  rw [cF, show refs_Check 3000000 t = some (a, e) from h1, bnd]
  by_cases h0 : e = 0
  ·rw [decide_eq_true h0, Bool.not_true, cF, show law16_there 3000000 t 0 = some true from there_run (n := 3000000) (by decide) 3000000 t 0 (by decide) (by decide) (h2.1 h0) (by omega), bnd, cT]
  ·rw [decide_eq_false h0, Bool.not_false, cT]
theorem opa_TE0 {H : Type} {enc : TypeId × Value → H} {w : World} {B : DataW H → Nat} (hB : BulkOk B) : ∀ m, OpnAt enc Try.prog w 41 emb_TE0 B m := by
 intro m
 induction m using Nat.strongRecOn with
 | ind m ih =>
 intro cs x h
 obtain ⟨xs, n, rfl, rfl, hlen, hxl, hf⟩ := DataW.trod_struct Try.underlying41 h
 have hct : Try.prog.cellsOf 41 = 6 := by kernel_rfl
 rw [hct] at hlen
 obtain ⟨x0, x1, x2, x3, x4, x5, rfl⟩ : ∃ x0 x1 x2 x3 x4 x5, xs = [x0, x1, x2, x3, x4, x5] := by
  match xs, hxl with
  | [x0, x1, x2, x3, x4, x5], _ => exact ⟨x0, x1, x2, x3, x4, x5, rfl⟩
 have f0 : DataW.trod enc Try.prog w 0 (fun _ => true) true n 34 ((cs.drop 0).take (Try.prog.cellsOf 34)) = some x0 := hf 0 _ rfl
 rw [show Try.prog.cellsOf 34 = 1 by kernel_rfl] at f0
 obtain ⟨a0, r0, v0, b0⟩ := (fun _ => opa_int hB Try.underlying34) n _ _ f0
 have f1 : DataW.trod enc Try.prog w 0 (fun _ => true) true n 4 ((cs.drop 1).take (Try.prog.cellsOf 4)) = some x1 := hf 1 _ rfl
 rw [show Try.prog.cellsOf 4 = 1 by kernel_rfl] at f1
 obtain ⟨a1, r1, v1, b1⟩ := (fun _ => opa_bool hB Try.underlying4) n _ _ f1
 have f2 : DataW.trod enc Try.prog w 0 (fun _ => true) true n 3 ((cs.drop 2).take (Try.prog.cellsOf 3)) = some x2 := hf 2 _ rfl
 rw [show Try.prog.cellsOf 3 = 1 by kernel_rfl] at f2
 obtain ⟨a2, r2, v2, b2⟩ := (fun _ => opa_int hB Try.underlying3) n _ _ f2
 have f3 : DataW.trod enc Try.prog w 0 (fun _ => true) true n 9 ((cs.drop 3).take (Try.prog.cellsOf 9)) = some x3 := hf 3 _ rfl
 rw [show Try.prog.cellsOf 9 = 1 by kernel_rfl] at f3
 obtain ⟨a3, r3, v3, b3⟩ := (fun _ => opa_str hB Try.underlying9) n _ _ f3
 have f4 : DataW.trod enc Try.prog w 0 (fun _ => true) true n 38 ((cs.drop 4).take (Try.prog.cellsOf 38)) = some x4 := hf 4 _ rfl
 rw [show Try.prog.cellsOf 38 = 1 by kernel_rfl] at f4
 obtain ⟨a4, r4, v4, b4⟩ := (opa_slice0 (m := n) (e := 41) (sz := 6) hB Try.underlying38 (by kernel_rfl) (fun k hk => ih k (by omega))) _ _ f4
 have f5 : DataW.trod enc Try.prog w 0 (fun _ => true) true n 39 ((cs.drop 5).take (Try.prog.cellsOf 39)) = some x5 := hf 5 _ rfl
 rw [show Try.prog.cellsOf 39 = 1 by kernel_rfl] at f5
 obtain ⟨a5, r5, v5, b5⟩ := (opa_slice0 (m := n) (e := 9) (sz := 1) hB Try.underlying39 (by kernel_rfl) (fun k _ => (fun _ => opa_str hB Try.underlying9) k)) _ _ f5
 refine ⟨⟨a0, a1, a2, a3, a4, a5⟩, ?_, ?_, ?_⟩
 ·rw [emb_TE0_eq]
  have hcs : RepSeq (Mem.of w) _ (cs.drop 0) := (RepSeq.cut (k := 1) r0 (by rw [List.drop_drop]; exact (RepSeq.cut (k := 1) r1 (by rw [List.drop_drop]; exact (RepSeq.cut (k := 1) r2 (by rw [List.drop_drop]; exact (RepSeq.cut (k := 1) r3 (by rw [List.drop_drop]; exact (RepSeq.cut (k := 1) r4 (by rw [List.drop_drop]; exact (RepSeq.cut (k := 1) r5 (by rw [List.drop_drop]; exact (show RepSeq (Mem.of w) [] (cs.drop 6) from List.drop_eq_nil_of_le (by omega))))))))))))))
  exact hcs
 ·rw [emb_TE0_eq]; exact ⟨v0, ⟨v1, ⟨v2, ⟨v3, ⟨v4, ⟨v5, trivial⟩⟩⟩⟩⟩⟩
 ·rw [emb_TE0_eq]
  have := hB.agg ([x0, x1, x2, x3, x4, x5].map (·.1))
  simp only [List.map_cons, List.map_nil, List.sum_cons, List.sum_nil] at this ⊢
  simp only [dsz, dszs] at *
  omega
theorem opa_TD0 {H : Type} {enc : TypeId × Value → H} {w : World} {B : DataW H → Nat} (hB : BulkOk B) : ∀ m, OpnAt enc Try.prog w 43 emb_TD0 B m := by
 intro m
 induction m using Nat.strongRecOn with
 | ind m ih =>
 intro cs x h
 obtain ⟨xs, n, rfl, rfl, hlen, hxl, hf⟩ := DataW.trod_struct Try.underlying43 h
 have hct : Try.prog.cellsOf 43 = 10 := by kernel_rfl
 rw [hct] at hlen
 obtain ⟨x0, x1, x2, x3, x4, rfl⟩ : ∃ x0 x1 x2 x3 x4, xs = [x0, x1, x2, x3, x4] := by
  match xs, hxl with
  | [x0, x1, x2, x3, x4], _ => exact ⟨x0, x1, x2, x3, x4, rfl⟩
 have f0 : DataW.trod enc Try.prog w 0 (fun _ => true) true n 9 ((cs.drop 0).take (Try.prog.cellsOf 9)) = some x0 := hf 0 _ rfl
 rw [show Try.prog.cellsOf 9 = 1 by kernel_rfl] at f0
 obtain ⟨a0, r0, v0, b0⟩ := (fun _ => opa_str hB Try.underlying9) n _ _ f0
 have f1 : DataW.trod enc Try.prog w 0 (fun _ => true) true n 4 ((cs.drop 1).take (Try.prog.cellsOf 4)) = some x1 := hf 1 _ rfl
 rw [show Try.prog.cellsOf 4 = 1 by kernel_rfl] at f1
 obtain ⟨a1, r1, v1, b1⟩ := (fun _ => opa_bool hB Try.underlying4) n _ _ f1
 have f2 : DataW.trod enc Try.prog w 0 (fun _ => true) true n 4 ((cs.drop 2).take (Try.prog.cellsOf 4)) = some x2 := hf 2 _ rfl
 rw [show Try.prog.cellsOf 4 = 1 by kernel_rfl] at f2
 obtain ⟨a2, r2, v2, b2⟩ := (fun _ => opa_bool hB Try.underlying4) n _ _ f2
 have f3 : DataW.trod enc Try.prog w 0 (fun _ => true) true n 41 ((cs.drop 3).take (Try.prog.cellsOf 41)) = some x3 := hf 3 _ rfl
 rw [show Try.prog.cellsOf 41 = 6 by kernel_rfl] at f3
 obtain ⟨a3, r3, v3, b3⟩ := (opa_TE0 hB) n _ _ f3
 have f4 : DataW.trod enc Try.prog w 0 (fun _ => true) true n 38 ((cs.drop 9).take (Try.prog.cellsOf 38)) = some x4 := hf 4 _ rfl
 rw [show Try.prog.cellsOf 38 = 1 by kernel_rfl] at f4
 obtain ⟨a4, r4, v4, b4⟩ := (fun m => opa_slice0 (e := 41) (sz := 6) hB Try.underlying38 (by kernel_rfl) (fun k _ => (opa_TE0 hB) k)) n _ _ f4
 refine ⟨⟨a0, a1, a2, a3, a4⟩, ?_, ?_, ?_⟩
 ·rw [emb_TD0_eq]
  have hcs : RepSeq (Mem.of w) _ (cs.drop 0) := (RepSeq.cut (k := 1) r0 (by rw [List.drop_drop]; exact (RepSeq.cut (k := 1) r1 (by rw [List.drop_drop]; exact (RepSeq.cut (k := 1) r2 (by rw [List.drop_drop]; exact (RepSeq.cut (k := 6) r3 (by rw [List.drop_drop]; exact (RepSeq.cut (k := 1) r4 (by rw [List.drop_drop]; exact (show RepSeq (Mem.of w) [] (cs.drop 10) from List.drop_eq_nil_of_le (by omega))))))))))))
  exact hcs
 ·rw [emb_TD0_eq]; exact ⟨v0, ⟨v1, ⟨v2, ⟨v3, ⟨v4, trivial⟩⟩⟩⟩⟩
 ·rw [emb_TD0_eq]
  have := hB.agg ([x0, x1, x2, x3, x4].map (·.1))
  simp only [List.map_cons, List.map_nil, List.sum_cons, List.sum_nil] at this ⊢
  simp only [dsz, dszs] at *
  omega
theorem opa_TF0 {H : Type} {enc : TypeId × Value → H} {w : World} {B : DataW H → Nat} (hB : BulkOk B) : ∀ m, OpnAt enc Try.prog w 37 emb_TF0 B m := by
 intro m
 induction m using Nat.strongRecOn with
 | ind m ih =>
 intro cs x h
 obtain ⟨xs, n, rfl, rfl, hlen, hxl, hf⟩ := DataW.trod_struct Try.underlying37 h
 have hct : Try.prog.cellsOf 37 = 6 := by kernel_rfl
 rw [hct] at hlen
 obtain ⟨x0, x1, x2, x3, x4, x5, rfl⟩ : ∃ x0 x1 x2 x3 x4 x5, xs = [x0, x1, x2, x3, x4, x5] := by
  match xs, hxl with
  | [x0, x1, x2, x3, x4, x5], _ => exact ⟨x0, x1, x2, x3, x4, x5, rfl⟩
 have f0 : DataW.trod enc Try.prog w 0 (fun _ => true) true n 34 ((cs.drop 0).take (Try.prog.cellsOf 34)) = some x0 := hf 0 _ rfl
 rw [show Try.prog.cellsOf 34 = 1 by kernel_rfl] at f0
 obtain ⟨a0, r0, v0, b0⟩ := (fun _ => opa_int hB Try.underlying34) n _ _ f0
 have f1 : DataW.trod enc Try.prog w 0 (fun _ => true) true n 9 ((cs.drop 1).take (Try.prog.cellsOf 9)) = some x1 := hf 1 _ rfl
 rw [show Try.prog.cellsOf 9 = 1 by kernel_rfl] at f1
 obtain ⟨a1, r1, v1, b1⟩ := (fun _ => opa_str hB Try.underlying9) n _ _ f1
 have f2 : DataW.trod enc Try.prog w 0 (fun _ => true) true n 3 ((cs.drop 2).take (Try.prog.cellsOf 3)) = some x2 := hf 2 _ rfl
 rw [show Try.prog.cellsOf 3 = 1 by kernel_rfl] at f2
 obtain ⟨a2, r2, v2, b2⟩ := (fun _ => opa_int hB Try.underlying3) n _ _ f2
 have f3 : DataW.trod enc Try.prog w 0 (fun _ => true) true n 9 ((cs.drop 3).take (Try.prog.cellsOf 9)) = some x3 := hf 3 _ rfl
 rw [show Try.prog.cellsOf 9 = 1 by kernel_rfl] at f3
 obtain ⟨a3, r3, v3, b3⟩ := (fun _ => opa_str hB Try.underlying9) n _ _ f3
 have f4 : DataW.trod enc Try.prog w 0 (fun _ => true) true n 9 ((cs.drop 4).take (Try.prog.cellsOf 9)) = some x4 := hf 4 _ rfl
 rw [show Try.prog.cellsOf 9 = 1 by kernel_rfl] at f4
 obtain ⟨a4, r4, v4, b4⟩ := (fun _ => opa_str hB Try.underlying9) n _ _ f4
 have f5 : DataW.trod enc Try.prog w 0 (fun _ => true) true n 35 ((cs.drop 5).take (Try.prog.cellsOf 35)) = some x5 := hf 5 _ rfl
 rw [show Try.prog.cellsOf 35 = 1 by kernel_rfl] at f5
 obtain ⟨a5, r5, v5, b5⟩ := (opa_slice0 (m := n) (e := 37) (sz := 6) hB Try.underlying35 (by kernel_rfl) (fun k hk => ih k (by omega))) _ _ f5
 refine ⟨⟨a0, a1, a2, a3, a4, a5⟩, ?_, ?_, ?_⟩
 ·rw [emb_TF0_eq]
  have hcs : RepSeq (Mem.of w) _ (cs.drop 0) := (RepSeq.cut (k := 1) r0 (by rw [List.drop_drop]; exact (RepSeq.cut (k := 1) r1 (by rw [List.drop_drop]; exact (RepSeq.cut (k := 1) r2 (by rw [List.drop_drop]; exact (RepSeq.cut (k := 1) r3 (by rw [List.drop_drop]; exact (RepSeq.cut (k := 1) r4 (by rw [List.drop_drop]; exact (RepSeq.cut (k := 1) r5 (by rw [List.drop_drop]; exact (show RepSeq (Mem.of w) [] (cs.drop 6) from List.drop_eq_nil_of_le (by omega))))))))))))))
  exact hcs
 ·rw [emb_TF0_eq]; exact ⟨v0, ⟨v1, ⟨v2, ⟨v3, ⟨v4, ⟨v5, trivial⟩⟩⟩⟩⟩⟩
 ·rw [emb_TF0_eq]
  have := hB.agg ([x0, x1, x2, x3, x4, x5].map (·.1))
  simp only [List.map_cons, List.map_nil, List.sum_cons, List.sum_nil] at this ⊢
  simp only [dsz, dszs] at *
  omega
theorem opa_TI0 {H : Type} {enc : TypeId × Value → H} {w : World} {B : DataW H → Nat} (hB : BulkOk B) : ∀ m, OpnAt enc Try.prog w 45 emb_TI0 B m := by
 intro m
 induction m using Nat.strongRecOn with
 | ind m ih =>
 intro cs x h
 obtain ⟨xs, n, rfl, rfl, hlen, hxl, hf⟩ := DataW.trod_struct Try.underlying45 h
 have hct : Try.prog.cellsOf 45 = 15 := by kernel_rfl
 rw [hct] at hlen
 obtain ⟨x0, x1, x2, x3, x4, rfl⟩ : ∃ x0 x1 x2 x3 x4, xs = [x0, x1, x2, x3, x4] := by
  match xs, hxl with
  | [x0, x1, x2, x3, x4], _ => exact ⟨x0, x1, x2, x3, x4, rfl⟩
 have f0 : DataW.trod enc Try.prog w 0 (fun _ => true) true n 9 ((cs.drop 0).take (Try.prog.cellsOf 9)) = some x0 := hf 0 _ rfl
 rw [show Try.prog.cellsOf 9 = 1 by kernel_rfl] at f0
 obtain ⟨a0, r0, v0, b0⟩ := (fun _ => opa_str hB Try.underlying9) n _ _ f0
 have f1 : DataW.trod enc Try.prog w 0 (fun _ => true) true n 34 ((cs.drop 1).take (Try.prog.cellsOf 34)) = some x1 := hf 1 _ rfl
 rw [show Try.prog.cellsOf 34 = 1 by kernel_rfl] at f1
 obtain ⟨a1, r1, v1, b1⟩ := (fun _ => opa_int hB Try.underlying34) n _ _ f1
 have f2 : DataW.trod enc Try.prog w 0 (fun _ => true) true n 37 ((cs.drop 2).take (Try.prog.cellsOf 37)) = some x2 := hf 2 _ rfl
 rw [show Try.prog.cellsOf 37 = 6 by kernel_rfl] at f2
 obtain ⟨a2, r2, v2, b2⟩ := (opa_TF0 hB) n _ _ f2
 have f3 : DataW.trod enc Try.prog w 0 (fun _ => true) true n 37 ((cs.drop 8).take (Try.prog.cellsOf 37)) = some x3 := hf 3 _ rfl
 rw [show Try.prog.cellsOf 37 = 6 by kernel_rfl] at f3
 obtain ⟨a3, r3, v3, b3⟩ := (opa_TF0 hB) n _ _ f3
 have f4 : DataW.trod enc Try.prog w 0 (fun _ => true) true n 23 ((cs.drop 14).take (Try.prog.cellsOf 23)) = some x4 := hf 4 _ rfl
 rw [show Try.prog.cellsOf 23 = 1 by kernel_rfl] at f4
 obtain ⟨a4, r4, v4, b4⟩ := (opa_slice0 (m := n) (e := 45) (sz := 15) hB Try.underlying23 (by kernel_rfl) (fun k hk => ih k (by omega))) _ _ f4
 refine ⟨⟨a0, a1, a2, a3, a4⟩, ?_, ?_, ?_⟩
 ·rw [emb_TI0_eq]
  have hcs : RepSeq (Mem.of w) _ (cs.drop 0) := (RepSeq.cut (k := 1) r0 (by rw [List.drop_drop]; exact (RepSeq.cut (k := 1) r1 (by rw [List.drop_drop]; exact (RepSeq.cut (k := 6) r2 (by rw [List.drop_drop]; exact (RepSeq.cut (k := 6) r3 (by rw [List.drop_drop]; exact (RepSeq.cut (k := 1) r4 (by rw [List.drop_drop]; exact (show RepSeq (Mem.of w) [] (cs.drop 15) from List.drop_eq_nil_of_le (by omega))))))))))))
  exact hcs
 ·rw [emb_TI0_eq]; exact ⟨v0, ⟨v1, ⟨v2, ⟨v3, ⟨v4, trivial⟩⟩⟩⟩⟩
 ·rw [emb_TI0_eq]
  have := hB.agg ([x0, x1, x2, x3, x4].map (·.1))
  simp only [List.map_cons, List.map_nil, List.sum_cons, List.sum_nil] at this ⊢
  simp only [dsz, dszs] at *
  omega
theorem opa_TH0 {H : Type} {enc : TypeId × Value → H} {w : World} {B : DataW H → Nat} (hB : BulkOk B) : ∀ m, OpnAt enc Try.prog w 70 emb_TH0 B m := by
 intro m
 induction m using Nat.strongRecOn with
 | ind m ih =>
 intro cs x h
 obtain ⟨xs, n, rfl, rfl, hlen, hxl, hf⟩ := DataW.trod_struct Try.underlying70 h
 have hct : Try.prog.cellsOf 70 = 7 := by kernel_rfl
 rw [hct] at hlen
 obtain ⟨x0, x1, rfl⟩ : ∃ x0 x1, xs = [x0, x1] := by
  match xs, hxl with
  | [x0, x1], _ => exact ⟨x0, x1, rfl⟩
 have f0 : DataW.trod enc Try.prog w 0 (fun _ => true) true n 9 ((cs.drop 0).take (Try.prog.cellsOf 9)) = some x0 := hf 0 _ rfl
 rw [show Try.prog.cellsOf 9 = 1 by kernel_rfl] at f0
 obtain ⟨a0, r0, v0, b0⟩ := (fun _ => opa_str hB Try.underlying9) n _ _ f0
 have f1 : DataW.trod enc Try.prog w 0 (fun _ => true) true n 37 ((cs.drop 1).take (Try.prog.cellsOf 37)) = some x1 := hf 1 _ rfl
 rw [show Try.prog.cellsOf 37 = 6 by kernel_rfl] at f1
 obtain ⟨a1, r1, v1, b1⟩ := (opa_TF0 hB) n _ _ f1
 refine ⟨⟨a0, a1⟩, ?_, ?_, ?_⟩
 ·rw [emb_TH0_eq]
  have hcs : RepSeq (Mem.of w) _ (cs.drop 0) := (RepSeq.cut (k := 1) r0 (by rw [List.drop_drop]; exact (RepSeq.cut (k := 6) r1 (by rw [List.drop_drop]; exact (show RepSeq (Mem.of w) [] (cs.drop 7) from List.drop_eq_nil_of_le (by omega))))))
  exact hcs
 ·rw [emb_TH0_eq]; exact ⟨v0, ⟨v1, trivial⟩⟩
 ·rw [emb_TH0_eq]
  have := hB.agg ([x0, x1].map (·.1))
  simp only [List.map_cons, List.map_nil, List.sum_cons, List.sum_nil] at this ⊢
  simp only [dsz, dszs] at *
  omega
theorem opa_TC0 {H : Type} {enc : TypeId × Value → H} {w : World} {B : DataW H → Nat} (hB : BulkOk B) : ∀ m, OpnAt enc Try.prog w 51 emb_TC0 B m := by
 intro m
 induction m using Nat.strongRecOn with
 | ind m ih =>
 intro cs x h
 obtain ⟨xs, n, rfl, rfl, hlen, hxl, hf⟩ := DataW.trod_struct Try.underlying51 h
 have hct : Try.prog.cellsOf 51 = 8 := by kernel_rfl
 rw [hct] at hlen
 obtain ⟨x0, x1, x2, rfl⟩ : ∃ x0 x1 x2, xs = [x0, x1, x2] := by
  match xs, hxl with
  | [x0, x1, x2], _ => exact ⟨x0, x1, x2, rfl⟩
 have f0 : DataW.trod enc Try.prog w 0 (fun _ => true) true n 9 ((cs.drop 0).take (Try.prog.cellsOf 9)) = some x0 := hf 0 _ rfl
 rw [show Try.prog.cellsOf 9 = 1 by kernel_rfl] at f0
 obtain ⟨a0, r0, v0, b0⟩ := (fun _ => opa_str hB Try.underlying9) n _ _ f0
 have f1 : DataW.trod enc Try.prog w 0 (fun _ => true) true n 9 ((cs.drop 1).take (Try.prog.cellsOf 9)) = some x1 := hf 1 _ rfl
 rw [show Try.prog.cellsOf 9 = 1 by kernel_rfl] at f1
 obtain ⟨a1, r1, v1, b1⟩ := (fun _ => opa_str hB Try.underlying9) n _ _ f1
 have f2 : DataW.trod enc Try.prog w 0 (fun _ => true) true n 37 ((cs.drop 2).take (Try.prog.cellsOf 37)) = some x2 := hf 2 _ rfl
 rw [show Try.prog.cellsOf 37 = 6 by kernel_rfl] at f2
 obtain ⟨a2, r2, v2, b2⟩ := (opa_TF0 hB) n _ _ f2
 refine ⟨⟨a0, a1, a2⟩, ?_, ?_, ?_⟩
 ·rw [emb_TC0_eq]
  have hcs : RepSeq (Mem.of w) _ (cs.drop 0) := (RepSeq.cut (k := 1) r0 (by rw [List.drop_drop]; exact (RepSeq.cut (k := 1) r1 (by rw [List.drop_drop]; exact (RepSeq.cut (k := 6) r2 (by rw [List.drop_drop]; exact (show RepSeq (Mem.of w) [] (cs.drop 8) from List.drop_eq_nil_of_le (by omega))))))))
  exact hcs
 ·rw [emb_TC0_eq]; exact ⟨v0, ⟨v1, ⟨v2, trivial⟩⟩⟩
 ·rw [emb_TC0_eq]
  have := hB.agg ([x0, x1, x2].map (·.1))
  simp only [List.map_cons, List.map_nil, List.sum_cons, List.sum_nil] at this ⊢
  simp only [dsz, dszs] at *
  omega
theorem opa_TB0_TA0 {H : Type} {enc : TypeId × Value → H} {w : World} {B : DataW H → Nat} (hB : BulkOk B) : ∀ m, OpnAt enc Try.prog w 49 emb_TB0 B m ∧ OpnAt enc Try.prog w 27 emb_TA0 B m := by
 intro m
 induction m using Nat.strongRecOn with
 | ind m ih =>
 refine ⟨?_, ?_⟩
 ·skip
  intro cs x h
  obtain ⟨xs, n, rfl, rfl, hlen, hxl, hf⟩ := DataW.trod_struct Try.underlying49 h
  have hct : Try.prog.cellsOf 49 = 7 := by kernel_rfl
  rw [hct] at hlen
  obtain ⟨x0, x1, x2, x3, x4, x5, x6, rfl⟩ : ∃ x0 x1 x2 x3 x4 x5 x6, xs = [x0, x1, x2, x3, x4, x5, x6] := by
   match xs, hxl with
   | [x0, x1, x2, x3, x4, x5, x6], _ => exact ⟨x0, x1, x2, x3, x4, x5, x6, rfl⟩
  have f0 : DataW.trod enc Try.prog w 0 (fun _ => true) true n 9 ((cs.drop 0).take (Try.prog.cellsOf 9)) = some x0 := hf 0 _ rfl
  rw [show Try.prog.cellsOf 9 = 1 by kernel_rfl] at f0
  obtain ⟨a0, r0, v0, b0⟩ := (fun _ => opa_str hB Try.underlying9) n _ _ f0
  have f1 : DataW.trod enc Try.prog w 0 (fun _ => true) true n 9 ((cs.drop 1).take (Try.prog.cellsOf 9)) = some x1 := hf 1 _ rfl
  rw [show Try.prog.cellsOf 9 = 1 by kernel_rfl] at f1
  obtain ⟨a1, r1, v1, b1⟩ := (fun _ => opa_str hB Try.underlying9) n _ _ f1
  have f2 : DataW.trod enc Try.prog w 0 (fun _ => true) true n 9 ((cs.drop 2).take (Try.prog.cellsOf 9)) = some x2 := hf 2 _ rfl
  rw [show Try.prog.cellsOf 9 = 1 by kernel_rfl] at f2
  obtain ⟨a2, r2, v2, b2⟩ := (fun _ => opa_str hB Try.underlying9) n _ _ f2
  have f3 : DataW.trod enc Try.prog w 0 (fun _ => true) true n 46 ((cs.drop 3).take (Try.prog.cellsOf 46)) = some x3 := hf 3 _ rfl
  rw [show Try.prog.cellsOf 46 = 1 by kernel_rfl] at f3
  obtain ⟨a3, r3, v3, b3⟩ := (opa_slice0 (m := n) (e := 70) (sz := 7) hB Try.underlying46 (by kernel_rfl) (fun k _ => (opa_TH0 hB) k)) _ _ f3
  have f4 : DataW.trod enc Try.prog w 0 (fun _ => true) true n 39 ((cs.drop 4).take (Try.prog.cellsOf 39)) = some x4 := hf 4 _ rfl
  rw [show Try.prog.cellsOf 39 = 1 by kernel_rfl] at f4
  obtain ⟨a4, r4, v4, b4⟩ := (opa_slice0 (m := n) (e := 9) (sz := 1) hB Try.underlying39 (by kernel_rfl) (fun k _ => (fun _ => opa_str hB Try.underlying9) k)) _ _ f4
  have f5 : DataW.trod enc Try.prog w 0 (fun _ => true) true n 4 ((cs.drop 5).take (Try.prog.cellsOf 4)) = some x5 := hf 5 _ rfl
  rw [show Try.prog.cellsOf 4 = 1 by kernel_rfl] at f5
  obtain ⟨a5, r5, v5, b5⟩ := (fun _ => opa_bool hB Try.underlying4) n _ _ f5
  have f6 : DataW.trod enc Try.prog w 0 (fun _ => true) true n 47 ((cs.drop 6).take (Try.prog.cellsOf 47)) = some x6 := hf 6 _ rfl
  rw [show Try.prog.cellsOf 47 = 1 by kernel_rfl] at f6
  obtain ⟨a6, r6, v6, b6⟩ := (opa_slice0 (m := n) (e := 27) (sz := 4) hB Try.underlying47 (by kernel_rfl) (fun k hk => (ih k (by omega)).2)) _ _ f6
  refine ⟨⟨a0, a1, a2, a3, a4, a5, a6⟩, ?_, ?_, ?_⟩
  ·rw [emb_TB0_eq]
   have hcs : RepSeq (Mem.of w) _ (cs.drop 0) := (RepSeq.cut (k := 1) r0 (by rw [List.drop_drop]; exact (RepSeq.cut (k := 1) r1 (by rw [List.drop_drop]; exact (RepSeq.cut (k := 1) r2 (by rw [List.drop_drop]; exact (RepSeq.cut (k := 1) r3 (by rw [List.drop_drop]; exact (RepSeq.cut (k := 1) r4 (by rw [List.drop_drop]; exact (RepSeq.cut (k := 1) r5 (by rw [List.drop_drop]; exact (RepSeq.cut (k := 1) r6 (by rw [List.drop_drop]; exact (show RepSeq (Mem.of w) [] (cs.drop 7) from List.drop_eq_nil_of_le (by omega))))))))))))))))
   exact hcs
  ·rw [emb_TB0_eq]; exact ⟨v0, ⟨v1, ⟨v2, ⟨v3, ⟨v4, ⟨v5, ⟨v6, trivial⟩⟩⟩⟩⟩⟩⟩
  ·rw [emb_TB0_eq]
   have := hB.agg ([x0, x1, x2, x3, x4, x5, x6].map (·.1))
   simp only [List.map_cons, List.map_nil, List.sum_cons, List.sum_nil] at this ⊢
   simp only [dsz, dszs] at *
   omega
 ·skip
  intro cs x h
  obtain ⟨xs, n, rfl, rfl, hlen, hxl, hf⟩ := DataW.trod_struct Try.underlying27 h
  have hct : Try.prog.cellsOf 27 = 4 := by kernel_rfl
  rw [hct] at hlen
  obtain ⟨x0, x1, x2, x3, rfl⟩ : ∃ x0 x1 x2 x3, xs = [x0, x1, x2, x3] := by
   match xs, hxl with
   | [x0, x1, x2, x3], _ => exact ⟨x0, x1, x2, x3, rfl⟩
  have f0 : DataW.trod enc Try.prog w 0 (fun _ => true) true n 22 ((cs.drop 0).take (Try.prog.cellsOf 22)) = some x0 := hf 0 _ rfl
  rw [show Try.prog.cellsOf 22 = 1 by kernel_rfl] at f0
  obtain ⟨a0, r0, v0, b0⟩ := (opa_slice0 (m := n) (e := 43) (sz := 10) hB Try.underlying22 (by kernel_rfl) (fun k _ => (opa_TD0 hB) k)) _ _ f0
  have f1 : DataW.trod enc Try.prog w 0 (fun _ => true) true n 23 ((cs.drop 1).take (Try.prog.cellsOf 23)) = some x1 := hf 1 _ rfl
  rw [show Try.prog.cellsOf 23 = 1 by kernel_rfl] at f1
  obtain ⟨a1, r1, v1, b1⟩ := (opa_slice0 (m := n) (e := 45) (sz := 15) hB Try.underlying23 (by kernel_rfl) (fun k _ => (opa_TI0 hB) k)) _ _ f1
  have f2 : DataW.trod enc Try.prog w 0 (fun _ => true) true n 24 ((cs.drop 2).take (Try.prog.cellsOf 24)) = some x2 := hf 2 _ rfl
  rw [show Try.prog.cellsOf 24 = 1 by kernel_rfl] at f2
  obtain ⟨a2, r2, v2, b2⟩ := (opa_slice0 (m := n) (e := 49) (sz := 7) hB Try.underlying24 (by kernel_rfl) (fun k hk => (ih k (by omega)).1)) _ _ f2
  have f3 : DataW.trod enc Try.prog w 0 (fun _ => true) true n 25 ((cs.drop 3).take (Try.prog.cellsOf 25)) = some x3 := hf 3 _ rfl
  rw [show Try.prog.cellsOf 25 = 1 by kernel_rfl] at f3
  obtain ⟨a3, r3, v3, b3⟩ := (opa_slice0 (m := n) (e := 51) (sz := 8) hB Try.underlying25 (by kernel_rfl) (fun k _ => (opa_TC0 hB) k)) _ _ f3
  refine ⟨⟨a0, a1, a2, a3⟩, ?_, ?_, ?_⟩
  ·rw [emb_TA0_eq]
   have hcs : RepSeq (Mem.of w) _ (cs.drop 0) := (RepSeq.cut (k := 1) r0 (by rw [List.drop_drop]; exact (RepSeq.cut (k := 1) r1 (by rw [List.drop_drop]; exact (RepSeq.cut (k := 1) r2 (by rw [List.drop_drop]; exact (RepSeq.cut (k := 1) r3 (by rw [List.drop_drop]; exact (show RepSeq (Mem.of w) [] (cs.drop 4) from List.drop_eq_nil_of_le (by omega))))))))))
   exact hcs
  ·rw [emb_TA0_eq]; exact ⟨v0, ⟨v1, ⟨v2, ⟨v3, trivial⟩⟩⟩⟩
  ·rw [emb_TA0_eq]
   have := hB.agg ([x0, x1, x2, x3].map (·.1))
   simp only [List.map_cons, List.map_nil, List.sum_cons, List.sum_nil] at this ⊢
   simp only [dsz, dszs] at *
   omega
theorem opa_TA0 {H : Type} {enc : TypeId × Value → H} {w : World} {B : DataW H → Nat} (hB : BulkOk B) (m : Nat) : OpnAt enc Try.prog w 27 emb_TA0 B m := (opa_TB0_TA0 hB m).2
theorem bulk_all {H : Type} (l : List (DataW H)) : Rows.uptoBulkAll l = (l.map Rows.uptoBulk).sum := by
 induction l with
 | nil => simp [Rows.uptoBulkAll]
 | cons x l ih => simp only [Rows.uptoBulkAll, List.map_cons, List.sum_cons, ih]
theorem bulk_ok {H : Type} : BulkOk (H := H) Rows.uptoBulk where
 one d := by
  cases d with
  | lit l => cases l <;> simp [Rows.uptoBulk]
  | nil => simp [Rows.uptoBulk]
  | ptr d => simp [Rows.uptoBulk]
  | slice elems spare => simp [Rows.uptoBulk]
  | agg parts => simp [Rows.uptoBulk]
  | iface t d => simp [Rows.uptoBulk]
  | map entries => simp [Rows.uptoBulk]
  | held h => simp [Rows.uptoBulk]
 str l := by simp [Rows.uptoBulk]
 slice e s := by
  simp only [Rows.uptoBulk]
  rw [bulk_all e]
  omega
 agg e := by
  simp only [Rows.uptoBulk]
  rw [bulk_all e]
  exact Nat.le_refl _
theorem bulk_one {H : Type} {d : DataW H} {l : List (DataW H)} (h : Rows.uptoSmall H l = true) (hd : d ∈ l) : Rows.uptoBulk d ≤ 1048576 := by
 unfold Rows.uptoSmall at h
 have h := of_decide_eq_true h
 rw [bulk_all] at h
 have := le_sum (List.mem_map_of_mem (f := Rows.uptoBulk) hd)
 omega
end Go.Proofs.Ytpjgpnfdadpkkaa
