/-
  Texts of this claim, packed (what nothing names is left out): GoIt, C1, RdyPlain, R6, RdyTurned, R7, RdyAdapt, B9, C2, C4. Own work, partly printed by own programs. No condition.
-/
import Derived.Test.YtfdmlionhbeebaaPkR2
import Derived.Test.YtfdmlionhbeebaaPkR1
import Derived.Test.YtfdmlionhbeebaaRows
set_option linter.unusedVariables false
set_option linter.unusedSimpArgs false
set_option maxHeartbeats 2000000
section
namespace Go.Proofs.Ytfdmlionhbeebaa
open Go Go.Vc Go.RowKit
def goingL (n : Nat) (d1 : TL0) : Nat → Int → Option (List (Int × TU0))
  | 0, _ => none
  | m + 1, s_1 =>
    bif (decide (s_1 < ((d1.fChanges.length : Nat) : Int))) then
      ((getI d1.fChanges s_1).bind fun x_2 =>
      ((bif (!(decide (x_2.fKind = 4))) then
          (some ((!(decide (x_2.fKind = 3)))))
        else
          some ((false)) : Option Bool)).bind fun y_1 =>
      bif y_1 then
        (need (inR .i64 (s_1 + 1)) <|
        goingL n d1 m (s_1 + 1))
      else
        (((state_Own n (⟨d1.fOld.fOwned, d1.fOld.fPending, d1.fOld.fRetained, d1.fOld.fOuts, d1.fOld.fText, d1.fOld.fArgs, d1.fOld.fCalls, d1.fOld.fStatus⟩ : TG0) x_2.fId).bind fun x_3 =>
          some ((x_3.1, (x_3.2))) : Option (TU0 × Bool))).bind fun y_2 =>
        bif y_2.2 then
          need (inR .i64 (s_1 + 1)) <|
          (goingL n d1 m (s_1 + 1)).bind fun l => some ((s_1, y_2.1) :: l)
        else
          need (inR .i64 (s_1 + 1)) <|
          goingL n d1 m (s_1 + 1))
    else
      some []
def goingV (n : Nat) (d1 : TL0) : Option (List (Int × TU0)) :=
  (forward_May n d1).bind fun x_1 =>
  bif !x_1 then
    some []
  else
    goingL n d1 n 0
set_option maxRecDepth 20000 in
theorem going_iter (n : Nat) (M : Mem) (bp : Nat) (ad1 : Addr) (c1 : List Value) (d1 : TL0) (h1 : Rep M (emb_TL0 d1) c1) (q1 : ∀ j v, c1[j]? = some v → M.cell? (ad1.add j) = some v) (hbp : M.cell? ⟨bp, 0, none⟩ = some (.pointer (some ad1))) (ls : List (Int × TU0)) (hF : goingV n d1 = some ls) :
  IterOk Try.prog 79 [.pointer (some ⟨bp, 0, none⟩)] (vals2 (vstr emb_TU0)) ls M := by
 unfold goingV at hF
 refine ⟨Go.Proofs.enters_of Try.func79 (by kernel_rfl) rfl, fun σ β Y s0 r hr l J Jx hJ hJx hY w0 M1 E H w hM0 hj p0 => ?_⟩
 replace h1 := Rep.mono hM0 _ _ h1
 replace q1 := fun j v h => hM0.cell (q1 j v h)
 replace hbp := hM0.cell hbp
 obtain ⟨A_1, cap_1, A_2, cap_2, A_3, cap_3, A_4, cap_4, A_5, cap_5, A_6, cap_6, A_7, cap_7, A_8, cap_8, A_9, cap_9, A_10, cap_10, rfl, h_1, h_2, h_3, h_4, h_5, h_6, h_7, h_8, h_9, h_10⟩ := TL0.opn h1
 refine R_enter 49 Try.func79 rfl rfl (by simp) (fun a0 f0 => ?_)
 refine R_seq ?_
 refine R_seq ?_
 refine R_reg ?_
 replace f0 : Frm 49 [(0, .func (.yield l) #[] #[]), (1, .pointer (some ⟨bp, 0, none⟩))] a0 := f0
 refine V_eq (v := .pointer (some ad1)) f0 (by kernel_rfl) (X_load1 (v := .pointer (some ad1)) rfl (ad := ⟨bp, 0, none⟩) (by kernel_rfl) (by kernel_rfl) (p0.cell hbp)) (fun a_0 f_0 => ?_)
 refine V_run f_0 1 (by kernel_rfl) (fun a_1 f_1 => ?_)
 refine V_eq (v := .agg #[.int .i8 d1.fKind, .int .i64 d1.fWidth, .slice A_1 d1.fOld.fOwned.length cap_1, .slice A_2 d1.fOld.fPending.length cap_2, .slice A_3 d1.fOld.fRetained.length cap_3, .slice A_4 d1.fOld.fOuts.length cap_4, S d1.fOld.fText, .slice A_5 d1.fOld.fArgs.length cap_5, .int .i64 d1.fOld.fCalls, .int .i8 d1.fOld.fStatus, .slice A_6 d1.fNew.fScopes.length cap_6, .slice A_7 d1.fNew.fNodes.length cap_7, S d1.fText, .slice A_8 d1.fArgs.length cap_8, .slice A_9 d1.fChanges.length cap_9, .slice A_10 d1.fTasks.length cap_10, .int .i8 d1.fPhase, .int .i8 d1.fStatus]) f_1 (by kernel_rfl) (X_loadN (cs := [.int .i8 d1.fKind, .int .i64 d1.fWidth, .slice A_1 d1.fOld.fOwned.length cap_1, .slice A_2 d1.fOld.fPending.length cap_2, .slice A_3 d1.fOld.fRetained.length cap_3, .slice A_4 d1.fOld.fOuts.length cap_4, S d1.fOld.fText, .slice A_5 d1.fOld.fArgs.length cap_5, .int .i64 d1.fOld.fCalls, .int .i8 d1.fOld.fStatus, .slice A_6 d1.fNew.fScopes.length cap_6, .slice A_7 d1.fNew.fNodes.length cap_7, S d1.fText, .slice A_8 d1.fArgs.length cap_8, .slice A_9 d1.fChanges.length cap_9, .slice A_10 d1.fTasks.length cap_10, .int .i8 d1.fPhase, .int .i8 d1.fStatus]) rfl (ad := ad1) (by kernel_rfl) (by kernel_rfl) (fun j v h => p0.cell (q1 j v h))) (fun a_2 f_2 => ?_)
 obtain ⟨x_1, hx_1, hF_1⟩ := bind_some' hF
 refine V_okv f_2 p0 (forward_May_ok n _ _ d1 (TL0.shutx (x := d1) h_1 h_2 h_3 h_4 h_5 h_6 h_7 h_8 h_9 h_10) x_1 hx_1) (by kernel_rfl) (fun _ => by kernel_rfl) (fun w_1 p_1 a_3 f_3 => ?_)
 refine V_run f_3 1 (by kernel_rfl) (fun a_4 f_4 => ?_)
 refine W_end rfl ?_
 refine T_n ?_
 refine R_cond f_4 (b := !x_1) (by kernel_rfl) (by kernel_rfl) (fun h_11 => ?_) (fun h_11 => ?_)
 ·have k_1 : (x_1) = false := by simpa using h_11
  have hF_2 := cnd_t h_11 hF_1
  refine wp_ret ?_
  refine T_r ?_
  refine E_ret0 f_4 rfl ?_
  obtain rfl := Option.some.inj hF_2
  obtain rfl := Option.some.inj hr
  exact ⟨_, rfl, M1, E, Mem.le_refl _, p_1, hj⟩
 ·have k_2 : (x_1) = true := by simpa using h_11
  have hF_3 := cnd_f h_11 hF_1
  refine wp_skip ?_
  refine T_n ?_
  refine R_seq ?_
  refine R_reg ?_
  refine V_eq (v := .pointer (some ad1)) f_4 (by kernel_rfl) (X_load1 (v := .pointer (some ad1)) rfl (ad := ⟨bp, 0, none⟩) (by kernel_rfl) (by kernel_rfl) (p_1.cell hbp)) (fun a_4b f_4b => ?_)
  refine V_run f_4b 2 (by kernel_rfl) (fun a_5 f_5 => ?_)
  refine V_ld f_5 p_1 q1 14 rfl (by kernel_rfl) (by kernel_rfl) (fun a_6 f_6 => ?_)
  refine V_run f_6 2 (by kernel_rfl) (fun a_7 f_7 => ?_)
  refine W_end rfl ?_
  refine T_n ?_
  refine wp_block ?_
  refine wp_mono (Q := fun e a w => (e = .ret ∧ ∃ b M' E', r = .br b ∧ M1.le M' ∧ Jx b M' E' ∧ Frm 49 [] a ∧ Hp w0 M' (E' ++ H) w) ∨ (e = .exit 0 ∧ ∃ s' M' E', r = .nx s' ∧ M1.le M' ∧ J s' M' E' ∧ Frm 49 [] a ∧ Hp w0 M' (E' ++ H) w))
   (R_loop (n := 49) (w0 := w0) (M := M1) (fun (x : Nat × Int × σ × List Ent) => [(0, .func (.yield l) #[] #[]), (1, .pointer (some ⟨bp, 0, none⟩)), (15, .slice A_9 d1.fChanges.length cap_9), (16, .int .i64 ((d1.fChanges.length : Nat) : Int)), (17, .int .i64 x.2.1)]) (fun x => x.2.2.2 ++ H)
    (fun x (MM : Mem) => ∃ ls, goingL n d1 x.1 x.2.1 = some ls ∧ foldY Y ls x.2.2.1 = some r ∧ J x.2.2.1 MM x.2.2.2) (fun x => x.1) (n, 0, s0, E) (f_7.keep (ks := [0, 1, 15, 16, 17]) (by kernel_rfl)) p_1 ⟨_, hF_3, hr, hj⟩ ?_) ?_
  ·rintro ⟨m_1, s_1, s, Es⟩ M_1 a_8 w_2 hM_1 ⟨ls, hs_1, hfs, hjs⟩ f_8 p_2
   dsimp only at hs_1 hfs hjs
   replace f_8 : Frm 49 [(0, .func (.yield l) #[] #[]), (1, .pointer (some ⟨bp, 0, none⟩)), (15, .slice A_9 d1.fChanges.length cap_9), (16, .int .i64 ((d1.fChanges.length : Nat) : Int)), (17, .int .i64 s_1)] a_8 := f_8
   replace p_2 : Hp w0 M_1 (Es ++ H) w_2 := p_2
   obtain ⟨m_2, rfl⟩ : ∃ m_2, m_1 = m_2 + 1 := by cases m_1 with | zero => cases hs_1 | succ m => exact ⟨m, rfl⟩
   unfold goingL at hs_1
   refine R_seq ?_
   refine R_reg ?_
   refine V_run f_8 1 (by kernel_rfl) (fun a_9 f_9 => ?_)
   refine W_end rfl ?_
   refine T_n ?_
   refine R_seq ?_
   refine R_cond f_9 (b := decide (s_1 < ((d1.fChanges.length : Nat) : Int))) (by kernel_rfl) (by kernel_rfl) (fun h_12 => ?_) (fun h_12 => ?_)
   ·have k_3 : s_1 < ((d1.fChanges.length : Nat) : Int) := decide_eq_true_iff.1 h_12
    have hF_5 := cnd_t h_12 hs_1
    refine wp_skip ?_
    refine T_n ?_
    refine R_seq ?_
    refine wp_block ?_
    refine R_seq ?_
    refine R_reg ?_
    refine V_run f_9 1 (by kernel_rfl) (fun a_10 f_10 => ?_)
    obtain ⟨x_2, hx_2, hF_6⟩ := bind_some' hF_5
    obtain ⟨ad_1, c_1, e_1, hl_1, hr_1, hc_1⟩ := Sli.at_ (h_9.mono hM_1) hx_2
    clear hl_1
    obtain ⟨A_11, cap_11, A_12, cap_12, rfl, h_13, h_14⟩ := TD0.opn hr_1
    refine V_eq (v := .pointer (some (ad_1.add (s_1.toNat * 8)))) f_10 (by kernel_rfl) (X_indexAddrA e_1 rfl (len := d1.fChanges.length) (cap := cap_9) (k := .i64) (i := s_1) (by kernel_rfl) (by kernel_rfl) (e := 77) (by kernel_rfl) (sz := 8) (by kernel_rfl) (getI_nn hx_2) (getI_lt hx_2)) (fun a_11 f_11 => ?_)
    refine V_eq (v := .agg #[S x_2.fId, .int .i8 x_2.fKind, S x_2.fType, .slice A_11 x_2.fProps.length cap_11, .bool x_2.fRetain, .int .i64 x_2.fNode, .bool x_2.fOld, .slice A_12 x_2.fLeans.length cap_12]) f_11 (by kernel_rfl) (X_loadN (cs := [S x_2.fId, .int .i8 x_2.fKind, S x_2.fType, .slice A_11 x_2.fProps.length cap_11, .bool x_2.fRetain, .int .i64 x_2.fNode, .bool x_2.fOld, .slice A_12 x_2.fLeans.length cap_12]) rfl (ad := ad_1.add (s_1.toNat * 8)) (by kernel_rfl) (by kernel_rfl) (fun j v h => p_2.cell (hc_1 j v h))) (fun a_12 f_12 => ?_)
    refine V_alloc f_12 p_2 (.cells #[S [], .int .i8 0, S [], .slice none 0 0, .bool false, .int .i64 0, .bool false, .slice none 0 0] 77 (0, 0)) (by kernel_rfl) (fun _ => by kernel_rfl) (fun b_2 w_3 p_3 a_13 f_13 => ?_)
    refine V_run f_13 1 (by kernel_rfl) (fun a_14 f_14 => ?_)
    refine W_storeN (vs := [S x_2.fId, .int .i8 x_2.fKind, S x_2.fType, .slice A_11 x_2.fProps.length cap_11, .bool x_2.fRetain, .int .i64 x_2.fNode, .bool x_2.fOld, .slice A_12 x_2.fLeans.length cap_12]) (j := 0) f_14 p_3 (by kernel_rfl) (by kernel_rfl) rfl rfl (by kernel_rfl) (by kernel_rfl) (by simp [Value.oneCell', S]) (by kernel_rfl) (by simp) (by decide) (cs' := #[S x_2.fId, .int .i8 x_2.fKind, S x_2.fType, .slice A_11 x_2.fProps.length cap_11, .bool x_2.fRetain, .int .i64 x_2.fNode, .bool x_2.fOld, .slice A_12 x_2.fLeans.length cap_12]) (by kernel_rfl) (fun w_4 p_4 a_15 f_15 => ?_)
    refine W_end rfl ?_
    refine T_n ?_
    refine R_seq ?_
    refine R_seq ?_
    obtain ⟨j_1, hj_1, hF_7⟩ := bind_some' hF_6
    refine R_mid (fun a_23 w_5 => ∃ y_1 : Bool, j_1 = y_1 ∧ ∃ M_2 : Mem, M_1.le M_2 ∧ Frm 49 [(0, .func (.yield l) #[] #[]), (1, .pointer (some ⟨bp, 0, none⟩)), (3, .int .i64 s_1), (4, .pointer (some (⟨b_2, 0, none⟩))), (15, .slice A_9 d1.fChanges.length cap_9), (16, .int .i64 ((d1.fChanges.length : Nat) : Int)), (17, .int .i64 s_1), (29, .bool y_1)] a_23 ∧ Hp w0 M_2 ((Ent.obj b_2 (.cells #[S x_2.fId, .int .i8 x_2.fKind, S x_2.fType, .slice A_11 x_2.fProps.length cap_11, .bool x_2.fRetain, .int .i64 x_2.fNode, .bool x_2.fOld, .slice A_12 x_2.fLeans.length cap_12] 77 (0, 0))) :: (Es ++ H)) w_5) ?_ ?_
    ·refine R_reg ?_
     refine V_run f_15 1 (by kernel_rfl) (fun a_16 f_16 => ?_)
     refine V_eq (v := .int .i8 x_2.fKind) f_16 (by kernel_rfl) (X_load1 (v := .int .i8 x_2.fKind) rfl (ad := ⟨b_2, 1, none⟩) (by kernel_rfl) (by kernel_rfl) (p_4.ownCell 0 rfl 1)) (fun a_17 f_17 => ?_)
     refine V_run f_17 2 (by kernel_rfl) (fun a_18 f_18 => ?_)
     rcases Bool.eq_false_or_eq_true (!(decide (x_2.fKind = 4))) with h_15 | h_15
     ·have k_4 : ¬ (x_2.fKind = 4) := (not_iff decide_eq_true_iff).1 h_15
      have hF_8 := cnd_t h_15 hj_1
      have f_19 := Frm.set f_18 25 (v := .bool (!(decide (x_2.fKind = 4)))) (v' := .bool true) (by kernel_rfl) (congrArg Value.bool h_15)
      refine V_run f_19 1 (by kernel_rfl) (fun a_19 f_20 => ?_)
      refine V_eq (v := .int .i8 x_2.fKind) f_20 (by kernel_rfl) (X_load1 (v := .int .i8 x_2.fKind) rfl (ad := ⟨b_2, 1, none⟩) (by kernel_rfl) (by kernel_rfl) (p_4.ownCell 0 rfl 1)) (fun a_20 f_21 => ?_)
      refine V_run f_21 2 (by kernel_rfl) (fun a_21 f_22 => ?_)
      refine W_end rfl ?_
      refine T_n ?_
      exact ⟨(!(decide (x_2.fKind = 3))), (Option.some.inj hF_8).symm, M_1, (Mem.le_refl _), f_22.keep (ks := [0, 1, 3, 4, 15, 16, 17, 29]) (by kernel_rfl), p_4⟩
     ·have k_5 : ¬ (¬ (x_2.fKind = 4)) := iff_f (not_iff decide_eq_true_iff) h_15
      have hF_9 := cnd_f h_15 hj_1
      have f_23 := Frm.set f_18 25 (v := .bool (!(decide (x_2.fKind = 4)))) (v' := .bool false) (by kernel_rfl) (congrArg Value.bool h_15)
      refine V_run f_23 4 (by kernel_rfl) (fun a_22 f_24 => ?_)
      refine W_end rfl ?_
      refine T_n ?_
      exact ⟨(false), (Option.some.inj hF_9).symm, M_1, (Mem.le_refl _), f_24.keep (ks := [0, 1, 3, 4, 15, 16, 17, 29]) (by kernel_rfl), p_4⟩
    ·rintro a_23 w_5 ⟨y_1, hq_1, M_2, hM_2, f_25, p_5⟩
     subst j_1
     refine T_n ?_
     refine R_cond f_25 (b := y_1) (by kernel_rfl) (by kernel_rfl) (fun h_16 => ?_) (fun h_16 => ?_)
     ·have hF_10 := cnd_t h_16 hF_7
      refine wp_exit ?_
      refine T_x ?_
      refine B_x ?_
      refine T_n ?_
      refine R_reg ?_
      obtain ⟨g_1, hF_11⟩ := need_some hF_10
      refine V_run f_25 1 (by kernel_rfl) (fun a_24 f_26 => ?_)
      have f_27 := Frm.set f_26 48 (v := .int .i64 (IntKind.wrap .i64 (s_1 + 1))) (v' := .int .i64 (s_1 + 1)) (by kernel_rfl) (congrArg (Value.int .i64) (inR_wrap g_1))
      refine V_run f_27 1 (by kernel_rfl) (fun a_25 f_28 => ?_)
      refine W_end rfl ?_
      refine T_n ?_
      exact ⟨(m_2, s_1 + 1, s, Es), Nat.lt_succ_self _, M_2, (hM_1.trans hM_2), ⟨_, hF_11, hfs, hJ _ _ _ _ hM_2 hjs⟩, f_28.keep (ks := [0, 1, 15, 16, 17]) (by kernel_rfl), (p_5.dropN 1)⟩
     ·have hF_12 := cnd_f h_16 hF_7
      refine wp_skip ?_
      refine T_n ?_
      refine R_seq ?_
      obtain ⟨j_2, hj_2, hF_13⟩ := bind_some' hF_12
      refine R_mid (fun a_54 w_23 => ∃ y_2 : TU0 × Bool, j_2 = y_2 ∧ ∃ M_6 : Mem, M_2.le M_6 ∧ ∃ (ad_2 : Addr), ∃ (c_5 : List Value), Rep M_6 (emb_TU0 y_2.1) c_5 ∧ (∀ j u, c_5[j]? = some u → M_6.cell? (ad_2.add j) = some u) ∧ Frm 49 [(0, .func (.yield l) #[] #[]), (1, .pointer (some ⟨bp, 0, none⟩)), (3, .int .i64 s_1), (5, .pointer (some ad_2)), (6, .bool y_2.2), (15, .slice A_9 d1.fChanges.length cap_9), (16, .int .i64 ((d1.fChanges.length : Nat) : Int)), (17, .int .i64 s_1)] a_54 ∧ Hp w0 M_6 ((Ent.obj b_2 (.cells #[S x_2.fId, .int .i8 x_2.fKind, S x_2.fType, .slice A_11 x_2.fProps.length cap_11, .bool x_2.fRetain, .int .i64 x_2.fNode, .bool x_2.fOld, .slice A_12 x_2.fLeans.length cap_12] 77 (0, 0))) :: (Es ++ H)) w_23) ?_ ?_
      ·obtain ⟨x_3, hx_3, hF_14⟩ := bind_some' hj_2
       refine R_plan (ks := [12]) (E := []) (Hr := ((Ent.obj b_2 (.cells #[S x_2.fId, .int .i8 x_2.fKind, S x_2.fType, .slice A_11 x_2.fProps.length cap_11, .bool x_2.fRetain, .int .i64 x_2.fNode, .bool x_2.fOld, .slice A_12 x_2.fLeans.length cap_12] 77 (0, 0))) :: (Es ++ H))) (.quiet 0 (.quiet 1 (.quiet 2 (.quiet 3 (.quiet 4 (.quiet 5 (.alt 6 (.quiet 7 (.quiet 8 (.quiet 9 (.alt 10 (.alt 11 .done .none) .none)))) (.alt 10 (.alt 6 (.quiet 7 (.quiet 8 (.quiet 9 (.alt 11 .done .none)))) .none) .none)))))))) p_5 (by kernel_rfl) (by kernel_rfl) (by kernel_rfl) ?_
       refine N_eq (v := .pointer (some ad1)) rfl f_25 (by kernel_rfl) (by kernel_rfl) rfl rfl (fun _ pq => (X_load1 (v := .pointer (some ad1)) rfl (ad := ⟨bp, 0, none⟩) (by kernel_rfl) (by kernel_rfl) (pq.cell ((hM_1.trans hM_2).cell hbp)))) (fun a_34 f_37 => ?_)
       refine N_eq (v := .pointer (some ad1)) rfl f_37 (by kernel_rfl) (by kernel_rfl) rfl rfl (fun _ _ => by kernel_rfl) (fun a_35 f_38 => ?_)
       refine N_eq (v := .pointer (some (ad1.add 2))) rfl f_38 (by kernel_rfl) (by kernel_rfl) rfl rfl (fun _ _ => by kernel_rfl) (fun a_36 f_39 => ?_)
       refine N_eq (v := .agg #[.slice A_1 d1.fOld.fOwned.length cap_1, .slice A_2 d1.fOld.fPending.length cap_2, .slice A_3 d1.fOld.fRetained.length cap_3, .slice A_4 d1.fOld.fOuts.length cap_4, S d1.fOld.fText, .slice A_5 d1.fOld.fArgs.length cap_5, .int .i64 d1.fOld.fCalls, .int .i8 d1.fOld.fStatus]) rfl f_39 (by kernel_rfl) (by kernel_rfl) rfl rfl (fun _ pq => X_loadN (cs := [.slice A_1 d1.fOld.fOwned.length cap_1, .slice A_2 d1.fOld.fPending.length cap_2, .slice A_3 d1.fOld.fRetained.length cap_3, .slice A_4 d1.fOld.fOuts.length cap_4, S d1.fOld.fText, .slice A_5 d1.fOld.fArgs.length cap_5, .int .i64 d1.fOld.fCalls, .int .i8 d1.fOld.fStatus]) rfl (ad := ad1.add 2) (by kernel_rfl) (by kernel_rfl) (fz_part (base := ad1) (fun j v h => pq.cell ((fzu (hM_1.trans hM_2) q1) j v h)) 2 rfl)) (fun a_37 f_40 => ?_)
       refine N_eq (v := .pointer (some (⟨b_2, 0, none⟩))) rfl f_40 (by kernel_rfl) (by kernel_rfl) rfl rfl (fun _ _ => by kernel_rfl) (fun a_38 f_41 => ?_)
       refine N_eq (v := S x_2.fId) rfl f_41 (by kernel_rfl) (by kernel_rfl) rfl rfl (fun _ pq => X_load1 (v := S x_2.fId) rfl (ad := ⟨b_2, 0, none⟩) (by kernel_rfl) (by kernel_rfl) (pq.ownCell 0 rfl 0)) (fun a_39 f_42 => ?_)
       refine N_alt rfl (fun w_9 p_9 => ?_) ?_
       ·refine V_ok f_42 p_9 (state_Own_ok n _ _ (⟨d1.fOld.fOwned, d1.fOld.fPending, d1.fOld.fRetained, d1.fOld.fOuts, d1.fOld.fText, d1.fOld.fArgs, d1.fOld.fCalls, d1.fOld.fStatus⟩ : TG0) (TG0.shut (h_1.mono (hM_1.trans hM_2)) (h_2.mono (hM_1.trans hM_2)) (h_3.mono (hM_1.trans hM_2)) (h_4.mono (hM_1.trans hM_2)) (h_5.mono (hM_1.trans hM_2))) x_2.fId x_3 hx_3) (by kernel_rfl) (fun _ => by kernel_rfl) (fun u_2 M_4 w_10 hM_4 p_10 q_2 a_40 f_43 => ?_)
        obtain ⟨c_3, rfl, hr_3⟩ := q_2
        obtain ⟨A_15, cap_15, A_16, cap_16, rfl, h_19, h_20⟩ := TU0.opn hr_3
        refine W_end rfl ?_
        refine N_goN 0 hM_4 p_10 rfl ?_
        refine N_eq (v := .tuple #[.agg #[S x_3.1.fId, S x_3.1.fType, S x_3.1.fPhys, .slice A_15 x_3.1.fProps.length cap_15, .bool x_3.1.fRetain, .slice A_16 x_3.1.fLeans.length cap_16], .bool x_3.2]) rfl f_43 (by kernel_rfl) (by kernel_rfl) rfl rfl (fun _ _ => by kernel_rfl) (fun a_41 f_44 => ?_)
        refine N_eq (v := .agg #[S x_3.1.fId, S x_3.1.fType, S x_3.1.fPhys, .slice A_15 x_3.1.fProps.length cap_15, .bool x_3.1.fRetain, .slice A_16 x_3.1.fLeans.length cap_16]) rfl f_44 (by kernel_rfl) (by kernel_rfl) rfl rfl (fun _ _ => by kernel_rfl) (fun a_42 f_45 => ?_)
        refine N_eq (v := .bool x_3.2) rfl f_45 (by kernel_rfl) (by kernel_rfl) rfl rfl (fun _ _ => by kernel_rfl) (fun a_43 f_46 => ?_)
        refine N_alt rfl (fun w_11 p_11 => ?_) ?_
        ·refine V_alloc f_46 p_11 (.cells #[S [], S [], S [], .slice none 0 0, .bool false, .slice none 0 0] 43 (0, 0)) (by kernel_rfl) (fun _ => by kernel_rfl) (fun b_4 w_12 p_12 a_44 f_47 => ?_)
         refine W_end rfl ?_
         refine N_goN 1 hM_4 p_12 rfl ?_
         refine N_alt rfl (fun w_13 p_13 => ?_) ?_
         ·refine W_storeN (vs := [S x_3.1.fId, S x_3.1.fType, S x_3.1.fPhys, .slice A_15 x_3.1.fProps.length cap_15, .bool x_3.1.fRetain, .slice A_16 x_3.1.fLeans.length cap_16]) (j := 0) f_47 p_13 (by kernel_rfl) (by kernel_rfl) rfl rfl (by kernel_rfl) (by kernel_rfl) (by simp [Value.oneCell', S]) (by kernel_rfl) (by simp) (by decide) (cs' := #[S x_3.1.fId, S x_3.1.fType, S x_3.1.fPhys, .slice A_15 x_3.1.fProps.length cap_15, .bool x_3.1.fRetain, .slice A_16 x_3.1.fLeans.length cap_16]) (by kernel_rfl) (fun w_14 p_14 a_45 f_48 => ?_)
          refine W_end rfl ?_
          refine N_goN 1 hM_4 p_14 rfl ?_
          refine N_tail (fun w_15 p_15 => ?_)
          refine V_run f_48 1 (by kernel_rfl) (fun a_46 f_49 => ?_)
          refine W_end rfl ?_
          refine N_te ?_
          obtain ⟨M_7, hM_7, p_24, hc_2⟩ := p_15.fzOwn
          refine T_n ?_
          exact ⟨(x_3.1, (x_3.2)), (Option.some.inj hF_14).symm, M_7, (hM_4.trans hM_7), ⟨b_4, 0, none⟩, [S x_3.1.fId, S x_3.1.fType, S x_3.1.fPhys, .slice A_15 x_3.1.fProps.length cap_15, .bool x_3.1.fRetain, .slice A_16 x_3.1.fLeans.length cap_16], (TU0.shutx (x := x_3.1) (h_19.mono hM_7) (h_20.mono hM_7)), (fz_at (hc_2) 0 rfl), f_49.keep (ks := [0, 1, 3, 5, 6, 15, 16, 17]) (by kernel_rfl), p_24⟩
         exact N_none
        exact N_none
       refine N_alt rfl (fun w_16 p_16 => ?_) ?_
       ·refine V_alloc f_42 p_16 (.cells #[S [], S [], S [], .slice none 0 0, .bool false, .slice none 0 0] 43 (0, 0)) (by kernel_rfl) (fun _ => by kernel_rfl) (fun b_5 w_17 p_17 a_47 f_50 => ?_)
        refine W_end rfl ?_
        refine N_goN 1 (Mem.le_refl _) p_17 rfl ?_
        refine N_alt rfl (fun w_18 p_18 => ?_) ?_
        ·refine V_ok f_50 p_18 (state_Own_ok n _ _ (⟨d1.fOld.fOwned, d1.fOld.fPending, d1.fOld.fRetained, d1.fOld.fOuts, d1.fOld.fText, d1.fOld.fArgs, d1.fOld.fCalls, d1.fOld.fStatus⟩ : TG0) (TG0.shut (h_1.mono (hM_1.trans hM_2)) (h_2.mono (hM_1.trans hM_2)) (h_3.mono (hM_1.trans hM_2)) (h_4.mono (hM_1.trans hM_2)) (h_5.mono (hM_1.trans hM_2))) x_2.fId x_3 hx_3) (by kernel_rfl) (fun _ => by kernel_rfl) (fun u_3 M_5 w_19 hM_5 p_19 q_3 a_48 f_51 => ?_)
         obtain ⟨c_4, rfl, hr_4⟩ := q_3
         obtain ⟨A_17, cap_17, A_18, cap_18, rfl, h_21, h_22⟩ := TU0.opn hr_4
         refine W_end rfl ?_
         refine N_goN 1 hM_5 p_19 rfl ?_
         refine N_eq (v := .tuple #[.agg #[S x_3.1.fId, S x_3.1.fType, S x_3.1.fPhys, .slice A_17 x_3.1.fProps.length cap_17, .bool x_3.1.fRetain, .slice A_18 x_3.1.fLeans.length cap_18], .bool x_3.2]) rfl f_51 (by kernel_rfl) (by kernel_rfl) rfl rfl (fun _ _ => by kernel_rfl) (fun a_49 f_52 => ?_)
         refine N_eq (v := .agg #[S x_3.1.fId, S x_3.1.fType, S x_3.1.fPhys, .slice A_17 x_3.1.fProps.length cap_17, .bool x_3.1.fRetain, .slice A_18 x_3.1.fLeans.length cap_18]) rfl f_52 (by kernel_rfl) (by kernel_rfl) rfl rfl (fun _ _ => by kernel_rfl) (fun a_50 f_53 => ?_)
         refine N_eq (v := .bool x_3.2) rfl f_53 (by kernel_rfl) (by kernel_rfl) rfl rfl (fun _ _ => by kernel_rfl) (fun a_51 f_54 => ?_)
         refine N_alt rfl (fun w_20 p_20 => ?_) ?_
         ·refine W_storeN (vs := [S x_3.1.fId, S x_3.1.fType, S x_3.1.fPhys, .slice A_17 x_3.1.fProps.length cap_17, .bool x_3.1.fRetain, .slice A_18 x_3.1.fLeans.length cap_18]) (j := 0) f_54 p_20 (by kernel_rfl) (by kernel_rfl) rfl rfl (by kernel_rfl) (by kernel_rfl) (by simp [Value.oneCell', S]) (by kernel_rfl) (by simp) (by decide) (cs' := #[S x_3.1.fId, S x_3.1.fType, S x_3.1.fPhys, .slice A_17 x_3.1.fProps.length cap_17, .bool x_3.1.fRetain, .slice A_18 x_3.1.fLeans.length cap_18]) (by kernel_rfl) (fun w_21 p_21 a_52 f_55 => ?_)
          refine W_end rfl ?_
          refine N_goN 1 hM_5 p_21 rfl ?_
          refine N_tail (fun w_22 p_22 => ?_)
          refine V_run f_55 1 (by kernel_rfl) (fun a_53 f_56 => ?_)
          refine W_end rfl ?_
          refine N_te ?_
          obtain ⟨M_8, hM_8, p_25, hc_3⟩ := p_22.fzOwn
          refine T_n ?_
          exact ⟨(x_3.1, (x_3.2)), (Option.some.inj hF_14).symm, M_8, (hM_5.trans hM_8), ⟨b_5, 0, none⟩, [S x_3.1.fId, S x_3.1.fType, S x_3.1.fPhys, .slice A_17 x_3.1.fProps.length cap_17, .bool x_3.1.fRetain, .slice A_18 x_3.1.fLeans.length cap_18], (TU0.shutx (x := x_3.1) (h_21.mono hM_8) (h_22.mono hM_8)), (fz_at (hc_3) 0 rfl), f_56.keep (ks := [0, 1, 3, 5, 6, 15, 16, 17]) (by kernel_rfl), p_25⟩
         exact N_none
        exact N_none
       exact N_none
      ·rintro a_54 w_23 ⟨y_2, hq_3, M_6, hM_6, ad_2, c_5, hr_5, hq_2, f_57, p_23⟩
       subst j_2
       obtain ⟨A_19, cap_19, A_20, cap_20, rfl, h_23, h_24⟩ := TU0.opn hr_5
       refine T_n ?_
       refine R_seq ?_
       refine WI_reg ?_
       refine WI_pre 2 (by kernel_rfl) ?_
       refine V_run f_57 2 (by kernel_rfl) (fun a_55 f_58 => ?_)
       refine W_end rfl ⟨rfl, ?_⟩
       rcases Bool.eq_false_or_eq_true (y_2.2) with h_25 | h_25
       ·have hF_15 := cnd_t h_25 hF_13
        obtain ⟨g_2, hF_16⟩ := need_some hF_15
        obtain ⟨ls2, hF_17, hF_18⟩ := bind_some' hF_16
        obtain rfl := Option.some.inj hF_18
        obtain ⟨r1, hy1, hfold⟩ := Option.bind_eq_some_iff.1 hfs
        have f_59 := Frm.set f_58 41 (v := .bool y_2.2) (v' := .bool true) (by kernel_rfl) (congrArg Value.bool h_25)
        refine WI_pre 3 (by kernel_rfl) ?_
        refine V_run f_59 2 (by kernel_rfl) (fun a_56 f_60 => ?_)
        refine V_eq (v := .agg #[S y_2.1.fId, S y_2.1.fType, S y_2.1.fPhys, .slice A_19 y_2.1.fProps.length cap_19, .bool y_2.1.fRetain, .slice A_20 y_2.1.fLeans.length cap_20]) f_60 (by kernel_rfl) (X_loadN (cs := [S y_2.1.fId, S y_2.1.fType, S y_2.1.fPhys, .slice A_19 y_2.1.fProps.length cap_19, .bool y_2.1.fRetain, .slice A_20 y_2.1.fLeans.length cap_20]) rfl (ad := ad_2) (by kernel_rfl) (by kernel_rfl) (fun j v h => p_23.cell (hq_2 j v h))) (fun a_57 f_61 => ?_)
        refine W_end rfl ⟨rfl, ?_⟩
        have hM12 : M_1.le M_6 := hM_2.trans hM_6
        have p_30 : Hp w0 M_6 (Es ++ (.obj b_2 (.cells #[S x_2.fId, .int .i8 x_2.fKind, S x_2.fType, .slice A_11 x_2.fProps.length cap_11, .bool x_2.fRetain, .int .i64 x_2.fNode, .bool x_2.fOld, .slice A_12 x_2.fLeans.length cap_12] 77 (0, 0)) :: H)) w_23 := p_23.perm List.perm_middle.symm
        obtain ⟨fn, tmps, asg, bd, hrun, hR⟩ := hY s _ r1 hy1 w0 M_6 Es _ w_23 [.int .i64 s_1, .agg #[S y_2.1.fId, S y_2.1.fType, S y_2.1.fPhys, .slice A_19 y_2.1.fProps.length cap_19, .bool y_2.1.fRetain, .slice A_20 y_2.1.fLeans.length cap_20]] (hJ _ _ _ _ hM12 hjs) ⟨_, rfl, _, rfl, TU0.shutx (x := y_2.1) h_23 h_24⟩ p_30
        refine WI_round f_61 (by kernel_rfl) (by kernel_rfl) rfl rfl (fun c e => by cases e) (hx := Eq.trans (by kernel_rfl) hrun) hR ?_
        rintro e w_3 ⟨M_7, E2, hM_7, p_31, hr3⟩
        replace p_31 : Hp w0 M_7 (E2 ++ H) w_3 := (p_31.perm List.perm_middle).dropN 1
        cases r1 with
        | br b =>
         obtain ⟨rfl, hjx⟩ := hr3
         obtain rfl := Option.some.inj hfold
         refine ⟨_, rfl, fun a_19 f_62 => ?_⟩
         refine list_in (ro := none) (by rintro ⟨_, _, h⟩; rcases h with h | h <;> cases h.1) _ (by kernel_rfl) _ _ ?_
         refine V_run f_62 2 (by kernel_rfl) (fun a_20 f_63 => ?_)
         refine W_end rfl ?_
         refine T_n ?_
         refine R_cond_t f_63 (by kernel_rfl) (by kernel_rfl) ?_
         refine wp_ret ?_
         refine B_r ?_
         refine T_r ?_
         refine T_r ?_
         exact .inl ⟨rfl, b, M_7, E2, rfl, (hM_1.trans hM12).trans hM_7, hjx, f_63.keep (ks := []) (by kernel_rfl), p_31⟩
        | nx s1 =>
         obtain ⟨rfl, hj1⟩ := hr3
         replace hfold : foldY Y ls2 s1 = some r := hfold
         refine ⟨_, rfl, fun a_19 f_62 => ?_⟩
         refine list_in (ro := none) (by rintro ⟨_, _, h⟩; rcases h with h | h <;> cases h.1) _ (by kernel_rfl) _ _ ?_
         refine V_run f_62 2 (by kernel_rfl) (fun a_20 f_63 => ?_)
         refine W_end rfl ?_
         refine T_n ?_
         refine R_cond_f f_63 (by kernel_rfl) (by kernel_rfl) ?_
         refine wp_skip ?_
         refine B_n ?_
         refine T_n ?_
         refine R_reg ?_
         refine V_run f_63 1 (by kernel_rfl) (fun a_59 f_64 => ?_)
         have f_65 := Frm.set f_64 48 (v := .int .i64 (IntKind.wrap .i64 (s_1 + 1))) (v' := .int .i64 (s_1 + 1)) (by kernel_rfl) (congrArg (Value.int .i64) (inR_wrap g_2))
         refine V_run f_65 1 (by kernel_rfl) (fun a_60 f_66 => ?_)
         refine W_end rfl ?_
         refine T_n ?_
         exact ⟨(m_2, s_1 + 1, s1, E2), Nat.lt_succ_self _, M_7, (hM_1.trans hM12).trans hM_7, ⟨_, hF_17, hfold, hj1⟩, f_66.keep (ks := [0, 1, 15, 16, 17]) (by kernel_rfl), p_31⟩
       ·have hF_19 := cnd_f h_25 hF_13
        have f_66 := Frm.set f_58 41 (v := .bool y_2.2) (v' := .bool false) (by kernel_rfl) (congrArg Value.bool h_25)
        refine list_in (ro := none) (by rintro ⟨_, _, h⟩; rcases h with h | h <;> cases h.1) _ (by kernel_rfl) _ _ ?_
        refine V_run f_66 6 (by kernel_rfl) (fun a_61 f_67 => ?_)
        refine W_end rfl ?_
        refine T_n ?_
        refine R_cond_f f_67 (by kernel_rfl) (by kernel_rfl) ?_
        refine wp_skip ?_
        refine B_n ?_
        refine T_n ?_
        refine R_reg ?_
        obtain ⟨g_3, hF_20⟩ := need_some hF_19
        refine V_run f_67 1 (by kernel_rfl) (fun a_62 f_68 => ?_)
        have f_69 := Frm.set f_68 48 (v := .int .i64 (IntKind.wrap .i64 (s_1 + 1))) (v' := .int .i64 (s_1 + 1)) (by kernel_rfl) (congrArg (Value.int .i64) (inR_wrap g_3))
        refine V_run f_69 1 (by kernel_rfl) (fun a_63 f_70 => ?_)
        refine W_end rfl ?_
        refine T_n ?_
        exact ⟨(m_2, s_1 + 1, s, Es), Nat.lt_succ_self _, M_6, ((hM_1.trans hM_2).trans hM_6), ⟨_, hF_20, hfs, hJ _ _ _ _ (hM_2.trans hM_6) hjs⟩, f_70.keep (ks := [0, 1, 15, 16, 17]) (by kernel_rfl), (p_23.dropN 1)⟩
   ·have k_12 : ¬ (s_1 < ((d1.fChanges.length : Nat) : Int)) := iff_f decide_eq_true_iff h_12
    have hF_21 := cnd_f h_12 hs_1
    refine wp_exit ?_
    refine T_x ?_
    refine T_x ?_
    obtain rfl := Option.some.inj hF_21
    obtain rfl := Option.some.inj hfs
    exact .inr ⟨rfl, s, M_1, Es, rfl, hM_1, hjs, f_9.keep (ks := []) (by kernel_rfl), p_2⟩
  ·rintro _ a_66 w_26 (⟨rfl, b, M', E', rfl, g1, g2, f_71, p_26⟩ | ⟨rfl, s', M', E', rfl, g1, g2, f_71, p_26⟩)
   ·refine B_r ?_
    refine E_ret0 f_71 rfl ?_
    exact ⟨_, rfl, M', E', g1, p_26, g2⟩
   ·refine B_x ?_
    refine E_end0 f_71 rfl ?_
    exact ⟨_, rfl, M', E', g1, p_26, g2⟩
theorem going_ok (n : Nat) (M : Mem) (ad1 : Addr) (c1 : List Value) (d1 : TL0) (h1 : Rep M (emb_TL0 d1) c1) (q1 : ∀ j v, c1[j]? = some v → M.cell? (ad1.add j) = some v) (ls : List (Int × TU0)) (hF : goingV n d1 = some ls) :
  Ok Try.prog M 66 [.pointer (some ad1)] (fun M' u => ∃ f caps, u = .func (.func f) #[] caps.toArray ∧ IterOk Try.prog f caps (vals2 (vstr emb_TU0)) ls M') := by
 intro M1 hM0 w0 H w p0
 replace h1 := Rep.mono hM0 _ _ h1
 replace q1 := fun j v h => hM0.cell (q1 j v h)
 refine R_enter 4 Try.func66 rfl rfl (by simp) (fun a0 f0 => ?_)
 replace f0 : Frm 4 [(0, .pointer (some ad1))] a0 := f0
 refine R_seq ?_
 refine R_reg ?_
 refine W_box (cs := #[.pointer (some ad1)]) (T := 119) f0 p0 1 [1] (fun b => [(1, .pointer (some ⟨b, 0, none⟩))]) (fun _ => by kernel_rfl) (fun bv M2 w hM1 hc p1 a_1 f_1 => ?_)
 replace f_1 : Frm 4 [(1, .pointer (some ⟨bv, 0, none⟩))] a_1 := f_1
 refine W_run (L' := [(1, .pointer (some ⟨bv, 0, none⟩))]) (w' := w) f_1 1 [1] (by kernel_rfl) (fun a_2 f_2 => ?_)
 refine W_end rfl ?_
 refine T_n ?_
 refine R_seq ?_
 refine R_reg ?_
 refine W_run (L' := [(2, .func (.func 79) #[] #[.pointer (some ⟨bv, 0, none⟩)])]) (w' := w) f_2 2 [2] (by kernel_rfl) (fun a_3 f_3 => ?_)
 refine W_end rfl ?_
 refine T_n ?_
 refine wp_ret ?_
 refine E_ret1 f_3 rfl (by kernel_rfl : Vc.look _ 2 = some (.func (.func 79) #[] #[.pointer (some ⟨bv, 0, none⟩)])) ?_
 exact ⟨_, rfl, M2, hM1, p1, 79, [.pointer (some ⟨bv, 0, none⟩)], rfl, going_iter n M2 bv ad1 _ d1 (Rep.mono hM1 _ _ h1) (fun j v h => hM1.cell (q1 j v h)) (hc 0 _ rfl) ls hF⟩
def cleanup_Goes_s1 (n : Nat) (s_1 : List Int) (x_2 : Int × TU0) : Option (Lp (List Int) Empty) :=
    bif !x_2.2.fRetain then
      (need ((s_1.length + 1) * 8 ≤ 140737488355328) <|
      some (.nx (s_1 ++ [x_2.1])))
    else
      some (.nx s_1)
def cleanup_Goes (n : Nat) (d0 : TL0) : Option (List Int) :=
  (goingV n d0).bind fun x_1 =>
  (foldY (cleanup_Goes_s1 n) x_1 ([] : List Int)).bind fun j_1 =>
  (match j_1 with 
  | .nx s_2 => some (s_2) 
  | .br _ => none)
theorem cleanup_Goes_ok (n : Nat) (M : Mem) (c0 : List Value) (d0 : TL0) (h0 : Rep M (emb_TL0 d0) c0) (r : List Int) (hF : cleanup_Goes n d0 = some r) : OkH Try.prog M [] 54 [.agg c0.toArray] (fun M' E' v => ∃ (A0 : Option Addr) (k0 : Nat) (s0 : List Value), v = .slice A0 r.length k0 ∧ E' = [.row 3 1 (.slice A0 r.length k0) r.length s0] ∧ RepSeq M' (r.map (Dat.int .i64)) s0) := by
 unfold cleanup_Goes at hF
 intro M1 hM0 w0 H w p0
 replace h0 := Rep.mono hM0 _ _ h0
 obtain ⟨A_1, cap_1, A_2, cap_2, A_3, cap_3, A_4, cap_4, A_5, cap_5, A_6, cap_6, A_7, cap_7, A_8, cap_8, A_9, cap_9, A_10, cap_10, rfl, h_1, h_2, h_3, h_4, h_5, h_6, h_7, h_8, h_9, h_10⟩ := TL0.opn h0
 refine R_enterM 16 Try.func54 rfl rfl (by simp) fun a0 f0 => RR (Y13 (cs := #[.int .i8 d0.fKind, .int .i64 d0.fWidth, .slice A_1 d0.fOld.fOwned.length cap_1, .slice A_2 d0.fOld.fPending.length cap_2, .slice A_3 d0.fOld.fRetained.length cap_3, .slice A_4 d0.fOld.fOuts.length cap_4, S d0.fOld.fText, .slice A_5 d0.fOld.fArgs.length cap_5, .int .i64 d0.fOld.fCalls, .int .i8 d0.fOld.fStatus, .slice A_6 d0.fNew.fScopes.length cap_6, .slice A_7 d0.fNew.fNodes.length cap_7, S d0.fText, .slice A_8 d0.fArgs.length cap_8, .slice A_9 d0.fChanges.length cap_9, .slice A_10 d0.fTasks.length cap_10, .int .i8 d0.fPhase, .int .i8 d0.fStatus]) (T := 55) f0 p0 fun b_1 M_1 w_1 hM_1 hc_1 p_1 _ f => ?_)
 have hc_2 := fz_box hc_1
 refine Y12 f p_1 (.cells #[.slice none 0 0] 27 (0, 0)) fun b_2 w_2 p_2 _ f => eT (R_seq (RR ?_))
 obtain ⟨x_1, hx_1, hF_1⟩ := bS hF
 refine Y16 f p_2 (going_ok n _ (⟨b_1, 0, none⟩) [.int .i8 d0.fKind, .int .i64 d0.fWidth, .slice A_1 d0.fOld.fOwned.length cap_1, .slice A_2 d0.fOld.fPending.length cap_2, .slice A_3 d0.fOld.fRetained.length cap_3, .slice A_4 d0.fOld.fOuts.length cap_4, S d0.fOld.fText, .slice A_5 d0.fOld.fArgs.length cap_5, .int .i64 d0.fOld.fCalls, .int .i8 d0.fOld.fStatus, .slice A_6 d0.fNew.fScopes.length cap_6, .slice A_7 d0.fNew.fNodes.length cap_7, S d0.fText, .slice A_8 d0.fArgs.length cap_8, .slice A_9 d0.fChanges.length cap_9, .slice A_10 d0.fTasks.length cap_10, .int .i8 d0.fPhase, .int .i8 d0.fStatus] d0 (TL0.shutx (x := d0) (h_1.mono hM_1) (h_2.mono hM_1) (h_3.mono hM_1) (h_4.mono hM_1) (h_5.mono hM_1) (h_6.mono hM_1) (h_7.mono hM_1) (h_8.mono hM_1) (h_9.mono hM_1) (h_10.mono hM_1)) hc_2 x_1 hx_1) fun _ M_2 w_3 hM_2 p_3 q_1 a_3 f => ?_
 obtain ⟨fv_1, cp_1, rfl, hit_1⟩ := q_1
 refine eT (wp_block ?_)
 obtain ⟨A_11, cap_11, hv_1⟩ : ∃ A cap, Value.slice none 0 0 = .slice A ([] : List Int).length cap := ⟨none, 0, rfl⟩
 have p_4 : Hp w0 M_2 ((Ent.row 3 1 (.slice A_11 ([] : List Int).length cap_11) ([] : List Int).length []) :: (Ent.obj b_2 (.cells #[.slice A_11 ([] : List Int).length cap_11] 27 (0, 0))) :: H) w_3 := by rw [← hv_1]; exact p_3.nilRow 3 1
 have hr_1 : RepSeq M_2 (([] : List Int).map (Dat.int .i64)) [] := rfl
 have f : Frm 16 [(2, .pointer (some (⟨b_2, 0, none⟩))), (5, .func (.func fv_1) #[] cp_1.toArray)] a_3 := f.kp
 obtain ⟨j_1, hL_1, hF_2⟩ := bS hF_1
 refine R_range2 (σ := List Int) (β := Empty) (vals := (vals2 (vstr emb_TU0))) (Y := (cleanup_Goes_s1 n)) (E0 := [Ent.row 3 1 (.slice A_11 ([] : List Int).length cap_11) ([] : List Int).length [], Ent.obj b_2 (.cells #[.slice A_11 ([] : List Int).length cap_11] 27 (0, 0))]) (H := H) (w0 := w0) (M := M_2) (f := fv_1) (caps := cp_1) f p_4 (by kernel_rfl) (by kernel_rfl) (by kernel_rfl) (by kernel_rfl) hit_1.1 (fun (s_1 : List Int) M' E1 => ∃ (A_12 : Option Addr) (cap_12 : Nat) (cs_1 : List Value), E1 = [Ent.row 3 1 (.slice A_12 s_1.length cap_12) s_1.length cs_1, Ent.obj b_2 (.cells #[.slice A_12 s_1.length cap_12] 27 (0, 0))] ∧ RepSeq M' (s_1.map (Dat.int .i64)) cs_1) (fun (b : Empty) _ _ => b.elim) (fun (b : Empty) => b.elim) ([] : List Int) j_1 ⟨A_11, cap_11, [], rfl, hr_1⟩ (fun s_ M_ M2_ E_ hM h => by obtain ⟨A_12, cap_12, cs_1, rfl, hr_3⟩ := h; exact ⟨A_12, cap_12, cs_1, rfl, RepSeq.mono hM _ _ hr_3⟩) (fun b => b.elim) (fun M_ x_ vs_ h => by obtain ⟨c_, h, _⟩ := h; exact ⟨_, _, h⟩) (hit_1.2 _ _ _ _ _ hL_1) ?_ ?_ ?_
 ·rintro s_1 x_2 r_1 hs_1 l_1 w0 M_3 E_1 H w_4 _ v_1 u_2 hM_3 ⟨A_12, cap_12, cs_1, rfl, hr_3⟩ ⟨u_3, hv_2, cc_1, hu_1, hr_2⟩ p_5 f
  obtain ⟨rfl, rfl⟩ : v_1 = .int .i64 x_2.1 ∧ u_2 = u_3 := by simpa using hv_2
  subst hu_1
  unfold cleanup_Goes_s1 at hs_1
  obtain ⟨A_13, cap_13, A_14, cap_14, rfl, h_11, h_12⟩ := TU0.opn hr_2
  refine RI_seq (RI_reg (then_out (then_out F_out)) (by kernel_rfl) (Y f 1 fun _ f => eT (RI_reg (then_out F_out) (by kernel_rfl) (Y12 f p_5 (.cells #[S [], S [], S [], .slice none 0 0, .bool false, .slice none 0 0] 43 (0, 0)) fun b_3 w_5 p_6 _ f => Y27 (vs := [S x_2.2.fId, S x_2.2.fType, S x_2.2.fPhys, .slice A_13 x_2.2.fProps.length cap_13, .bool x_2.2.fRetain, .slice A_14 x_2.2.fLeans.length cap_14]) (j := 0) f p_6 rfl rfl (by simp [Value.oneCell', S]) (by simp) (by decide) (cs' := #[S x_2.2.fId, S x_2.2.fType, S x_2.2.fPhys, .slice A_13 x_2.2.fProps.length cap_13, .bool x_2.2.fRetain, .slice A_14 x_2.2.fLeans.length cap_14]) fun w_6 p_7 _ f => eT (⟨M_3, [Ent.obj b_3 (.cells #[S x_2.2.fId, S x_2.2.fType, S x_2.2.fPhys, .slice A_13 x_2.2.fProps.length cap_13, .bool x_2.2.fRetain, .slice A_14 x_2.2.fLeans.length cap_14] 43 (0, 0)), Ent.row 3 1 (.slice A_12 s_1.length cap_12) s_1.length cs_1, Ent.obj b_2 (.cells #[.slice A_12 s_1.length cap_12] 27 (0, 0))], (mR _), p_7, fun H w_7 p_8 => ?_⟩)))))
  refine RI_block (RI_seq (RI_reg (then_out (block_out (RB_out))) (by kernel_rfl) (Y f 1 fun _ f => Z f (Y31 (v := .bool x_2.2.fRetain) rfl (ad := ⟨b_3, 4, none⟩) (p_8.ownCell 0 rfl 4)) fun _ f => Y f 1 fun _ f => eT (RI_cond f (b := !x_2.2.fRetain) (by kernel_rfl) (by kernel_rfl) (fun h_13 => ?_) fun h_13 => ?_))))
  ·have k_1 : (x_2.2.fRetain) = false := by simpa using h_13
   have hF_3 := cnd_t h_13 hs_1
   refine RI_reg (block_out (RB_out)) (by kernel_rfl) (Z f (Y31 (v := .slice A_12 s_1.length cap_12) rfl (ad := ⟨b_2, 0, none⟩) (p_8.ownCell 2 rfl 0)) fun _ f => Y f 1 fun _ f => V_allocS (k := 1) (c := 1) f p_8 (.cells #[.int .i64 x_2.1] 3 (0, 0)) (by kernel_rfl) (fun _ => by kernel_rfl) fun b_4 w_8 p_9 _ f => ?_)
   have p_10 := p_9.pl [2]
   obtain ⟨g_1, hF_4⟩ := nS hF_3
   refine Y21 (z := .int .i64 0) (f := (Dat.int .i64)) (xs := s_1) (ys := [x_2.1]) (news := [.int .i64 x_2.1]) (ad := ⟨b_4, 0, none⟩) (m := 1) (c := 1) f p_10 hr_3 (by exact ⟨_, _, rfl, rfl, rfl⟩) rfl rfl rfl rfl (own_cells (p_10.ownCell 1 rfl) 0 rfl) (by exact g_1) (by have hg_ := g_1; first | omega | (simp only [List.length_cons, List.length_nil] at *; omega)) fun A_15 cap_15 cs_2 w_9 p_11 hr_4 _ f => ?_
   have p_12 := p_11.pl [1]
   have p_13 := p_12.drop
   refine Y26 f p_13 2 rfl rfl (b := b_2) (j := 0) (v := .slice A_15 (s_1 ++ [x_2.1]).length cap_15) rfl (by exact rfl) (by simp) (by simp) ((Ent.row 3 1 (.slice A_15 (s_1 ++ [x_2.1]).length cap_15) (s_1 ++ [x_2.1]).length cs_2) :: (Ent.obj b_3 (.cells #[S x_2.2.fId, S x_2.2.fType, S x_2.2.fPhys, .slice A_13 x_2.2.fProps.length cap_13, .bool x_2.2.fRetain, .slice A_14 x_2.2.fLeans.length cap_14] 43 (0, 0))) :: (Ent.obj b_2 (.cells #[.slice A_15 (s_1 ++ [x_2.1]).length cap_15] 27 (0, 0))) :: H) rfl fun w_10 p_14 _ f => W_end rfl (B_n ?_)
   have p_17 := p_14.pl [2, 1, 2]
   obtain rfl := sI hF_4
   exact RB_n ⟨M_3, [Ent.row 3 1 (.slice A_15 (s_1 ++ [x_2.1]).length cap_15) (s_1 ++ [x_2.1]).length cs_2, Ent.obj b_2 (.cells #[.slice A_15 (s_1 ++ [x_2.1]).length cap_15] 27 (0, 0))], (mR _), (p_17.dropN 1), ⟨A_15, cap_15, cs_2, rfl, hr_4⟩⟩
  ·have k_2 : (x_2.2.fRetain) = true := by simpa using h_13
   have hF_5 := cnd_f h_13 hs_1
   refine RI_skip (B_n ?_)
   obtain rfl := sI hF_5
   exact RB_n ⟨M_3, [Ent.row 3 1 (.slice A_12 s_1.length cap_12) s_1.length cs_1, Ent.obj b_2 (.cells #[.slice A_12 s_1.length cap_12] 27 (0, 0))], (mR _), (p_8.dropN 1), ⟨A_12, cap_12, cs_1, rfl, hr_3⟩⟩
 ·rintro s_2 rfl l_2 D_1 rr_1 M_4 E_2 w_11 _ hM_4 ⟨A_16, cap_16, cs_3, rfl, hr_5⟩ p_18 f
  replace p_18 : Hp w0 M_4 ((Ent.obj D_1 (.deferred (some []))) :: (Ent.row 3 1 (.slice A_16 s_2.length cap_16) s_2.length cs_3) :: (Ent.obj b_2 (.cells #[.slice A_16 s_2.length cap_16] 27 (0, 0))) :: H) w_11 := p_18.drop
  replace hF_2 : (_ : Option _) = some _ := hF_2
  refine B_n (T_n (RR (Z f (Y31 (v := .slice A_16 s_2.length cap_16) rfl (ad := ⟨b_2, 0, none⟩) (p_18.ownCell 2 rfl 0)) fun _ f => Y26 f p_18 2 rfl rfl (b := b_2) (j := 0) (v := .slice A_16 s_2.length cap_16) rfl (by exact rfl) (by simp) (by simp) ((Ent.obj D_1 (.deferred (some []))) :: (Ent.row 3 1 (.slice A_16 s_2.length cap_16) s_2.length cs_3) :: (Ent.obj b_2 (.cells #[.slice A_16 s_2.length cap_16] 27 (0, 0))) :: H) rfl fun w_12 p_19 _ f => eT (wp_ret (E_M1 f p_19 fun w_13 p_20 => V_rv1 rfl (Y9 (v := .slice A_16 s_2.length cap_16) (ad := ⟨b_2, 0, none⟩) f (p_20.ownCell 1 rfl 0)) ?_)))))
  obtain rfl := sI hF_2
  have p_21 := p_20.pl [1]
  exact ⟨_, rfl, M_4, _, ((hM_1.trans hM_2).trans hM_4), (p_21.dropN 1), ⟨A_16, cap_16, cs_3, rfl, rfl, hr_5⟩⟩
 ·intro b; exact b.elim
end Go.Proofs.Ytfdmlionhbeebaa
end

section
namespace Go.Vc
abbrev LL := List (List Int)
theorem row_mem {l : LL} {k : Nat} (h : k < l.length) : l.getD k [] ∈ l := by
 simp [List.getD, h]
theorem lt_zero {p : Nat → Prop} : ∀ j, j < 0 → p j := fun j hj => absurd hj (Nat.not_lt_zero j)
def rowOk (l : LL) (st : List Int) (i : Nat) : Bool := decide (0 ≤ st.getD i 0) && decide (st.getD i 0 ≤ 5) && !((l.getD i []).any fun n => decide (n < 0) || decide ((l.length : Int) ≤ n))
def mayB (l : LL) (st : List Int) : Bool := decide (l.length = st.length) && (List.range l.length).all (rowOk l st)
theorem mayB_no {l : LL} {st : List Int} {k : Nat} (hk : k < l.length) (h : rowOk l st k = false) : mayB l st = false := by
 cases hm : mayB l st with
 | false => rfl
 | true =>
  simp only [mayB, Bool.and_eq_true, List.all_eq_true, List.mem_range] at hm
  rw [hm.2 k hk] at h; cases h
def sel (f : Nat → Bool) (n : Nat) : List Int := ((List.range n).filter f).map Int.ofNat
theorem sel_zero (f : Nat → Bool) : sel f 0 = [] := rfl
theorem sel_no {f : Nat → Bool} {n : Nat} (h : f n = false) : sel f (n + 1) = sel f n := by simp [sel, List.range_succ, List.filter_append, h]
theorem sel_yes {f : Nat → Bool} {n : Nat} (h : f n = true) : sel f (n + 1) = sel f n ++ [(n : Int)] := by simp [sel, List.range_succ, List.filter_append, h]
theorem sel_len (f : Nat → Bool) (n : Nat) : (sel f n).length ≤ n := by
 unfold sel
 rw [List.length_map]
 exact Nat.le_trans (List.length_filter_le _ _) (by simp)
theorem sel_mem {f : Nat → Bool} {n : Nat} {x : Int} : x ∈ sel f n ↔ ∃ i : Nat, x = i ∧ i < n ∧ f i = true := by
 simp only [sel, List.mem_map, List.mem_filter, List.mem_range]
 exact ⟨fun ⟨i, h, e⟩ => ⟨i, e.symm, h⟩, fun ⟨i, e, h⟩ => ⟨i, h, e.symm⟩⟩
end Go.Vc
end

section
namespace Go.Proofs.Ytfdmlionhbeebaa
open Go Go.Vc Go.RowKit
theorem insNil_ok (M : Mem)  : Ok Try.prog M 80 [.slice none 0 0, .int .i64 0, .int .i64 0] (fun _ v => v = .tuple #[]) := by
 intro M hM0 w0 H w p0
 refine R_enter 49 Try.func80 rfl rfl (by simp) (fun a0 f0 => ?_)
 replace f0 : Frm 49 [(0, .slice none 0 0), (1, .int .i64 0), (2, .int .i64 0)] a0 := f0
 refine R_seq ?_
 refine R_reg ?_
 refine W_run (L' := [(0, .slice none 0 0), (1, .int .i64 0), (2, .int .i64 0), (6, .int .i64 1)]) (w' := w) f0 3 [0, 1, 2, 6] (by kernel_rfl) (fun a_1 f_1 => ?_)
 refine W_end rfl ?_
 refine T_n ?_
 refine wp_block ?_
 refine R_loop (n := 49) (w0 := w0) (M := M) (fun (_ : Unit) => [(0, .slice none 0 0), (1, .int .i64 0), (2, .int .i64 0), (6, .int .i64 1)]) (fun (_ : Unit) => (H)) (fun (_ : Unit) (_ : Mem) => True) (fun (_ : Unit) => 0) () (f_1.keep (ks := [0, 1, 2, 6]) (by kernel_rfl)) p0 ?_ ?_
 ·trivial
 ·rintro ⟨⟩ M_1 a_2 w_1 hM_1 I_1 f_2 p_1
  replace f_2 : Frm 49 [(0, .slice none 0 0), (1, .int .i64 0), (2, .int .i64 0), (6, .int .i64 1)] a_2 := f_2
  replace p_1 : Hp w0 M_1 (H) w_1 := p_1
  refine R_seq ?_
  refine R_seq ?_
  refine R_reg ?_
  refine W_run (L' := [(0, .slice none 0 0), (1, .int .i64 0), (2, .int .i64 0), (6, .int .i64 1), (12, .bool false)]) (w' := w_1) f_2 3 [0, 1, 2, 6, 12] (by kernel_rfl) (fun a_3 f_3 => ?_)
  refine W_end rfl ?_
  refine T_n ?_
  refine R_cond_f f_3 (by kernel_rfl) (by kernel_rfl) ?_
  refine wp_exit ?_
  refine T_x ?_
  refine T_x ?_
  refine B_x ?_
  refine E_end0 f_3 rfl  ?_
  refine ⟨_, rfl, M_1, hM_1, p_1, ?_⟩
  rfl
theorem pdqNil_ok (M : Mem)  : Ok Try.prog M 71 [.slice none 0 0, .int .i64 0, .int .i64 0, .int .i64 0] (fun _ v => v = .tuple #[]) := by
 intro M hM0 w0 H w p0
 refine R_enter 134 Try.func71 rfl rfl (by simp) (fun a0 f0 => ?_)
 replace f0 : Frm 134 [(0, .slice none 0 0), (1, .int .i64 0), (2, .int .i64 0), (3, .int .i64 0)] a0 := f0
 refine R_seq ?_
 refine R_reg ?_
 refine W_run (L' := [(0, .slice none 0 0), (1, .int .i64 0), (2, .int .i64 0), (3, .int .i64 0), (8, .bool true)]) (w' := w) f0 1 [0, 1, 2, 3, 8] (by kernel_rfl) (fun a_1 f_1 => ?_)
 refine W_end rfl ?_
 refine T_n ?_
 refine R_seq ?_
 refine R_reg ?_
 refine W_run (L' := [(0, .slice none 0 0), (1, .int .i64 0), (2, .int .i64 0), (3, .int .i64 0), (8, .bool true), (9, .bool true)]) (w' := w) f_1 1 [0, 1, 2, 3, 8, 9] (by kernel_rfl) (fun a_2 f_2 => ?_)
 refine W_end rfl ?_
 refine T_n ?_
 refine wp_block ?_
 refine R_loop (n := 134) (w0 := w0) (M := M) (fun (_ : Unit) => [(0, .slice none 0 0), (1, .int .i64 0), (2, .int .i64 0), (3, .int .i64 0), (8, .bool true), (9, .bool true)]) (fun (_ : Unit) => (H)) (fun (_ : Unit) (_ : Mem) => True) (fun (_ : Unit) => 0) () (f_2.keep (ks := [0, 1, 2, 3, 8, 9]) (by kernel_rfl)) p0 ?_ ?_
 ·trivial
 ·rintro ⟨⟩ M_1 a_3 w_1 hM_1 I_1 f_3 p_1
  replace f_3 : Frm 134 [(0, .slice none 0 0), (1, .int .i64 0), (2, .int .i64 0), (3, .int .i64 0), (8, .bool true), (9, .bool true)] a_3 := f_3
  replace p_1 : Hp w0 M_1 (H) w_1 := p_1
  refine wp_block ?_
  refine R_seq ?_
  refine R_reg ?_
  refine W_run (L' := [(0, .slice none 0 0), (1, .int .i64 0), (2, .int .i64 0), (3, .int .i64 0), (8, .bool true), (9, .bool true), (10, .int .i64 0)]) (w' := w_1) f_3 4 [0, 1, 2, 3, 8, 9, 10] (by kernel_rfl) (fun a_4 f_4 => ?_)
  refine W_end rfl ?_
  refine T_n ?_
  refine R_seq ?_
  refine R_seq ?_
  refine R_reg ?_
  refine W_run (L' := [(0, .slice none 0 0), (1, .int .i64 0), (2, .int .i64 0), (3, .int .i64 0), (8, .bool true), (9, .bool true), (10, .int .i64 0), (23, .bool true)]) (w' := w_1) f_4 2 [0, 1, 2, 3, 8, 9, 10, 23] (by kernel_rfl) (fun a_5 f_5 => ?_)
  refine W_end rfl ?_
  refine T_n ?_
  refine R_cond_t f_5 (by kernel_rfl) (by kernel_rfl) ?_
  refine R_seq ?_
  refine R_reg ?_
  refine W_run (L' := [(24, .slice none 0 0), (25, .int .i64 0), (26, .int .i64 0)]) (w' := w_1) f_5 3 [24, 25, 26] (by kernel_rfl) (fun a_6 f_6 => ?_)
  refine W_okv (v := .tuple #[]) f_6 p_1 (by kernel_rfl) (by kernel_rfl) rfl rfl (fun _ => by kernel_rfl) (insNil_ok _) (fun w_2 p_2 a_7 f_7 => ?_)
  refine W_end rfl ?_
  refine T_n ?_
  refine wp_ret ?_
  refine T_r ?_
  refine B_r ?_
  refine T_r ?_
  refine B_r ?_
  refine E_ret0 f_7 rfl  ?_
  refine ⟨_, rfl, M_1, hM_1, p_2, ?_⟩
  rfl
theorem sortNil_ok (M : Mem)  : Ok Try.prog M 57 [.slice none 0 0] (fun _ v => v = .tuple #[]) := by
 intro M hM0 w0 H w p0
 refine R_enter 11 Try.func57 rfl rfl (by simp) (fun a0 f0 => ?_)
 replace f0 : Frm 11 [(0, .slice none 0 0)] a0 := f0
 refine R_seq ?_
 refine R_reg ?_
 refine W_run (L' := [(0, .slice none 0 0), (2, .int .i64 0)]) (w' := w) f0 3 [0, 2] (by kernel_rfl) (fun a_1 f_1 => ?_)
 refine W_end rfl ?_
 refine T_n ?_
 refine R_reg ?_
 refine W_run (L' := [(5, .slice none 0 0), (6, .int .i64 0), (7, .int .i64 0)]) (w' := w) f_1 3 [5, 6, 7] (by kernel_rfl) (fun a_2 f_2 => ?_)
 refine W_run (L' := [(5, .slice none 0 0), (6, .int .i64 0), (7, .int .i64 0), (8, .int .u64 (IntKind.wrap .u64 (0)))]) (w' := w) f_2 1 [5, 6, 7, 8] (by kernel_rfl) (fun a_3 f_3 => ?_)
 have f_4 := Frm.set f_3 8 (v := .int .u64 (IntKind.wrap .u64 (0))) (v' := .int .u64 0) (by kernel_rfl) (congrArg (Value.int .u64) (IntWalk.u64_in _ (by omega)))
 have f_5 : Frm 11 [(5, .slice none 0 0), (6, .int .i64 0), (7, .int .i64 0), (8, .int .u64 0)] a_3 := f_4.keep (ks := [5, 6, 7, 8]) (by kernel_rfl)
 refine W_okv (v := .int .i64 0) f_5 p0 (by kernel_rfl) (by kernel_rfl) rfl rfl (fun _ => by kernel_rfl) ((Ok.ofPure fun w => Try.bits_Len 0 w (by decide) (by decide)).mono (fun _ _ _ h => h.trans (by kernel_rfl))) (fun w_1 p_1 a_4 f_6 => ?_)
 refine W_okv (v := .tuple #[]) f_6 p_1 (by kernel_rfl) (by kernel_rfl) rfl rfl (fun _ => by kernel_rfl) (pdqNil_ok _) (fun w_2 p_2 a_5 f_7 => ?_)
 refine W_end rfl ?_
 refine E_end0 f_7 rfl  ?_
 refine ⟨_, rfl, M, (Mem.le_refl _), p_2, ?_⟩
 rfl
theorem sort_ok (M : Mem) (v : Value) (xs : List Int) (h : xs.length ≤ 1099511627776) : OkH Try.prog M [.row 3 1 v xs.length (xs.map (Value.int .i64))] 57 [v] fun _ E' u => u = .tuple #[] ∧ E' = [.row 3 1 v xs.length ((rise xs).map (Value.int .i64))] :=
 sortRow (rise_len xs) (fun blk off cap w hH hb => Try.slices_Sort_int blk off cap xs w hH hb (by omega)) (fun _ M => sortNil_ok M) M v
theorem rising_ok (M : Mem) (b : Nat) (ms : List (Int × Value)) (hb : M b = some (mObj (Value.int .i64) ms)) (msL : ms.length ≤ 1099511627776) : Ok Try.prog M 67 [.map (some b)] (fun M' v => RetInts M .i64 (rise (ms.map (·.1))) M' v) := by
 intro M1 hM0 w0 H w p0
 replace hb := hM0 _ _ hb
 refine R_enter 17 Try.func67 rfl rfl (by simp) (fun a0 f0 => ?_)
 replace f0 : Frm 17 [(0, .map (some b))] a0 := f0
 refine R_seq ?_
 refine R_reg ?_
 refine W_run (L' := [(0, .map (some b)), (2, .slice none 0 0)]) (w' := w) f0 1 [0, 2] (by kernel_rfl) (fun a_1 f_1 => ?_)
 refine W_end rfl ?_
 refine T_n ?_
 refine R_seq ?_
 refine R_seq ?_
 have p_1 : Hp w0 M1 ((Ent.row 3 1 (.slice none 0 0) 0 []) :: H) w := p0.nilRow 3 1
 refine R_reg ?_
 refine W_run (L' := [(2, .slice none 0 0), (4, .map (some b))]) (w' := w) f_1 1 [2, 4] (by kernel_rfl) (fun a_2 f_2 => ?_)
 refine W_range (enc := (Value.int .i64)) (m := ms) (b := b) (kt := 3) (et := 4) f_2 p_1 (by kernel_rfl) (by kernel_rfl) rfl rfl rfl (by kernel_rfl) (by kernel_rfl) (p_1.mem _ _ hb) (fun r_1 w_1 p_2 a_3 f_3 => ?_)
 refine W_end rfl ?_
 refine T_n ?_
 refine wp_block ?_
 have f_4 := Frm.set f_3 2 (v := .slice none 0 0) (v' := (.slice none 0 0)) (by kernel_rfl) (by first | rfl | (congr 1; omega) | simp)
 refine R_loop (n := 17) (w0 := w0) (M := M1) (fun (x : Array Nat × Value × List Int) => match x with | (seen, v, xs) => [(2, v), (5, .pointer (some (⟨r_1, 0, none⟩)))]) (fun (x : Array Nat × Value × List Int) => match x with | (seen, v, xs) => ((Ent.obj r_1 (.mapIter (some b) ms.length seen ms.length)) :: (Ent.row 3 1 v xs.length (xs.map (Value.int .i64))) :: H)) (fun (x : Array Nat × Value × List Int) (_ : Mem) => match x with | (seen, v, xs) => (CollI ms seen xs)) (fun (x : Array Nat × Value × List Int) => match x with | (seen, v, xs) => (todo ms seen).length) (#[], .slice none 0 0, []) (f_4.keep (ks := [2, 5]) (by kernel_rfl)) p_2 ?_ ?_
 ·exact CollI.start ms
 ·rintro ⟨seen, v, xs⟩ M_1 a_4 w_2 hM_1 I_1 f_5 p_3
  replace f_5 : Frm 17 [(2, v), (5, .pointer (some (⟨r_1, 0, none⟩)))] a_4 := f_5
  replace p_3 : Hp w0 M_1 ((Ent.obj r_1 (.mapIter (some b) ms.length seen ms.length)) :: (Ent.row 3 1 v xs.length (xs.map (Value.int .i64))) :: H) w_2 := p_3
  replace I_1 : (CollI ms seen xs) := I_1
  have hC := I_1
  have hCl := hC.len
  refine R_seq ?_
  refine R_reg ?_
  refine W_next (enc := (Value.int .i64)) (m := ms) (seen := seen) (b := b) (r := r_1) f_5 p_3 (by kernel_rfl) (by kernel_rfl) rfl rfl rfl (by kernel_rfl) (p_3.mem _ _ (hM_1 _ _ hb)) (fun ht_1 w_3 p_4 a_5 f_6 => ?_) (fun q_1 hq_1 w_4 p_5 a_6 f_7 => ?_)
  ·refine W_run (L' := [(2, v), (5, .pointer (some (⟨r_1, 0, none⟩))), (7, .bool false)]) (w' := w_3) f_6 1 [2, 5, 7] (by kernel_rfl) (fun a_7 f_8 => ?_)
   refine W_end rfl ?_
   refine T_n ?_
   refine R_seq ?_
   refine R_cond_f f_8 (by kernel_rfl) (by kernel_rfl) ?_
   refine wp_exit ?_
   refine T_x ?_
   refine T_x ?_
   refine B_x ?_
   refine T_n ?_
   refine R_seq ?_
   refine R_reg ?_
   refine W_run (L' := [(2, v), (14, v)]) (w' := w_3) f_8 1 [2, 14] (by kernel_rfl) (fun a_8 f_9 => ?_)
   have p_6 : Hp w0 M_1 ((Ent.row 3 1 v xs.length (xs.map (Value.int .i64))) :: (Ent.obj r_1 (.mapIter (some b) ms.length seen ms.length)) :: H) w_3 := p_4.pull 1 rfl rfl
   refine W_okH (E := [Ent.row 3 1 v xs.length (xs.map (Value.int .i64))]) (H := ((Ent.obj r_1 (.mapIter (some b) ms.length seen ms.length)) :: H)) f_9 p_6 (by kernel_rfl) (by kernel_rfl) rfl rfl (fun _ => by kernel_rfl) (sort_ok _ v xs (by omega)) (fun v_1 M_2 E_1 w_5 hM_2 p_7 q_2 a_9 f_10 => ?_)
   obtain ⟨rfl, rfl⟩ := q_2
   have p_8 : Hp w0 M_1 ((Ent.row 3 1 v xs.length ((rise xs).map (Value.int .i64))) :: (Ent.obj r_1 (.mapIter (some b) ms.length seen ms.length)) :: H) w_5 := p_7.less hM_2
   refine W_end rfl ?_
   refine T_n ?_
   refine R_seq ?_
   refine R_reg ?_
   refine W_run (L' := [(2, v)]) (w' := w_5) f_10 2 [2] (by kernel_rfl) (fun a_10 f_11 => ?_)
   refine W_end rfl ?_
   refine T_n ?_
   refine wp_ret ?_
   refine E_ret1 f_11 rfl (by kernel_rfl : Vc.look _ 2 = some (v)) ?_
   have p_9 : Hp w0 M_1 ((Ent.row 3 1 v (rise (ms.map (·.1))).length ((rise (ms.map (·.1))).map (Value.int .i64))) :: (Ent.obj r_1 (.mapIter (some b) ms.length seen ms.length)) :: H) w_5 := p_8.rowEq (by rw [rise_perm (hC.all ht_1).symm, rise_len]) (by rw [rise_perm (hC.all ht_1).symm])
   obtain ⟨M9, hM9, p9, r9⟩ := p_9.rowInts
   exact ⟨_, rfl, M9, hM_1.trans hM9, p9.dropN 1, r9.more (hM0.trans hM_1) (Mem.le_refl _)⟩
  ·refine W_run (L' := [(2, v), (5, .pointer (some (⟨r_1, 0, none⟩))), (7, .bool true)]) (w' := w_4) f_7 1 [2, 5, 7] (by kernel_rfl) (fun a_11 f_12 => ?_)
   refine W_end rfl ?_
   refine T_n ?_
   refine R_seq ?_
   refine R_cond_t f_12 (by kernel_rfl) (by kernel_rfl) ?_
   refine wp_skip ?_
   refine T_n ?_
   refine wp_block ?_
   refine R_seq ?_
   refine R_reg ?_
   refine W_eq (v := .tuple #[.int .i64 q_1.1.1, q_1.1.2]) f_12 (by kernel_rfl) (by kernel_rfl) rfl rfl (X_entry (enc := (Value.int .i64)) (m := ms) (seen := seen) (p := q_1.1) (j := q_1.2) (b := b) (r := r_1) rfl (by kernel_rfl) (p_5.ownObj 0 rfl) (p_5.mem _ _ (hM_1 _ _ hb)) (todo_mem hq_1).1) (fun a_12 f_13 => ?_)
   refine W_run (L' := [(2, v), (3, .int .i64 q_1.1.1), (5, .pointer (some (⟨r_1, 0, none⟩)))]) (w' := w_4) f_13 2 [2, 3, 5] (by kernel_rfl) (fun a_13 f_14 => ?_)
   refine W_end rfl ?_
   refine T_n ?_
   refine R_reg ?_
   refine W_run (L' := [(5, .pointer (some (⟨r_1, 0, none⟩))), (10, v), (11, .int .i64 q_1.1.1)]) (w' := w_4) f_14 2 [5, 10, 11] (by kernel_rfl) (fun a_14 f_15 => ?_)
   refine W_alloc f_15 p_5 1 [5, 10, 11, 12] (.cells #[.int .i64 q_1.1.1] 3 (0, 0)) (fun b_1 => [(5, .pointer (some (⟨r_1, 0, none⟩))), (10, v), (11, .int .i64 q_1.1.1), (12, .slice (some ⟨b_1, 0, none⟩) 1 1)]) (fun _ => by kernel_rfl) (fun b_1 w_6 p_10 a_15 f_16 => ?_)
   replace f_16 : Frm 17 [(5, .pointer (some (⟨r_1, 0, none⟩))), (10, v), (11, .int .i64 q_1.1.1), (12, .slice (some ⟨b_1, 0, none⟩) 1 1)] a_15 := f_16
   have p_11 : Hp w0 M_1 ((Ent.row 3 1 v xs.length (xs.map (Value.int .i64))) :: (Ent.obj b_1 (.cells #[.int .i64 q_1.1.1] 3 (0, 0))) :: (Ent.obj r_1 (.mapIter (some b) ms.length (seen.push q_1.2) ms.length)) :: H) w_6 := p_10.pull 2 rfl rfl
   refine W_append (d := 13) (t := 27) (e := 3) (z := .int .i64 0) (v := v) (size := 1) (bytes := 8) (k := xs.length) (m := 1) (c := 1) (xs := xs.map (Value.int .i64)) (news := [.int .i64 q_1.1.1]) (ad := ⟨b_1, 0, none⟩) f_16 p_11 (by kernel_rfl) (by kernel_rfl) rfl rfl rfl (by kernel_rfl) (by kernel_rfl) (by kernel_rfl) (by kernel_rfl) (rfl) (own_cells (p_11.ownCell 1 rfl) 0 rfl) (all_one (by kernel_rfl)) (by omega) (by omega) (fun v_2 w_7 p_12 a_16 f_17 => ?_)
   have p_13 : Hp w0 M_1 ((Ent.obj b_1 (.cells #[.int .i64 q_1.1.1] 3 (0, 0))) :: (Ent.row 3 1 v_2 (xs.length + 1) ((xs.map (Value.int .i64)) ++ [.int .i64 q_1.1.1])) :: (Ent.obj r_1 (.mapIter (some b) ms.length (seen.push q_1.2) ms.length)) :: H) w_7 := p_12.pull 1 rfl rfl
   have p_14 := p_13.drop
   refine W_run (L' := [(2, v_2), (5, .pointer (some (⟨r_1, 0, none⟩)))]) (w' := w_7) f_17 1 [2, 5] (by kernel_rfl) (fun a_17 f_18 => ?_)
   refine W_end rfl ?_
   refine B_n ?_
   refine T_n ?_
   have p_15 : Hp w0 M_1 ((Ent.row 3 1 v_2 (xs ++ [q_1.1.1]).length ((xs ++ [q_1.1.1]).map (Value.int .i64))) :: (Ent.obj r_1 (.mapIter (some b) ms.length (seen.push q_1.2) ms.length)) :: H) w_7 := p_14.rowEq (by simp) (by simp)
   have p_16 : Hp w0 M_1 ((Ent.obj r_1 (.mapIter (some b) ms.length (seen.push q_1.2) ms.length)) :: (Ent.row 3 1 v_2 (xs ++ [q_1.1.1]).length ((xs ++ [q_1.1.1]).map (Value.int .i64))) :: H) w_7 := p_15.pull 1 rfl rfl
   refine ⟨((seen.push q_1.2, v_2, xs ++ [q_1.1.1]) : Array Nat × Value × List Int), ?_, M_1, hM_1, ?_, f_18.keep (ks := [2, 5]) (by kernel_rfl), p_16⟩
   ·exact todo_less hq_1
   ·exact hC.step hq_1
theorem risingNil_ok (M : Mem)  : Ok Try.prog M 67 [.map none] (fun M' v => RetInts M .i64 [] M' v) := by
 intro M hM0 w0 H w p0
 refine R_enter 17 Try.func67 rfl rfl (by simp) (fun a0 f0 => ?_)
 replace f0 : Frm 17 [(0, .map none)] a0 := f0
 refine R_seq ?_
 refine R_reg ?_
 refine W_run (L' := [(0, .map none), (2, .slice none 0 0)]) (w' := w) f0 1 [0, 2] (by kernel_rfl) (fun a_1 f_1 => ?_)
 refine W_end rfl ?_
 refine T_n ?_
 refine R_seq ?_
 refine R_seq ?_
 have p_1 : Hp w0 M ((Ent.row 3 1 (.slice none 0 0) 0 []) :: H) w := p0.nilRow 3 1
 refine R_reg ?_
 refine W_run (L' := [(2, .slice none 0 0), (4, .map none)]) (w' := w) f_1 1 [2, 4] (by kernel_rfl) (fun a_2 f_2 => ?_)
 refine W_range_nil (kt := 3) (et := 4) f_2 p_1 (by kernel_rfl) (by kernel_rfl) rfl rfl rfl (by kernel_rfl) (by kernel_rfl) (fun r_1 w_1 p_2 a_3 f_3 => ?_)
 refine W_end rfl ?_
 refine T_n ?_
 refine wp_block ?_
 refine R_loop (n := 17) (w0 := w0) (M := M) (fun (_ : Unit) => [(2, .slice none 0 0), (5, .pointer (some (⟨r_1, 0, none⟩)))]) (fun (_ : Unit) => ((Ent.obj r_1 (.mapIter none 0 #[] 0)) :: (Ent.row 3 1 (.slice none 0 0) 0 []) :: H)) (fun (_ : Unit) (_ : Mem) => True) (fun (_ : Unit) => 0) () (f_3.keep (ks := [2, 5]) (by kernel_rfl)) p_2 ?_ ?_
 ·trivial
 ·rintro ⟨⟩ M_1 a_4 w_2 hM_1 I_1 f_4 p_3
  replace f_4 : Frm 17 [(2, .slice none 0 0), (5, .pointer (some (⟨r_1, 0, none⟩)))] a_4 := f_4
  replace p_3 : Hp w0 M_1 ((Ent.obj r_1 (.mapIter none 0 #[] 0)) :: (Ent.row 3 1 (.slice none 0 0) 0 []) :: H) w_2 := p_3
  refine R_seq ?_
  refine R_reg ?_
  refine W_eq (v := .tuple #[.bool false]) f_4 (by kernel_rfl) (by kernel_rfl) rfl rfl (X_next_nil rfl (by kernel_rfl) (p_3.ownObj 0 rfl)) (fun a_5 f_5 => ?_)
  refine W_run (L' := [(2, .slice none 0 0), (5, .pointer (some (⟨r_1, 0, none⟩))), (7, .bool false)]) (w' := w_2) f_5 1 [2, 5, 7] (by kernel_rfl) (fun a_6 f_6 => ?_)
  refine W_end rfl ?_
  refine T_n ?_
  refine R_seq ?_
  refine R_cond_f f_6 (by kernel_rfl) (by kernel_rfl) ?_
  refine wp_exit ?_
  refine T_x ?_
  refine T_x ?_
  refine B_x ?_
  refine T_n ?_
  refine R_seq ?_
  refine R_reg ?_
  refine W_run (L' := [(2, .slice none 0 0), (14, .slice none 0 0)]) (w' := w_2) f_6 1 [2, 14] (by kernel_rfl) (fun a_7 f_7 => ?_)
  have p_4 : Hp w0 M_1 ((Ent.row 3 1 (.slice none 0 0) 0 []) :: (Ent.obj r_1 (.mapIter none 0 #[] 0)) :: H) w_2 := p_3.pull 1 rfl rfl
  refine W_okH (E := [Ent.row 3 1 (.slice none 0 0) 0 []]) (H := ((Ent.obj r_1 (.mapIter none 0 #[] 0)) :: H)) f_7 p_4 (by kernel_rfl) (by kernel_rfl) rfl rfl (fun _ => by kernel_rfl) (sort_ok _ (.slice none 0 0) [] (by simp)) (fun v_1 M_2 E_1 w_3 hM_2 p_5 q_1 a_8 f_8 => ?_)
  obtain ⟨rfl, rfl⟩ := q_1
  have p_6 : Hp w0 M_1 ((Ent.row 3 1 (.slice none 0 0) ([] : List Int).length ((rise []).map (Value.int .i64))) :: (Ent.obj r_1 (.mapIter none 0 #[] 0)) :: H) w_3 := p_5.less hM_2
  refine W_end rfl ?_
  refine T_n ?_
  refine R_seq ?_
  refine R_reg ?_
  refine W_run (L' := [(2, .slice none 0 0)]) (w' := w_3) f_8 2 [2] (by kernel_rfl) (fun a_9 f_9 => ?_)
  refine W_end rfl ?_
  refine T_n ?_
  refine wp_ret ?_
  refine E_ret1 f_9 rfl (by kernel_rfl : Vc.look _ 2 = some (.slice none 0 0)) ?_
  have p_7 : Hp w0 M_1 ((Ent.row 3 1 (.slice none 0 0) ([] : List Int).length (([] : List Int).map (Value.int .i64))) :: (Ent.obj r_1 (.mapIter none 0 #[] 0)) :: H) w_3 := p_6.rowEq (rfl) (by rw [rise_nil])
  obtain ⟨M9, hM9, p9, r9⟩ := p_7.rowInts
  exact ⟨_, rfl, M9, hM_1.trans hM9, p9.dropN 1, r9.more (hM0.trans hM_1) (Mem.le_refl _)⟩
end Go.Proofs.Ytfdmlionhbeebaa
end

section
namespace Go.Vc
open Go
def hits (l : LL) (k : Nat) (i : Nat) : Bool := (l.getD i []).any fun x => decide (x = (k : Int))
def turnedL (l : LL) : LL := (List.range l.length).map fun k => sel (hits l k) l.length
def gotK (l : LL) (i j k : Nat) : List Int := sel (hits l k) i ++ if ((l.getD i []).take j).any (fun x => decide (x = (k : Int))) then [(i : Int)] else []
def TI (l : LL) (i j : Nat) (G : MapRow Int) : Prop := G.length = l.length ∧ ∀ k, k < l.length → keysOf (G.getD k none) = gotK l i j k
theorem any_take {r : List Int} {p : Int → Bool} {j : Nat} (h : j < r.length) : (r.take (j + 1)).any p = ((r.take j).any p || p (r.getD j 0)) := by
 rw [List.take_add_one, List.any_append]
 simp [List.getD, h, Option.toList]
theorem TI.start (l : LL) : TI l 0 0 (List.replicate l.length none) := by
 refine ⟨by simp, fun k hk => ?_⟩
 simp [gotK, sel_zero, List.getD, hk, keysOf]
theorem TI.skip {l : LL} {i j : Nat} {G : MapRow Int} (h : TI l i j G) (hj : j < (l.getD i []).length) (hx : (l.getD i []).getD j 0 < 0 ∨ (l.length : Int) ≤ (l.getD i []).getD j 0) : TI l i (j + 1) G := by
 refine ⟨h.1, fun k hk => (h.2 k hk).trans ?_⟩
 unfold gotK
 rw [any_take hj, decide_eq_false (p := (l.getD i []).getD j 0 = (k : Int)) (by omega), Bool.or_false]
theorem TI.row {l : LL} {i j : Nat} {G : MapRow Int} (h : TI l i j G) (hj : (l.getD i []).length ≤ j) : TI l (i + 1) 0 G := by
 refine ⟨h.1, fun k hk => (h.2 k hk).trans ?_⟩
 unfold gotK
 rw [List.take_of_length_le hj]
 cases hh : hits l k i with
 | true =>
  rw [sel_yes hh]
  simp only [hits] at hh
  rw [hh]; simp
 | false =>
  rw [sel_no hh]
  simp only [hits] at hh
  rw [hh]; simp
def addKey (ks : List Int) (i : Int) : List Int := if i ∈ ks then ks else ks ++ [i]
theorem keys_upd (m : List (Int × Value)) (i : Int) (v : Value) : (updM m i v).map (·.1) = addKey (m.map (·.1)) i := by
 unfold updM addKey
 cases h : lkAt i m 0 with
 | none =>
  rw [if_neg (lkAt_none.1 h)]
  simp
 | some p =>
  obtain ⟨h1, h2⟩ := lkAt_some (i := p.1) (v := p.2) h
  simp only [Nat.sub_zero] at h2
  have hm : i ∈ m.map (·.1) := List.mem_map.2 ⟨_, List.mem_of_getElem? h2, rfl⟩
  rw [if_pos hm]
  apply List.ext_getElem?
  intro q
  simp only [List.getElem?_map, List.getElem?_set]
  by_cases e : p.1 = q
  ·subst e
   obtain ⟨hl, he⟩ := List.getElem?_eq_some_iff.1 h2
   simp [hl, he]
  ·simp [e]
theorem TI.put {l : LL} {i j : Nat} {G G' : MapRow Int} (h : TI l i j G) (hj : j < (l.getD i []).length) (h0 : 0 ≤ (l.getD i []).getD j 0) (hl : G'.length = G.length)
  (ho : ∀ k, k ≠ ((l.getD i []).getD j 0).toNat → G'.getD k none = G.getD k none) (hk : keysOf (G'.getD ((l.getD i []).getD j 0).toNat none) = addKey (keysOf (G.getD ((l.getD i []).getD j 0).toNat none)) i) : TI l i (j + 1) G' := by
 refine ⟨hl.trans h.1, fun k hkl => ?_⟩
 unfold gotK
 rw [any_take hj]
 by_cases e : (l.getD i []).getD j 0 = (k : Int)
 ·have ek : k = ((l.getD i []).getD j 0).toNat := by omega
  rw [decide_eq_true e, Bool.or_true, if_pos rfl, ek, hk, ← ek, h.2 k hkl]
  unfold addKey gotK
  have hns : (i : Int) ∉ sel (hits l k) i := fun hm => by
   obtain ⟨q, e1, e2, _⟩ := sel_mem.1 hm
   omega
  by_cases hb : ((l.getD i []).take j).any (fun x => decide (x = (k : Int))) = true
  ·rw [hb]; simp
  ·rw [if_neg hb, List.append_nil, if_neg hns]
 ·have ek : k ≠ ((l.getD i []).getD j 0).toNat := by omega
  rw [decide_eq_false e, Bool.or_false, ho k ek]
  exact h.2 k hkl
theorem sel_sorted (f : Nat → Bool) : ∀ n, (sel f n).Pairwise fun x y => decide (x ≤ y) = true
 | 0 => .nil
 | n + 1 => by
  cases h : f n with
  | false => rw [sel_no h]; exact sel_sorted f n
  | true =>
   rw [sel_yes h, List.pairwise_append]
   refine ⟨sel_sorted f n, List.pairwise_singleton _ _, fun x hx y hy => ?_⟩
   obtain ⟨q, e1, e2, _⟩ := sel_mem.1 hx
   simp at hy
   simp; omega
theorem rise_sel (f : Nat → Bool) (n : Nat) : rise (sel f n) = sel f n := List.mergeSort_of_pairwise (sel_sorted f n)
theorem TI.done {l : LL} {G : MapRow Int} (h : TI l l.length 0 G) {k : Nat} (hk : k < l.length) : rise (keysOf (G.getD k none)) = (turnedL l).getD k [] := by
 have e : (turnedL l).getD k [] = sel (hits l k) l.length := by simp [turnedL, List.getD, hk]
 rw [e, h.2 k hk]
 unfold gotK
 simp [rise_sel]
theorem TI.len {l : LL} {G : MapRow Int} (h : TI l l.length 0 G) {k : Nat} (hk : k < l.length) : (keysOf (G.getD k none)).length ≤ l.length := by
 have e : (turnedL l).getD k [] = sel (hits l k) l.length := by simp [turnedL, List.getD, hk]
 rw [← rise_len, h.done hk, e]
 exact sel_len _ _
theorem memOf {κ : Type} {G : MapRow κ} {k : Nat} (hk : k < G.length) {x : Option (Nat × List (κ × Value))} (h : G.getD k none = x) : x ∈ G := by
 rw [← h]; simp [List.getD, hk]
theorem outStep {M : Mem} {O : List Value} {R : LL} {k : Nat} {v : Value} (hk : k < O.length) (hb : ∀ q, q < k → IntRow M .i64 (O.getD q undef) (R.getD q [])) (hv : IntRow M .i64 v (R.getD k [])) : ∀ q, q < k + 1 → IntRow M .i64 ((O.set k v).getD q undef) (R.getD q []) := fun q hq => by
 by_cases e : q = k
 ·subst e
  have : (O.set q v).getD q undef = v := by simp [List.getD, hk]
  rw [this]; exact hv
 ·have : (O.set k v).getD q undef = O.getD q undef := by
   simp only [List.getD_eq_getElem?_getD]
   rw [List.getElem?_set_ne (by omega)]
  rw [this]; exact hb q (by omega)
theorem turned_len (l : LL) : (turnedL l).length = l.length := by simp [turnedL]
end Go.Vc
end

section
namespace Go.Proofs.Ytfdmlionhbeebaa
open Go Go.Vc Go.RowKit
theorem risingAny_ok (M : Mem) (g : Option (Nat × List (Int × Value))) (hb : ∀ b m, g = some (b, m) → M b = some (mObj (Value.int .i64) m)) (hL : (keysOf g).length ≤ 1099511627776) : Ok Try.prog M 67 [hdOf g] (fun M' v => RetInts M .i64 (rise (keysOf g)) M' v) := by
 rcases g with _ | ⟨b, m⟩
 ·exact (risingNil_ok M).mono fun M' v _ h => by rw [show rise (keysOf (none : Option (Nat × List (Int × Value)))) = [] from rise_nil]; exact h
 ·exact rising_ok M b m (hb b m rfl) (by simpa [keysOf] using hL)
theorem turned_ok (M : Mem) (A : Option Addr) (l : LL) (cap : Nat) (hl : Vc.Rows M .i64 A l) (lL : l.length ≤ 1099511627776) (rL : ∀ r ∈ l, r.length ≤ 1099511627776) : Ok Try.prog M 49 [.slice A l.length cap] (fun M' v => ∃ ad, v = .slice (some ad) (turnedL l).length (turnedL l).length ∧ Vc.Rows M' .i64 (some ad) (turnedL l)) := by
 intro M1 hM0 w0 H w p0
 replace hl := hl.mono hM0
 refine R_enter 68 Try.func49 rfl rfl (by simp) (fun a0 f0 => ?_)
 replace f0 : Frm 68 [(0, .slice A l.length cap)] a0 := f0
 refine R_seq ?_
 refine R_reg ?_
 refine W_run (L' := [(0, .slice A l.length cap)]) (w' := w) f0 1 [0] (by kernel_rfl) (fun a_1 f_1 => ?_)
 refine W_end rfl ?_
 refine T_n ?_
 refine R_seq ?_
 refine R_reg ?_
 refine W_run (L' := [(0, .slice A l.length cap), (12, .int .i64 ((l.length : Nat) : Int))]) (w' := w) f_1 2 [0, 12] (by kernel_rfl) (fun a_2 f_2 => ?_)
 refine W_make (m := l.length) (z := .map none) (bytes := 8) (e := 121) f_2 p0 (by kernel_rfl) (by kernel_rfl) rfl rfl rfl (by kernel_rfl) (by kernel_rfl) (by kernel_rfl) (by kernel_rfl) rfl (by omega) (by omega) (fun b_1 w_1 p_1 a_3 f_3 => ?_)
 have p_2 : Hp w0 M1 ((Ent.obj b_1 (.cells ((List.replicate l.length none : MapRow Int).map hdOf).toArray 121 (0, 0))) :: (bag (Value.int .i64) (List.replicate l.length none : MapRow Int) ++ H)) w_1 := by rw [hd_none, bag_none]; exact p_1
 refine W_run (L' := [(0, .slice A l.length cap), (3, .slice (some ⟨b_1, 0, none⟩) l.length l.length)]) (w' := w_1) f_3 1 [0, 3] (by kernel_rfl) (fun a_4 f_4 => ?_)
 refine W_end rfl ?_
 refine T_n ?_
 refine R_seq ?_
 refine R_seq ?_
 refine R_reg ?_
 refine W_run (L' := [(0, .slice A l.length cap), (3, .slice (some ⟨b_1, 0, none⟩) l.length l.length), (14, .slice A l.length cap), (15, .int .i64 ((l.length : Nat) : Int)), (16, .int .i64 0)]) (w' := w_1) f_4 3 [0, 3, 14, 15, 16] (by kernel_rfl) (fun a_5 f_5 => ?_)
 refine W_end rfl ?_
 refine T_n ?_
 refine wp_block ?_
 have f_6 := Frm.set f_5 16 (v := .int .i64 0) (v' := .int .i64 (0 : Int)) (by kernel_rfl) (by first | rfl | (congr 1; omega) | simp)
 refine R_loop (n := 68) (w0 := w0) (M := M1) (fun (x : Nat × MapRow Int) => match x with | (i, G) => [(0, .slice A l.length cap), (3, .slice (some ⟨b_1, 0, none⟩) l.length l.length), (14, .slice A l.length cap), (15, .int .i64 ((l.length : Nat) : Int)), (16, .int .i64 (i : Int))]) (fun (x : Nat × MapRow Int) => match x with | (i, G) => ((Ent.obj b_1 (.cells (G.map hdOf).toArray 121 (0, 0))) :: (bag (Value.int .i64) G ++ H))) (fun (x : Nat × MapRow Int) (_ : Mem) => match x with | (i, G) => (i ≤ l.length) ∧ (TI l i 0 G)) (fun (x : Nat × MapRow Int) => match x with | (i, G) => l.length - i) (0, List.replicate l.length none) (f_6.keep (ks := [0, 3, 14, 15, 16]) (by kernel_rfl)) p_2 ?_ ?_
 ·exact ⟨Nat.zero_le _, TI.start l⟩
 ·rintro ⟨i, G⟩ M_1 a_6 w_2 hM_1 I_1 f_7 p_3
  replace f_7 : Frm 68 [(0, .slice A l.length cap), (3, .slice (some ⟨b_1, 0, none⟩) l.length l.length), (14, .slice A l.length cap), (15, .int .i64 ((l.length : Nat) : Int)), (16, .int .i64 (i : Int))] a_6 := f_7
  replace p_3 : Hp w0 M_1 ((Ent.obj b_1 (.cells (G.map hdOf).toArray 121 (0, 0))) :: (bag (Value.int .i64) G ++ H)) w_2 := p_3
  replace I_1 : (i ≤ l.length) ∧ (TI l i 0 G) := I_1
  obtain ⟨hi, hT⟩ := I_1
  have hGl := hT.1
  refine R_seq ?_
  refine R_reg ?_
  refine W_run (L' := [(0, .slice A l.length cap), (3, .slice (some ⟨b_1, 0, none⟩) l.length l.length), (14, .slice A l.length cap), (15, .int .i64 ((l.length : Nat) : Int)), (16, .int .i64 (i : Int)), (17, .bool (decide ((i : Int) < ((l.length : Nat) : Int))))]) (w' := w_2) f_7 1 [0, 3, 14, 15, 16, 17] (by kernel_rfl) (fun a_7 f_8 => ?_)
  refine W_end rfl ?_
  refine T_n ?_
  refine R_seq ?_
  refine R_cond f_8 (b := decide ((i : Int) < ((l.length : Nat) : Int))) (by kernel_rfl) (by kernel_rfl) (fun h_1 => ?_) (fun h_1 => ?_)
  ·have k_1 : (i : Int) < ((l.length : Nat) : Int) := decide_eq_true_iff.1 h_1
   refine wp_skip ?_
   refine T_n ?_
   refine R_seq ?_
   refine wp_block ?_
   refine R_seq ?_
   refine R_reg ?_
   refine W_run (L' := [(0, .slice A l.length cap), (3, .slice (some ⟨b_1, 0, none⟩) l.length l.length), (14, .slice A l.length cap), (15, .int .i64 ((l.length : Nat) : Int)), (16, .int .i64 (i : Int)), (18, .int .i64 (i : Int))]) (w' := w_2) f_8 1 [0, 3, 14, 15, 16, 18] (by kernel_rfl) (fun a_8 f_9 => ?_)
   obtain ⟨ad_1, e_1, B_1, cap_1, hc_1, hcap_1, hi_1⟩ := Vc.Rows.at_ (hl.mono hM_1) (i := (i : Int)) (by omega) (by omega)
   replace hcap_1 : (l.getD i []).length ≤ cap_1 := hcap_1
   replace hi_1 : Ints _ .i64 B_1 (l.getD i []) := hi_1
   refine W_eq (v := .pointer (some (ad_1.add ((i : Int).toNat * 1)))) f_9 (by kernel_rfl) (by kernel_rfl) rfl rfl (X_indexAddrA e_1 rfl (len := l.length) (cap := cap) (k := .i64) (i := (i : Int)) (by kernel_rfl) (by kernel_rfl) (e := 27) (by kernel_rfl) (sz := 1) (by kernel_rfl) (by omega) (by omega)) (fun a_9 f_10 => ?_)
   refine W_eq (v := .slice B_1 (l.getD i []).length cap_1) f_10 (by kernel_rfl) (by kernel_rfl) rfl rfl (X_load1 (v := .slice B_1 (l.getD i []).length cap_1) rfl (ad := ad_1.add ((i : Int).toNat * 1)) (by kernel_rfl) (by kernel_rfl) (p_3.cell hc_1)) (fun a_10 f_11 => ?_)
   refine W_run (L' := [(0, .slice A l.length cap), (3, .slice (some ⟨b_1, 0, none⟩) l.length l.length), (4, .int .i64 (i : Int)), (5, .slice B_1 (l.getD i []).length cap_1), (14, .slice A l.length cap), (15, .int .i64 ((l.length : Nat) : Int)), (16, .int .i64 (i : Int))]) (w' := w_2) f_11 2 [0, 3, 4, 5, 14, 15, 16] (by kernel_rfl) (fun a_11 f_12 => ?_)
   refine W_end rfl ?_
   refine T_n ?_
   refine R_seq ?_
   refine R_reg ?_
   refine W_run (L' := [(0, .slice A l.length cap), (3, .slice (some ⟨b_1, 0, none⟩) l.length l.length), (4, .int .i64 (i : Int)), (14, .slice A l.length cap), (15, .int .i64 ((l.length : Nat) : Int)), (16, .int .i64 (i : Int)), (21, .slice B_1 (l.getD i []).length cap_1), (22, .int .i64 (((l.getD i []).length : Nat) : Int)), (23, .int .i64 0)]) (w' := w_2) f_12 3 [0, 3, 4, 14, 15, 16, 21, 22, 23] (by kernel_rfl) (fun a_12 f_13 => ?_)
   refine W_end rfl ?_
   refine T_n ?_
   refine wp_block ?_
   have f_14 := Frm.set f_13 23 (v := .int .i64 0) (v' := .int .i64 (0 : Int)) (by kernel_rfl) (by first | rfl | (congr 1; omega) | simp)
   have hrl := rL _ (row_mem (l := l) (k := i) (by omega))
   refine R_loop (n := 68) (w0 := w0) (M := M_1) (fun (x : Nat × MapRow Int) => match x with | (j, G) => [(0, .slice A l.length cap), (3, .slice (some ⟨b_1, 0, none⟩) l.length l.length), (4, .int .i64 (i : Int)), (14, .slice A l.length cap), (15, .int .i64 ((l.length : Nat) : Int)), (16, .int .i64 (i : Int)), (21, .slice B_1 (l.getD i []).length cap_1), (22, .int .i64 (((l.getD i []).length : Nat) : Int)), (23, .int .i64 (j : Int))]) (fun (x : Nat × MapRow Int) => match x with | (j, G) => ((Ent.obj b_1 (.cells (G.map hdOf).toArray 121 (0, 0))) :: (bag (Value.int .i64) G ++ H))) (fun (x : Nat × MapRow Int) (_ : Mem) => match x with | (j, G) => (j ≤ (l.getD i []).length) ∧ (TI l i j G)) (fun (x : Nat × MapRow Int) => match x with | (j, G) => (l.getD i []).length - j) (0, G) (f_14.keep (ks := [0, 3, 4, 14, 15, 16, 21, 22, 23]) (by kernel_rfl)) p_3 ?_ ?_
   ·exact ⟨Nat.zero_le _, hT⟩
   ·rintro ⟨j, G⟩ M_2 a_13 w_3 hM_2 I_2 f_15 p_4
    replace f_15 : Frm 68 [(0, .slice A l.length cap), (3, .slice (some ⟨b_1, 0, none⟩) l.length l.length), (4, .int .i64 (i : Int)), (14, .slice A l.length cap), (15, .int .i64 ((l.length : Nat) : Int)), (16, .int .i64 (i : Int)), (21, .slice B_1 (l.getD i []).length cap_1), (22, .int .i64 (((l.getD i []).length : Nat) : Int)), (23, .int .i64 (j : Int))] a_13 := f_15
    replace p_4 : Hp w0 M_2 ((Ent.obj b_1 (.cells (G.map hdOf).toArray 121 (0, 0))) :: (bag (Value.int .i64) G ++ H)) w_3 := p_4
    replace I_2 : (j ≤ (l.getD i []).length) ∧ (TI l i j G) := I_2
    obtain ⟨hj, hT2⟩ := I_2
    have hGl2 := hT2.1
    refine R_seq ?_
    refine R_reg ?_
    refine W_run (L' := [(0, .slice A l.length cap), (3, .slice (some ⟨b_1, 0, none⟩) l.length l.length), (4, .int .i64 (i : Int)), (14, .slice A l.length cap), (15, .int .i64 ((l.length : Nat) : Int)), (16, .int .i64 (i : Int)), (21, .slice B_1 (l.getD i []).length cap_1), (22, .int .i64 (((l.getD i []).length : Nat) : Int)), (23, .int .i64 (j : Int)), (24, .bool (decide ((j : Int) < (((l.getD i []).length : Nat) : Int))))]) (w' := w_3) f_15 1 [0, 3, 4, 14, 15, 16, 21, 22, 23, 24] (by kernel_rfl) (fun a_14 f_16 => ?_)
    refine W_end rfl ?_
    refine T_n ?_
    refine R_seq ?_
    refine R_cond f_16 (b := decide ((j : Int) < (((l.getD i []).length : Nat) : Int))) (by kernel_rfl) (by kernel_rfl) (fun h_2 => ?_) (fun h_2 => ?_)
    ·have k_2 : (j : Int) < (((l.getD i []).length : Nat) : Int) := decide_eq_true_iff.1 h_2
     refine wp_skip ?_
     refine T_n ?_
     refine R_seq ?_
     refine wp_block ?_
     refine R_seq ?_
     refine R_reg ?_
     obtain ⟨ad_2, e_2, hc_2⟩ := Ints.at_ (hi_1.mono hM_2) (i := (j : Int)) (by omega) (by omega)
     refine W_eq (v := .pointer (some (ad_2.add ((j : Int).toNat * 1)))) f_16 (by kernel_rfl) (by kernel_rfl) rfl rfl (X_indexAddrA e_2 rfl (len := (l.getD i []).length) (cap := cap_1) (k := .i64) (i := (j : Int)) (by kernel_rfl) (by kernel_rfl) (e := 3) (by kernel_rfl) (sz := 1) (by kernel_rfl) (by omega) (by omega)) (fun a_15 f_17 => ?_)
     refine W_eq (v := .int .i64 ((l.getD i []).getD j 0)) f_17 (by kernel_rfl) (by kernel_rfl) rfl rfl (X_load1 (v := .int .i64 ((l.getD i []).getD j 0)) rfl (ad := ad_2.add ((j : Int).toNat * 1)) (by kernel_rfl) (by kernel_rfl) (p_4.cell hc_2)) (fun a_16 f_18 => ?_)
     refine W_run (L' := [(0, .slice A l.length cap), (3, .slice (some ⟨b_1, 0, none⟩) l.length l.length), (4, .int .i64 (i : Int)), (7, .int .i64 ((l.getD i []).getD j 0)), (14, .slice A l.length cap), (15, .int .i64 ((l.length : Nat) : Int)), (16, .int .i64 (i : Int)), (21, .slice B_1 (l.getD i []).length cap_1), (22, .int .i64 (((l.getD i []).length : Nat) : Int)), (23, .int .i64 (j : Int))]) (w' := w_3) f_18 1 [0, 3, 4, 7, 14, 15, 16, 21, 22, 23] (by kernel_rfl) (fun a_17 f_19 => ?_)
     refine W_end rfl ?_
     refine T_n ?_
     refine R_seq ?_
     refine R_seq ?_
     refine R_mid (fun a_18 w_4 => Frm 68 [(0, .slice A l.length cap), (3, .slice (some ⟨b_1, 0, none⟩) l.length l.length), (4, .int .i64 (i : Int)), (7, .int .i64 ((l.getD i []).getD j 0)), (14, .slice A l.length cap), (15, .int .i64 ((l.length : Nat) : Int)), (16, .int .i64 (i : Int)), (21, .slice B_1 (l.getD i []).length cap_1), (22, .int .i64 (((l.getD i []).length : Nat) : Int)), (23, .int .i64 (j : Int)), (34, .bool ((decide (((l.getD i []).getD j 0) < 0)) || (decide (((l.length : Nat) : Int) ≤ ((l.getD i []).getD j 0)))))] a_18 ∧ Hp w0 M_2 ((Ent.obj b_1 (.cells (G.map hdOf).toArray 121 (0, 0))) :: (bag (Value.int .i64) G ++ H)) w_4) ?_ ?_
     ·refine R_reg ?_
      refine W_run (L' := [(0, .slice A l.length cap), (3, .slice (some ⟨b_1, 0, none⟩) l.length l.length), (4, .int .i64 (i : Int)), (7, .int .i64 ((l.getD i []).getD j 0)), (14, .slice A l.length cap), (15, .int .i64 ((l.length : Nat) : Int)), (16, .int .i64 (i : Int)), (21, .slice B_1 (l.getD i []).length cap_1), (22, .int .i64 (((l.getD i []).length : Nat) : Int)), (23, .int .i64 (j : Int)), (29, .bool (decide (((l.getD i []).getD j 0) < 0)))]) (w' := w_3) f_19 3 [0, 3, 4, 7, 14, 15, 16, 21, 22, 23, 29] (by kernel_rfl) (fun a_19 f_21 => ?_)
      rcases Bool.eq_false_or_eq_true (decide (((l.getD i []).getD j 0) < 0)) with h_3 | h_3
      ·have k_3 : ((l.getD i []).getD j 0) < 0 := decide_eq_true_iff.1 h_3
       have f_22 := Frm.set f_21 29 (v := .bool (decide (((l.getD i []).getD j 0) < 0))) (v' := .bool true) (by kernel_rfl) (congrArg Value.bool h_3)
       have f_23 : Frm 68 [(0, .slice A l.length cap), (3, .slice (some ⟨b_1, 0, none⟩) l.length l.length), (4, .int .i64 (i : Int)), (7, .int .i64 ((l.getD i []).getD j 0)), (14, .slice A l.length cap), (15, .int .i64 ((l.length : Nat) : Int)), (16, .int .i64 (i : Int)), (21, .slice B_1 (l.getD i []).length cap_1), (22, .int .i64 (((l.getD i []).length : Nat) : Int)), (23, .int .i64 (j : Int)), (29, .bool true)] a_19 := f_22.keep (ks := [0, 3, 4, 7, 14, 15, 16, 21, 22, 23, 29]) (by kernel_rfl)
       refine W_run (L' := [(0, .slice A l.length cap), (3, .slice (some ⟨b_1, 0, none⟩) l.length l.length), (4, .int .i64 (i : Int)), (7, .int .i64 ((l.getD i []).getD j 0)), (14, .slice A l.length cap), (15, .int .i64 ((l.length : Nat) : Int)), (16, .int .i64 (i : Int)), (21, .slice B_1 (l.getD i []).length cap_1), (22, .int .i64 (((l.getD i []).length : Nat) : Int)), (23, .int .i64 (j : Int)), (34, .bool true)]) (w' := w_3) f_23 5 [0, 3, 4, 7, 14, 15, 16, 21, 22, 23, 34] (by kernel_rfl) (fun a_20 f_24 => ?_)
       refine W_end rfl ?_
       refine T_n ?_
       have f_25 := Frm.set f_24 34 (v := .bool true) (v' := .bool ((decide (((l.getD i []).getD j 0) < 0)) || (decide (((l.length : Nat) : Int) ≤ ((l.getD i []).getD j 0))))) (by kernel_rfl) (by simp only [h_3, Bool.and_true, Bool.true_and, Bool.false_and, Bool.and_false, Bool.or_true, Bool.true_or, Bool.or_false, Bool.false_or, Bool.not_true, Bool.not_false, cond_true, cond_false])
       exact ⟨f_25.keep (ks := [0, 3, 4, 7, 14, 15, 16, 21, 22, 23, 34]) (by kernel_rfl), p_4⟩
      ·have k_4 : ¬ (((l.getD i []).getD j 0) < 0) := iff_f decide_eq_true_iff h_3
       have f_26 := Frm.set f_21 29 (v := .bool (decide (((l.getD i []).getD j 0) < 0))) (v' := .bool false) (by kernel_rfl) (congrArg Value.bool h_3)
       have f_27 : Frm 68 [(0, .slice A l.length cap), (3, .slice (some ⟨b_1, 0, none⟩) l.length l.length), (4, .int .i64 (i : Int)), (7, .int .i64 ((l.getD i []).getD j 0)), (14, .slice A l.length cap), (15, .int .i64 ((l.length : Nat) : Int)), (16, .int .i64 (i : Int)), (21, .slice B_1 (l.getD i []).length cap_1), (22, .int .i64 (((l.getD i []).length : Nat) : Int)), (23, .int .i64 (j : Int)), (29, .bool false)] a_19 := f_26.keep (ks := [0, 3, 4, 7, 14, 15, 16, 21, 22, 23, 29]) (by kernel_rfl)
       refine W_run (L' := [(0, .slice A l.length cap), (3, .slice (some ⟨b_1, 0, none⟩) l.length l.length), (4, .int .i64 (i : Int)), (7, .int .i64 ((l.getD i []).getD j 0)), (14, .slice A l.length cap), (15, .int .i64 ((l.length : Nat) : Int)), (16, .int .i64 (i : Int)), (21, .slice B_1 (l.getD i []).length cap_1), (22, .int .i64 (((l.getD i []).length : Nat) : Int)), (23, .int .i64 (j : Int)), (34, .bool (decide (((l.length : Nat) : Int) ≤ ((l.getD i []).getD j 0))))]) (w' := w_3) f_27 5 [0, 3, 4, 7, 14, 15, 16, 21, 22, 23, 34] (by kernel_rfl) (fun a_21 f_28 => ?_)
       refine W_end rfl ?_
       refine T_n ?_
       have f_29 := Frm.set f_28 34 (v := .bool (decide (((l.length : Nat) : Int) ≤ ((l.getD i []).getD j 0)))) (v' := .bool ((decide (((l.getD i []).getD j 0) < 0)) || (decide (((l.length : Nat) : Int) ≤ ((l.getD i []).getD j 0))))) (by kernel_rfl) (by simp only [h_3, Bool.and_true, Bool.true_and, Bool.false_and, Bool.and_false, Bool.or_true, Bool.true_or, Bool.or_false, Bool.false_or, Bool.not_true, Bool.not_false, cond_true, cond_false])
       exact ⟨f_29.keep (ks := [0, 3, 4, 7, 14, 15, 16, 21, 22, 23, 34]) (by kernel_rfl), p_4⟩
     ·rintro a_18 w_4 ⟨f_20, p_5⟩
      refine T_n ?_
      refine R_cond f_20 (b := (decide (((l.getD i []).getD j 0) < 0)) || (decide (((l.length : Nat) : Int) ≤ ((l.getD i []).getD j 0)))) (by kernel_rfl) (by kernel_rfl) (fun h_4 => ?_) (fun h_4 => ?_)
      ·have k_5 : (((l.getD i []).getD j 0) < 0) ∨ (((l.length : Nat) : Int) ≤ ((l.getD i []).getD j 0)) := (or_iff decide_eq_true_iff decide_eq_true_iff).1 h_4
       refine wp_exit ?_
       refine T_x ?_
       refine B_x ?_
       refine T_n ?_
       refine R_reg ?_
       refine W_run (L' := [(0, .slice A l.length cap), (3, .slice (some ⟨b_1, 0, none⟩) l.length l.length), (4, .int .i64 (i : Int)), (7, .int .i64 ((l.getD i []).getD j 0)), (14, .slice A l.length cap), (15, .int .i64 ((l.length : Nat) : Int)), (16, .int .i64 (i : Int)), (21, .slice B_1 (l.getD i []).length cap_1), (22, .int .i64 (((l.getD i []).length : Nat) : Int)), (23, .int .i64 (j : Int)), (34, .bool ((decide (((l.getD i []).getD j 0) < 0)) || (decide (((l.length : Nat) : Int) ≤ ((l.getD i []).getD j 0))))), (49, .int .i64 (IntKind.wrap .i64 ((j : Int) + 1)))]) (w' := w_4) f_20 1 [0, 3, 4, 7, 14, 15, 16, 21, 22, 23, 34, 49] (by kernel_rfl) (fun a_22 f_30 => ?_)
       have f_31 := Frm.set f_30 49 (v := .int .i64 (IntKind.wrap .i64 ((j : Int) + 1))) (v' := .int .i64 ((j : Int) + 1)) (by kernel_rfl) (congrArg (Value.int .i64) (IntWalk.i64_in _ (by omega)))
       have f_32 : Frm 68 [(0, .slice A l.length cap), (3, .slice (some ⟨b_1, 0, none⟩) l.length l.length), (4, .int .i64 (i : Int)), (7, .int .i64 ((l.getD i []).getD j 0)), (14, .slice A l.length cap), (15, .int .i64 ((l.length : Nat) : Int)), (16, .int .i64 (i : Int)), (21, .slice B_1 (l.getD i []).length cap_1), (22, .int .i64 (((l.getD i []).length : Nat) : Int)), (23, .int .i64 (j : Int)), (34, .bool ((decide (((l.getD i []).getD j 0) < 0)) || (decide (((l.length : Nat) : Int) ≤ ((l.getD i []).getD j 0))))), (49, .int .i64 ((j : Int) + 1))] a_22 := f_31.keep (ks := [0, 3, 4, 7, 14, 15, 16, 21, 22, 23, 34, 49]) (by kernel_rfl)
       refine W_run (L' := [(0, .slice A l.length cap), (3, .slice (some ⟨b_1, 0, none⟩) l.length l.length), (4, .int .i64 (i : Int)), (14, .slice A l.length cap), (15, .int .i64 ((l.length : Nat) : Int)), (16, .int .i64 (i : Int)), (21, .slice B_1 (l.getD i []).length cap_1), (22, .int .i64 (((l.getD i []).length : Nat) : Int)), (23, .int .i64 ((j : Int) + 1))]) (w' := w_4) f_32 1 [0, 3, 4, 14, 15, 16, 21, 22, 23] (by kernel_rfl) (fun a_23 f_33 => ?_)
       refine W_end rfl ?_
       refine T_n ?_
       have f_34 := Frm.set f_33 23 (v := .int .i64 ((j : Int) + 1)) (v' := .int .i64 ((j + 1) : Int)) (by kernel_rfl) (by first | rfl | (congr 1; omega) | simp)
       refine ⟨((j + 1, G) : Nat × MapRow Int), ?_, M_2, hM_2, ?_, f_34.keep (ks := [0, 3, 4, 14, 15, 16, 21, 22, 23]) (by kernel_rfl), p_5⟩
       ·show (l.getD i []).length - (j + 1) < (l.getD i []).length - j; omega
       ·exact ⟨by omega, hT2.skip (by omega) (by omega)⟩
      ·have k_6 : ¬ ((((l.getD i []).getD j 0) < 0) ∨ (((l.length : Nat) : Int) ≤ ((l.getD i []).getD j 0))) := iff_f (or_iff decide_eq_true_iff decide_eq_true_iff) h_4
       refine wp_skip ?_
       refine T_n ?_
       refine R_seq ?_
       refine R_seq ?_
       refine R_reg ?_
       refine W_run (L' := [(0, .slice A l.length cap), (3, .slice (some ⟨b_1, 0, none⟩) l.length l.length), (4, .int .i64 (i : Int)), (7, .int .i64 ((l.getD i []).getD j 0)), (14, .slice A l.length cap), (15, .int .i64 ((l.length : Nat) : Int)), (16, .int .i64 (i : Int)), (21, .slice B_1 (l.getD i []).length cap_1), (22, .int .i64 (((l.getD i []).length : Nat) : Int)), (23, .int .i64 (j : Int)), (35, .slice (some ⟨b_1, 0, none⟩) l.length l.length), (36, .int .i64 ((l.getD i []).getD j 0))]) (w' := w_4) f_20 2 [0, 3, 4, 7, 14, 15, 16, 21, 22, 23, 35, 36] (by kernel_rfl) (fun a_24 f_35 => ?_)
       refine W_eq (v := .pointer (some ((⟨b_1, 0, none⟩ : Addr).add (((l.getD i []).getD j 0).toNat * 1)))) f_35 (by kernel_rfl) (by kernel_rfl) rfl rfl (X_indexAddr rfl (ad := ⟨b_1, 0, none⟩) (len := l.length) (cap := l.length) (k := .i64) (i := (l.getD i []).getD j 0) (by kernel_rfl) (by kernel_rfl) (e := 121) (by kernel_rfl) (sz := 1) (by kernel_rfl) (by omega) (by omega)) (fun a_25 f_36 => ?_)
       have f_37 := Frm.set f_36 37 (v := .pointer (some ((⟨b_1, 0, none⟩ : Addr).add (((l.getD i []).getD j 0).toNat * 1)))) (v' := .pointer (some (⟨b_1, ((l.getD i []).getD j 0).toNat, none⟩))) (by kernel_rfl) (congrArg (fun a => Value.pointer (some a)) (by rw [Nat.mul_one, Addr.add_lit]; simp))
       have f_38 : Frm 68 [(0, .slice A l.length cap), (3, .slice (some ⟨b_1, 0, none⟩) l.length l.length), (4, .int .i64 (i : Int)), (7, .int .i64 ((l.getD i []).getD j 0)), (14, .slice A l.length cap), (15, .int .i64 ((l.length : Nat) : Int)), (16, .int .i64 (i : Int)), (21, .slice B_1 (l.getD i []).length cap_1), (22, .int .i64 (((l.getD i []).length : Nat) : Int)), (23, .int .i64 (j : Int)), (35, .slice (some ⟨b_1, 0, none⟩) l.length l.length), (36, .int .i64 ((l.getD i []).getD j 0)), (37, .pointer (some (⟨b_1, ((l.getD i []).getD j 0).toNat, none⟩)))] a_25 := f_37.keep (ks := [0, 3, 4, 7, 14, 15, 16, 21, 22, 23, 35, 36, 37]) (by kernel_rfl)
       refine W_eq (v := hdOf (G.getD ((l.getD i []).getD j 0).toNat none)) f_38 (by kernel_rfl) (by kernel_rfl) rfl rfl (X_load1 (v := hdOf (G.getD ((l.getD i []).getD j 0).toNat none)) rfl (ad := ⟨b_1, ((l.getD i []).getD j 0).toNat, none⟩) (by kernel_rfl) (by kernel_rfl) (gotCell p_5 0 rfl (by omega))) (fun a_26 f_39 => ?_)
       refine W_eq (v := .bool (G.getD ((l.getD i []).getD j 0).toNat none).isNone) f_39 (by kernel_rfl) (by kernel_rfl) rfl rfl (X_mapnil (g := G.getD ((l.getD i []).getD j 0).toNat none) (kt := 3) (et := 4) rfl (by kernel_rfl) (by kernel_rfl) (by kernel_rfl) _) (fun a_27 f_40 => ?_)
       refine W_end rfl ?_
       refine T_n ?_
       refine R_cond f_40 (b := (G.getD ((l.getD i []).getD j 0).toNat none).isNone) (by kernel_rfl) (by kernel_rfl) (fun h_5 => ?_) (fun h_5 => ?_)
       ·have hgn : G.getD ((l.getD i []).getD j 0).toNat none = none := Option.isNone_iff_eq_none.1 h_5
        refine R_reg ?_
        refine W_run (L' := [(0, .slice A l.length cap), (3, .slice (some ⟨b_1, 0, none⟩) l.length l.length), (4, .int .i64 (i : Int)), (7, .int .i64 ((l.getD i []).getD j 0)), (14, .slice A l.length cap), (15, .int .i64 ((l.length : Nat) : Int)), (16, .int .i64 (i : Int)), (21, .slice B_1 (l.getD i []).length cap_1), (22, .int .i64 (((l.getD i []).length : Nat) : Int)), (23, .int .i64 (j : Int)), (40, .slice (some ⟨b_1, 0, none⟩) l.length l.length), (41, .int .i64 ((l.getD i []).getD j 0))]) (w' := w_4) f_40 2 [0, 3, 4, 7, 14, 15, 16, 21, 22, 23, 40, 41] (by kernel_rfl) (fun a_28 f_41 => ?_)
        refine W_makeMap (Value.int .i64) f_41 p_5 (by kernel_rfl) (by kernel_rfl) rfl rfl rfl (fun bn_1 w_5 p_6 a_29 f_42 => ?_)
        refine W_eq (v := .pointer (some ((⟨b_1, 0, none⟩ : Addr).add (((l.getD i []).getD j 0).toNat * 1)))) f_42 (by kernel_rfl) (by kernel_rfl) rfl rfl (X_indexAddr rfl (ad := ⟨b_1, 0, none⟩) (len := l.length) (cap := l.length) (k := .i64) (i := (l.getD i []).getD j 0) (by kernel_rfl) (by kernel_rfl) (e := 121) (by kernel_rfl) (sz := 1) (by kernel_rfl) (by omega) (by omega)) (fun a_30 f_43 => ?_)
        have f_44 := Frm.set f_43 43 (v := .pointer (some ((⟨b_1, 0, none⟩ : Addr).add (((l.getD i []).getD j 0).toNat * 1)))) (v' := .pointer (some (⟨b_1, ((l.getD i []).getD j 0).toNat, none⟩))) (by kernel_rfl) (congrArg (fun a => Value.pointer (some a)) (by rw [Nat.mul_one, Addr.add_lit]; simp))
        have f_45 : Frm 68 [(0, .slice A l.length cap), (3, .slice (some ⟨b_1, 0, none⟩) l.length l.length), (4, .int .i64 (i : Int)), (7, .int .i64 ((l.getD i []).getD j 0)), (14, .slice A l.length cap), (15, .int .i64 ((l.length : Nat) : Int)), (16, .int .i64 (i : Int)), (21, .slice B_1 (l.getD i []).length cap_1), (22, .int .i64 (((l.getD i []).length : Nat) : Int)), (23, .int .i64 (j : Int)), (40, .slice (some ⟨b_1, 0, none⟩) l.length l.length), (41, .int .i64 ((l.getD i []).getD j 0)), (42, .map (some bn_1)), (43, .pointer (some (⟨b_1, ((l.getD i []).getD j 0).toNat, none⟩)))] a_30 := f_44.keep (ks := [0, 3, 4, 7, 14, 15, 16, 21, 22, 23, 40, 41, 42, 43]) (by kernel_rfl)
        refine W_store1 f_45 p_6 1 (by kernel_rfl) (by kernel_rfl) rfl rfl (b := b_1) (j := ((l.getD i []).getD j 0).toNat) (v := .map (some bn_1)) (by kernel_rfl) (by kernel_rfl) rfl (by kernel_rfl) (by exact rfl) (by simp only [List.size_toArray, List.length_map]; omega) (by omega) ((Ent.obj bn_1 (mObj (Value.int .i64) [])) :: ((Ent.obj b_1 (.cells ((G.map hdOf).toArray.setIfInBounds ((l.getD i []).getD j 0).toNat (.map (some bn_1))) 121 (0, 0))) :: (bag (Value.int .i64) G ++ H))) rfl (fun w_6 p_7 a_31 f_46 => ?_)
        have p_8 : Hp w0 M_2 ((Ent.obj b_1 (.cells ((G.set ((l.getD i []).getD j 0).toNat (some (bn_1, []))).map hdOf).toArray 121 (0, 0))) :: (bag (Value.int .i64) (G.set ((l.getD i []).getD j 0).toNat (some (bn_1, []))) ++ H)) w_6 := Hp.bagNew p_7 (by omega) hgn
        have hg : (G.set ((l.getD i []).getD j 0).toNat (some (bn_1, []))).getD ((l.getD i []).getD j 0).toNat none = some (bn_1, []) := Vc.getD_set_self (by omega)
        refine W_end rfl ?_
        refine T_n ?_
        refine R_reg ?_
        refine W_run (L' := [(0, .slice A l.length cap), (3, .slice (some ⟨b_1, 0, none⟩) l.length l.length), (4, .int .i64 (i : Int)), (14, .slice A l.length cap), (15, .int .i64 ((l.length : Nat) : Int)), (16, .int .i64 (i : Int)), (21, .slice B_1 (l.getD i []).length cap_1), (22, .int .i64 (((l.getD i []).length : Nat) : Int)), (23, .int .i64 (j : Int)), (44, .slice (some ⟨b_1, 0, none⟩) l.length l.length), (45, .int .i64 ((l.getD i []).getD j 0))]) (w' := w_6) f_46 2 [0, 3, 4, 14, 15, 16, 21, 22, 23, 44, 45] (by kernel_rfl) (fun a_32 f_47 => ?_)
        refine W_eq (v := .pointer (some ((⟨b_1, 0, none⟩ : Addr).add (((l.getD i []).getD j 0).toNat * 1)))) f_47 (by kernel_rfl) (by kernel_rfl) rfl rfl (X_indexAddr rfl (ad := ⟨b_1, 0, none⟩) (len := l.length) (cap := l.length) (k := .i64) (i := (l.getD i []).getD j 0) (by kernel_rfl) (by kernel_rfl) (e := 121) (by kernel_rfl) (sz := 1) (by kernel_rfl) (by omega) (by omega)) (fun a_33 f_48 => ?_)
        have f_49 := Frm.set f_48 46 (v := .pointer (some ((⟨b_1, 0, none⟩ : Addr).add (((l.getD i []).getD j 0).toNat * 1)))) (v' := .pointer (some (⟨b_1, ((l.getD i []).getD j 0).toNat, none⟩))) (by kernel_rfl) (congrArg (fun a => Value.pointer (some a)) (by rw [Nat.mul_one, Addr.add_lit]; simp))
        have f_50 : Frm 68 [(0, .slice A l.length cap), (3, .slice (some ⟨b_1, 0, none⟩) l.length l.length), (4, .int .i64 (i : Int)), (14, .slice A l.length cap), (15, .int .i64 ((l.length : Nat) : Int)), (16, .int .i64 (i : Int)), (21, .slice B_1 (l.getD i []).length cap_1), (22, .int .i64 (((l.getD i []).length : Nat) : Int)), (23, .int .i64 (j : Int)), (44, .slice (some ⟨b_1, 0, none⟩) l.length l.length), (45, .int .i64 ((l.getD i []).getD j 0)), (46, .pointer (some (⟨b_1, ((l.getD i []).getD j 0).toNat, none⟩)))] a_33 := f_49.keep (ks := [0, 3, 4, 14, 15, 16, 21, 22, 23, 44, 45, 46]) (by kernel_rfl)
        refine W_eq (v := .map (some bn_1)) f_50 (by kernel_rfl) (by kernel_rfl) rfl rfl (X_load1 (v := .map (some bn_1)) rfl (ad := ⟨b_1, ((l.getD i []).getD j 0).toNat, none⟩) (by kernel_rfl) (by kernel_rfl) ((gotCell p_8 0 rfl (by first | omega | (simp only [List.length_set]; omega))).trans (by rw [hg]; rfl))) (fun a_34 f_51 => ?_)
        refine W_run (L' := [(0, .slice A l.length cap), (3, .slice (some ⟨b_1, 0, none⟩) l.length l.length), (4, .int .i64 (i : Int)), (14, .slice A l.length cap), (15, .int .i64 ((l.length : Nat) : Int)), (16, .int .i64 (i : Int)), (21, .slice B_1 (l.getD i []).length cap_1), (22, .int .i64 (((l.getD i []).length : Nat) : Int)), (23, .int .i64 (j : Int)), (47, .map (some bn_1)), (48, .int .i64 (i : Int))]) (w' := w_6) f_51 1 [0, 3, 4, 14, 15, 16, 21, 22, 23, 47, 48] (by kernel_rfl) (fun a_35 f_52 => ?_)
        refine W_bagUpdate (enc := (Value.int .i64)) (kt := 3) (et := 4) (k := (i : Int)) (v := .bool true) f_52 p_8 hg (by kernel_rfl) (by kernel_rfl) rfl (.inl rfl) (by kernel_rfl) (by kernel_rfl) (by kernel_rfl) (by kernel_rfl) (intKey (k := .i64) (by kernel_rfl)) (fun w_7 p_9 a_36 f_53 => ?_)
        refine W_end rfl ?_
        refine B_n ?_
        refine T_n ?_
        refine R_reg ?_
        refine W_run (L' := [(0, .slice A l.length cap), (3, .slice (some ⟨b_1, 0, none⟩) l.length l.length), (4, .int .i64 (i : Int)), (14, .slice A l.length cap), (15, .int .i64 ((l.length : Nat) : Int)), (16, .int .i64 (i : Int)), (21, .slice B_1 (l.getD i []).length cap_1), (22, .int .i64 (((l.getD i []).length : Nat) : Int)), (23, .int .i64 (j : Int)), (47, .map (some bn_1)), (48, .int .i64 (i : Int)), (49, .int .i64 (IntKind.wrap .i64 ((j : Int) + 1)))]) (w' := w_7) f_53 1 [0, 3, 4, 14, 15, 16, 21, 22, 23, 47, 48, 49] (by kernel_rfl) (fun a_37 f_54 => ?_)
        have f_55 := Frm.set f_54 49 (v := .int .i64 (IntKind.wrap .i64 ((j : Int) + 1))) (v' := .int .i64 ((j : Int) + 1)) (by kernel_rfl) (congrArg (Value.int .i64) (IntWalk.i64_in _ (by omega)))
        have f_56 : Frm 68 [(0, .slice A l.length cap), (3, .slice (some ⟨b_1, 0, none⟩) l.length l.length), (4, .int .i64 (i : Int)), (14, .slice A l.length cap), (15, .int .i64 ((l.length : Nat) : Int)), (16, .int .i64 (i : Int)), (21, .slice B_1 (l.getD i []).length cap_1), (22, .int .i64 (((l.getD i []).length : Nat) : Int)), (23, .int .i64 (j : Int)), (47, .map (some bn_1)), (48, .int .i64 (i : Int)), (49, .int .i64 ((j : Int) + 1))] a_37 := f_55.keep (ks := [0, 3, 4, 14, 15, 16, 21, 22, 23, 47, 48, 49]) (by kernel_rfl)
        refine W_run (L' := [(0, .slice A l.length cap), (3, .slice (some ⟨b_1, 0, none⟩) l.length l.length), (4, .int .i64 (i : Int)), (14, .slice A l.length cap), (15, .int .i64 ((l.length : Nat) : Int)), (16, .int .i64 (i : Int)), (21, .slice B_1 (l.getD i []).length cap_1), (22, .int .i64 (((l.getD i []).length : Nat) : Int)), (23, .int .i64 ((j : Int) + 1))]) (w' := w_7) f_56 1 [0, 3, 4, 14, 15, 16, 21, 22, 23] (by kernel_rfl) (fun a_38 f_57 => ?_)
        refine W_end rfl ?_
        refine T_n ?_
        have f_58 := Frm.set f_57 23 (v := .int .i64 ((j : Int) + 1)) (v' := .int .i64 ((j + 1) : Int)) (by kernel_rfl) (by first | rfl | (congr 1; omega) | simp)
        refine ⟨((j + 1, (G.set ((l.getD i []).getD j 0).toNat (some (bn_1, []))).set ((l.getD i []).getD j 0).toNat (some (bn_1, updM [] (i : Int) (.bool true)))) : Nat × MapRow Int), ?_, M_2, hM_2, ?_, f_58.keep (ks := [0, 3, 4, 14, 15, 16, 21, 22, 23]) (by kernel_rfl), p_9⟩
        ·show (l.getD i []).length - (j + 1) < (l.getD i []).length - j; omega
        ·exact ⟨by omega, hT2.put (by omega) (by omega) (by simp) (fun k hk => by rw [Vc.getD_set_ne hk, Vc.getD_set_ne hk]) (by rw [Vc.getD_set_self (by simp only [List.length_set]; omega), hgn]; exact keys_upd [] _ _)⟩
       ·refine wp_skip ?_
        refine T_n ?_
        obtain ⟨bo, mo, hg⟩ : ∃ b m, G.getD ((l.getD i []).getD j 0).toNat none = some (b, m) := by
         cases hq : G.getD ((l.getD i []).getD j 0).toNat none with
         | none => rw [hq] at h_5; cases h_5
         | some q => exact ⟨q.1, q.2, rfl⟩
        refine R_reg ?_
        refine W_run (L' := [(0, .slice A l.length cap), (3, .slice (some ⟨b_1, 0, none⟩) l.length l.length), (4, .int .i64 (i : Int)), (14, .slice A l.length cap), (15, .int .i64 ((l.length : Nat) : Int)), (16, .int .i64 (i : Int)), (21, .slice B_1 (l.getD i []).length cap_1), (22, .int .i64 (((l.getD i []).length : Nat) : Int)), (23, .int .i64 (j : Int)), (44, .slice (some ⟨b_1, 0, none⟩) l.length l.length), (45, .int .i64 ((l.getD i []).getD j 0))]) (w' := w_4) f_40 2 [0, 3, 4, 14, 15, 16, 21, 22, 23, 44, 45] (by kernel_rfl) (fun a_39 f_59 => ?_)
        refine W_eq (v := .pointer (some ((⟨b_1, 0, none⟩ : Addr).add (((l.getD i []).getD j 0).toNat * 1)))) f_59 (by kernel_rfl) (by kernel_rfl) rfl rfl (X_indexAddr rfl (ad := ⟨b_1, 0, none⟩) (len := l.length) (cap := l.length) (k := .i64) (i := (l.getD i []).getD j 0) (by kernel_rfl) (by kernel_rfl) (e := 121) (by kernel_rfl) (sz := 1) (by kernel_rfl) (by omega) (by omega)) (fun a_40 f_60 => ?_)
        have f_61 := Frm.set f_60 46 (v := .pointer (some ((⟨b_1, 0, none⟩ : Addr).add (((l.getD i []).getD j 0).toNat * 1)))) (v' := .pointer (some (⟨b_1, ((l.getD i []).getD j 0).toNat, none⟩))) (by kernel_rfl) (congrArg (fun a => Value.pointer (some a)) (by rw [Nat.mul_one, Addr.add_lit]; simp))
        have f_62 : Frm 68 [(0, .slice A l.length cap), (3, .slice (some ⟨b_1, 0, none⟩) l.length l.length), (4, .int .i64 (i : Int)), (14, .slice A l.length cap), (15, .int .i64 ((l.length : Nat) : Int)), (16, .int .i64 (i : Int)), (21, .slice B_1 (l.getD i []).length cap_1), (22, .int .i64 (((l.getD i []).length : Nat) : Int)), (23, .int .i64 (j : Int)), (44, .slice (some ⟨b_1, 0, none⟩) l.length l.length), (45, .int .i64 ((l.getD i []).getD j 0)), (46, .pointer (some (⟨b_1, ((l.getD i []).getD j 0).toNat, none⟩)))] a_40 := f_61.keep (ks := [0, 3, 4, 14, 15, 16, 21, 22, 23, 44, 45, 46]) (by kernel_rfl)
        refine W_eq (v := .map (some bo)) f_62 (by kernel_rfl) (by kernel_rfl) rfl rfl (X_load1 (v := .map (some bo)) rfl (ad := ⟨b_1, ((l.getD i []).getD j 0).toNat, none⟩) (by kernel_rfl) (by kernel_rfl) ((gotCell p_5 0 rfl (by first | omega | (simp only [List.length_set]; omega))).trans (by rw [hg]; rfl))) (fun a_41 f_63 => ?_)
        refine W_run (L' := [(0, .slice A l.length cap), (3, .slice (some ⟨b_1, 0, none⟩) l.length l.length), (4, .int .i64 (i : Int)), (14, .slice A l.length cap), (15, .int .i64 ((l.length : Nat) : Int)), (16, .int .i64 (i : Int)), (21, .slice B_1 (l.getD i []).length cap_1), (22, .int .i64 (((l.getD i []).length : Nat) : Int)), (23, .int .i64 (j : Int)), (47, .map (some bo)), (48, .int .i64 (i : Int))]) (w' := w_4) f_63 1 [0, 3, 4, 14, 15, 16, 21, 22, 23, 47, 48] (by kernel_rfl) (fun a_42 f_64 => ?_)
        refine W_bagUpdate (enc := (Value.int .i64)) (kt := 3) (et := 4) (k := (i : Int)) (v := .bool true) f_64 p_5 hg (by kernel_rfl) (by kernel_rfl) rfl (.inl rfl) (by kernel_rfl) (by kernel_rfl) (by kernel_rfl) (by kernel_rfl) (intKey (k := .i64) (by kernel_rfl)) (fun w_8 p_10 a_43 f_65 => ?_)
        refine W_end rfl ?_
        refine B_n ?_
        refine T_n ?_
        refine R_reg ?_
        refine W_run (L' := [(0, .slice A l.length cap), (3, .slice (some ⟨b_1, 0, none⟩) l.length l.length), (4, .int .i64 (i : Int)), (14, .slice A l.length cap), (15, .int .i64 ((l.length : Nat) : Int)), (16, .int .i64 (i : Int)), (21, .slice B_1 (l.getD i []).length cap_1), (22, .int .i64 (((l.getD i []).length : Nat) : Int)), (23, .int .i64 (j : Int)), (47, .map (some bo)), (48, .int .i64 (i : Int)), (49, .int .i64 (IntKind.wrap .i64 ((j : Int) + 1)))]) (w' := w_8) f_65 1 [0, 3, 4, 14, 15, 16, 21, 22, 23, 47, 48, 49] (by kernel_rfl) (fun a_44 f_66 => ?_)
        have f_67 := Frm.set f_66 49 (v := .int .i64 (IntKind.wrap .i64 ((j : Int) + 1))) (v' := .int .i64 ((j : Int) + 1)) (by kernel_rfl) (congrArg (Value.int .i64) (IntWalk.i64_in _ (by omega)))
        have f_68 : Frm 68 [(0, .slice A l.length cap), (3, .slice (some ⟨b_1, 0, none⟩) l.length l.length), (4, .int .i64 (i : Int)), (14, .slice A l.length cap), (15, .int .i64 ((l.length : Nat) : Int)), (16, .int .i64 (i : Int)), (21, .slice B_1 (l.getD i []).length cap_1), (22, .int .i64 (((l.getD i []).length : Nat) : Int)), (23, .int .i64 (j : Int)), (47, .map (some bo)), (48, .int .i64 (i : Int)), (49, .int .i64 ((j : Int) + 1))] a_44 := f_67.keep (ks := [0, 3, 4, 14, 15, 16, 21, 22, 23, 47, 48, 49]) (by kernel_rfl)
        refine W_run (L' := [(0, .slice A l.length cap), (3, .slice (some ⟨b_1, 0, none⟩) l.length l.length), (4, .int .i64 (i : Int)), (14, .slice A l.length cap), (15, .int .i64 ((l.length : Nat) : Int)), (16, .int .i64 (i : Int)), (21, .slice B_1 (l.getD i []).length cap_1), (22, .int .i64 (((l.getD i []).length : Nat) : Int)), (23, .int .i64 ((j : Int) + 1))]) (w' := w_8) f_68 1 [0, 3, 4, 14, 15, 16, 21, 22, 23] (by kernel_rfl) (fun a_45 f_69 => ?_)
        refine W_end rfl ?_
        refine T_n ?_
        have f_70 := Frm.set f_69 23 (v := .int .i64 ((j : Int) + 1)) (v' := .int .i64 ((j + 1) : Int)) (by kernel_rfl) (by first | rfl | (congr 1; omega) | simp)
        refine ⟨((j + 1, G.set ((l.getD i []).getD j 0).toNat (some (bo, updM mo (i : Int) (.bool true)))) : Nat × MapRow Int), ?_, M_2, hM_2, ?_, f_70.keep (ks := [0, 3, 4, 14, 15, 16, 21, 22, 23]) (by kernel_rfl), p_10⟩
        ·show (l.getD i []).length - (j + 1) < (l.getD i []).length - j; omega
        ·exact ⟨by omega, hT2.put (by omega) (by omega) (by simp) (fun k hk => Vc.getD_set_ne hk) (by rw [Vc.getD_set_self (by omega), hg]; exact keys_upd mo _ _)⟩
    ·have k_9 : ¬ ((j : Int) < (((l.getD i []).length : Nat) : Int)) := iff_f decide_eq_true_iff h_2
     refine wp_exit ?_
     refine T_x ?_
     refine T_x ?_
     refine B_x ?_
     refine B_n ?_
     refine T_n ?_
     refine R_reg ?_
     refine W_run (L' := [(0, .slice A l.length cap), (3, .slice (some ⟨b_1, 0, none⟩) l.length l.length), (4, .int .i64 (i : Int)), (14, .slice A l.length cap), (15, .int .i64 ((l.length : Nat) : Int)), (16, .int .i64 (i : Int)), (21, .slice B_1 (l.getD i []).length cap_1), (22, .int .i64 (((l.getD i []).length : Nat) : Int)), (23, .int .i64 (j : Int)), (24, .bool (decide ((j : Int) < (((l.getD i []).length : Nat) : Int)))), (50, .int .i64 (IntKind.wrap .i64 ((i : Int) + 1)))]) (w' := w_3) f_16 1 [0, 3, 4, 14, 15, 16, 21, 22, 23, 24, 50] (by kernel_rfl) (fun a_46 f_71 => ?_)
     have f_72 := Frm.set f_71 50 (v := .int .i64 (IntKind.wrap .i64 ((i : Int) + 1))) (v' := .int .i64 ((i : Int) + 1)) (by kernel_rfl) (congrArg (Value.int .i64) (IntWalk.i64_in _ (by omega)))
     have f_73 : Frm 68 [(0, .slice A l.length cap), (3, .slice (some ⟨b_1, 0, none⟩) l.length l.length), (4, .int .i64 (i : Int)), (14, .slice A l.length cap), (15, .int .i64 ((l.length : Nat) : Int)), (16, .int .i64 (i : Int)), (21, .slice B_1 (l.getD i []).length cap_1), (22, .int .i64 (((l.getD i []).length : Nat) : Int)), (23, .int .i64 (j : Int)), (24, .bool (decide ((j : Int) < (((l.getD i []).length : Nat) : Int)))), (50, .int .i64 ((i : Int) + 1))] a_46 := f_72.keep (ks := [0, 3, 4, 14, 15, 16, 21, 22, 23, 24, 50]) (by kernel_rfl)
     refine W_run (L' := [(0, .slice A l.length cap), (3, .slice (some ⟨b_1, 0, none⟩) l.length l.length), (14, .slice A l.length cap), (15, .int .i64 ((l.length : Nat) : Int)), (16, .int .i64 ((i : Int) + 1))]) (w' := w_3) f_73 1 [0, 3, 14, 15, 16] (by kernel_rfl) (fun a_47 f_74 => ?_)
     refine W_end rfl ?_
     refine T_n ?_
     have f_75 := Frm.set f_74 16 (v := .int .i64 ((i : Int) + 1)) (v' := .int .i64 ((i + 1) : Int)) (by kernel_rfl) (by first | rfl | (congr 1; omega) | simp)
     refine ⟨((i + 1, G) : Nat × MapRow Int), ?_, M_2, (hM_1.trans hM_2), ?_, f_75.keep (ks := [0, 3, 14, 15, 16]) (by kernel_rfl), p_4⟩
     ·show l.length - (i + 1) < l.length - i; omega
     ·exact ⟨by omega, hT2.row (by omega)⟩
  ·have k_10 : ¬ ((i : Int) < ((l.length : Nat) : Int)) := iff_f decide_eq_true_iff h_1
   refine wp_exit ?_
   refine T_x ?_
   refine T_x ?_
   refine B_x ?_
   refine T_n ?_
   refine R_seq ?_
   obtain ⟨kf_1, pf_1⟩ := p_3.freeze
   obtain ⟨M_3, hM_3, p_11, hbag_1⟩ := Hp.bagKnown pf_1
   have hgot_1 : ∀ k, k < l.length → M_3.cell? ⟨b_1, k, none⟩ = some (hdOf (G.getD k none)) := fun k hk => hM_3.cell (by rw [add_cell]; simp [List.getD, hGl, hk])
   have hie : i = l.length := by omega
   subst hie
   refine R_reg ?_
   refine W_run (L' := [(3, .slice (some ⟨b_1, 0, none⟩) l.length l.length), (52, .int .i64 ((l.length : Nat) : Int))]) (w' := w_2) f_8 2 [3, 52] (by kernel_rfl) (fun a_48 f_76 => ?_)
   refine W_make (m := l.length) (z := .slice none 0 0) (bytes := 24) (e := 27) f_76 p_11 (by kernel_rfl) (by kernel_rfl) rfl rfl rfl (by kernel_rfl) (by kernel_rfl) (by kernel_rfl) (by kernel_rfl) rfl (by omega) (by omega) (fun b_2 w_9 p_12 a_49 f_77 => ?_)
   refine W_run (L' := [(3, .slice (some ⟨b_1, 0, none⟩) l.length l.length), (8, .slice (some ⟨b_2, 0, none⟩) l.length l.length)]) (w' := w_9) f_77 1 [3, 8] (by kernel_rfl) (fun a_50 f_78 => ?_)
   refine W_end rfl ?_
   refine T_n ?_
   refine R_seq ?_
   refine R_seq ?_
   refine R_reg ?_
   refine W_run (L' := [(8, .slice (some ⟨b_2, 0, none⟩) l.length l.length), (54, .slice (some ⟨b_1, 0, none⟩) l.length l.length), (55, .int .i64 ((l.length : Nat) : Int)), (56, .int .i64 0)]) (w' := w_9) f_78 3 [8, 54, 55, 56] (by kernel_rfl) (fun a_51 f_79 => ?_)
   refine W_end rfl ?_
   refine T_n ?_
   refine wp_block ?_
   have f_80 := Frm.set f_79 56 (v := .int .i64 0) (v' := .int .i64 (0 : Int)) (by kernel_rfl) (by first | rfl | (congr 1; omega) | simp)
   refine R_loop (n := 68) (w0 := w0) (M := M_3) (fun (x : Nat × List Value) => match x with | (k, O) => [(8, .slice (some ⟨b_2, 0, none⟩) l.length l.length), (54, .slice (some ⟨b_1, 0, none⟩) l.length l.length), (55, .int .i64 ((l.length : Nat) : Int)), (56, .int .i64 (k : Int))]) (fun (x : Nat × List Value) => match x with | (k, O) => ((Ent.obj b_2 (.cells O.toArray 27 (0, 0))) :: H)) (fun (x : Nat × List Value) (M_4 : Mem) => match x with | (k, O) => (k ≤ l.length) ∧ (O.length = l.length) ∧ (∀ q, q < k → IntRow M_4 .i64 (O.getD q undef) ((turnedL l).getD q []))) (fun (x : Nat × List Value) => match x with | (k, O) => l.length - k) (0, List.replicate l.length (.slice none 0 0)) (f_80.keep (ks := [8, 54, 55, 56]) (by kernel_rfl)) p_12 ?_ ?_
   ·exact ⟨Nat.zero_le _, by simp, lt_zero⟩
   ·rintro ⟨k, O⟩ M_4 a_52 w_10 hM_4 I_3 f_81 p_13
    replace f_81 : Frm 68 [(8, .slice (some ⟨b_2, 0, none⟩) l.length l.length), (54, .slice (some ⟨b_1, 0, none⟩) l.length l.length), (55, .int .i64 ((l.length : Nat) : Int)), (56, .int .i64 (k : Int))] a_52 := f_81
    replace p_13 : Hp w0 M_4 ((Ent.obj b_2 (.cells O.toArray 27 (0, 0))) :: H) w_10 := p_13
    replace I_3 : (k ≤ l.length) ∧ (O.length = l.length) ∧ (∀ q, q < k → IntRow M_4 .i64 (O.getD q undef) ((turnedL l).getD q [])) := I_3
    obtain ⟨hk, hOl, hO⟩ := I_3
    refine R_seq ?_
    refine R_reg ?_
    refine W_run (L' := [(8, .slice (some ⟨b_2, 0, none⟩) l.length l.length), (54, .slice (some ⟨b_1, 0, none⟩) l.length l.length), (55, .int .i64 ((l.length : Nat) : Int)), (56, .int .i64 (k : Int)), (57, .bool (decide ((k : Int) < ((l.length : Nat) : Int))))]) (w' := w_10) f_81 1 [8, 54, 55, 56, 57] (by kernel_rfl) (fun a_53 f_82 => ?_)
    refine W_end rfl ?_
    refine T_n ?_
    refine R_seq ?_
    refine R_cond f_82 (b := decide ((k : Int) < ((l.length : Nat) : Int))) (by kernel_rfl) (by kernel_rfl) (fun h_6 => ?_) (fun h_6 => ?_)
    ·have k_11 : (k : Int) < ((l.length : Nat) : Int) := decide_eq_true_iff.1 h_6
     refine wp_skip ?_
     refine T_n ?_
     refine R_seq ?_
     refine wp_block ?_
     refine R_seq ?_
     refine R_reg ?_
     refine W_run (L' := [(8, .slice (some ⟨b_2, 0, none⟩) l.length l.length), (54, .slice (some ⟨b_1, 0, none⟩) l.length l.length), (55, .int .i64 ((l.length : Nat) : Int)), (56, .int .i64 (k : Int)), (58, .int .i64 (k : Int))]) (w' := w_10) f_82 1 [8, 54, 55, 56, 58] (by kernel_rfl) (fun a_54 f_83 => ?_)
     refine W_eq (v := .pointer (some ((⟨b_1, 0, none⟩ : Addr).add ((k : Int).toNat * 1)))) f_83 (by kernel_rfl) (by kernel_rfl) rfl rfl (X_indexAddr rfl (ad := ⟨b_1, 0, none⟩) (len := l.length) (cap := l.length) (k := .i64) (i := (k : Int)) (by kernel_rfl) (by kernel_rfl) (e := 121) (by kernel_rfl) (sz := 1) (by kernel_rfl) (by omega) (by omega)) (fun a_55 f_84 => ?_)
     have f_85 := Frm.set f_84 59 (v := .pointer (some ((⟨b_1, 0, none⟩ : Addr).add ((k : Int).toNat * 1)))) (v' := .pointer (some (⟨b_1, k, none⟩))) (by kernel_rfl) (congrArg (fun a => Value.pointer (some a)) (by rw [Nat.mul_one, Addr.add_lit]; simp))
     have f_86 : Frm 68 [(8, .slice (some ⟨b_2, 0, none⟩) l.length l.length), (54, .slice (some ⟨b_1, 0, none⟩) l.length l.length), (55, .int .i64 ((l.length : Nat) : Int)), (56, .int .i64 (k : Int)), (58, .int .i64 (k : Int)), (59, .pointer (some (⟨b_1, k, none⟩)))] a_55 := f_85.keep (ks := [8, 54, 55, 56, 58, 59]) (by kernel_rfl)
     refine W_eq (v := hdOf (G.getD k none)) f_86 (by kernel_rfl) (by kernel_rfl) rfl rfl (X_load1 (v := hdOf (G.getD k none)) rfl (ad := ⟨b_1, k, none⟩) (by kernel_rfl) (by kernel_rfl) (p_13.cell (hM_4.cell (hgot_1 _ (by omega))))) (fun a_56 f_87 => ?_)
     refine W_run (L' := [(8, .slice (some ⟨b_2, 0, none⟩) l.length l.length), (9, .int .i64 (k : Int)), (10, hdOf (G.getD k none)), (54, .slice (some ⟨b_1, 0, none⟩) l.length l.length), (55, .int .i64 ((l.length : Nat) : Int)), (56, .int .i64 (k : Int))]) (w' := w_10) f_87 2 [8, 9, 10, 54, 55, 56] (by kernel_rfl) (fun a_57 f_88 => ?_)
     refine W_end rfl ?_
     refine T_n ?_
     refine R_reg ?_
     refine W_run (L' := [(8, .slice (some ⟨b_2, 0, none⟩) l.length l.length), (54, .slice (some ⟨b_1, 0, none⟩) l.length l.length), (55, .int .i64 ((l.length : Nat) : Int)), (56, .int .i64 (k : Int)), (61, .slice (some ⟨b_2, 0, none⟩) l.length l.length), (62, .int .i64 (k : Int)), (63, hdOf (G.getD k none))]) (w' := w_10) f_88 3 [8, 54, 55, 56, 61, 62, 63] (by kernel_rfl) (fun a_58 f_89 => ?_)
     refine W_ok f_89 p_13 (by kernel_rfl) (by kernel_rfl) rfl rfl (fun _ => by kernel_rfl) (risingAny_ok _ (G.getD k none) (fun b m e => hM_4 _ _ (hbag_1 b m (memOf (by omega) e))) (Nat.le_trans (hT.len (by omega)) lL)) (fun v_1 M_5 w_11 hM_5 p_14 q_1 a_59 f_90 => ?_)
     obtain ⟨A_1, cap_2, rfl, hcap_2, hi_2, hnew_1⟩ := q_1
     refine W_eq (v := .pointer (some ((⟨b_2, 0, none⟩ : Addr).add ((k : Int).toNat * 1)))) f_90 (by kernel_rfl) (by kernel_rfl) rfl rfl (X_indexAddr rfl (ad := ⟨b_2, 0, none⟩) (len := l.length) (cap := l.length) (k := .i64) (i := (k : Int)) (by kernel_rfl) (by kernel_rfl) (e := 27) (by kernel_rfl) (sz := 1) (by kernel_rfl) (by omega) (by omega)) (fun a_60 f_91 => ?_)
     have f_92 := Frm.set f_91 65 (v := .pointer (some ((⟨b_2, 0, none⟩ : Addr).add ((k : Int).toNat * 1)))) (v' := .pointer (some (⟨b_2, k, none⟩))) (by kernel_rfl) (congrArg (fun a => Value.pointer (some a)) (by rw [Nat.mul_one, Addr.add_lit]; simp))
     have f_93 : Frm 68 [(8, .slice (some ⟨b_2, 0, none⟩) l.length l.length), (54, .slice (some ⟨b_1, 0, none⟩) l.length l.length), (55, .int .i64 ((l.length : Nat) : Int)), (56, .int .i64 (k : Int)), (61, .slice (some ⟨b_2, 0, none⟩) l.length l.length), (62, .int .i64 (k : Int)), (63, hdOf (G.getD k none)), (64, .slice A_1 (rise (keysOf (G.getD k none))).length cap_2), (65, .pointer (some (⟨b_2, k, none⟩)))] a_60 := f_92.keep (ks := [8, 54, 55, 56, 61, 62, 63, 64, 65]) (by kernel_rfl)
     refine W_store1 f_93 p_14 0 (by kernel_rfl) (by kernel_rfl) rfl rfl (b := b_2) (j := k) (v := .slice A_1 (rise (keysOf (G.getD k none))).length cap_2) (by kernel_rfl) (by kernel_rfl) rfl (by kernel_rfl) (by exact rfl) (by simp only [List.size_toArray]; omega) (by omega) _ rfl (fun w_12 p_15 a_61 f_94 => ?_)
     have p_16 : Hp w0 M_5 ((Ent.obj b_2 (.cells (O.set k (.slice A_1 (rise (keysOf (G.getD k none))).length cap_2)).toArray 27 (0, 0))) :: H) w_12 := by simpa using p_15
     refine W_end rfl ?_
     refine B_n ?_
     refine T_n ?_
     refine R_reg ?_
     refine W_run (L' := [(8, .slice (some ⟨b_2, 0, none⟩) l.length l.length), (54, .slice (some ⟨b_1, 0, none⟩) l.length l.length), (55, .int .i64 ((l.length : Nat) : Int)), (56, .int .i64 (k : Int)), (61, .slice (some ⟨b_2, 0, none⟩) l.length l.length), (62, .int .i64 (k : Int)), (63, hdOf (G.getD k none)), (64, .slice A_1 (rise (keysOf (G.getD k none))).length cap_2), (65, .pointer (some (⟨b_2, k, none⟩))), (66, .int .i64 (IntKind.wrap .i64 ((k : Int) + 1)))]) (w' := w_12) f_94 1 [8, 54, 55, 56, 61, 62, 63, 64, 65, 66] (by kernel_rfl) (fun a_62 f_95 => ?_)
     have f_96 := Frm.set f_95 66 (v := .int .i64 (IntKind.wrap .i64 ((k : Int) + 1))) (v' := .int .i64 ((k : Int) + 1)) (by kernel_rfl) (congrArg (Value.int .i64) (IntWalk.i64_in _ (by omega)))
     have f_97 : Frm 68 [(8, .slice (some ⟨b_2, 0, none⟩) l.length l.length), (54, .slice (some ⟨b_1, 0, none⟩) l.length l.length), (55, .int .i64 ((l.length : Nat) : Int)), (56, .int .i64 (k : Int)), (61, .slice (some ⟨b_2, 0, none⟩) l.length l.length), (62, .int .i64 (k : Int)), (63, hdOf (G.getD k none)), (64, .slice A_1 (rise (keysOf (G.getD k none))).length cap_2), (65, .pointer (some (⟨b_2, k, none⟩))), (66, .int .i64 ((k : Int) + 1))] a_62 := f_96.keep (ks := [8, 54, 55, 56, 61, 62, 63, 64, 65, 66]) (by kernel_rfl)
     refine W_run (L' := [(8, .slice (some ⟨b_2, 0, none⟩) l.length l.length), (54, .slice (some ⟨b_1, 0, none⟩) l.length l.length), (55, .int .i64 ((l.length : Nat) : Int)), (56, .int .i64 ((k : Int) + 1))]) (w' := w_12) f_97 1 [8, 54, 55, 56] (by kernel_rfl) (fun a_63 f_98 => ?_)
     refine W_end rfl ?_
     refine T_n ?_
     have f_99 := Frm.set f_98 56 (v := .int .i64 ((k : Int) + 1)) (v' := .int .i64 ((k + 1) : Int)) (by kernel_rfl) (by first | rfl | (congr 1; omega) | simp)
     refine ⟨((k + 1, O.set k (.slice A_1 (rise (keysOf (G.getD k none))).length cap_2)) : Nat × List Value), ?_, M_5, (hM_4.trans hM_5), ?_, f_99.keep (ks := [8, 54, 55, 56]) (by kernel_rfl), p_16⟩
     ·show l.length - (k + 1) < l.length - k; omega
     ·exact ⟨by omega, by simp only [List.length_set]; omega, outStep (by omega) (fun q hq => (hO q hq).mono hM_5) (hT.done (k := k) (by omega) ▸ ⟨_, _, rfl, by assumption, hi_2⟩)⟩
    ·have k_12 : ¬ ((k : Int) < ((l.length : Nat) : Int)) := iff_f decide_eq_true_iff h_6
     refine wp_exit ?_
     refine T_x ?_
     refine T_x ?_
     refine B_x ?_
     refine T_n ?_
     refine R_seq ?_
     refine R_reg ?_
     refine W_run (L' := [(2, .slice (some ⟨b_2, 0, none⟩) l.length l.length)]) (w' := w_10) f_82 2 [2] (by kernel_rfl) (fun a_64 f_100 => ?_)
     refine W_end rfl ?_
     refine T_n ?_
     refine wp_ret ?_
     refine E_ret1 f_100 rfl (by kernel_rfl : Vc.look _ 2 = some (.slice (some ⟨b_2, 0, none⟩) l.length l.length)) ?_
     obtain ⟨k9, p9⟩ := p_13.freeze
     refine ⟨_, rfl, _, ((hM_1.trans (kf_1.trans hM_3)).trans hM_4).trans k9, p9, _, by rw [turned_len], O, by rw [turned_len]; exact hOl, .inr ⟨_, rfl, fun q u hq => ?_⟩, fun q hq => (hO q (by rw [turned_len] at hq; omega)).mono k9⟩
     rw [Addr.add_lit, add_cell]; simpa using hq
end Go.Proofs.Ytfdmlionhbeebaa
end

section
namespace Go.Vc
open Go Go.RowKit
theorem RepArr.mk {M : Mem} {sz : Nat} : ∀ {ds : List Dat} {ad : Addr}, (∀ i d, ds[i]? = some d → ∃ c, c.length = sz ∧ Rep M d c ∧ ∀ j v, c[j]? = some v → M.cell? ((ad.add (i * sz)).add j) = some v) → RepArr M sz ds ad
 | [], _, _ => trivial
 | d :: ds, ad, h => by
  refine ⟨?_, RepArr.mk fun i e he => ?_⟩
  ·have := h 0 d rfl
   simpa [Addr.add] using this
  ·obtain ⟨c, h1, h2, h3⟩ := h (i + 1) e (by simpa using he)
   refine ⟨c, h1, h2, fun j v hv => ?_⟩
   have := h3 j v hv
   rw [add_of_add] at this
   rw [add_of_add, add_of_add, show sz + (i * sz + j) = (i + 1) * sz + j by rw [Nat.add_mul]; omega]
   exact this
theorem sli_ints {M : Mem} {k : IntKind} {A : Option Addr} {cap : Nat} {xs : List Int} (h : Sli M 1 (Dat.int k) A cap xs) : Ints M k A xs := by
 obtain ⟨_, _, h3⟩ := h
 rcases h3 with h3 | ⟨ad, h4, h5⟩
 ·exact .inl (by simp [h3])
 ·refine .inr ⟨ad, h4, fun j v hv => ?_⟩
  obtain ⟨x, hx, rfl⟩ : ∃ x, xs[j]? = some x ∧ Value.int k x = v := by simpa using hv
  obtain ⟨c, k1, k2, k3⟩ := RepArr.get j (.int k x) h5 (by simp [hx])
  obtain rfl : c = _ := k2
  have := k3 0 _ rfl
  rwa [add_of_add, Nat.mul_one, Nat.add_zero] at this
theorem ints_sli {M : Mem} {k : IntKind} {A : Option Addr} {cap : Nat} {xs : List Int} (h : Ints M k A xs) (h1 : xs.length ≤ cap) (h2 : A = none → cap = 0) : Sli M 1 (Dat.int k) A cap xs := by
 refine ⟨h1, h2, ?_⟩
 rcases h with h | ⟨ad, h4, h5⟩
 ·exact .inl (by simpa using h)
 ·refine .inr ⟨ad, h4, RepArr.mk fun i d hd => ?_⟩
  obtain ⟨x, hx, rfl⟩ : ∃ x, xs[i]? = some x ∧ Dat.int k x = d := by simpa using hd
  refine ⟨[.int k x], rfl, rfl, fun j v hv => ?_⟩
  cases j with
  | zero =>
   simp at hv; subst hv
   rw [add_of_add, Nat.mul_one, Nat.add_zero]
   exact h5 i _ (by simp [hx])
  | succ j => simp at hv
theorem sli_rows {M : Mem} {k : IntKind} {A : Option Addr} {cap : Nat} {l : List (List Int)} (h : Sli M 1 (eL 1 (Dat.int k)) A cap l) : Vc.Rows M k A l := by
 obtain ⟨h1, h2, h3⟩ := h
 rcases h3 with h3 | ⟨ad, h4, h5⟩
 ·subst h3; exact ⟨[], rfl, .inl rfl, fun i hi => by simp at hi⟩
 ·obtain ⟨cs, k1, k2, k3⟩ := RepArr.cells h5
  refine ⟨cs, by simpa using k1, .inr ⟨ad, h4, k3⟩, fun i hi => ?_⟩
  have hx : l[i]? = some (l.getD i []) := by simp [List.getD, hi]
  obtain ⟨e, e1, e2, e3⟩ := RepSeq.get (sz := 1) i (d := eL 1 (Dat.int k) (l.getD i [])) (fun d hd => by obtain ⟨x, _, rfl⟩ := List.mem_map.1 hd; exact szd_list _ _) k2 (by rw [List.getElem?_map, hx]; rfl)
  obtain ⟨B, c, rfl, hs⟩ := Rep.sli e2
  have := e3 0 _ rfl
  rw [Nat.mul_one, Nat.add_zero] at this
  refine ⟨B, c, by rw [List.getD_eq_getElem?_getD, this]; rfl, ⟨hs.1, hs.2.1⟩, sli_ints hs⟩
theorem rows_sli {M : Mem} {k : IntKind} {A : Option Addr} {cap : Nat} {l : List (List Int)} (h : Vc.Rows M k A l) (h1 : l.length ≤ cap) (h2 : A = none → cap = 0) : Sli M 1 (eL 1 (Dat.int k)) A cap l := by
 refine ⟨h1, h2, ?_⟩
 obtain ⟨hs, e1, e2, e3⟩ := h
 rcases e2 with e2 | ⟨ad, h4, h5⟩
 ·exact .inl (List.eq_nil_of_length_eq_zero (by rw [← e1, e2]; rfl))
 ·refine .inr ⟨ad, h4, RepArr.mk fun i d hd => ?_⟩
  obtain ⟨x, hx, rfl⟩ : ∃ x, l[i]? = some x ∧ eL 1 (Dat.int k) x = d := by simpa using hd
  have hi : i < l.length := (List.getElem?_eq_some_iff.1 hx).1
  have hxe : l.getD i [] = x := by simp [List.getD, hx]
  obtain ⟨B, c, g1, g2, g3⟩ := e3 i hi
  rw [hxe] at g1 g2 g3
  refine ⟨[.slice B x.length c], rfl, (ints_sli g3 g2.1 g2.2).rep, fun j v hv => ?_⟩
  cases j with
  | zero =>
   simp at hv; subst hv
   rw [add_of_add, Nat.mul_one, Nat.add_zero]
   refine h5 i _ ?_
   have hih : i < hs.length := by omega
   rw [List.getD_eq_getElem?_getD, List.getElem?_eq_getElem hih] at g1
   rw [List.getElem?_eq_getElem hih]; exact congrArg some g1
  | succ j => simp at hv
end Go.Vc
namespace Go.Proofs.Ytfdmlionhbeebaa
open Go Go.Vc Go.RowKit
def deps_Turned (_ : Nat) (l : List (List Int)) : Option (List (List Int)) := need (l.length ≤ 1099511627776 ∧ ∀ r ∈ l, r.length ≤ 1099511627776) (some (turnedL l))
theorem deps_Turned_ok (n : Nat) (M : Mem) (A0 : Option Addr) (cap0 : Nat) (d0 : List (List Int)) (h0 : Sli M 1 (eL 1 (Dat.int .i64)) A0 cap0 d0) (r : List (List Int)) (hF : deps_Turned n d0 = some r) :
  Ok Try.prog M 49 [.slice A0 d0.length cap0] (fun M' v => ∃ (A0 : Option Addr) (k0 : Nat), v = .slice A0 r.length k0 ∧ Sli M' 1 (eL 1 (Dat.int .i64)) A0 k0 r) := by
 unfold deps_Turned at hF
 obtain ⟨⟨g1, g2⟩, hF⟩ := need_some hF
 obtain rfl := (Option.some.inj hF).symm
 refine (turned_ok M A0 d0 cap0 (sli_rows h0) g1 g2).mono fun M' v hM hv => ?_
 obtain ⟨ad, rfl, hr⟩ := hv
 exact ⟨some ad, _, rfl, rows_sli hr (Nat.le_refl _) (fun e => by cases e)⟩
end Go.Proofs.Ytfdmlionhbeebaa
end

section
namespace Go.Proofs.Ytfdmlionhbeebaa
open Go Go.Vc Go.RowKit
def ready_May_1 (n : Nat) (d0 : Int) (d1 : List (List Int)) : Option Bool :=
  bif (decide (d0 < 0)) then
    (some ((true)))
  else
    some ((decide (((d1.length : Nat) : Int) ≤ d0)))
theorem ready_May_1_ok (n : Nat) (M : Mem) (d0 : Int) (ad1 : Addr) (c1 : List Value) (d1 : List (List Int)) (h1 : Rep M ((eL 1 (eL 1 (Dat.int .i64))) d1) c1) (q1 : ∀ j v, c1[j]? = some v → M.cell? (ad1.add j) = some v) (r : Bool) (hF : ready_May_1 n d0 d1 = some r) : Ok Try.prog M 38 [.int .i64 d0, .pointer (some ad1)] (fun _ v => v = .bool r) := by
 unfold ready_May_1 at hF
 intro M1 hM0 w0 H w p0
 replace h1 := Rep.mono hM0 _ _ h1
 replace q1 := fun j v h => hM0.cell (q1 j v h)
 obtain ⟨A_1, cap_1, rfl, h_1⟩ := Rep.sli h1
 refine R_enter 12 Try.func38 rfl rfl (by simp) fun a0 f0 => RR (Y f0 1 fun _ f => eT (RR (Y f 3 fun _ f => ?_)))
 rcases cE hF with ⟨h_2, hF_1⟩ | ⟨h_2, hF_2⟩
 ·have k_1 := dI.1 h_2
  have f := f.st 6 (cB h_2)
  refine Y f 6 fun _ f => eT (wp_ret (E_ret1 f rfl (by kernel_rfl : Vc.look _ 3 = some (.bool true)) ?_))
  obtain rfl := sI hF_1
  exact ⟨_, rfl, M1, (mR _), p0, rfl⟩
 ·have k_2 := iff_f dI h_2
  have f := f.st 6 (cB h_2)
  refine Y f 1 fun _ f => Y15 f p0 q1 0 rfl fun _ f => Y f 4 fun _ f => eT (wp_ret (E_ret1 f rfl (by kernel_rfl : Vc.look _ 3 = some (.bool (decide (((d1.length : Nat) : Int) ≤ d0)))) ?_))
  obtain rfl := sI hF_2
  exact ⟨_, rfl, M1, (mR _), p0, rfl⟩
def slices_IndexFuncint_int_s1 (n : Nat) (d0 : List Int) (d1_0 : List (List Int)) (s_1 : Int) : Option (Lp Int (Sum Int Unit)) :=
    bif (decide (s_1 < ((d0.length : Nat) : Int))) then
      ((getI d0 s_1).bind fun x_1 =>
      (ready_May_1 n x_1 d1_0).bind fun x_2 =>
      bif x_2 then
        (some (.br (.inl s_1)))
      else
        need (inR .i64 (s_1 + 1)) <|
        some (.nx (s_1 + 1)))
    else
      some (.br (.inr ()))
def slices_IndexFuncint_int (n : Nat) (d0 : List Int) (d1_0 : List (List Int)) : Option Int :=
  (loopF (slices_IndexFuncint_int_s1 n d0 d1_0) n (0 : Int)).bind fun b_1 =>
  (match b_1 with 
  | .inl y_1 => some (y_1) 
  | .inr y_2 => some ((-1 : Int)))
theorem slices_IndexFuncint_int_ok (n : Nat) (M : Mem) (A0 : Option Addr) (cap0 : Nat) (d0 : List Int) (h0 : Sli M 1 (Dat.int .i64) A0 cap0 d0) (ad1_0 : Addr) (c1_0 : List Value) (d1_0 : List (List Int)) (h1_0 : Rep M ((eL 1 (eL 1 (Dat.int .i64))) d1_0) c1_0) (q1_0 : ∀ j v, c1_0[j]? = some v → M.cell? (ad1_0.add j) = some v) (r : Int) (hF : slices_IndexFuncint_int n d0 d1_0 = some r) : Ok Try.prog M 53 [.slice A0 d0.length cap0, .func (.func 38) #[] #[.pointer (some ad1_0)]] (fun _ v => v = .int .i64 r) := by
 unfold slices_IndexFuncint_int at hF
 intro M1 hM0 w0 H w p0
 replace h0 := h0.mono hM0
 replace h1_0 := Rep.mono hM0 _ _ h1_0
 replace q1_0 := fun j v h => hM0.cell (q1_0 j v h)
 obtain ⟨A_1, cap_1, rfl, h_1⟩ := Rep.sli h1_0
 refine R_enter 19 Try.func53 rfl rfl (by simp) fun a0 f0 => RR (Y f0 1 fun _ f => eT (R_seq (RR (Y f 3 fun _ f => eT (wp_block ?_)))))
 obtain ⟨b_1, hL_1, hF_1⟩ := bS hF
 refine wp_mono (Q := fun e a w => (e = .ret ∧ (∃ y_1 : Int, b_1 = .inl y_1 ∧ ∃ M_2 : Mem, M1.le M_2 ∧ Frm 19 [(4, .int .i64 y_1)] a ∧ Hp w0 M_2 (H) w)) ∨ (e = .exit 0 ∧ (∃ y_2 : Unit, b_1 = .inr y_2 ∧ ∃ M_3 : Mem, M1.le M_3 ∧ Frm 19 [] a ∧ Hp w0 M_3 (H) w))) (R_loop (n := 19) (w0 := w0) (M := M1) (fun (x : Nat × Int) => match x with | (m_1, s_1) => [(0, .slice A0 d0.length cap0), (1, .func (.func 38) #[] #[.pointer (some ad1_0)]), (7, .int .i64 ((d0.length : Nat) : Int)), (8, .int .i64 s_1)]) (fun (x : Nat × Int) => match x with | (m_1, s_1) => (H)) (fun (x : Nat × Int) (MM : Mem) => match x with | (m_1, s_1) => loopF (slices_IndexFuncint_int_s1 n d0 d1_0) m_1 s_1 = some b_1) (fun (x : Nat × Int) => match x with | (m_1, s_1) => m_1) (n, (0 : Int)) (f.kp) p0 hL_1 ?_) ?_
 ·rintro ⟨m_1, s_1⟩ M_1 _ w_1 hM_1 I_1 f p_1
  have I_1L := I_1
  obtain ⟨m_2, r_1, rfl, hs_1, hn_1⟩ := loop_step I_1L
  unfold slices_IndexFuncint_int_s1 at hs_1
  refine RR (Y f 1 fun _ f => eT (R_seq (RcF f hs_1 (fun h_2 hF_2 => ?_) fun h_2 hF_8 => ?_)))
  ·have k_1 := dI.1 h_2
   refine wp_skip (T_n (R_seq (wp_block (RR (Y f 2 fun _ f => eT (RR (Y f 3 fun _ f => ?_)))))))
   obtain ⟨x_1, hx_1, hF_3⟩ := bS hF_2
   obtain ⟨ad_1, c_1, e_1, -, hr_1, hc_1⟩ := Sli.at_ (h0.mono hM_1) hx_1
   obtain rfl : c_1 = [.int .i64 x_1] := hr_1
   refine Z f (Y30 e_1 rfl (len := d0.length) (cap := cap0) (k := .i64) (i := s_1) (e := 3) (sz := 1) (getI_nn hx_1) (getI_lt hx_1)) fun _ f => Y15 f p_1 hc_1 0 rfl fun _ f => ?_
   obtain ⟨x_2, hx_2, hF_4⟩ := bS hF_3
   refine Y18 f p_1 (ready_May_1_ok n _ x_1 ad1_0 [.slice A_1 d1_0.length cap_1] d1_0 (Sli.rep (h_1.mono hM_1)) (fz_at ((fzu hM_1 q1_0)) 0 rfl) x_2 hx_2) fun w_2 p_2 _ f => eT (RcF f hF_4 (fun h_3 hF_5 => ?_) fun h_3 hF_6 => ?_)
   ·refine RR (Y f 2 fun _ f => eT (wp_ret (B_r (T_r (T_r ?_)))))
    obtain rfl := sI hF_5
    exact .inl ⟨rfl, s_1, (sI hn_1).symm, M_1, hM_1, f.kp, p_2⟩
   ·refine wp_skip (B_n (T_n (R_reg ?_)))
    obtain ⟨g_1, hF_7⟩ := nS hF_6
    refine Y f 1 fun _ f => ?_
    have f := f.st 18 (congrArg (Value.int .i64) (inR_wrap g_1))
    refine Y f 1 fun _ f => eT ?_
    obtain rfl := sI hF_7
    exact ⟨⟨m_2, s_1 + 1⟩, Nat.lt_succ_self _, M_1, hM_1, hn_1, f.kp, p_2⟩
  ·have k_4 := iff_f dI h_2
   refine wp_exit (T_x (T_x ?_))
   obtain rfl := sI hF_8
   exact .inr ⟨rfl, (), (sI hn_1).symm, M_1, hM_1, f.kp, p_1⟩
 ·rintro _ _ w_5 (⟨rfl, y_1, rfl, M_2, hM_2, f, p_3⟩ | ⟨rfl, y_2, rfl, M_3, hM_3, f, p_4⟩)
  ·refine B_r (T_r (E_ret1 f rfl (by kernel_rfl : Vc.look _ 4 = some (.int .i64 y_1)) ?_))
   obtain rfl := sI hF_1
   exact ⟨_, rfl, M_2, hM_2, p_3, rfl⟩
  ·refine B_x (T_n (RR (Y f 1 fun _ f => eT (wp_ret (E_ret1 f rfl (by kernel_rfl : Vc.look _ 4 = some (.int .i64 (-1))) ?_)))))
   obtain rfl := sI hF_1
   exact ⟨_, rfl, M_3, hM_3, p_4, rfl⟩
def slices_ContainsFuncint_int (n : Nat) (d0 : List Int) (d1_0 : List (List Int)) : Option Bool :=
  (slices_IndexFuncint_int n d0 d1_0).bind fun x_1 =>
  some ((decide ((0 : Int) ≤ x_1)))
theorem slices_ContainsFuncint_int_ok (n : Nat) (M : Mem) (A0 : Option Addr) (cap0 : Nat) (d0 : List Int) (h0 : Sli M 1 (Dat.int .i64) A0 cap0 d0) (ad1_0 : Addr) (c1_0 : List Value) (d1_0 : List (List Int)) (h1_0 : Rep M ((eL 1 (eL 1 (Dat.int .i64))) d1_0) c1_0) (q1_0 : ∀ j v, c1_0[j]? = some v → M.cell? (ad1_0.add j) = some v) (r : Bool) (hF : slices_ContainsFuncint_int n d0 d1_0 = some r) : Ok Try.prog M 37 [.slice A0 d0.length cap0, .func (.func 38) #[] #[.pointer (some ad1_0)]] (fun _ v => v = .bool r) := by
 unfold slices_ContainsFuncint_int at hF
 intro M1 hM0 w0 H w p0
 replace h0 := h0.mono hM0
 replace h1_0 := Rep.mono hM0 _ _ h1_0
 replace q1_0 := fun j v h => hM0.cell (q1_0 j v h)
 obtain ⟨A_1, cap_1, rfl, h_1⟩ := Rep.sli h1_0
 refine R_enter 9 Try.func37 rfl rfl (by simp) fun a0 f0 => RR (Y f0 1 fun _ f => eT (RR (Y f 2 fun _ f => ?_)))
 obtain ⟨x_1, hx_1, hF_1⟩ := bS hF
 refine Y18 f p0 (slices_IndexFuncint_int_ok n _ A0 cap0 d0 h0 ad1_0 [.slice A_1 d1_0.length cap_1] d1_0 (Sli.rep h_1) (fz_at (q1_0) 0 rfl) x_1 hx_1) fun w_1 p_1 _ f => Y f 2 fun _ f => eT (wp_ret (E_ret1 f rfl (by kernel_rfl : Vc.look _ 4 = some (.bool (decide ((0 : Int) ≤ x_1)))) ?_))
 obtain rfl := sI hF_1
 exact ⟨_, rfl, M1, (mR _), p_1, rfl⟩
def ready_May_s1 (n : Nat) (d0 : List (List Int)) (d1 : List Int) (s_1 : Int) : Option (Lp Int (Sum Unit Unit)) :=
    bif (decide (s_1 < ((d0.length : Nat) : Int))) then
      ((getI d0 s_1).bind fun x_1 =>
      (getI d1 s_1).bind fun x_2 =>
      bif (decide (x_2 < 0)) then
        (some (.br (.inl ())))
      else
        (getI d1 s_1).bind fun x_3 =>
        bif (decide ((5 : Int) < x_3)) then
          (some (.br (.inl ())))
        else
          (slices_ContainsFuncint_int n x_1 d0).bind fun x_4 =>
          bif x_4 then
            (some (.br (.inl ())))
          else
            need (inR .i64 (s_1 + 1)) <|
            some (.nx (s_1 + 1)))
    else
      some (.br (.inr ()))
def ready_May (n : Nat) (d0 : List (List Int)) (d1 : List Int) : Option Bool :=
  bif (!(decide (((d0.length : Nat) : Int) = ((d1.length : Nat) : Int)))) then
    (some ((false)))
  else
    (loopF (ready_May_s1 n d0 d1) n (0 : Int)).bind fun b_2 =>
    (match b_2 with 
    | .inl y_1 => some ((false)) 
    | .inr y_2 => some ((true)))
set_option maxRecDepth 20000 in
theorem ready_May_ok (n : Nat) (M : Mem) (A0 : Option Addr) (cap0 : Nat) (d0 : List (List Int)) (h0 : Sli M 1 (eL 1 (Dat.int .i64)) A0 cap0 d0) (A1 : Option Addr) (cap1 : Nat) (d1 : List Int) (h1 : Sli M 1 (Dat.int .i8) A1 cap1 d1) (r : Bool) (hF : ready_May n d0 d1 = some r) : Ok Try.prog M 17 [.slice A0 d0.length cap0, .slice A1 d1.length cap1] (fun _ v => v = .bool r) := by
 unfold ready_May at hF
 intro M1 hM0 w0 H w p0
 replace h0 := h0.mono hM0
 replace h1 := h1.mono hM0
 refine R_enter 37 Try.func17 rfl rfl (by simp) fun a0 f0 => RR (Y13 (cs := #[.slice A0 d0.length cap0]) (T := 22) f0 p0 fun b_1 M_1 w_1 hM_1 hc_1 p_1 _ f => ?_)
 have hc_2 := fz_box hc_1
 refine Y f 1 fun _ f => eT (R_seq (RR (Y15 f p_1 hc_2 0 rfl fun _ f => Y f 4 fun _ f => eT (RcF f hF (fun h_1 hF_1 => ?_) fun h_1 hF_2 => ?_))))
 ·have k_1 : ¬ (((d0.length : Nat) : Int) = ((d1.length : Nat) : Int)) := (not_iff dI).1 h_1
  refine RR (Y f 1 fun _ f => eT (wp_ret (T_r (E_ret1 f rfl (by kernel_rfl : Vc.look _ 4 = some (.bool false)) ?_))))
  obtain rfl := sI hF_1
  exact ⟨_, rfl, M_1, hM_1, p_1, rfl⟩
 ·have k_2 : ¬ (¬ (((d0.length : Nat) : Int) = ((d1.length : Nat) : Int))) := iff_f (not_iff dI) h_1
  refine wp_skip (T_n (R_seq (RR (Y15 f p_1 hc_2 0 rfl fun _ f => Y f 2 fun _ f => eT (wp_block ?_)))))
  obtain ⟨b_2, hL_1, hF_3⟩ := bS hF_2
  refine wp_mono (Q := fun e a w => (e = .ret ∧ (∃ y_1 : Unit, b_2 = .inl y_1 ∧ ∃ M_3 : Mem, M_1.le M_3 ∧ Frm 37 [(4, .bool false)] a ∧ Hp w0 M_3 (H) w)) ∨ (e = .exit 0 ∧ (∃ y_2 : Unit, b_2 = .inr y_2 ∧ ∃ M_4 : Mem, M_1.le M_4 ∧ Frm 37 [] a ∧ Hp w0 M_4 (H) w))) (R_loop (n := 37) (w0 := w0) (M := M_1) (fun (x : Nat × Int) => match x with | (m_1, s_1) => [(1, .slice A1 d1.length cap1), (2, .pointer (some (⟨b_1, 0, none⟩))), (12, .slice A0 d0.length cap0), (13, .int .i64 ((d0.length : Nat) : Int)), (14, .int .i64 s_1)]) (fun (x : Nat × Int) => match x with | (m_1, s_1) => (H)) (fun (x : Nat × Int) (MM : Mem) => match x with | (m_1, s_1) => loopF (ready_May_s1 n d0 d1) m_1 s_1 = some b_2) (fun (x : Nat × Int) => match x with | (m_1, s_1) => m_1) (n, (0 : Int)) (f.kp) p_1 hL_1 ?_) ?_
  ·rintro ⟨m_1, s_1⟩ M_2 _ w_2 hM_2 I_1 f p_2
   have I_1L := I_1
   obtain ⟨m_2, r_1, rfl, hs_1, hn_1⟩ := loop_step I_1L
   unfold ready_May_s1 at hs_1
   refine RR (Y f 1 fun _ f => eT (R_seq (RcF f hs_1 (fun h_2 hF_4 => ?_) fun h_2 hF_16 => ?_)))
   ·have k_3 := dI.1 h_2
    refine wp_skip (T_n (R_seq (wp_block (RR (Y f 1 fun _ f => ?_)))))
    obtain ⟨x_1, hx_1, hF_5⟩ := bS hF_4
    obtain ⟨ad_1, c_1, e_1, -, hr_1, hc_3⟩ := Sli.at_ (h0.mono (hM_1.trans hM_2)) hx_1
    obtain ⟨A_1, cap_1, rfl, h_3⟩ := Rep.sli hr_1
    refine Z f (Y30 e_1 rfl (len := d0.length) (cap := cap0) (k := .i64) (i := s_1) (e := 27) (sz := 1) (getI_nn hx_1) (getI_lt hx_1)) fun _ f => Y15 f p_2 hc_3 0 rfl fun _ f => Y f 2 fun _ f => eT (RR (Y f 2 fun _ f => ?_))
    obtain ⟨x_2, hx_2, hF_6⟩ := bS hF_5
    obtain ⟨ad_2, c_2, e_2, -, hr_2, hc_4⟩ := Sli.at_ (h1.mono (hM_1.trans hM_2)) hx_2
    obtain rfl : c_2 = [.int .i8 x_2] := hr_2
    refine Z f (Y30 e_2 rfl (len := d1.length) (cap := cap1) (k := .i64) (i := s_1) (e := 24) (sz := 1) (getI_nn hx_2) (getI_lt hx_2)) fun _ f => Y15 f p_2 hc_4 0 rfl fun _ f => Y f 2 fun _ f => ?_
    rcases cE hF_6 with ⟨h_4, hF_7⟩ | ⟨h_4, hF_8⟩
    ·have k_4 := dI.1 h_4
     have f := f.st 24 (cB h_4)
     refine Y f 11 fun _ f => eT (Y8 f (RR (Y f 1 fun _ f => eT (wp_ret (B_r (T_r (T_r ?_)))))))
     obtain rfl := sI hF_7
     exact .inl ⟨rfl, (), (sI hn_1).symm, M_2, hM_2, f.kp, p_2⟩
    ·have k_5 := iff_f dI h_4
     have f := f.st 24 (cB h_4)
     refine Y f 2 fun _ f => ?_
     obtain ⟨x_3, hx_3, hF_9⟩ := bS hF_8
     obtain ⟨ad_3, c_3, e_3, -, hr_3, hc_5⟩ := Sli.at_ (h1.mono (hM_1.trans hM_2)) hx_3
     obtain rfl : c_3 = [.int .i8 x_3] := hr_3
     refine Z f (Y30 e_3 rfl (len := d1.length) (cap := cap1) (k := .i64) (i := s_1) (e := 24) (sz := 1) (getI_nn hx_3) (getI_lt hx_3)) fun _ f => Y15 f p_2 hc_5 0 rfl fun _ f => Y f 3 fun _ f => ?_
     rcases cE hF_9 with ⟨h_5, hF_10⟩ | ⟨h_5, hF_11⟩
     ·have k_6 := dI.1 h_5
      have f := f.st 31 (cB h_5)
      refine Y f 4 fun _ f => eT (Y8 f (RR (Y f 1 fun _ f => eT (wp_ret (B_r (T_r (T_r ?_)))))))
      obtain rfl := sI hF_10
      exact .inl ⟨rfl, (), (sI hn_1).symm, M_2, hM_2, f.kp, p_2⟩
     ·have k_7 := iff_f dI h_5
      have f := f.st 31 (cB h_5)
      refine Y f 2 fun _ f => ?_
      obtain ⟨x_4, hx_4, hF_12⟩ := bS hF_11
      refine Y18 f p_2 (slices_ContainsFuncint_int_ok n _ A_1 cap_1 x_1 h_3 (⟨b_1, 0, none⟩) [.slice A0 d0.length cap0] d0 (Sli.rep (h0.mono (hM_1.trans hM_2))) (fz_at ((fzu hM_2 hc_2)) 0 rfl) x_4 hx_4) fun w_3 p_3 _ f => Y f 1 fun _ f => eT (RcF f hF_12 (fun h_6 hF_13 => ?_) fun h_6 hF_14 => ?_)
      ·refine RR (Y f 1 fun _ f => eT (wp_ret (B_r (T_r (T_r ?_)))))
       obtain rfl := sI hF_13
       exact .inl ⟨rfl, (), (sI hn_1).symm, M_2, hM_2, f.kp, p_3⟩
      ·refine wp_skip (B_n (T_n (R_reg ?_)))
       obtain ⟨g_1, hF_15⟩ := nS hF_14
       refine Y f 1 fun _ f => ?_
       have f := f.st 36 (congrArg (Value.int .i64) (inR_wrap g_1))
       refine Y f 1 fun _ f => eT ?_
       obtain rfl := sI hF_15
       exact ⟨⟨m_2, s_1 + 1⟩, Nat.lt_succ_self _, M_2, hM_2, hn_1, f.kp, p_3⟩
   ·have k_10 := iff_f dI h_2
    refine wp_exit (T_x (T_x ?_))
    obtain rfl := sI hF_16
    exact .inr ⟨rfl, (), (sI hn_1).symm, M_2, hM_2, f.kp, p_2⟩
  ·rintro _ _ w_6 (⟨rfl, y_1, rfl, M_3, hM_3, f, p_4⟩ | ⟨rfl, y_2, rfl, M_4, hM_4, f, p_5⟩)
   ·refine B_r (T_r (E_ret1 f rfl (by kernel_rfl : Vc.look _ 4 = some (.bool false)) ?_))
    obtain rfl := sI hF_3
    exact ⟨_, rfl, M_3, (hM_1.trans hM_3), p_4, rfl⟩
   ·refine B_x (T_n (RR (Y f 1 fun _ f => eT (wp_ret (E_ret1 f rfl (by kernel_rfl : Vc.look _ 4 = some (.bool true)) ?_)))))
    obtain rfl := sI hF_3
    exact ⟨_, rfl, M_4, (hM_1.trans hM_4), p_5, rfl⟩
def ready_ways (n : Nat) (d0 : List (List Int)) (d1 : Bool) : Option (List (List Int)) :=
  bif d1 then
    ((deps_Turned n d0).bind fun x_1 =>
    some (x_1))
  else
    some (d0)
theorem ready_ways_ok (n : Nat) (M : Mem) (A0 : Option Addr) (cap0 : Nat) (d0 : List (List Int)) (h0 : Sli M 1 (eL 1 (Dat.int .i64)) A0 cap0 d0) (d1 : Bool) (r : List (List Int)) (hF : ready_ways n d0 d1 = some r) : Ok Try.prog M 29 [.slice A0 d0.length cap0, .bool d1] (fun M' v => ∃ (A0 : Option Addr) (k0 : Nat), v = .slice A0 r.length k0 ∧ Sli M' 1 (eL 1 (Dat.int .i64)) A0 k0 r) := by
 unfold ready_ways at hF
 intro M1 hM0 w0 H w p0
 replace h0 := h0.mono hM0
 refine R_enter 9 Try.func29 rfl rfl (by simp) fun a0 f0 => RR (Y f0 1 fun _ f => eT (R_seq (RR (Y f 1 fun _ f => eT (RcF f hF (fun h_1 hF_1 => ?_) fun h_1 hF_3 => ?_)))))
 ·refine RR (Y f 1 fun _ f => ?_)
  obtain ⟨x_1, hx_1, hF_2⟩ := bS hF_1
  refine Y16 f p0 (deps_Turned_ok n _ A0 cap0 d0 h0 x_1 hx_1) fun _ M_1 w_1 hM_1 p_1 q_1 _ f => ?_
  obtain ⟨A_1, cap_1, rfl, h_2⟩ := q_1
  refine Y f 1 fun _ f => eT (wp_ret (T_r (E_ret1 f rfl (by kernel_rfl : Vc.look _ 4 = some (.slice A_1 x_1.length cap_1)) ?_)))
  obtain rfl := sI hF_2
  exact ⟨_, rfl, M_1, hM_1, p_1, ⟨A_1, cap_1, rfl, h_2⟩⟩
 ·refine wp_skip (T_n (RR (Y f 2 fun _ f => eT (wp_ret (E_ret1 f rfl (by kernel_rfl : Vc.look _ 4 = some (.slice A0 d0.length cap0)) ?_)))))
  obtain rfl := sI hF_3
  exact ⟨_, rfl, M1, (mR _), p0, ⟨A0, cap0, rfl, h0⟩⟩
def ready_lets (n : Nat) (d0 : Int) : Option Bool :=
  bif (decide (d0 = 0)) then
    (some ((true)))
  else
    some ((decide (d0 = 3)))
theorem ready_lets_ok (n : Nat) (M : Mem) (d0 : Int) (r : Bool) (hF : ready_lets n d0 = some r) : Ok Try.prog M 30 [.int .i8 d0] (fun _ v => v = .bool r) := by
 unfold ready_lets at hF
 intro M1 hM0 w0 H w p0
 refine R_enter 9 Try.func30 rfl rfl (by simp) fun a0 f0 => RR (Y f0 1 fun _ f => eT (RR (Y f 3 fun _ f => ?_)))
 rcases cE hF with ⟨h_1, hF_1⟩ | ⟨h_1, hF_2⟩
 ·have k_1 := dI.1 h_1
  have f := f.st 5 (cB h_1)
  refine Y f 4 fun _ f => eT (wp_ret (E_ret1 f rfl (by kernel_rfl : Vc.look _ 2 = some (.bool true)) ?_))
  obtain rfl := sI hF_1
  exact ⟨_, rfl, M1, (mR _), p0, rfl⟩
 ·have k_2 := iff_f dI h_1
  have f := f.st 5 (cB h_1)
  refine Y f 4 fun _ f => eT (wp_ret (E_ret1 f rfl (by kernel_rfl : Vc.look _ 2 = some (.bool (decide (d0 = 3)))) ?_))
  obtain rfl := sI hF_2
  exact ⟨_, rfl, M1, (mR _), p0, rfl⟩
def ready_over_1 (n : Nat) (d0 : Int) (d2 : List Int) : Option Bool :=
  (getI d2 d0).bind fun x_1 =>
  (ready_lets n x_1).bind fun x_2 =>
  some ((x_2))
theorem ready_over_1_ok (n : Nat) (M : Mem) (d0 : Int) (ad1 : Addr) (q1 : ∀ j v, [(.func (.func 30) #[] #[] : Value)][j]? = some v → M.cell? (ad1.add j) = some v) (ad2 : Addr) (c2 : List Value) (d2 : List Int) (h2 : Rep M ((eL 1 (Dat.int .i8)) d2) c2) (q2 : ∀ j v, c2[j]? = some v → M.cell? (ad2.add j) = some v) (r : Bool) (hF : ready_over_1 n d0 d2 = some r) : Ok Try.prog M 48 [.int .i64 d0, .pointer (some ad1), .pointer (some ad2)] (fun _ v => v = .bool r) := by
 unfold ready_over_1 at hF
 intro M1 hM0 w0 H w p0
 replace q1 := fun j v h => hM0.cell (q1 j v h)
 replace h2 := Rep.mono hM0 _ _ h2
 replace q2 := fun j v h => hM0.cell (q2 j v h)
 obtain ⟨A_1, cap_1, rfl, h_1⟩ := Rep.sli h2
 refine R_enter 11 Try.func48 rfl rfl (by simp) fun a0 f0 => RR (Y f0 1 fun _ f => eT (R_seq (R_draw p0 (by kernel_rfl) (by kernel_rfl) (Y4 f q1 0 rfl fun _ f => Y4 f q2 0 rfl fun _ f => Y5 default f 1 fun _ f => ?_))))
 obtain ⟨x_1, hx_1, hF_1⟩ := bS hF
 obtain ⟨ad_1, c_1, e_1, -, hr_1, hc_1⟩ := Sli.at_ h_1 hx_1
 obtain rfl : c_1 = [.int .i8 x_1] := hr_1
 refine Y2 (v := .pointer (some (ad_1.add (d0.toNat * 1)))) f (fun _ pq => Y30 e_1 rfl (len := d2.length) (cap := cap_1) (k := .i64) (i := d0) (e := 24) (sz := 1) (getI_nn hx_1) (getI_lt hx_1)) fun _ f => Y4 f hc_1 0 rfl fun _ f => ?_
 obtain ⟨x_2, hx_2, hF_2⟩ := bS hF_1
 refine Y3 f (ready_lets_ok n _ x_1 x_2 hx_2) fun _ f => Y5 default f 1 fun _ f => Q_end rfl ?_
 intro w_2 p_2
 refine T_n (wp_ret (E_ret1 f rfl (by kernel_rfl : Vc.look _ 4 = some (.bool x_2)) ?_))
 obtain rfl := sI hF_2
 exact ⟨_, rfl, M1, (mR _), p_2, rfl⟩
def ready_every_1 (n : Nat) (d0 : Int) (d1_f_1 : List Int) : Option Bool :=
  (ready_over_1 n d0 d1_f_1).bind fun x_1 =>
  some ((!x_1))
theorem ready_every_1_ok (n : Nat) (M : Mem) (d0 : Int) (ad1_f_0 : Addr) (q1_f_0 : ∀ j v, [(.func (.func 30) #[] #[] : Value)][j]? = some v → M.cell? (ad1_f_0.add j) = some v) (ad1_f_1 : Addr) (c1_f_1 : List Value) (d1_f_1 : List Int) (h1_f_1 : Rep M ((eL 1 (Dat.int .i8)) d1_f_1) c1_f_1) (q1_f_1 : ∀ j v, c1_f_1[j]? = some v → M.cell? (ad1_f_1.add j) = some v) (ad1 : Addr) (q1 : ∀ j v, [(.func (.func 48) #[] #[.pointer (some ad1_f_0), .pointer (some ad1_f_1)] : Value)][j]? = some v → M.cell? (ad1.add j) = some v) (r : Bool) (hF : ready_every_1 n d0 d1_f_1 = some r) : Ok Try.prog M 50 [.int .i64 d0, .pointer (some ad1)] (fun _ v => v = .bool r) := by
 unfold ready_every_1 at hF
 intro M1 hM0 w0 H w p0
 replace q1_f_0 := fun j v h => hM0.cell (q1_f_0 j v h)
 replace h1_f_1 := Rep.mono hM0 _ _ h1_f_1
 replace q1_f_1 := fun j v h => hM0.cell (q1_f_1 j v h)
 replace q1 := fun j v h => hM0.cell (q1 j v h)
 obtain ⟨A_1, cap_1, rfl, h_1⟩ := Rep.sli h1_f_1
 refine R_enter 8 Try.func50 rfl rfl (by simp) fun a0 f0 => RR (Y f0 1 fun _ f => eT (RR (Y15 f p0 q1 0 rfl fun _ f => Y f 1 fun _ f => ?_)))
 obtain ⟨x_1, hx_1, hF_1⟩ := bS hF
 refine Y18 f p0 (ready_over_1_ok n _ d0 ad1_f_0 (q1_f_0) ad1_f_1 [.slice A_1 d1_f_1.length cap_1] d1_f_1 (Sli.rep h_1) (fz_at (q1_f_1) 0 rfl) x_1 hx_1) fun w_1 p_1 _ f => Y f 2 fun _ f => eT (wp_ret (E_ret1 f rfl (by kernel_rfl : Vc.look _ 3 = some (.bool !x_1)) ?_))
 obtain rfl := sI hF_1
 exact ⟨_, rfl, M1, (mR _), p_1, rfl⟩
def slices_IndexFuncint_int_2_s1 (n : Nat) (d0 : List Int) (d1_0_f_1 : List Int) (s_1 : Int) : Option (Lp Int (Sum Int Unit)) :=
    bif (decide (s_1 < ((d0.length : Nat) : Int))) then
      ((getI d0 s_1).bind fun x_1 =>
      (ready_every_1 n x_1 d1_0_f_1).bind fun x_2 =>
      bif x_2 then
        (some (.br (.inl s_1)))
      else
        need (inR .i64 (s_1 + 1)) <|
        some (.nx (s_1 + 1)))
    else
      some (.br (.inr ()))
def slices_IndexFuncint_int_2 (n : Nat) (d0 : List Int) (d1_0_f_1 : List Int) : Option Int :=
  (loopF (slices_IndexFuncint_int_2_s1 n d0 d1_0_f_1) n (0 : Int)).bind fun b_1 =>
  (match b_1 with 
  | .inl y_1 => some (y_1) 
  | .inr y_2 => some ((-1 : Int)))
theorem slices_IndexFuncint_int_2_ok (n : Nat) (M : Mem) (A0 : Option Addr) (cap0 : Nat) (d0 : List Int) (h0 : Sli M 1 (Dat.int .i64) A0 cap0 d0) (ad1_0_f_0 : Addr) (q1_0_f_0 : ∀ j v, [(.func (.func 30) #[] #[] : Value)][j]? = some v → M.cell? (ad1_0_f_0.add j) = some v) (ad1_0_f_1 : Addr) (c1_0_f_1 : List Value) (d1_0_f_1 : List Int) (h1_0_f_1 : Rep M ((eL 1 (Dat.int .i8)) d1_0_f_1) c1_0_f_1) (q1_0_f_1 : ∀ j v, c1_0_f_1[j]? = some v → M.cell? (ad1_0_f_1.add j) = some v) (ad1_0 : Addr) (q1_0 : ∀ j v, [(.func (.func 48) #[] #[.pointer (some ad1_0_f_0), .pointer (some ad1_0_f_1)] : Value)][j]? = some v → M.cell? (ad1_0.add j) = some v) (r : Int) (hF : slices_IndexFuncint_int_2 n d0 d1_0_f_1 = some r) : Ok Try.prog M 53 [.slice A0 d0.length cap0, .func (.func 50) #[] #[.pointer (some ad1_0)]] (fun _ v => v = .int .i64 r) := by
 unfold slices_IndexFuncint_int_2 at hF
 intro M1 hM0 w0 H w p0
 replace h0 := h0.mono hM0
 replace q1_0_f_0 := fun j v h => hM0.cell (q1_0_f_0 j v h)
 replace h1_0_f_1 := Rep.mono hM0 _ _ h1_0_f_1
 replace q1_0_f_1 := fun j v h => hM0.cell (q1_0_f_1 j v h)
 replace q1_0 := fun j v h => hM0.cell (q1_0 j v h)
 obtain ⟨A_1, cap_1, rfl, h_1⟩ := Rep.sli h1_0_f_1
 refine R_enter 19 Try.func53 rfl rfl (by simp) fun a0 f0 => RR (Y f0 1 fun _ f => eT (R_seq (RR (Y f 3 fun _ f => eT (wp_block ?_)))))
 obtain ⟨b_1, hL_1, hF_1⟩ := bS hF
 refine wp_mono (Q := fun e a w => (e = .ret ∧ (∃ y_1 : Int, b_1 = .inl y_1 ∧ ∃ M_2 : Mem, M1.le M_2 ∧ Frm 19 [(4, .int .i64 y_1)] a ∧ Hp w0 M_2 (H) w)) ∨ (e = .exit 0 ∧ (∃ y_2 : Unit, b_1 = .inr y_2 ∧ ∃ M_3 : Mem, M1.le M_3 ∧ Frm 19 [] a ∧ Hp w0 M_3 (H) w))) (R_loop (n := 19) (w0 := w0) (M := M1) (fun (x : Nat × Int) => match x with | (m_1, s_1) => [(0, .slice A0 d0.length cap0), (1, .func (.func 50) #[] #[.pointer (some ad1_0)]), (7, .int .i64 ((d0.length : Nat) : Int)), (8, .int .i64 s_1)]) (fun (x : Nat × Int) => match x with | (m_1, s_1) => (H)) (fun (x : Nat × Int) (MM : Mem) => match x with | (m_1, s_1) => loopF (slices_IndexFuncint_int_2_s1 n d0 d1_0_f_1) m_1 s_1 = some b_1) (fun (x : Nat × Int) => match x with | (m_1, s_1) => m_1) (n, (0 : Int)) (f.kp) p0 hL_1 ?_) ?_
 ·rintro ⟨m_1, s_1⟩ M_1 _ w_1 hM_1 I_1 f p_1
  have I_1L := I_1
  obtain ⟨m_2, r_1, rfl, hs_1, hn_1⟩ := loop_step I_1L
  unfold slices_IndexFuncint_int_2_s1 at hs_1
  refine RR (Y f 1 fun _ f => eT (R_seq (RcF f hs_1 (fun h_2 hF_2 => ?_) fun h_2 hF_8 => ?_)))
  ·have k_1 := dI.1 h_2
   refine wp_skip (T_n (R_seq (wp_block (RR (Y f 2 fun _ f => eT (RR (Y f 3 fun _ f => ?_)))))))
   obtain ⟨x_1, hx_1, hF_3⟩ := bS hF_2
   obtain ⟨ad_1, c_1, e_1, -, hr_1, hc_1⟩ := Sli.at_ (h0.mono hM_1) hx_1
   obtain rfl : c_1 = [.int .i64 x_1] := hr_1
   refine Z f (Y30 e_1 rfl (len := d0.length) (cap := cap0) (k := .i64) (i := s_1) (e := 3) (sz := 1) (getI_nn hx_1) (getI_lt hx_1)) fun _ f => Y15 f p_1 hc_1 0 rfl fun _ f => ?_
   obtain ⟨x_2, hx_2, hF_4⟩ := bS hF_3
   refine Y18 f p_1 (ready_every_1_ok n _ x_1 ad1_0_f_0 ((fzu hM_1 q1_0_f_0)) ad1_0_f_1 [.slice A_1 d1_0_f_1.length cap_1] d1_0_f_1 (Sli.rep (h_1.mono hM_1)) (fz_at ((fzu hM_1 q1_0_f_1)) 0 rfl) ad1_0 ((fzu hM_1 q1_0)) x_2 hx_2) fun w_2 p_2 _ f => eT (RcF f hF_4 (fun h_3 hF_5 => ?_) fun h_3 hF_6 => ?_)
   ·refine RR (Y f 2 fun _ f => eT (wp_ret (B_r (T_r (T_r ?_)))))
    obtain rfl := sI hF_5
    exact .inl ⟨rfl, s_1, (sI hn_1).symm, M_1, hM_1, f.kp, p_2⟩
   ·refine wp_skip (B_n (T_n (R_reg ?_)))
    obtain ⟨g_1, hF_7⟩ := nS hF_6
    refine Y f 1 fun _ f => ?_
    have f := f.st 18 (congrArg (Value.int .i64) (inR_wrap g_1))
    refine Y f 1 fun _ f => eT ?_
    obtain rfl := sI hF_7
    exact ⟨⟨m_2, s_1 + 1⟩, Nat.lt_succ_self _, M_1, hM_1, hn_1, f.kp, p_2⟩
  ·have k_4 := iff_f dI h_2
   refine wp_exit (T_x (T_x ?_))
   obtain rfl := sI hF_8
   exact .inr ⟨rfl, (), (sI hn_1).symm, M_1, hM_1, f.kp, p_1⟩
 ·rintro _ _ w_5 (⟨rfl, y_1, rfl, M_2, hM_2, f, p_3⟩ | ⟨rfl, y_2, rfl, M_3, hM_3, f, p_4⟩)
  ·refine B_r (T_r (E_ret1 f rfl (by kernel_rfl : Vc.look _ 4 = some (.int .i64 y_1)) ?_))
   obtain rfl := sI hF_1
   exact ⟨_, rfl, M_2, hM_2, p_3, rfl⟩
  ·refine B_x (T_n (RR (Y f 1 fun _ f => eT (wp_ret (E_ret1 f rfl (by kernel_rfl : Vc.look _ 4 = some (.int .i64 (-1))) ?_)))))
   obtain rfl := sI hF_1
   exact ⟨_, rfl, M_3, hM_3, p_4, rfl⟩
def slices_ContainsFuncint_int_2 (n : Nat) (d0 : List Int) (d1_0_f_1 : List Int) : Option Bool :=
  (slices_IndexFuncint_int_2 n d0 d1_0_f_1).bind fun x_1 =>
  some ((decide ((0 : Int) ≤ x_1)))
theorem slices_ContainsFuncint_int_2_ok (n : Nat) (M : Mem) (A0 : Option Addr) (cap0 : Nat) (d0 : List Int) (h0 : Sli M 1 (Dat.int .i64) A0 cap0 d0) (ad1_0_f_0 : Addr) (q1_0_f_0 : ∀ j v, [(.func (.func 30) #[] #[] : Value)][j]? = some v → M.cell? (ad1_0_f_0.add j) = some v) (ad1_0_f_1 : Addr) (c1_0_f_1 : List Value) (d1_0_f_1 : List Int) (h1_0_f_1 : Rep M ((eL 1 (Dat.int .i8)) d1_0_f_1) c1_0_f_1) (q1_0_f_1 : ∀ j v, c1_0_f_1[j]? = some v → M.cell? (ad1_0_f_1.add j) = some v) (ad1_0 : Addr) (q1_0 : ∀ j v, [(.func (.func 48) #[] #[.pointer (some ad1_0_f_0), .pointer (some ad1_0_f_1)] : Value)][j]? = some v → M.cell? (ad1_0.add j) = some v) (r : Bool) (hF : slices_ContainsFuncint_int_2 n d0 d1_0_f_1 = some r) : Ok Try.prog M 37 [.slice A0 d0.length cap0, .func (.func 50) #[] #[.pointer (some ad1_0)]] (fun _ v => v = .bool r) := by
 unfold slices_ContainsFuncint_int_2 at hF
 intro M1 hM0 w0 H w p0
 replace h0 := h0.mono hM0
 replace q1_0_f_0 := fun j v h => hM0.cell (q1_0_f_0 j v h)
 replace h1_0_f_1 := Rep.mono hM0 _ _ h1_0_f_1
 replace q1_0_f_1 := fun j v h => hM0.cell (q1_0_f_1 j v h)
 replace q1_0 := fun j v h => hM0.cell (q1_0 j v h)
 obtain ⟨A_1, cap_1, rfl, h_1⟩ := Rep.sli h1_0_f_1
 refine R_enter 9 Try.func37 rfl rfl (by simp) fun a0 f0 => RR (Y f0 1 fun _ f => eT (RR (Y f 2 fun _ f => ?_)))
 obtain ⟨x_1, hx_1, hF_1⟩ := bS hF
 refine Y18 f p0 (slices_IndexFuncint_int_2_ok n _ A0 cap0 d0 h0 ad1_0_f_0 (q1_0_f_0) ad1_0_f_1 [.slice A_1 d1_0_f_1.length cap_1] d1_0_f_1 (Sli.rep h_1) (fz_at (q1_0_f_1) 0 rfl) ad1_0 (q1_0) x_1 hx_1) fun w_1 p_1 _ f => Y f 2 fun _ f => eT (wp_ret (E_ret1 f rfl (by kernel_rfl : Vc.look _ 4 = some (.bool (decide ((0 : Int) ≤ x_1)))) ?_))
 obtain rfl := sI hF_1
 exact ⟨_, rfl, M1, (mR _), p_1, rfl⟩
def ready_every (n : Nat) (d0 : List Int) (d1_1 : List Int) : Option Bool :=
  (slices_ContainsFuncint_int_2 n d0 d1_1).bind fun x_1 =>
  some ((!x_1))
theorem ready_every_ok (n : Nat) (M : Mem) (A0 : Option Addr) (cap0 : Nat) (d0 : List Int) (h0 : Sli M 1 (Dat.int .i64) A0 cap0 d0) (ad1_0 : Addr) (q1_0 : ∀ j v, [(.func (.func 30) #[] #[] : Value)][j]? = some v → M.cell? (ad1_0.add j) = some v) (ad1_1 : Addr) (c1_1 : List Value) (d1_1 : List Int) (h1_1 : Rep M ((eL 1 (Dat.int .i8)) d1_1) c1_1) (q1_1 : ∀ j v, c1_1[j]? = some v → M.cell? (ad1_1.add j) = some v) (r : Bool) (hF : ready_every n d0 d1_1 = some r) : Ok Try.prog M 31 [.slice A0 d0.length cap0, .func (.func 48) #[] #[.pointer (some ad1_0), .pointer (some ad1_1)]] (fun _ v => v = .bool r) := by
 unfold ready_every at hF
 intro M1 hM0 w0 H w p0
 replace h0 := h0.mono hM0
 replace q1_0 := fun j v h => hM0.cell (q1_0 j v h)
 replace h1_1 := Rep.mono hM0 _ _ h1_1
 replace q1_1 := fun j v h => hM0.cell (q1_1 j v h)
 obtain ⟨A_1, cap_1, rfl, h_1⟩ := Rep.sli h1_1
 refine R_enter 9 Try.func31 rfl rfl (by simp) fun a0 f0 => RR (Y13 (cs := #[.func (.func 48) #[] #[.pointer (some ad1_0), .pointer (some ad1_1)]]) (T := 74) f0 p0 fun b_1 M_1 w_1 hM_1 hc_1 p_1 _ f => ?_)
 have hc_2 := fz_box hc_1
 refine Y f 1 fun _ f => eT (RR (Y f 2 fun _ f => ?_))
 obtain ⟨x_1, hx_1, hF_1⟩ := bS hF
 refine Y18 f p_1 (slices_ContainsFuncint_int_2_ok n _ A0 cap0 d0 (h0.mono hM_1) ad1_0 ((fzu hM_1 q1_0)) ad1_1 [.slice A_1 d1_1.length cap_1] d1_1 (Sli.rep (h_1.mono hM_1)) (fz_at ((fzu hM_1 q1_1)) 0 rfl) (⟨b_1, 0, none⟩) (hc_2) x_1 hx_1) fun w_2 p_2 _ f => Y f 2 fun _ f => eT (wp_ret (E_ret1 f rfl (by kernel_rfl : Vc.look _ 4 = some (.bool !x_1)) ?_))
 obtain rfl := sI hF_1
 exact ⟨_, rfl, M_1, hM_1, p_2, rfl⟩
def ready_over_s1 (n : Nat) (d0 : List (List Int)) (d1 : List Int) (s_1 : List Int × Int) : Option (Lp (List Int × Int) (List Int)) :=
    bif (decide (s_1.2 < ((d1.length : Nat) : Int))) then
      ((getI d1 s_1.2).bind fun x_1 =>
      ((bif (decide (x_1 = 1)) then
          ((getI d0 s_1.2).bind fun x_2 =>
          (ready_every n x_2 d1).bind fun x_3 =>
          some ((x_3)))
        else
          some ((false)) : Option Bool)).bind fun y_1 =>
      bif y_1 then
        (need ((s_1.1.length + 1) * 8 ≤ 140737488355328) <|
        need (inR .i64 (s_1.2 + 1)) <|
        some (.nx (s_1.1 ++ [s_1.2], s_1.2 + 1)))
      else
        need (inR .i64 (s_1.2 + 1)) <|
        some (.nx (s_1.1, s_1.2 + 1)))
    else
      some (.br s_1.1)
def ready_over (n : Nat) (d0 : List (List Int)) (d1 : List Int) : Option (List Int) :=
  (loopF (ready_over_s1 n d0 d1) n (([] : List Int), (0 : Int))).bind fun y_2 =>
  some (y_2)
set_option maxRecDepth 20000 in
theorem ready_over_ok (n : Nat) (M : Mem) (A0 : Option Addr) (cap0 : Nat) (d0 : List (List Int)) (h0 : Sli M 1 (eL 1 (Dat.int .i64)) A0 cap0 d0) (A1 : Option Addr) (cap1 : Nat) (d1 : List Int) (h1 : Sli M 1 (Dat.int .i8) A1 cap1 d1) (r : List Int) (hF : ready_over n d0 d1 = some r) : OkH Try.prog M [] 28 [.slice A0 d0.length cap0, .slice A1 d1.length cap1, .func (.func 30) #[] #[], .func (.func 31) #[] #[]] (fun M' E' v => ∃ (A0 : Option Addr) (k0 : Nat) (s0 : List Value), v = .slice A0 r.length k0 ∧ E' = [.row 3 1 (.slice A0 r.length k0) r.length s0] ∧ RepSeq M' (r.map (Dat.int .i64)) s0) := by
 unfold ready_over at hF
 intro M1 hM0 w0 H w p0
 replace h0 := h0.mono hM0
 replace h1 := h1.mono hM0
 refine R_enter 35 Try.func28 rfl rfl (by simp) fun a0 f0 => RR (Y13 (cs := #[.slice A1 d1.length cap1]) (T := 23) f0 p0 fun b_1 M_1 w_1 hM_1 hc_1 p_1 _ f => ?_)
 have hc_2 := fz_box hc_1
 refine Y13 (cs := #[.func (.func 30) #[] #[]]) (T := 70) f p_1 fun b_2 M_2 w_2 hM_2 hc_3 p_2 _ f => ?_
 have hc_4 := fz_box hc_3
 refine Y f 1 fun _ f => eT (R_seq (RR (Y15 f p_2 (fzu hM_2 hc_2) 0 rfl fun _ f => Y f 2 fun _ f => eT (wp_block ?_))))
 obtain ⟨A_1, cap_1, hv_1⟩ : ∃ A cap, Value.slice none 0 0 = .slice A ([] : List Int).length cap := ⟨none, 0, rfl⟩
 have p_3 : Hp w0 M_2 ((Ent.row 3 1 (.slice A_1 ([] : List Int).length cap_1) ([] : List Int).length []) :: H) w_2 := by rw [← hv_1]; exact p_2.nilRow 3 1
 have f := f.st 8 (hv_1)
 have hr_1 : RepSeq M_2 (([] : List Int).map (Dat.int .i64)) [] := rfl
 obtain ⟨b_3, hL_1, hF_1⟩ := bS hF
 refine wp_mono (Q := fun e a w => (e = .exit 0 ∧ (∃ y_2 : List Int, b_3 = y_2 ∧ ∃ M_5 : Mem, M_2.le M_5 ∧ ∃ (A_5 : Option Addr), ∃ (cap_5 : Nat), ∃ (cs_3 : List Value), RepSeq M_5 (y_2.map (Dat.int .i64)) cs_3 ∧ Frm 35 [(8, .slice A_5 y_2.length cap_5)] a ∧ Hp w0 M_5 ((Ent.row 3 1 (.slice A_5 y_2.length cap_5) y_2.length cs_3) :: H) w))) (R_loop (n := 35) (w0 := w0) (M := M_2) (fun (x : Nat × (List Int × Int) × (Option Addr) × Nat × (List Value)) => match x with | (m_1, s_1, A_2, cap_2, cs_1) => [(0, .slice A0 d0.length cap0), (3, .func (.func 31) #[] #[]), (5, .pointer (some (⟨b_1, 0, none⟩))), (6, .pointer (some (⟨b_2, 0, none⟩))), (8, .slice A_2 s_1.1.length cap_2), (11, .slice A1 d1.length cap1), (12, .int .i64 ((d1.length : Nat) : Int)), (13, .int .i64 s_1.2)]) (fun (x : Nat × (List Int × Int) × (Option Addr) × Nat × (List Value)) => match x with | (m_1, s_1, A_2, cap_2, cs_1) => ((Ent.row 3 1 (.slice A_2 s_1.1.length cap_2) s_1.1.length cs_1) :: H)) (fun (x : Nat × (List Int × Int) × (Option Addr) × Nat × (List Value)) (MM : Mem) => match x with | (m_1, s_1, A_2, cap_2, cs_1) => loopF (ready_over_s1 n d0 d1) m_1 s_1 = some b_3 ∧ RepSeq MM (s_1.1.map (Dat.int .i64)) cs_1) (fun (x : Nat × (List Int × Int) × (Option Addr) × Nat × (List Value)) => match x with | (m_1, s_1, A_2, cap_2, cs_1) => m_1) (n, (([] : List Int), (0 : Int)), A_1, cap_1, []) (f.kp) p_3 ⟨hL_1, hr_1⟩ ?_) ?_
 ·rintro ⟨m_1, s_1, A_2, cap_2, cs_1⟩ M_3 _ w_3 hM_3 I_1 f p_4
  obtain ⟨I_1L, hr_2⟩ := I_1
  obtain ⟨m_2, r_1, rfl, hs_1, hn_1⟩ := loop_step I_1L
  unfold ready_over_s1 at hs_1
  refine RR (Y f 1 fun _ f => eT (R_seq (RcF f hs_1 (fun h_1 hF_2 => ?_) fun h_1 hF_14 => ?_)))
  ·have k_1 := dI.1 h_1
   refine wp_skip (T_n (R_seq (wp_block (RR (Y f 1 fun _ f => ?_)))))
   obtain ⟨x_1, hx_1, hF_3⟩ := bS hF_2
   obtain ⟨ad_1, c_1, e_1, -, hr_3, hc_5⟩ := Sli.at_ (h1.mono ((hM_1.trans hM_2).trans hM_3)) hx_1
   obtain rfl : c_1 = [.int .i8 x_1] := hr_3
   refine Z f (Y30 e_1 rfl (len := d1.length) (cap := cap1) (k := .i64) (i := s_1.2) (e := 24) (sz := 1) (getI_nn hx_1) (getI_lt hx_1)) fun _ f => Y15 f p_4 hc_5 0 rfl fun _ f => Y f 2 fun _ f => eT (R_seq ?_)
   obtain ⟨j_1, hj_1, hF_4⟩ := bS hF_3
   refine R_mid (fun a_20 w_5 => ∃ y_1 : Bool, j_1 = y_1 ∧ ∃ M_4 : Mem, M_3.le M_4 ∧ Frm 35 [(0, .slice A0 d0.length cap0), (3, .func (.func 31) #[] #[]), (5, .pointer (some (⟨b_1, 0, none⟩))), (6, .pointer (some (⟨b_2, 0, none⟩))), (8, .slice A_2 s_1.1.length cap_2), (9, .int .i64 s_1.2), (11, .slice A1 d1.length cap1), (12, .int .i64 ((d1.length : Nat) : Int)), (13, .int .i64 s_1.2), (28, .bool y_1)] a_20 ∧ Hp w0 M_4 ((Ent.row 3 1 (.slice A_2 s_1.1.length cap_2) s_1.1.length cs_1) :: H) w_5) ?_ ?_
   ·refine R_reg (Y f 3 fun _ f => ?_)
    rcases cE hj_1 with ⟨h_2, hF_5⟩ | ⟨h_2, hF_8⟩
    ·have k_2 := dI.1 h_2
     have f := f.st 20 (cB h_2)
     refine Y f 3 fun _ f => ?_
     obtain ⟨x_2, hx_2, hF_6⟩ := bS hF_5
     obtain ⟨ad_2, c_2, e_2, -, hr_4, hc_6⟩ := Sli.at_ (h0.mono ((hM_1.trans hM_2).trans hM_3)) hx_2
     obtain ⟨A_3, cap_3, rfl, h_3⟩ := Rep.sli hr_4
     refine Z f (Y30 e_2 rfl (len := d0.length) (cap := cap0) (k := .i64) (i := s_1.2) (e := 27) (sz := 1) (getI_nn hx_2) (getI_lt hx_2)) fun _ f => Y15 f p_4 hc_6 0 rfl fun _ f => Y f 1 fun _ f => ?_
     obtain ⟨x_3, hx_3, hF_7⟩ := bS hF_6
     refine Y18 f p_4 (ready_every_ok n _ A_3 cap_3 x_2 h_3 (⟨b_2, 0, none⟩) ((fzu hM_3 hc_4)) (⟨b_1, 0, none⟩) [.slice A1 d1.length cap1] d1 (Sli.rep (h1.mono ((hM_1.trans hM_2).trans hM_3))) (fz_at ((fzu (hM_2.trans hM_3) hc_2)) 0 rfl) x_3 hx_3) fun w_4 p_5 _ f => Y f 1 fun _ f => eT ?_
     exact ⟨(x_3), (sI hF_7).symm, M_3, (mR _), f.kp, p_5⟩
    ·have k_3 := iff_f dI h_2
     have f := f.st 20 (cB h_2)
     refine Y f 8 fun _ f => eT ?_
     exact ⟨(false), (sI hF_8).symm, M_3, (mR _), f.kp, p_4⟩
   ·rintro a_20 w_5 ⟨y_1, hq_1, M_4, hM_4, f, p_6⟩
    subst j_1
    refine T_n (RcF f hF_4 (fun h_4 hF_9 => ?_) fun h_4 hF_12 => ?_)
    ·refine R_reg (Y f 2 fun _ f => V_allocS (k := 1) (c := 1) f p_6 (.cells #[.int .i64 s_1.2] 3 (0, 0)) (by kernel_rfl) (fun _ => by kernel_rfl) fun b_4 w_6 p_7 _ f => ?_)
     have p_8 := p_7.pl [1]
     obtain ⟨g_1, hF_10⟩ := nS hF_9
     refine Y21 (z := .int .i64 0) (f := (Dat.int .i64)) (xs := s_1.1) (ys := [s_1.2]) (news := [.int .i64 s_1.2]) (ad := ⟨b_4, 0, none⟩) (m := 1) (c := 1) f p_8 (RepSeq.mono hM_4 _ _ hr_2) (by exact ⟨_, _, rfl, rfl, rfl⟩) rfl rfl rfl rfl (own_cells (p_8.ownCell 1 rfl) 0 rfl) (by exact g_1) (by have hg_ := g_1; first | omega | (simp only [List.length_cons, List.length_nil] at *; omega)) fun A_4 cap_4 cs_2 w_7 p_9 hr_5 _ f => ?_
     have p_10 := p_9.pl [1]
     have p_11 := p_10.drop
     refine Y f 1 fun _ f => W_end rfl (B_n (T_n (R_reg ?_)))
     obtain ⟨g_2, hF_11⟩ := nS hF_10
     refine Y f 1 fun _ f => ?_
     have f := f.st 33 (congrArg (Value.int .i64) (inR_wrap g_2))
     refine Y f 1 fun _ f => eT ?_
     obtain rfl := sI hF_11
     exact ⟨⟨m_2, (s_1.1 ++ [s_1.2], s_1.2 + 1), A_4, cap_4, cs_2⟩, Nat.lt_succ_self _, M_4, (hM_3.trans hM_4), ⟨hn_1, hr_5⟩, f.kp, p_11⟩
    ·refine wp_skip (B_n (T_n (R_reg ?_)))
     obtain ⟨g_3, hF_13⟩ := nS hF_12
     refine Y f 1 fun _ f => ?_
     have f := f.st 33 (congrArg (Value.int .i64) (inR_wrap g_3))
     refine Y f 1 fun _ f => eT ?_
     obtain rfl := sI hF_13
     exact ⟨⟨m_2, (s_1.1, s_1.2 + 1), A_2, cap_2, cs_1⟩, Nat.lt_succ_self _, M_4, (hM_3.trans hM_4), ⟨hn_1, (RepSeq.mono hM_4 _ _ hr_2)⟩, f.kp, p_6⟩
  ·have k_6 := iff_f dI h_1
   refine wp_exit (T_x (T_x ?_))
   obtain rfl := sI hF_14
   exact ⟨rfl, s_1.1, (sI hn_1).symm, M_3, hM_3, A_2, cap_2, cs_1, hr_2, f.kp, p_4⟩
 ·rintro _ _ w_9 ⟨rfl, y_2, hq_, M_5, hM_5, A_5, cap_5, cs_3, hr_6, f, p_12⟩
  subst b_3
  refine B_x (T_n (RR (Y f 2 fun _ f => eT (wp_ret (E_ret1 f rfl (by kernel_rfl : Vc.look _ 8 = some (.slice A_5 y_2.length cap_5)) ?_)))))
  obtain rfl := sI hF_1
  exact ⟨_, rfl, M_5, _, ((hM_1.trans hM_2).trans hM_5), p_12, ⟨A_5, cap_5, cs_3, rfl, rfl, hr_6⟩⟩
def ready_Ready (n : Nat) (d0 : List (List Int)) (d1 : List Int) (d2 : Bool) : Option (List Int × Int) :=
  (ready_May n d0 d1).bind fun x_1 =>
  bif !x_1 then
    (some ((([] : List Int), (2 : Int))))
  else
    (ready_ways n d0 (d2)).bind fun x_2 =>
    (ready_over n x_2 d1).bind fun x_3 =>
    some ((x_3, (0 : Int)))
theorem ready_Ready_ok (n : Nat) (M : Mem) (A0 : Option Addr) (cap0 : Nat) (d0 : List (List Int)) (h0 : Sli M 1 (eL 1 (Dat.int .i64)) A0 cap0 d0) (A1 : Option Addr) (cap1 : Nat) (d1 : List Int) (h1 : Sli M 1 (Dat.int .i8) A1 cap1 d1) (d2 : Bool) (r : List Int × Int) (hF : ready_Ready n d0 d1 d2 = some r) : OkH Try.prog M [] 7 [.slice A0 d0.length cap0, .slice A1 d1.length cap1, .bool d2] (fun M' E' v => ∃ (A0 : Option Addr) (k0 : Nat) (s0 : List Value), v = .tuple #[.slice A0 r.1.length k0, .int .i64 r.2] ∧ E' = [.row 3 1 (.slice A0 r.1.length k0) r.1.length s0] ∧ RepSeq M' (r.1.map (Dat.int .i64)) s0) := by
 unfold ready_Ready at hF
 intro M1 hM0 w0 H w p0
 replace h0 := h0.mono hM0
 replace h1 := h1.mono hM0
 refine R_enter 17 Try.func7 rfl rfl (by simp) fun a0 f0 => RR (Y f0 2 fun _ f => eT (R_seq (RR (Y f 2 fun _ f => ?_))))
 obtain ⟨x_1, hx_1, hF_1⟩ := bS hF
 refine Y18 f p0 (ready_May_ok n _ A0 cap0 d0 h0 A1 cap1 d1 h1 x_1 hx_1) fun w_1 p_1 _ f => Y f 1 fun _ f => eT (RcF f hF_1 (fun h_1 hF_2 => ?_) fun h_1 hF_3 => ?_)
 ·have k_1 : (x_1) = false := by simpa using h_1
  refine RR (Y f 2 fun _ f => eT (wp_ret (T_r ?_)))
  obtain ⟨A_1, cap_1, hv_1⟩ : ∃ A cap, Value.slice none 0 0 = .slice A ([] : List Int).length cap := ⟨none, 0, rfl⟩
  have p_2 : Hp w0 M1 ((Ent.row 3 1 (.slice A_1 ([] : List Int).length cap_1) ([] : List Int).length []) :: H) w_1 := by rw [← hv_1]; exact p_1.nilRow 3 1
  have f := f.st 6 (hv_1)
  have hr_1 : RepSeq M1 (([] : List Int).map (Dat.int .i64)) [] := rfl
  refine E_ret2 f rfl (by kernel_rfl : Vc.look _ 6 = some (.slice A_1 ([] : List Int).length cap_1)) (by kernel_rfl : Vc.look _ 7 = some (.int .i64 2)) ?_
  obtain rfl := sI hF_2
  exact ⟨_, rfl, M1, _, (mR _), p_2, ⟨A_1, cap_1, [], rfl, rfl, hr_1⟩⟩
 ·have k_2 : (x_1) = true := by simpa using h_1
  refine wp_skip (T_n (RR (Y f 2 fun _ f => ?_)))
  obtain ⟨x_2, hx_2, hF_4⟩ := bS hF_3
  refine Y16 f p_1 (ready_ways_ok n _ A0 cap0 d0 h0 (d2) x_2 hx_2) fun _ M_1 w_2 hM_1 p_3 q_1 _ f => ?_
  obtain ⟨A_2, cap_2, rfl, h_2⟩ := q_1
  refine Y f 1 fun _ f => ?_
  obtain ⟨x_3, hx_3, hF_5⟩ := bS hF_4
  refine Y17 (E := []) (H := (H)) f p_3 (ready_over_ok n _ A_2 cap_2 x_2 h_2 A1 cap1 d1 (h1.mono hM_1) x_3 hx_3) fun _ M_2 E_1 w_3 hM_2 p_4 q_2 _ f => ?_
  obtain ⟨A_3, cap_3, cs_1, rfl, rfl, hr_2⟩ := q_2
  refine Y f 2 fun _ f => eT (wp_ret (E_ret2 f rfl (by kernel_rfl : Vc.look _ 6 = some (.slice A_3 x_3.length cap_3)) (by kernel_rfl : Vc.look _ 7 = some (.int .i64 0)) ?_))
  obtain rfl := sI hF_5
  exact ⟨_, rfl, M_2, _, (hM_1.trans hM_2), p_4, ⟨A_3, cap_3, cs_1, rfl, rfl, hr_2⟩⟩
def slices_Cloneint8_int8_z (n : Nat) (d0 : List Int) (z0 : Bool) : Option (List Int) :=
  bif z0 then
    (some (([] : List Int)))
  else
    need ((([] : List Int).length + d0.length) * 1 ≤ 140737488355328) <|
    some (([] : List Int) ++ d0)
theorem slices_Cloneint8_int8_z_ok (n : Nat) (M : Mem) (A0 : Option Addr) (cap0 : Nat) (d0 : List Int) (h0 : Sli M 1 (Dat.int .i8) A0 cap0 d0) (z0 : Bool) (hz0 : A0.isNone = z0) (r : List Int) (hF : slices_Cloneint8_int8_z n d0 z0 = some r) : OkH Try.prog M [] 33 [.slice A0 d0.length cap0] (fun M' E' v => ∃ (A0 : Option Addr) (k0 : Nat) (s0 : List Value), v = .slice A0 r.length k0 ∧ E' = [.row 24 1 (.slice A0 r.length k0) r.length s0] ∧ RepSeq M' (r.map (Dat.int .i8)) s0) := by
 unfold slices_Cloneint8_int8_z at hF
 intro M1 hM0 w0 H w p0
 replace h0 := h0.mono hM0
 refine R_enter 8 Try.func33 rfl rfl (by simp) fun a0 f0 => RR (Y f0 1 fun _ f => eT (R_seq (RR (Y f 1 fun _ f => Z (v := .bool A0.isNone) f (X_slicenil (A := A0) (n := d0.length) (c := cap0) (e := 24) rfl (by kernel_rfl) (by kernel_rfl) (by kernel_rfl) _) fun _ f => ?_))))
 have f := Frm.set f 4 (v := .bool A0.isNone) (v' := .bool z0) (by kernel_rfl) (cB hz0)
 refine eT (RcF f hF (fun h_1 hF_1 => ?_) fun h_1 hF_2 => ?_)
 ·refine RR (Y f 1 fun _ f => eT (wp_ret (T_r ?_)))
  obtain ⟨A_1, cap_1, hv_1⟩ : ∃ A cap, Value.slice none 0 0 = .slice A ([] : List Int).length cap := ⟨none, 0, rfl⟩
  have p_1 : Hp w0 M1 ((Ent.row 24 1 (.slice A_1 ([] : List Int).length cap_1) ([] : List Int).length []) :: H) w := by rw [← hv_1]; exact p0.nilRow 24 1
  have f := f.st 2 (hv_1)
  have hr_1 : RepSeq M1 (([] : List Int).map (Dat.int .i8)) [] := rfl
  refine E_ret1 f rfl (by kernel_rfl : Vc.look _ 2 = some (.slice A_1 ([] : List Int).length cap_1)) ?_
  obtain rfl := sI hF_1
  exact ⟨_, rfl, M1, _, (mR _), p_1, ⟨A_1, cap_1, [], rfl, rfl, hr_1⟩⟩
 ·refine wp_skip (T_n (RR (V_allocS (k := 0) (c := 0) f p0 (.cells #[] 24 (0, 0)) (by kernel_rfl) (fun _ => by kernel_rfl) fun b_1 w_1 p_2 _ f => Y f 1 fun _ f => ?_)))
  have hr_2 : RepSeq M1 (([] : List Int).map (Dat.int .i8)) [] := rfl
  have p_3 : Hp w0 M1 ((Ent.row 24 1 (.slice (some ⟨b_1, 0, none⟩) 0 0) ([] : List Int).length []) :: H) w_1 := p_2.objRow (n := 0) (cap := 0) (size := 1) (by decide) (by decide) (blk_eq (by decide) rfl) rfl rfl
  obtain ⟨g_1, hF_3⟩ := nS hF_2
  refine Y22 (z := .int .i8 0) (f := (Dat.int .i8)) (xs := ([] : List Int)) (ys := d0) (c := cap0) f p_3 hr_2 h0 rfl rfl rfl g_1 (by omega) fun A_2 cap_2 cs_1 w_2 p_4 hr_3 _ f => Y f 1 fun _ f => eT (wp_ret (E_ret1 f rfl (by kernel_rfl : Vc.look _ 2 = some (.slice A_2 (([] : List Int) ++ d0).length cap_2)) ?_))
  obtain rfl := sI hF_3
  exact ⟨_, rfl, M1, _, (mR _), p_4, ⟨A_2, cap_2, cs_1, rfl, rfl, hr_3⟩⟩
def slices_Cloneint8_int8 (_ : Nat) (d0 : List Int) : Option (List Int) := need (d0.length * 1 ≤ 140737488355328) (some d0)
theorem slices_Cloneint8_int8_ok (n : Nat) (M : Mem) (A0 : Option Addr) (cap0 : Nat) (d0 : List Int) (h0 : Sli M 1 (Dat.int .i8) A0 cap0 d0) (r : List Int) (hF : slices_Cloneint8_int8 n d0 = some r) : OkH Try.prog M [] 33 [.slice A0 d0.length cap0] (fun M' E' v => ∃ (A0 : Option Addr) (k0 : Nat) (s0 : List Value), v = .slice A0 r.length k0 ∧ E' = [.row 24 1 (.slice A0 r.length k0) r.length s0] ∧ RepSeq M' (r.map (Dat.int .i8)) s0) := by
 unfold slices_Cloneint8_int8 at hF
 obtain ⟨g, hF⟩ := nS hF
 obtain rfl := sI hF
 refine slices_Cloneint8_int8_z_ok n M A0 cap0 d0 h0 A0.isNone rfl d0 ?_
 unfold slices_Cloneint8_int8_z
 cases A0 with
 | none =>
  obtain ⟨h1, h2, _⟩ := h0
  have h3 := h2 rfl
  obtain rfl : d0 = [] := List.eq_nil_of_length_eq_zero (by omega)
  rfl
 | some a => simp [need]; omega
def ready_blocks (n : Nat) (d0 : Int) : Option Bool :=
  bif (decide (d0 = 4)) then
    (some ((true)))
  else
    some ((decide (d0 = 5)))
theorem ready_blocks_ok (n : Nat) (M : Mem) (d0 : Int) (r : Bool) (hF : ready_blocks n d0 = some r) : Ok Try.prog M 34 [.int .i8 d0] (fun _ v => v = .bool r) := by
 unfold ready_blocks at hF
 intro M1 hM0 w0 H w p0
 refine R_enter 9 Try.func34 rfl rfl (by simp) fun a0 f0 => RR (Y f0 1 fun _ f => eT (RR (Y f 3 fun _ f => ?_)))
 rcases cE hF with ⟨h_1, hF_1⟩ | ⟨h_1, hF_2⟩
 ·have k_1 := dI.1 h_1
  have f := f.st 5 (cB h_1)
  refine Y f 4 fun _ f => eT (wp_ret (E_ret1 f rfl (by kernel_rfl : Vc.look _ 2 = some (.bool true)) ?_))
  obtain rfl := sI hF_1
  exact ⟨_, rfl, M1, (mR _), p0, rfl⟩
 ·have k_2 := iff_f dI h_1
  have f := f.st 5 (cB h_1)
  refine Y f 4 fun _ f => eT (wp_ret (E_ret1 f rfl (by kernel_rfl : Vc.look _ 2 = some (.bool (decide (d0 = 5)))) ?_))
  obtain rfl := sI hF_2
  exact ⟨_, rfl, M1, (mR _), p0, rfl⟩
def ready_over_1_2 (n : Nat) (d0 : Int) (d2 : List Int) : Option Bool :=
  (getI d2 d0).bind fun x_1 =>
  (ready_blocks n x_1).bind fun x_2 =>
  some ((x_2))
theorem ready_over_1_2_ok (n : Nat) (M : Mem) (d0 : Int) (ad1 : Addr) (q1 : ∀ j v, [(.func (.func 34) #[] #[] : Value)][j]? = some v → M.cell? (ad1.add j) = some v) (ad2 : Addr) (c2 : List Value) (d2 : List Int) (h2 : Rep M ((eL 1 (Dat.int .i8)) d2) c2) (q2 : ∀ j v, c2[j]? = some v → M.cell? (ad2.add j) = some v) (r : Bool) (hF : ready_over_1_2 n d0 d2 = some r) : Ok Try.prog M 48 [.int .i64 d0, .pointer (some ad1), .pointer (some ad2)] (fun _ v => v = .bool r) := by
 unfold ready_over_1_2 at hF
 intro M1 hM0 w0 H w p0
 replace q1 := fun j v h => hM0.cell (q1 j v h)
 replace h2 := Rep.mono hM0 _ _ h2
 replace q2 := fun j v h => hM0.cell (q2 j v h)
 obtain ⟨A_1, cap_1, rfl, h_1⟩ := Rep.sli h2
 refine R_enter 11 Try.func48 rfl rfl (by simp) fun a0 f0 => RR (Y f0 1 fun _ f => eT (R_seq (R_draw p0 (by kernel_rfl) (by kernel_rfl) (Y4 f q1 0 rfl fun _ f => Y4 f q2 0 rfl fun _ f => Y5 default f 1 fun _ f => ?_))))
 obtain ⟨x_1, hx_1, hF_1⟩ := bS hF
 obtain ⟨ad_1, c_1, e_1, -, hr_1, hc_1⟩ := Sli.at_ h_1 hx_1
 obtain rfl : c_1 = [.int .i8 x_1] := hr_1
 refine Y2 (v := .pointer (some (ad_1.add (d0.toNat * 1)))) f (fun _ pq => Y30 e_1 rfl (len := d2.length) (cap := cap_1) (k := .i64) (i := d0) (e := 24) (sz := 1) (getI_nn hx_1) (getI_lt hx_1)) fun _ f => Y4 f hc_1 0 rfl fun _ f => ?_
 obtain ⟨x_2, hx_2, hF_2⟩ := bS hF_1
 refine Y3 f (ready_blocks_ok n _ x_1 x_2 hx_2) fun _ f => Y5 default f 1 fun _ f => Q_end rfl ?_
 intro w_2 p_2
 refine T_n (wp_ret (E_ret1 f rfl (by kernel_rfl : Vc.look _ 4 = some (.bool x_2)) ?_))
 obtain rfl := sI hF_2
 exact ⟨_, rfl, M1, (mR _), p_2, rfl⟩
def slices_IndexFuncint_int_3_s1 (n : Nat) (d0 : List Int) (d1_1 : List Int) (s_1 : Int) : Option (Lp Int (Sum Int Unit)) :=
    bif (decide (s_1 < ((d0.length : Nat) : Int))) then
      ((getI d0 s_1).bind fun x_1 =>
      (ready_over_1_2 n x_1 d1_1).bind fun x_2 =>
      bif x_2 then
        (some (.br (.inl s_1)))
      else
        need (inR .i64 (s_1 + 1)) <|
        some (.nx (s_1 + 1)))
    else
      some (.br (.inr ()))
def slices_IndexFuncint_int_3 (n : Nat) (d0 : List Int) (d1_1 : List Int) : Option Int :=
  (loopF (slices_IndexFuncint_int_3_s1 n d0 d1_1) n (0 : Int)).bind fun b_1 =>
  (match b_1 with 
  | .inl y_1 => some (y_1) 
  | .inr y_2 => some ((-1 : Int)))
theorem slices_IndexFuncint_int_3_ok (n : Nat) (M : Mem) (A0 : Option Addr) (cap0 : Nat) (d0 : List Int) (h0 : Sli M 1 (Dat.int .i64) A0 cap0 d0) (ad1_0 : Addr) (q1_0 : ∀ j v, [(.func (.func 34) #[] #[] : Value)][j]? = some v → M.cell? (ad1_0.add j) = some v) (ad1_1 : Addr) (c1_1 : List Value) (d1_1 : List Int) (h1_1 : Rep M ((eL 1 (Dat.int .i8)) d1_1) c1_1) (q1_1 : ∀ j v, c1_1[j]? = some v → M.cell? (ad1_1.add j) = some v) (r : Int) (hF : slices_IndexFuncint_int_3 n d0 d1_1 = some r) : Ok Try.prog M 53 [.slice A0 d0.length cap0, .func (.func 48) #[] #[.pointer (some ad1_0), .pointer (some ad1_1)]] (fun _ v => v = .int .i64 r) := by
 unfold slices_IndexFuncint_int_3 at hF
 intro M1 hM0 w0 H w p0
 replace h0 := h0.mono hM0
 replace q1_0 := fun j v h => hM0.cell (q1_0 j v h)
 replace h1_1 := Rep.mono hM0 _ _ h1_1
 replace q1_1 := fun j v h => hM0.cell (q1_1 j v h)
 obtain ⟨A_1, cap_1, rfl, h_1⟩ := Rep.sli h1_1
 refine R_enter 19 Try.func53 rfl rfl (by simp) fun a0 f0 => RR (Y f0 1 fun _ f => eT (R_seq (RR (Y f 3 fun _ f => eT (wp_block ?_)))))
 obtain ⟨b_1, hL_1, hF_1⟩ := bS hF
 refine wp_mono (Q := fun e a w => (e = .ret ∧ (∃ y_1 : Int, b_1 = .inl y_1 ∧ ∃ M_2 : Mem, M1.le M_2 ∧ Frm 19 [(4, .int .i64 y_1)] a ∧ Hp w0 M_2 (H) w)) ∨ (e = .exit 0 ∧ (∃ y_2 : Unit, b_1 = .inr y_2 ∧ ∃ M_3 : Mem, M1.le M_3 ∧ Frm 19 [] a ∧ Hp w0 M_3 (H) w))) (R_loop (n := 19) (w0 := w0) (M := M1) (fun (x : Nat × Int) => match x with | (m_1, s_1) => [(0, .slice A0 d0.length cap0), (1, .func (.func 48) #[] #[.pointer (some ad1_0), .pointer (some ad1_1)]), (7, .int .i64 ((d0.length : Nat) : Int)), (8, .int .i64 s_1)]) (fun (x : Nat × Int) => match x with | (m_1, s_1) => (H)) (fun (x : Nat × Int) (MM : Mem) => match x with | (m_1, s_1) => loopF (slices_IndexFuncint_int_3_s1 n d0 d1_1) m_1 s_1 = some b_1) (fun (x : Nat × Int) => match x with | (m_1, s_1) => m_1) (n, (0 : Int)) (f.kp) p0 hL_1 ?_) ?_
 ·rintro ⟨m_1, s_1⟩ M_1 _ w_1 hM_1 I_1 f p_1
  have I_1L := I_1
  obtain ⟨m_2, r_1, rfl, hs_1, hn_1⟩ := loop_step I_1L
  unfold slices_IndexFuncint_int_3_s1 at hs_1
  refine RR (Y f 1 fun _ f => eT (R_seq (RcF f hs_1 (fun h_2 hF_2 => ?_) fun h_2 hF_8 => ?_)))
  ·have k_1 := dI.1 h_2
   refine wp_skip (T_n (R_seq (wp_block (RR (Y f 2 fun _ f => eT (RR (Y f 3 fun _ f => ?_)))))))
   obtain ⟨x_1, hx_1, hF_3⟩ := bS hF_2
   obtain ⟨ad_1, c_1, e_1, -, hr_1, hc_1⟩ := Sli.at_ (h0.mono hM_1) hx_1
   obtain rfl : c_1 = [.int .i64 x_1] := hr_1
   refine Z f (Y30 e_1 rfl (len := d0.length) (cap := cap0) (k := .i64) (i := s_1) (e := 3) (sz := 1) (getI_nn hx_1) (getI_lt hx_1)) fun _ f => Y15 f p_1 hc_1 0 rfl fun _ f => ?_
   obtain ⟨x_2, hx_2, hF_4⟩ := bS hF_3
   refine Y18 f p_1 (ready_over_1_2_ok n _ x_1 ad1_0 ((fzu hM_1 q1_0)) ad1_1 [.slice A_1 d1_1.length cap_1] d1_1 (Sli.rep (h_1.mono hM_1)) (fz_at ((fzu hM_1 q1_1)) 0 rfl) x_2 hx_2) fun w_2 p_2 _ f => eT (RcF f hF_4 (fun h_3 hF_5 => ?_) fun h_3 hF_6 => ?_)
   ·refine RR (Y f 2 fun _ f => eT (wp_ret (B_r (T_r (T_r ?_)))))
    obtain rfl := sI hF_5
    exact .inl ⟨rfl, s_1, (sI hn_1).symm, M_1, hM_1, f.kp, p_2⟩
   ·refine wp_skip (B_n (T_n (R_reg ?_)))
    obtain ⟨g_1, hF_7⟩ := nS hF_6
    refine Y f 1 fun _ f => ?_
    have f := f.st 18 (congrArg (Value.int .i64) (inR_wrap g_1))
    refine Y f 1 fun _ f => eT ?_
    obtain rfl := sI hF_7
    exact ⟨⟨m_2, s_1 + 1⟩, Nat.lt_succ_self _, M_1, hM_1, hn_1, f.kp, p_2⟩
  ·have k_4 := iff_f dI h_2
   refine wp_exit (T_x (T_x ?_))
   obtain rfl := sI hF_8
   exact .inr ⟨rfl, (), (sI hn_1).symm, M_1, hM_1, f.kp, p_1⟩
 ·rintro _ _ w_5 (⟨rfl, y_1, rfl, M_2, hM_2, f, p_3⟩ | ⟨rfl, y_2, rfl, M_3, hM_3, f, p_4⟩)
  ·refine B_r (T_r (E_ret1 f rfl (by kernel_rfl : Vc.look _ 4 = some (.int .i64 y_1)) ?_))
   obtain rfl := sI hF_1
   exact ⟨_, rfl, M_2, hM_2, p_3, rfl⟩
  ·refine B_x (T_n (RR (Y f 1 fun _ f => eT (wp_ret (E_ret1 f rfl (by kernel_rfl : Vc.look _ 4 = some (.int .i64 (-1))) ?_)))))
   obtain rfl := sI hF_1
   exact ⟨_, rfl, M_3, hM_3, p_4, rfl⟩
def slices_ContainsFuncint_int_3 (n : Nat) (d0 : List Int) (d1_1 : List Int) : Option Bool :=
  (slices_IndexFuncint_int_3 n d0 d1_1).bind fun x_1 =>
  some ((decide ((0 : Int) ≤ x_1)))
theorem slices_ContainsFuncint_int_3_ok (n : Nat) (M : Mem) (A0 : Option Addr) (cap0 : Nat) (d0 : List Int) (h0 : Sli M 1 (Dat.int .i64) A0 cap0 d0) (ad1_0 : Addr) (q1_0 : ∀ j v, [(.func (.func 34) #[] #[] : Value)][j]? = some v → M.cell? (ad1_0.add j) = some v) (ad1_1 : Addr) (c1_1 : List Value) (d1_1 : List Int) (h1_1 : Rep M ((eL 1 (Dat.int .i8)) d1_1) c1_1) (q1_1 : ∀ j v, c1_1[j]? = some v → M.cell? (ad1_1.add j) = some v) (r : Bool) (hF : slices_ContainsFuncint_int_3 n d0 d1_1 = some r) : Ok Try.prog M 37 [.slice A0 d0.length cap0, .func (.func 48) #[] #[.pointer (some ad1_0), .pointer (some ad1_1)]] (fun _ v => v = .bool r) := by
 unfold slices_ContainsFuncint_int_3 at hF
 intro M1 hM0 w0 H w p0
 replace h0 := h0.mono hM0
 replace q1_0 := fun j v h => hM0.cell (q1_0 j v h)
 replace h1_1 := Rep.mono hM0 _ _ h1_1
 replace q1_1 := fun j v h => hM0.cell (q1_1 j v h)
 obtain ⟨A_1, cap_1, rfl, h_1⟩ := Rep.sli h1_1
 refine R_enter 9 Try.func37 rfl rfl (by simp) fun a0 f0 => RR (Y f0 1 fun _ f => eT (RR (Y f 2 fun _ f => ?_)))
 obtain ⟨x_1, hx_1, hF_1⟩ := bS hF
 refine Y18 f p0 (slices_IndexFuncint_int_3_ok n _ A0 cap0 d0 h0 ad1_0 (q1_0) ad1_1 [.slice A_1 d1_1.length cap_1] d1_1 (Sli.rep h_1) (fz_at (q1_1) 0 rfl) x_1 hx_1) fun w_1 p_1 _ f => Y f 2 fun _ f => eT (wp_ret (E_ret1 f rfl (by kernel_rfl : Vc.look _ 4 = some (.bool (decide ((0 : Int) ≤ x_1)))) ?_))
 obtain rfl := sI hF_1
 exact ⟨_, rfl, M1, (mR _), p_1, rfl⟩
def ready_some (n : Nat) (d0 : List Int) (d1_1 : List Int) : Option Bool :=
  (slices_ContainsFuncint_int_3 n d0 d1_1).bind fun x_1 =>
  some ((x_1))
theorem ready_some_ok (n : Nat) (M : Mem) (A0 : Option Addr) (cap0 : Nat) (d0 : List Int) (h0 : Sli M 1 (Dat.int .i64) A0 cap0 d0) (ad1_0 : Addr) (q1_0 : ∀ j v, [(.func (.func 34) #[] #[] : Value)][j]? = some v → M.cell? (ad1_0.add j) = some v) (ad1_1 : Addr) (c1_1 : List Value) (d1_1 : List Int) (h1_1 : Rep M ((eL 1 (Dat.int .i8)) d1_1) c1_1) (q1_1 : ∀ j v, c1_1[j]? = some v → M.cell? (ad1_1.add j) = some v) (r : Bool) (hF : ready_some n d0 d1_1 = some r) : Ok Try.prog M 35 [.slice A0 d0.length cap0, .func (.func 48) #[] #[.pointer (some ad1_0), .pointer (some ad1_1)]] (fun _ v => v = .bool r) := by
 unfold ready_some at hF
 intro M1 hM0 w0 H w p0
 replace h0 := h0.mono hM0
 replace q1_0 := fun j v h => hM0.cell (q1_0 j v h)
 replace h1_1 := Rep.mono hM0 _ _ h1_1
 replace q1_1 := fun j v h => hM0.cell (q1_1 j v h)
 obtain ⟨A_1, cap_1, rfl, h_1⟩ := Rep.sli h1_1
 refine R_enter 8 Try.func35 rfl rfl (by simp) fun a0 f0 => RR (Y f0 1 fun _ f => eT (RR (Y f 2 fun _ f => ?_)))
 obtain ⟨x_1, hx_1, hF_1⟩ := bS hF
 refine Y18 f p0 (slices_ContainsFuncint_int_3_ok n _ A0 cap0 d0 h0 ad1_0 (q1_0) ad1_1 [.slice A_1 d1_1.length cap_1] d1_1 (Sli.rep h_1) (fz_at (q1_1) 0 rfl) x_1 hx_1) fun w_1 p_1 _ f => Y f 1 fun _ f => eT (wp_ret (E_ret1 f rfl (by kernel_rfl : Vc.look _ 4 = some (.bool x_1)) ?_))
 obtain rfl := sI hF_1
 exact ⟨_, rfl, M1, (mR _), p_1, rfl⟩
def ready_over_2_s1 (n : Nat) (d0 : List (List Int)) (d1 : List Int) (s_1 : List Int × Int) : Option (Lp (List Int × Int) (List Int)) :=
    bif (decide (s_1.2 < ((d1.length : Nat) : Int))) then
      ((getI d1 s_1.2).bind fun x_1 =>
      ((bif (decide (x_1 = 1)) then
          ((getI d0 s_1.2).bind fun x_2 =>
          (ready_some n x_2 d1).bind fun x_3 =>
          some ((x_3)))
        else
          some ((false)) : Option Bool)).bind fun y_1 =>
      bif y_1 then
        (need ((s_1.1.length + 1) * 8 ≤ 140737488355328) <|
        need (inR .i64 (s_1.2 + 1)) <|
        some (.nx (s_1.1 ++ [s_1.2], s_1.2 + 1)))
      else
        need (inR .i64 (s_1.2 + 1)) <|
        some (.nx (s_1.1, s_1.2 + 1)))
    else
      some (.br s_1.1)
def ready_over_2 (n : Nat) (d0 : List (List Int)) (d1 : List Int) : Option (List Int) :=
  (loopF (ready_over_2_s1 n d0 d1) n (([] : List Int), (0 : Int))).bind fun y_2 =>
  some (y_2)
set_option maxRecDepth 20000 in
theorem ready_over_2_ok (n : Nat) (M : Mem) (A0 : Option Addr) (cap0 : Nat) (d0 : List (List Int)) (h0 : Sli M 1 (eL 1 (Dat.int .i64)) A0 cap0 d0) (A1 : Option Addr) (cap1 : Nat) (d1 : List Int) (h1 : Sli M 1 (Dat.int .i8) A1 cap1 d1) (r : List Int) (hF : ready_over_2 n d0 d1 = some r) : OkH Try.prog M [] 28 [.slice A0 d0.length cap0, .slice A1 d1.length cap1, .func (.func 34) #[] #[], .func (.func 35) #[] #[]] (fun M' E' v => ∃ (A0 : Option Addr) (k0 : Nat) (s0 : List Value), v = .slice A0 r.length k0 ∧ E' = [.row 3 1 (.slice A0 r.length k0) r.length s0] ∧ RepSeq M' (r.map (Dat.int .i64)) s0) := by
 unfold ready_over_2 at hF
 intro M1 hM0 w0 H w p0
 replace h0 := h0.mono hM0
 replace h1 := h1.mono hM0
 refine R_enter 35 Try.func28 rfl rfl (by simp) fun a0 f0 => RR (Y13 (cs := #[.slice A1 d1.length cap1]) (T := 23) f0 p0 fun b_1 M_1 w_1 hM_1 hc_1 p_1 _ f => ?_)
 have hc_2 := fz_box hc_1
 refine Y13 (cs := #[.func (.func 34) #[] #[]]) (T := 70) f p_1 fun b_2 M_2 w_2 hM_2 hc_3 p_2 _ f => ?_
 have hc_4 := fz_box hc_3
 refine Y f 1 fun _ f => eT (R_seq (RR (Y15 f p_2 (fzu hM_2 hc_2) 0 rfl fun _ f => Y f 2 fun _ f => eT (wp_block ?_))))
 obtain ⟨A_1, cap_1, hv_1⟩ : ∃ A cap, Value.slice none 0 0 = .slice A ([] : List Int).length cap := ⟨none, 0, rfl⟩
 have p_3 : Hp w0 M_2 ((Ent.row 3 1 (.slice A_1 ([] : List Int).length cap_1) ([] : List Int).length []) :: H) w_2 := by rw [← hv_1]; exact p_2.nilRow 3 1
 have f := f.st 8 (hv_1)
 have hr_1 : RepSeq M_2 (([] : List Int).map (Dat.int .i64)) [] := rfl
 obtain ⟨b_3, hL_1, hF_1⟩ := bS hF
 refine wp_mono (Q := fun e a w => (e = .exit 0 ∧ (∃ y_2 : List Int, b_3 = y_2 ∧ ∃ M_5 : Mem, M_2.le M_5 ∧ ∃ (A_5 : Option Addr), ∃ (cap_5 : Nat), ∃ (cs_3 : List Value), RepSeq M_5 (y_2.map (Dat.int .i64)) cs_3 ∧ Frm 35 [(8, .slice A_5 y_2.length cap_5)] a ∧ Hp w0 M_5 ((Ent.row 3 1 (.slice A_5 y_2.length cap_5) y_2.length cs_3) :: H) w))) (R_loop (n := 35) (w0 := w0) (M := M_2) (fun (x : Nat × (List Int × Int) × (Option Addr) × Nat × (List Value)) => match x with | (m_1, s_1, A_2, cap_2, cs_1) => [(0, .slice A0 d0.length cap0), (3, .func (.func 35) #[] #[]), (5, .pointer (some (⟨b_1, 0, none⟩))), (6, .pointer (some (⟨b_2, 0, none⟩))), (8, .slice A_2 s_1.1.length cap_2), (11, .slice A1 d1.length cap1), (12, .int .i64 ((d1.length : Nat) : Int)), (13, .int .i64 s_1.2)]) (fun (x : Nat × (List Int × Int) × (Option Addr) × Nat × (List Value)) => match x with | (m_1, s_1, A_2, cap_2, cs_1) => ((Ent.row 3 1 (.slice A_2 s_1.1.length cap_2) s_1.1.length cs_1) :: H)) (fun (x : Nat × (List Int × Int) × (Option Addr) × Nat × (List Value)) (MM : Mem) => match x with | (m_1, s_1, A_2, cap_2, cs_1) => loopF (ready_over_2_s1 n d0 d1) m_1 s_1 = some b_3 ∧ RepSeq MM (s_1.1.map (Dat.int .i64)) cs_1) (fun (x : Nat × (List Int × Int) × (Option Addr) × Nat × (List Value)) => match x with | (m_1, s_1, A_2, cap_2, cs_1) => m_1) (n, (([] : List Int), (0 : Int)), A_1, cap_1, []) (f.kp) p_3 ⟨hL_1, hr_1⟩ ?_) ?_
 ·rintro ⟨m_1, s_1, A_2, cap_2, cs_1⟩ M_3 _ w_3 hM_3 I_1 f p_4
  obtain ⟨I_1L, hr_2⟩ := I_1
  obtain ⟨m_2, r_1, rfl, hs_1, hn_1⟩ := loop_step I_1L
  unfold ready_over_2_s1 at hs_1
  refine RR (Y f 1 fun _ f => eT (R_seq (RcF f hs_1 (fun h_1 hF_2 => ?_) fun h_1 hF_14 => ?_)))
  ·have k_1 := dI.1 h_1
   refine wp_skip (T_n (R_seq (wp_block (RR (Y f 1 fun _ f => ?_)))))
   obtain ⟨x_1, hx_1, hF_3⟩ := bS hF_2
   obtain ⟨ad_1, c_1, e_1, -, hr_3, hc_5⟩ := Sli.at_ (h1.mono ((hM_1.trans hM_2).trans hM_3)) hx_1
   obtain rfl : c_1 = [.int .i8 x_1] := hr_3
   refine Z f (Y30 e_1 rfl (len := d1.length) (cap := cap1) (k := .i64) (i := s_1.2) (e := 24) (sz := 1) (getI_nn hx_1) (getI_lt hx_1)) fun _ f => Y15 f p_4 hc_5 0 rfl fun _ f => Y f 2 fun _ f => eT (R_seq ?_)
   obtain ⟨j_1, hj_1, hF_4⟩ := bS hF_3
   refine R_mid (fun a_20 w_5 => ∃ y_1 : Bool, j_1 = y_1 ∧ ∃ M_4 : Mem, M_3.le M_4 ∧ Frm 35 [(0, .slice A0 d0.length cap0), (3, .func (.func 35) #[] #[]), (5, .pointer (some (⟨b_1, 0, none⟩))), (6, .pointer (some (⟨b_2, 0, none⟩))), (8, .slice A_2 s_1.1.length cap_2), (9, .int .i64 s_1.2), (11, .slice A1 d1.length cap1), (12, .int .i64 ((d1.length : Nat) : Int)), (13, .int .i64 s_1.2), (28, .bool y_1)] a_20 ∧ Hp w0 M_4 ((Ent.row 3 1 (.slice A_2 s_1.1.length cap_2) s_1.1.length cs_1) :: H) w_5) ?_ ?_
   ·refine R_reg (Y f 3 fun _ f => ?_)
    rcases cE hj_1 with ⟨h_2, hF_5⟩ | ⟨h_2, hF_8⟩
    ·have k_2 := dI.1 h_2
     have f := f.st 20 (cB h_2)
     refine Y f 3 fun _ f => ?_
     obtain ⟨x_2, hx_2, hF_6⟩ := bS hF_5
     obtain ⟨ad_2, c_2, e_2, -, hr_4, hc_6⟩ := Sli.at_ (h0.mono ((hM_1.trans hM_2).trans hM_3)) hx_2
     obtain ⟨A_3, cap_3, rfl, h_3⟩ := Rep.sli hr_4
     refine Z f (Y30 e_2 rfl (len := d0.length) (cap := cap0) (k := .i64) (i := s_1.2) (e := 27) (sz := 1) (getI_nn hx_2) (getI_lt hx_2)) fun _ f => Y15 f p_4 hc_6 0 rfl fun _ f => Y f 1 fun _ f => ?_
     obtain ⟨x_3, hx_3, hF_7⟩ := bS hF_6
     refine Y18 f p_4 (ready_some_ok n _ A_3 cap_3 x_2 h_3 (⟨b_2, 0, none⟩) ((fzu hM_3 hc_4)) (⟨b_1, 0, none⟩) [.slice A1 d1.length cap1] d1 (Sli.rep (h1.mono ((hM_1.trans hM_2).trans hM_3))) (fz_at ((fzu (hM_2.trans hM_3) hc_2)) 0 rfl) x_3 hx_3) fun w_4 p_5 _ f => Y f 1 fun _ f => eT ?_
     exact ⟨(x_3), (sI hF_7).symm, M_3, (mR _), f.kp, p_5⟩
    ·have k_3 := iff_f dI h_2
     have f := f.st 20 (cB h_2)
     refine Y f 8 fun _ f => eT ?_
     exact ⟨(false), (sI hF_8).symm, M_3, (mR _), f.kp, p_4⟩
   ·rintro a_20 w_5 ⟨y_1, hq_1, M_4, hM_4, f, p_6⟩
    subst j_1
    refine T_n (RcF f hF_4 (fun h_4 hF_9 => ?_) fun h_4 hF_12 => ?_)
    ·refine R_reg (Y f 2 fun _ f => V_allocS (k := 1) (c := 1) f p_6 (.cells #[.int .i64 s_1.2] 3 (0, 0)) (by kernel_rfl) (fun _ => by kernel_rfl) fun b_4 w_6 p_7 _ f => ?_)
     have p_8 := p_7.pl [1]
     obtain ⟨g_1, hF_10⟩ := nS hF_9
     refine Y21 (z := .int .i64 0) (f := (Dat.int .i64)) (xs := s_1.1) (ys := [s_1.2]) (news := [.int .i64 s_1.2]) (ad := ⟨b_4, 0, none⟩) (m := 1) (c := 1) f p_8 (RepSeq.mono hM_4 _ _ hr_2) (by exact ⟨_, _, rfl, rfl, rfl⟩) rfl rfl rfl rfl (own_cells (p_8.ownCell 1 rfl) 0 rfl) (by exact g_1) (by have hg_ := g_1; first | omega | (simp only [List.length_cons, List.length_nil] at *; omega)) fun A_4 cap_4 cs_2 w_7 p_9 hr_5 _ f => ?_
     have p_10 := p_9.pl [1]
     have p_11 := p_10.drop
     refine Y f 1 fun _ f => W_end rfl (B_n (T_n (R_reg ?_)))
     obtain ⟨g_2, hF_11⟩ := nS hF_10
     refine Y f 1 fun _ f => ?_
     have f := f.st 33 (congrArg (Value.int .i64) (inR_wrap g_2))
     refine Y f 1 fun _ f => eT ?_
     obtain rfl := sI hF_11
     exact ⟨⟨m_2, (s_1.1 ++ [s_1.2], s_1.2 + 1), A_4, cap_4, cs_2⟩, Nat.lt_succ_self _, M_4, (hM_3.trans hM_4), ⟨hn_1, hr_5⟩, f.kp, p_11⟩
    ·refine wp_skip (B_n (T_n (R_reg ?_)))
     obtain ⟨g_3, hF_13⟩ := nS hF_12
     refine Y f 1 fun _ f => ?_
     have f := f.st 33 (congrArg (Value.int .i64) (inR_wrap g_3))
     refine Y f 1 fun _ f => eT ?_
     obtain rfl := sI hF_13
     exact ⟨⟨m_2, (s_1.1, s_1.2 + 1), A_2, cap_2, cs_1⟩, Nat.lt_succ_self _, M_4, (hM_3.trans hM_4), ⟨hn_1, (RepSeq.mono hM_4 _ _ hr_2)⟩, f.kp, p_6⟩
  ·have k_6 := iff_f dI h_1
   refine wp_exit (T_x (T_x ?_))
   obtain rfl := sI hF_14
   exact ⟨rfl, s_1.1, (sI hn_1).symm, M_3, hM_3, A_2, cap_2, cs_1, hr_2, f.kp, p_4⟩
 ·rintro _ _ w_9 ⟨rfl, y_2, hq_, M_5, hM_5, A_5, cap_5, cs_3, hr_6, f, p_12⟩
  subst b_3
  refine B_x (T_n (RR (Y f 2 fun _ f => eT (wp_ret (E_ret1 f rfl (by kernel_rfl : Vc.look _ 8 = some (.slice A_5 y_2.length cap_5)) ?_)))))
  obtain rfl := sI hF_1
  exact ⟨_, rfl, M_5, _, ((hM_1.trans hM_2).trans hM_5), p_12, ⟨A_5, cap_5, cs_3, rfl, rfl, hr_6⟩⟩
def ready_Settle_s2 (n : Nat) (x_4 : List Int) (s_2 : List Int × Int) : Option (Lp (List Int × Int) (List Int)) :=
    bif (decide (s_2.2 < ((x_4.length : Nat) : Int))) then
      ((getI x_4 s_2.2).bind fun x_5 =>
      (getI s_2.1 x_5).bind fun x_6 =>
      need (inR .i64 (s_2.2 + 1)) <|
      some (.nx (s_2.1.set x_5.toNat (5 : Int), s_2.2 + 1)))
    else
      some (.br s_2.1)
def ready_Settle_s1 (n : Nat) (x_2 : List (List Int)) (s_1 : List Int) : Option (Lp (List Int) (List Int)) :=
    (ready_over_2 n x_2 s_1).bind fun x_4 =>
    bif (decide (((x_4.length : Nat) : Int) = 0)) then
      (some (.br s_1))
    else
      (loopF (ready_Settle_s2 n x_4) n (s_1, (0 : Int))).bind fun y_1 =>
      some (.nx y_1)
def ready_Settle (n : Nat) (d0 : List (List Int)) (d1 : List Int) (d2 : Bool) : Option (List Int × Int) :=
  (ready_May n d0 d1).bind fun x_1 =>
  bif !x_1 then
    (some ((([] : List Int), (2 : Int))))
  else
    (ready_ways n d0 (d2)).bind fun x_2 =>
    (slices_Cloneint8_int8 n d1).bind fun x_3 =>
    (loopF (ready_Settle_s1 n x_2) n x_3).bind fun y_2 =>
    some ((y_2, (0 : Int)))
set_option maxRecDepth 20000 in
theorem ready_Settle_ok (n : Nat) (M : Mem) (A0 : Option Addr) (cap0 : Nat) (d0 : List (List Int)) (h0 : Sli M 1 (eL 1 (Dat.int .i64)) A0 cap0 d0) (A1 : Option Addr) (cap1 : Nat) (d1 : List Int) (h1 : Sli M 1 (Dat.int .i8) A1 cap1 d1) (d2 : Bool) (r : List Int × Int) (hF : ready_Settle n d0 d1 d2 = some r) : OkH Try.prog M [] 9 [.slice A0 d0.length cap0, .slice A1 d1.length cap1, .bool d2] (fun M' E' v => ∃ (A0 : Option Addr) (k0 : Nat) (s0 : List Value), v = .tuple #[.slice A0 r.1.length k0, .int .i64 r.2] ∧ E' = [.row 24 1 (.slice A0 r.1.length k0) r.1.length s0] ∧ RepSeq M' (r.1.map (Dat.int .i8)) s0) := by
 unfold ready_Settle at hF
 intro M1 hM0 w0 H w p0
 replace h0 := h0.mono hM0
 replace h1 := h1.mono hM0
 refine R_enter 39 Try.func9 rfl rfl (by simp) fun a0 f0 => RR (Y f0 2 fun _ f => eT (R_seq (RR (Y f 2 fun _ f => ?_))))
 obtain ⟨x_1, hx_1, hF_1⟩ := bS hF
 refine Y18 f p0 (ready_May_ok n _ A0 cap0 d0 h0 A1 cap1 d1 h1 x_1 hx_1) fun w_1 p_1 _ f => Y f 1 fun _ f => eT (RcF f hF_1 (fun h_1 hF_2 => ?_) fun h_1 hF_3 => ?_)
 ·have k_1 : (x_1) = false := by simpa using h_1
  refine RR (Y f 2 fun _ f => eT (wp_ret (T_r ?_)))
  obtain ⟨A_1, cap_1, hv_1⟩ : ∃ A cap, Value.slice none 0 0 = .slice A ([] : List Int).length cap := ⟨none, 0, rfl⟩
  have p_2 : Hp w0 M1 ((Ent.row 24 1 (.slice A_1 ([] : List Int).length cap_1) ([] : List Int).length []) :: H) w_1 := by rw [← hv_1]; exact p_1.nilRow 24 1
  have f := f.st 6 (hv_1)
  have hr_1 : RepSeq M1 (([] : List Int).map (Dat.int .i8)) [] := rfl
  refine E_ret2 f rfl (by kernel_rfl : Vc.look _ 6 = some (.slice A_1 ([] : List Int).length cap_1)) (by kernel_rfl : Vc.look _ 7 = some (.int .i64 2)) ?_
  obtain rfl := sI hF_2
  exact ⟨_, rfl, M1, _, (mR _), p_2, ⟨A_1, cap_1, [], rfl, rfl, hr_1⟩⟩
 ·have k_2 : (x_1) = true := by simpa using h_1
  refine wp_skip (T_n (RR (Y f 2 fun _ f => ?_)))
  obtain ⟨x_2, hx_2, hF_4⟩ := bS hF_3
  refine Y16 f p_1 (ready_ways_ok n _ A0 cap0 d0 h0 (d2) x_2 hx_2) fun _ M_1 w_2 hM_1 p_3 q_1 _ f => ?_
  obtain ⟨A_2, cap_2, rfl, h_2⟩ := q_1
  refine Y f 1 fun _ f => ?_
  obtain ⟨x_3, hx_3, hF_5⟩ := bS hF_4
  refine Y17 (E := []) (H := (H)) f p_3 (slices_Cloneint8_int8_ok n _ A1 cap1 d1 (h1.mono hM_1) x_3 hx_3) fun _ M_2 E_1 w_3 hM_2 p_4 q_2 _ f => ?_
  obtain ⟨A_3, cap_3, cs_1, rfl, rfl, hr_2⟩ := q_2
  refine Y f 2 fun _ f => eT (wp_block ?_)
  obtain ⟨b_1, hL_1, hF_6⟩ := bS hF_5
  refine wp_mono (Q := fun e a w => (e = .ret ∧ (∃ y_2 : List Int, b_1 = y_2 ∧ ∃ M_9 : Mem, M_2.le M_9 ∧ ∃ (A_9 : Option Addr), ∃ (cap_11 : Nat), ∃ (cs_6 : List Value), RepSeq M_9 (y_2.map (Dat.int .i8)) cs_6 ∧ Frm 39 [(6, .slice A_9 y_2.length cap_11), (7, .int .i64 0)] a ∧ Hp w0 M_9 ((Ent.row 24 1 (.slice A_9 y_2.length cap_11) y_2.length cs_6) :: H) w))) (R_loop (n := 39) (w0 := w0) (M := M_2) (fun (x : Nat × (List Int) × (Option Addr) × Nat × (List Value)) => match x with | (m_1, s_1, A_4, cap_4, cs_2) => [(8, .slice A_2 x_2.length cap_2), (9, .slice A_4 s_1.length cap_4)]) (fun (x : Nat × (List Int) × (Option Addr) × Nat × (List Value)) => match x with | (m_1, s_1, A_4, cap_4, cs_2) => ((Ent.row 24 1 (.slice A_4 s_1.length cap_4) s_1.length cs_2) :: H)) (fun (x : Nat × (List Int) × (Option Addr) × Nat × (List Value)) (MM : Mem) => match x with | (m_1, s_1, A_4, cap_4, cs_2) => loopF (ready_Settle_s1 n x_2) m_1 s_1 = some b_1 ∧ RepSeq MM (s_1.map (Dat.int .i8)) cs_2) (fun (x : Nat × (List Int) × (Option Addr) × Nat × (List Value)) => match x with | (m_1, s_1, A_4, cap_4, cs_2) => m_1) (n, x_3, A_3, cap_3, cs_1) (f.kp) p_4 ⟨hL_1, hr_2⟩ ?_) ?_
  ·rintro ⟨m_1, s_1, A_4, cap_4, cs_2⟩ M_3 _ w_4 hM_3 I_1 f p_5
   obtain ⟨I_1L, hr_3⟩ := I_1
   obtain ⟨m_2, r_1, rfl, hs_1, hn_1⟩ := loop_step I_1L
   unfold ready_Settle_s1 at hs_1
   refine wp_block (RR (Y f 2 fun _ f => ?_))
   obtain ⟨M_4, A_5, cap_5, hM_4, hv_2, p_6, h_3, hb_1⟩ := p_5.lend (f := (Dat.int .i8)) (xs := s_1) (szd_int .i8) hr_3
   have f := f.st 9 (hv_2)
   have f := f.st 23 (hv_2)
   obtain ⟨x_4, hx_4, hF_7⟩ := bS hs_1
   refine Y17 (E := []) (H := (H)) f p_6 (ready_over_2_ok n _ A_2 cap_2 x_2 (h_2.mono ((hM_2.trans hM_3).trans hM_4)) A_5 cap_5 s_1 h_3 x_4 hx_4) fun _ M_5 E_2 w_5 hM_5 p_7 q_3 _ f => ?_
   obtain ⟨A_6, cap_6, cs_3, rfl, rfl, hr_4⟩ := q_3
   have hr_5 : ∀ M, RepSeq M (x_4.map (Dat.int .i64)) cs_3 := fun M => RepSeq.flat (flat_int .i64) _ hr_4
   obtain ⟨M_6, hM_6, p_8⟩ := hb_1 _ _ _ hM_5 p_7
   have f := f.st 9 (hv_2.symm)
   have f := f.st 23 (hv_2.symm)
   have hr_6 := hr_5 M_6
   refine Y f 1 fun _ f => eT (R_seq (RR (Y f 3 fun _ f => eT (RcF f hF_7 (fun h_4 hF_8 => ?_) fun h_4 hF_9 => ?_))))
   ·have k_3 := dI.1 h_4
    refine RR (Y f 3 fun _ f => eT (wp_ret (T_r (B_r ?_))))
    have p_14 := p_8.pl [1]
    refine T_r ?_
    obtain rfl := sI hF_8
    exact ⟨rfl, s_1, (sI hn_1).symm, M_6, (hM_3.trans hM_6), A_4, cap_4, cs_2, (RepSeq.mono hM_6 _ _ hr_3), f.kp, (p_14.dropN 1)⟩
   ·have k_4 := iff_f dI h_4
    refine wp_skip (T_n (RR (Y f 3 fun _ f => eT (wp_block ?_))))
    obtain ⟨b_2, hL_2, hF_10⟩ := bS hF_9
    refine wp_mono (Q := fun e a w => (e = .exit 2 ∧ (∃ y_1 : List Int, b_2 = y_1 ∧ ∃ M_8 : Mem, M_6.le M_8 ∧ ∃ (A_8 : Option Addr), ∃ (cap_10 : Nat), ∃ (cs_5 : List Value), RepSeq M_8 (y_1.map (Dat.int .i8)) cs_5 ∧ Frm 39 [(8, .slice A_2 x_2.length cap_2), (9, .slice A_8 y_1.length cap_10)] a ∧ Hp w0 M_8 ((Ent.row 24 1 (.slice A_8 y_1.length cap_10) y_1.length cs_5) :: (Ent.row 3 1 (.slice A_6 x_4.length cap_6) x_4.length cs_3) :: H) w))) (R_loop (n := 39) (w0 := w0) (M := M_6) (fun (x : Nat × (List Int × Int) × (Option Addr) × Nat × (List Value)) => match x with | (m_3, s_2, A_7, cap_7, cs_4) => [(8, .slice A_2 x_2.length cap_2), (9, .slice A_7 s_2.1.length cap_7), (29, .slice A_6 x_4.length cap_6), (30, .int .i64 ((x_4.length : Nat) : Int)), (31, .int .i64 s_2.2)]) (fun (x : Nat × (List Int × Int) × (Option Addr) × Nat × (List Value)) => match x with | (m_3, s_2, A_7, cap_7, cs_4) => ((Ent.row 24 1 (.slice A_7 s_2.1.length cap_7) s_2.1.length cs_4) :: (Ent.row 3 1 (.slice A_6 x_4.length cap_6) x_4.length cs_3) :: H)) (fun (x : Nat × (List Int × Int) × (Option Addr) × Nat × (List Value)) (MM : Mem) => match x with | (m_3, s_2, A_7, cap_7, cs_4) => loopF (ready_Settle_s2 n x_4) m_3 s_2 = some b_2 ∧ RepSeq MM (s_2.1.map (Dat.int .i8)) cs_4) (fun (x : Nat × (List Int × Int) × (Option Addr) × Nat × (List Value)) => match x with | (m_3, s_2, A_7, cap_7, cs_4) => m_3) (n, (s_1, (0 : Int)), A_4, cap_4, cs_2) (f.kp) p_8 ⟨hL_2, (RepSeq.mono hM_6 _ _ hr_3)⟩ ?_) ?_
    ·rintro ⟨m_3, s_2, A_7, cap_7, cs_4⟩ M_7 _ w_6 hM_7 I_2 f p_9
     obtain ⟨I_2L, hr_7⟩ := I_2
     obtain ⟨m_4, r_2, rfl, hs_2, hn_2⟩ := loop_step I_2L
     unfold ready_Settle_s2 at hs_2
     refine RR (Y f 1 fun _ f => eT (R_seq (RcF f hs_2 (fun h_5 hF_11 => ?_) fun h_5 hF_15 => ?_)))
     ·have k_5 := dI.1 h_5
      refine wp_skip (T_n (R_seq (wp_block (RR ?_))))
      obtain ⟨x_5, hx_5, hF_12⟩ := bS hF_11
      obtain ⟨b_3, cap_8, hv_3, hcap_1⟩ := p_9.rowAddr 1 rfl (getI_pos hx_5)
      have f := f.st 29 (hv_3)
      refine Z f (Y29 rfl (ad := ⟨b_3, 0, none⟩) (len := x_4.length) (cap := cap_8) (k := .i64) (i := s_2.2) (e := 3) (sz := 1) (getI_nn hx_5) (getI_lt hx_5)) fun _ f => ?_
      have f := f.st 29 (hv_3.symm)
      obtain ⟨c_1, -, hr_8, hc_1⟩ := RepSeq.get s_2.2.toNat (szd_all (szd_int .i64)) (RepSeq.mono hM_7 _ _ hr_6) (getI_map hx_5)
      obtain rfl : c_1 = [.int .i64 x_5] := hr_8
      refine Z f (Y31 (v := .int .i64 x_5) rfl (ad := (⟨b_3, 0, none⟩ : Addr).add (s_2.2.toNat * 1)) (by simpa [Addr.add] using (fun j v h => row_at (p_9.rowCell 1 rfl hv_3) hc_1 j v h) 0 _ rfl)) fun _ f => Y f 1 fun _ f => eT (R_reg (Y f 2 fun _ f => ?_))
      obtain ⟨x_6, hx_6, hF_13⟩ := bS hF_12
      obtain ⟨b_4, cap_9, hv_4, hcap_2⟩ := p_9.rowAddr 0 rfl (getI_pos hx_6)
      have f := f.st 35 (hv_4)
      refine Z f (Y29 rfl (ad := ⟨b_4, 0, none⟩) (len := s_2.1.length) (cap := cap_9) (k := .i64) (i := x_5) (e := 24) (sz := 1) (getI_nn hx_6) (getI_lt hx_6)) fun _ f => ?_
      have f := f.st 35 (hv_4.symm)
      refine Y25 (it := x_5) (d := s_2.1) (f := (Dat.int .i8)) (xv := (5 : Int)) (v := .int .i8 5) f p_9 hv_4 rfl rfl (by exact rfl) (szd_int .i8) hx_6 hr_7 fun w_7 p_10 hr_9 _ f => ?_
      have p_11 : Hp w0 M_7 ((Ent.row 24 1 (.slice A_7 (s_2.1.set x_5.toNat (5 : Int)).length cap_7) (s_2.1.set x_5.toNat (5 : Int)).length (cs_4.set x_5.toNat (.int .i8 5))) :: (Ent.row 3 1 (.slice A_6 x_4.length cap_6) x_4.length cs_3) :: H) w_7 := p_10.rowVal (by simp only [List.length_set])
      have f := Frm.set f 9 (v := .slice A_7 s_2.1.length cap_7) (v' := .slice A_7 (s_2.1.set x_5.toNat (5 : Int)).length cap_7) (by kernel_rfl) (by simp only [List.length_set])
      have f := Frm.set f 35 (v := .slice A_7 s_2.1.length cap_7) (v' := .slice A_7 (s_2.1.set x_5.toNat (5 : Int)).length cap_7) (by kernel_rfl) (by simp only [List.length_set])
      refine W_end rfl (B_n (T_n (R_reg ?_)))
      obtain ⟨g_1, hF_14⟩ := nS hF_13
      refine Y f 1 fun _ f => ?_
      have f := f.st 38 (congrArg (Value.int .i64) (inR_wrap g_1))
      refine Y f 1 fun _ f => eT ?_
      obtain rfl := sI hF_14
      exact ⟨⟨m_4, (s_2.1.set x_5.toNat (5 : Int), s_2.2 + 1), A_7, cap_7, cs_4.set x_5.toNat (.int .i8 5)⟩, Nat.lt_succ_self _, M_7, hM_7, ⟨hn_2, hr_9⟩, f.kp, p_11⟩
     ·have k_6 := iff_f dI h_5
      refine wp_exit (T_x (T_x ?_))
      obtain rfl := sI hF_15
      exact ⟨rfl, s_2.1, (sI hn_2).symm, M_7, hM_7, A_7, cap_7, cs_4, hr_7, f.kp, p_9⟩
    ·rintro _ _ w_9 ⟨rfl, y_1, hq_, M_8, hM_8, A_8, cap_10, cs_5, hr_10, f, p_12⟩
     subst b_2
     refine B_x (B_n ?_)
     have p_15 := p_12.pl [1]
     refine T_n ?_
     obtain rfl := sI hF_10
     exact ⟨⟨m_2, y_1, A_8, cap_10, cs_5⟩, Nat.lt_succ_self _, M_8, ((hM_3.trans hM_6).trans hM_8), ⟨hn_1, hr_10⟩, f.kp, (p_15.dropN 1)⟩
  ·rintro _ _ w_11 ⟨rfl, y_2, hq_, M_9, hM_9, A_9, cap_11, cs_6, hr_11, f, p_13⟩
   subst b_1
   refine B_r (E_ret2 f rfl (by kernel_rfl : Vc.look _ 6 = some (.slice A_9 y_2.length cap_11)) (by kernel_rfl : Vc.look _ 7 = some (.int .i64 0)) ?_)
   obtain rfl := sI hF_6
   exact ⟨_, rfl, M_9, _, ((hM_1.trans hM_2).trans hM_9), p_13, ⟨A_9, cap_11, cs_6, rfl, rfl, hr_11⟩⟩
def cleanup_States_s1 (n : Nat) (d0 : TL0) (x_2 : List Int) (s_1 : List Int × Int) : Option (Lp (List Int × Int) (List Int)) :=
    bif (decide (s_1.2 < ((x_2.length : Nat) : Int))) then
      ((getI x_2 s_1.2).bind fun x_3 =>
      (getI s_1.1 x_3).bind fun x_4 =>
      (forward_Task n d0 x_3 (2 : Int)).bind fun x_5 =>
      bif x_5.2 then
        ((getI (s_1.1.set x_3.toNat (1 : Int)) x_3).bind fun x_6 =>
        need (inR .i64 (s_1.2 + 1)) <|
        some (.nx ((s_1.1.set x_3.toNat (1 : Int)).set x_3.toNat ((mget (mput (mput (mput ([] : List (Int × Int)) (0 : Int) (2 : Int)) (1 : Int) (3 : Int)) (2 : Int) (4 : Int)) x_5.1.fState).getD (0 : Int)), s_1.2 + 1)))
      else
        need (inR .i64 (s_1.2 + 1)) <|
        some (.nx (s_1.1.set x_3.toNat (1 : Int), s_1.2 + 1)))
    else
      some (.br s_1.1)
def cleanup_States (n : Nat) (d0 : TL0) : Option (List Int) :=
  (forward_May n d0).bind fun x_1 =>
  bif !x_1 then
    (some (([] : List Int)))
  else
    need (0 ≤ ((d0.fChanges.length : Nat) : Int) ∧ ((d0.fChanges.length : Nat) : Int) * 1 ≤ 140737488355328 ∧ ((d0.fChanges.length : Nat) : Int) ≤ 140737488355328) <|
    (cleanup_Goes n d0).bind fun x_2 =>
    (loopF (cleanup_States_s1 n d0 x_2) n (List.replicate ((d0.fChanges.length : Nat) : Int).toNat (0 : Int), (0 : Int))).bind fun y_1 =>
    (change_Leans n d0 (true)).bind fun x_7 =>
    (ready_Settle n x_7 y_1 (true)).bind fun x_8 =>
    some (x_8.1)
set_option maxRecDepth 20000 in
theorem cleanup_States_ok (n : Nat) (M : Mem) (c0 : List Value) (d0 : TL0) (h0 : Rep M (emb_TL0 d0) c0) (r : List Int) (hF : cleanup_States n d0 = some r) : OkH Try.prog M [] 39 [.agg c0.toArray] (fun M' E' v => ∃ (A0 : Option Addr) (k0 : Nat) (s0 : List Value), v = .slice A0 r.length k0 ∧ E' = [.row 24 1 (.slice A0 r.length k0) r.length s0] ∧ RepSeq M' (r.map (Dat.int .i8)) s0) := by
 unfold cleanup_States at hF
 intro M1 hM0 w0 H w p0
 replace h0 := Rep.mono hM0 _ _ h0
 obtain ⟨A_1, cap_1, A_2, cap_2, A_3, cap_3, A_4, cap_4, A_5, cap_5, A_6, cap_6, A_7, cap_7, A_8, cap_8, A_9, cap_9, A_10, cap_10, rfl, h_1, h_2, h_3, h_4, h_5, h_6, h_7, h_8, h_9, h_10⟩ := TL0.opn h0
 refine R_enter 51 Try.func39 rfl rfl (by simp) fun a0 f0 => RR (Y13 (cs := #[.int .i8 d0.fKind, .int .i64 d0.fWidth, .slice A_1 d0.fOld.fOwned.length cap_1, .slice A_2 d0.fOld.fPending.length cap_2, .slice A_3 d0.fOld.fRetained.length cap_3, .slice A_4 d0.fOld.fOuts.length cap_4, S d0.fOld.fText, .slice A_5 d0.fOld.fArgs.length cap_5, .int .i64 d0.fOld.fCalls, .int .i8 d0.fOld.fStatus, .slice A_6 d0.fNew.fScopes.length cap_6, .slice A_7 d0.fNew.fNodes.length cap_7, S d0.fText, .slice A_8 d0.fArgs.length cap_8, .slice A_9 d0.fChanges.length cap_9, .slice A_10 d0.fTasks.length cap_10, .int .i8 d0.fPhase, .int .i8 d0.fStatus]) (T := 55) f0 p0 fun b_1 M_1 w_1 hM_1 hc_1 p_1 _ f => ?_)
 have hc_2 := fz_box hc_1
 refine Y f 1 fun _ f => eT (R_seq (RR (Z (v := .agg #[.int .i8 d0.fKind, .int .i64 d0.fWidth, .slice A_1 d0.fOld.fOwned.length cap_1, .slice A_2 d0.fOld.fPending.length cap_2, .slice A_3 d0.fOld.fRetained.length cap_3, .slice A_4 d0.fOld.fOuts.length cap_4, S d0.fOld.fText, .slice A_5 d0.fOld.fArgs.length cap_5, .int .i64 d0.fOld.fCalls, .int .i8 d0.fOld.fStatus, .slice A_6 d0.fNew.fScopes.length cap_6, .slice A_7 d0.fNew.fNodes.length cap_7, S d0.fText, .slice A_8 d0.fArgs.length cap_8, .slice A_9 d0.fChanges.length cap_9, .slice A_10 d0.fTasks.length cap_10, .int .i8 d0.fPhase, .int .i8 d0.fStatus]) f (Y32 (cs := [.int .i8 d0.fKind, .int .i64 d0.fWidth, .slice A_1 d0.fOld.fOwned.length cap_1, .slice A_2 d0.fOld.fPending.length cap_2, .slice A_3 d0.fOld.fRetained.length cap_3, .slice A_4 d0.fOld.fOuts.length cap_4, S d0.fOld.fText, .slice A_5 d0.fOld.fArgs.length cap_5, .int .i64 d0.fOld.fCalls, .int .i8 d0.fOld.fStatus, .slice A_6 d0.fNew.fScopes.length cap_6, .slice A_7 d0.fNew.fNodes.length cap_7, S d0.fText, .slice A_8 d0.fArgs.length cap_8, .slice A_9 d0.fChanges.length cap_9, .slice A_10 d0.fTasks.length cap_10, .int .i8 d0.fPhase, .int .i8 d0.fStatus]) rfl (ad := ⟨b_1, 0, none⟩) (fun j v h => p_1.cell (hc_2 j v h))) fun _ f => ?_)))
 obtain ⟨x_1, hx_1, hF_1⟩ := bS hF
 refine Y18 f p_1 (forward_May_ok n _ _ d0 (TL0.shutx (x := d0) (h_1.mono hM_1) (h_2.mono hM_1) (h_3.mono hM_1) (h_4.mono hM_1) (h_5.mono hM_1) (h_6.mono hM_1) (h_7.mono hM_1) (h_8.mono hM_1) (h_9.mono hM_1) (h_10.mono hM_1)) x_1 hx_1) fun w_2 p_2 _ f => Y f 1 fun _ f => eT (RcF f hF_1 (fun h_11 hF_2 => ?_) fun h_11 hF_3 => ?_)
 ·have k_1 : (x_1) = false := by simpa using h_11
  refine RR (Y f 1 fun _ f => eT (wp_ret (T_r ?_)))
  obtain ⟨A_11, cap_11, hv_1⟩ : ∃ A cap, Value.slice none 0 0 = .slice A ([] : List Int).length cap := ⟨none, 0, rfl⟩
  have p_3 : Hp w0 M_1 ((Ent.row 24 1 (.slice A_11 ([] : List Int).length cap_11) ([] : List Int).length []) :: H) w_2 := by rw [← hv_1]; exact p_2.nilRow 24 1
  have f := f.st 2 (hv_1)
  have hr_1 : RepSeq M_1 (([] : List Int).map (Dat.int .i8)) [] := rfl
  refine E_ret1 f rfl (by kernel_rfl : Vc.look _ 2 = some (.slice A_11 ([] : List Int).length cap_11)) ?_
  obtain rfl := sI hF_2
  exact ⟨_, rfl, M_1, _, hM_1, p_3, ⟨A_11, cap_11, [], rfl, rfl, hr_1⟩⟩
 ·have k_2 : (x_1) = true := by simpa using h_11
  refine wp_skip (T_n (RR (Y f 1 fun _ f => Y15 f p_2 hc_2 14 rfl fun _ f => Y f 1 fun _ f => ?_)))
  obtain ⟨g_1, hF_4⟩ := nS hF_3
  refine Y23 (f := (Dat.int .i8)) (x := (0 : Int)) (z := .int .i8 0) (m := ((d0.fChanges.length : Nat) : Int)) (bytes := 1) (e := 24) f p_2 (by exact rfl) rfl rfl rfl rfl g_1 fun A_12 cap_12 cs_1 w_3 p_4 hr_2 _ f => Y f 1 fun _ f => eT (R_seq (RR (Z (v := .agg #[.int .i8 d0.fKind, .int .i64 d0.fWidth, .slice A_1 d0.fOld.fOwned.length cap_1, .slice A_2 d0.fOld.fPending.length cap_2, .slice A_3 d0.fOld.fRetained.length cap_3, .slice A_4 d0.fOld.fOuts.length cap_4, S d0.fOld.fText, .slice A_5 d0.fOld.fArgs.length cap_5, .int .i64 d0.fOld.fCalls, .int .i8 d0.fOld.fStatus, .slice A_6 d0.fNew.fScopes.length cap_6, .slice A_7 d0.fNew.fNodes.length cap_7, S d0.fText, .slice A_8 d0.fArgs.length cap_8, .slice A_9 d0.fChanges.length cap_9, .slice A_10 d0.fTasks.length cap_10, .int .i8 d0.fPhase, .int .i8 d0.fStatus]) f (Y32 (cs := [.int .i8 d0.fKind, .int .i64 d0.fWidth, .slice A_1 d0.fOld.fOwned.length cap_1, .slice A_2 d0.fOld.fPending.length cap_2, .slice A_3 d0.fOld.fRetained.length cap_3, .slice A_4 d0.fOld.fOuts.length cap_4, S d0.fOld.fText, .slice A_5 d0.fOld.fArgs.length cap_5, .int .i64 d0.fOld.fCalls, .int .i8 d0.fOld.fStatus, .slice A_6 d0.fNew.fScopes.length cap_6, .slice A_7 d0.fNew.fNodes.length cap_7, S d0.fText, .slice A_8 d0.fArgs.length cap_8, .slice A_9 d0.fChanges.length cap_9, .slice A_10 d0.fTasks.length cap_10, .int .i8 d0.fPhase, .int .i8 d0.fStatus]) rfl (ad := ⟨b_1, 0, none⟩) (fun j v h => p_4.cell (hc_2 j v h))) fun _ f => ?_)))
  obtain ⟨x_2, hx_2, hF_5⟩ := bS hF_4
  refine Y17 (E := []) (H := ((Ent.row 24 1 (.slice A_12 (List.replicate ((d0.fChanges.length : Nat) : Int).toNat (0 : Int)).length cap_12) (List.replicate ((d0.fChanges.length : Nat) : Int).toNat (0 : Int)).length cs_1) :: H)) f p_4 (cleanup_Goes_ok n _ _ d0 (TL0.shutx (x := d0) (h_1.mono hM_1) (h_2.mono hM_1) (h_3.mono hM_1) (h_4.mono hM_1) (h_5.mono hM_1) (h_6.mono hM_1) (h_7.mono hM_1) (h_8.mono hM_1) (h_9.mono hM_1) (h_10.mono hM_1)) x_2 hx_2) fun _ M_2 E_1 w_4 hM_2 p_5 q_1 _ f => ?_
  obtain ⟨A_13, cap_13, cs_2, rfl, rfl, hr_3⟩ := q_1
  refine Y f 2 fun _ f => eT (wp_block ?_)
  have p_6 := p_5.pl [1]
  obtain ⟨b_2, hL_1, hF_6⟩ := bS hF_5
  refine wp_mono (Q := fun e a w => (e = .exit 0 ∧ (∃ y_1 : List Int, b_2 = y_1 ∧ ∃ M_5 : Mem, M_2.le M_5 ∧ ∃ (A_16 : Option Addr), ∃ (cap_19 : Nat), ∃ (cs_4 : List Value), RepSeq M_5 (y_1.map (Dat.int .i8)) cs_4 ∧ Frm 51 [(1, .pointer (some (⟨b_1, 0, none⟩))), (3, .slice A_16 y_1.length cap_19)] a ∧ Hp w0 M_5 ((Ent.row 24 1 (.slice A_16 y_1.length cap_19) y_1.length cs_4) :: (Ent.row 3 1 (.slice A_13 x_2.length cap_13) x_2.length cs_2) :: H) w))) (R_loop (n := 51) (w0 := w0) (M := M_2) (fun (x : Nat × (List Int × Int) × (Option Addr) × Nat × (List Value)) => match x with | (m_1, s_1, A_14, cap_14, cs_3) => [(1, .pointer (some (⟨b_1, 0, none⟩))), (3, .slice A_14 s_1.1.length cap_14), (18, .slice A_13 x_2.length cap_13), (19, .int .i64 ((x_2.length : Nat) : Int)), (20, .int .i64 s_1.2)]) (fun (x : Nat × (List Int × Int) × (Option Addr) × Nat × (List Value)) => match x with | (m_1, s_1, A_14, cap_14, cs_3) => ((Ent.row 24 1 (.slice A_14 s_1.1.length cap_14) s_1.1.length cs_3) :: (Ent.row 3 1 (.slice A_13 x_2.length cap_13) x_2.length cs_2) :: H)) (fun (x : Nat × (List Int × Int) × (Option Addr) × Nat × (List Value)) (MM : Mem) => match x with | (m_1, s_1, A_14, cap_14, cs_3) => loopF (cleanup_States_s1 n d0 x_2) m_1 s_1 = some b_2 ∧ RepSeq MM (s_1.1.map (Dat.int .i8)) cs_3) (fun (x : Nat × (List Int × Int) × (Option Addr) × Nat × (List Value)) => match x with | (m_1, s_1, A_14, cap_14, cs_3) => m_1) (n, (List.replicate ((d0.fChanges.length : Nat) : Int).toNat (0 : Int), (0 : Int)), A_12, cap_12, cs_1) (f.kp) p_6 ⟨hL_1, (RepSeq.mono hM_2 _ _ hr_2)⟩ ?_) ?_
  ·rintro ⟨m_1, s_1, A_14, cap_14, cs_3⟩ M_3 _ w_5 hM_3 I_1 f p_7
   obtain ⟨I_1L, hr_4⟩ := I_1
   obtain ⟨m_2, r_1, rfl, hs_1, hn_1⟩ := loop_step I_1L
   unfold cleanup_States_s1 at hs_1
   refine RR (Y f 1 fun _ f => eT (R_seq (RcF f hs_1 (fun h_12 hF_7 => ?_) fun h_12 hF_16 => ?_)))
   ·have k_3 := dI.1 h_12
    refine wp_skip (T_n (R_seq (wp_block (RR ?_))))
    obtain ⟨x_3, hx_3, hF_8⟩ := bS hF_7
    obtain ⟨b_3, cap_15, hv_2, hcap_1⟩ := p_7.rowAddr 1 rfl (getI_pos hx_3)
    have f := f.st 18 (hv_2)
    refine Z f (Y29 rfl (ad := ⟨b_3, 0, none⟩) (len := x_2.length) (cap := cap_15) (k := .i64) (i := s_1.2) (e := 3) (sz := 1) (getI_nn hx_3) (getI_lt hx_3)) fun _ f => ?_
    have f := f.st 18 (hv_2.symm)
    obtain ⟨c_1, -, hr_5, hc_3⟩ := RepSeq.get s_1.2.toNat (szd_all (szd_int .i64)) (RepSeq.mono hM_3 _ _ hr_3) (getI_map hx_3)
    obtain rfl : c_1 = [.int .i64 x_3] := hr_5
    refine Z f (Y31 (v := .int .i64 x_3) rfl (ad := (⟨b_3, 0, none⟩ : Addr).add (s_1.2.toNat * 1)) (by simpa [Addr.add] using (fun j v h => row_at (p_7.rowCell 1 rfl hv_2) hc_3 j v h) 0 _ rfl)) fun _ f => Y f 1 fun _ f => eT (RR (Y f 2 fun _ f => ?_))
    obtain ⟨x_4, hx_4, hF_9⟩ := bS hF_8
    obtain ⟨b_4, cap_16, hv_3, hcap_2⟩ := p_7.rowAddr 0 rfl (getI_pos hx_4)
    have f := f.st 24 (hv_3)
    refine Z f (Y29 rfl (ad := ⟨b_4, 0, none⟩) (len := s_1.1.length) (cap := cap_16) (k := .i64) (i := x_3) (e := 24) (sz := 1) (getI_nn hx_4) (getI_lt hx_4)) fun _ f => ?_
    have f := f.st 24 (hv_3.symm)
    refine Y25 (it := x_3) (d := s_1.1) (f := (Dat.int .i8)) (xv := (1 : Int)) (v := .int .i8 1) f p_7 hv_3 rfl rfl (by exact rfl) (szd_int .i8) hx_4 hr_4 fun w_6 p_8 hr_6 _ f => ?_
    have p_9 : Hp w0 M_3 ((Ent.row 24 1 (.slice A_14 (s_1.1.set x_3.toNat (1 : Int)).length cap_14) (s_1.1.set x_3.toNat (1 : Int)).length (cs_3.set x_3.toNat (.int .i8 1))) :: (Ent.row 3 1 (.slice A_13 x_2.length cap_13) x_2.length cs_2) :: H) w_6 := p_8.rowVal (by simp only [List.length_set])
    have f := Frm.set f 3 (v := .slice A_14 s_1.1.length cap_14) (v' := .slice A_14 (s_1.1.set x_3.toNat (1 : Int)).length cap_14) (by kernel_rfl) (by simp only [List.length_set])
    have f := Frm.set f 24 (v := .slice A_14 s_1.1.length cap_14) (v' := .slice A_14 (s_1.1.set x_3.toNat (1 : Int)).length cap_14) (by kernel_rfl) (by simp only [List.length_set])
    refine eT (RR (Z (v := .agg #[.int .i8 d0.fKind, .int .i64 d0.fWidth, .slice A_1 d0.fOld.fOwned.length cap_1, .slice A_2 d0.fOld.fPending.length cap_2, .slice A_3 d0.fOld.fRetained.length cap_3, .slice A_4 d0.fOld.fOuts.length cap_4, S d0.fOld.fText, .slice A_5 d0.fOld.fArgs.length cap_5, .int .i64 d0.fOld.fCalls, .int .i8 d0.fOld.fStatus, .slice A_6 d0.fNew.fScopes.length cap_6, .slice A_7 d0.fNew.fNodes.length cap_7, S d0.fText, .slice A_8 d0.fArgs.length cap_8, .slice A_9 d0.fChanges.length cap_9, .slice A_10 d0.fTasks.length cap_10, .int .i8 d0.fPhase, .int .i8 d0.fStatus]) f (Y32 (cs := [.int .i8 d0.fKind, .int .i64 d0.fWidth, .slice A_1 d0.fOld.fOwned.length cap_1, .slice A_2 d0.fOld.fPending.length cap_2, .slice A_3 d0.fOld.fRetained.length cap_3, .slice A_4 d0.fOld.fOuts.length cap_4, S d0.fOld.fText, .slice A_5 d0.fOld.fArgs.length cap_5, .int .i64 d0.fOld.fCalls, .int .i8 d0.fOld.fStatus, .slice A_6 d0.fNew.fScopes.length cap_6, .slice A_7 d0.fNew.fNodes.length cap_7, S d0.fText, .slice A_8 d0.fArgs.length cap_8, .slice A_9 d0.fChanges.length cap_9, .slice A_10 d0.fTasks.length cap_10, .int .i8 d0.fPhase, .int .i8 d0.fStatus]) rfl (ad := ⟨b_1, 0, none⟩) (fun j v h => p_9.cell ((fzu (hM_2.trans hM_3) hc_2) j v h))) fun _ f => Y f 1 fun _ f => ?_))
    obtain ⟨x_5, hx_5, hF_10⟩ := bS hF_9
    refine Y16 f p_9 (forward_Task_ok n _ _ d0 (TL0.shutx (x := d0) (h_1.mono ((hM_1.trans hM_2).trans hM_3)) (h_2.mono ((hM_1.trans hM_2).trans hM_3)) (h_3.mono ((hM_1.trans hM_2).trans hM_3)) (h_4.mono ((hM_1.trans hM_2).trans hM_3)) (h_5.mono ((hM_1.trans hM_2).trans hM_3)) (h_6.mono ((hM_1.trans hM_2).trans hM_3)) (h_7.mono ((hM_1.trans hM_2).trans hM_3)) (h_8.mono ((hM_1.trans hM_2).trans hM_3)) (h_9.mono ((hM_1.trans hM_2).trans hM_3)) (h_10.mono ((hM_1.trans hM_2).trans hM_3))) x_3 (2 : Int) x_5 hx_5) fun _ M_4 w_7 hM_4 p_10 q_2 _ f => ?_
    obtain ⟨c_2, rfl, hr_7⟩ := q_2
    obtain ⟨A_15, cap_17, rfl, h_13⟩ := TR0.opn hr_7
    refine Y f 3 fun _ f => Y12 f p_10 (.cells #[.int .i64 0, .int .i8 0, .int .i64 0, .int .i8 0, S [], S [], .slice none 0 0, .int .i8 0, S []] 84 (0, 0)) fun b_5 w_8 p_11 _ f => Y27 (vs := [.int .i64 x_5.1.fChange, .int .i8 x_5.1.fPhase, .int .i64 x_5.1.fCall.fToken, .int .i8 x_5.1.fCall.fKind, S x_5.1.fCall.fPhys, S x_5.1.fCall.fType, .slice A_15 x_5.1.fCall.fProps.length cap_17, .int .i8 x_5.1.fState, S x_5.1.fPhys]) (j := 0) f p_11 rfl rfl (by simp [Value.oneCell', S]) (by simp) (by decide) (cs' := #[.int .i64 x_5.1.fChange, .int .i8 x_5.1.fPhase, .int .i64 x_5.1.fCall.fToken, .int .i8 x_5.1.fCall.fKind, S x_5.1.fCall.fPhys, S x_5.1.fCall.fType, .slice A_15 x_5.1.fCall.fProps.length cap_17, .int .i8 x_5.1.fState, S x_5.1.fPhys]) fun w_9 p_12 _ f => Y f 1 fun _ f => eT (RR (Y f 1 fun _ f => eT (RcF f hF_10 (fun h_14 hF_11 => ?_) fun h_14 hF_14 => ?_)))
    ·refine R_reg (Y f 2 fun _ f => W_newmap (Value.int .i8) (Value.int .i8) f p_12 (by kernel_rfl) (by kernel_rfl) rfl rfl rfl fun bm_1 w_10 p_13 _ f => Y24 (ek := (Value.int .i8)) (ev := (Value.int .i8)) (m := ([] : List (Int × Int))) (k := (0 : Int)) (v := (2 : Int)) (kt := 24) (et := 24) f p_13 rfl (.inr rfl) (intKey (by kernel_rfl)) fun w_11 p_14 _ f => Y24 (ek := (Value.int .i8)) (ev := (Value.int .i8)) (m := mput ([] : List (Int × Int)) (0 : Int) (2 : Int)) (k := (1 : Int)) (v := (3 : Int)) (kt := 24) (et := 24) f p_14 rfl (.inr rfl) (intKey (by kernel_rfl)) fun w_12 p_15 _ f => Y24 (ek := (Value.int .i8)) (ev := (Value.int .i8)) (m := mput (mput ([] : List (Int × Int)) (0 : Int) (2 : Int)) (1 : Int) (3 : Int)) (k := (2 : Int)) (v := (4 : Int)) (kt := 24) (et := 24) f p_15 rfl (.inr rfl) (intKey (by kernel_rfl)) fun w_13 p_16 _ f => Y f 2 fun _ f => Z f (Y31 (v := .int .i8 x_5.1.fState) rfl (ad := ⟨b_5, 7, none⟩) (p_16.ownCell 1 rfl 7)) fun _ f => Z (v := .int .i8 ((mget (mput (mput (mput ([] : List (Int × Int)) (0 : Int) (2 : Int)) (1 : Int) (3 : Int)) (2 : Int) (4 : Int)) x_5.1.fState).getD (0 : Int))) f (Y33 (ek := (Value.int .i8)) (ev := (Value.int .i8)) (m := mput (mput (mput ([] : List (Int × Int)) (0 : Int) (2 : Int)) (1 : Int) (3 : Int)) (2 : Int) (4 : Int)) (k := x_5.1.fState) (z := (0 : Int)) (kt := 24) (et := 24) rfl (intKey (by kernel_rfl)) (p_16.ownObj 0 rfl)) fun _ f => ?_)
     obtain ⟨x_6, hx_6, hF_12⟩ := bS hF_11
     obtain ⟨b_6, cap_18, hv_4, hcap_3⟩ := p_16.rowAddr 2 rfl (getI_pos hx_6)
     have f := f.st 34 (hv_4)
     refine Z f (Y29 rfl (ad := ⟨b_6, 0, none⟩) (len := (s_1.1.set x_3.toNat (1 : Int)).length) (cap := cap_18) (k := .i64) (i := x_3) (e := 24) (sz := 1) (getI_nn hx_6) (getI_lt hx_6)) fun _ f => ?_
     have f := f.st 34 (hv_4.symm)
     have p_17 := p_16.pl [2]
     refine Y25 (it := x_3) (d := s_1.1.set x_3.toNat (1 : Int)) (f := (Dat.int .i8)) (xv := (mget (mput (mput (mput ([] : List (Int × Int)) (0 : Int) (2 : Int)) (1 : Int) (3 : Int)) (2 : Int) (4 : Int)) x_5.1.fState).getD (0 : Int)) (v := .int .i8 ((mget (mput (mput (mput ([] : List (Int × Int)) (0 : Int) (2 : Int)) (1 : Int) (3 : Int)) (2 : Int) (4 : Int)) x_5.1.fState).getD (0 : Int))) f p_17 hv_4 rfl rfl (by exact rfl) (szd_int .i8) hx_6 (RepSeq.mono hM_4 _ _ hr_6) fun w_14 p_18 hr_8 _ f => ?_
     have p_19 : Hp w0 M_4 ((Ent.row 24 1 (.slice A_14 ((s_1.1.set x_3.toNat (1 : Int)).set x_3.toNat ((mget (mput (mput (mput ([] : List (Int × Int)) (0 : Int) (2 : Int)) (1 : Int) (3 : Int)) (2 : Int) (4 : Int)) x_5.1.fState).getD (0 : Int))).length cap_14) ((s_1.1.set x_3.toNat (1 : Int)).set x_3.toNat ((mget (mput (mput (mput ([] : List (Int × Int)) (0 : Int) (2 : Int)) (1 : Int) (3 : Int)) (2 : Int) (4 : Int)) x_5.1.fState).getD (0 : Int))).length ((cs_3.set x_3.toNat (.int .i8 1)).set x_3.toNat (.int .i8 ((mget (mput (mput (mput ([] : List (Int × Int)) (0 : Int) (2 : Int)) (1 : Int) (3 : Int)) (2 : Int) (4 : Int)) x_5.1.fState).getD (0 : Int))))) :: (Ent.obj bm_1 (mapO (Value.int .i8) (Value.int .i8) (mput (mput (mput ([] : List (Int × Int)) (0 : Int) (2 : Int)) (1 : Int) (3 : Int)) (2 : Int) (4 : Int)))) :: (Ent.obj b_5 (.cells #[.int .i64 x_5.1.fChange, .int .i8 x_5.1.fPhase, .int .i64 x_5.1.fCall.fToken, .int .i8 x_5.1.fCall.fKind, S x_5.1.fCall.fPhys, S x_5.1.fCall.fType, .slice A_15 x_5.1.fCall.fProps.length cap_17, .int .i8 x_5.1.fState, S x_5.1.fPhys] 84 (0, 0))) :: (Ent.row 3 1 (.slice A_13 x_2.length cap_13) x_2.length cs_2) :: H) w_14 := p_18.rowVal (by simp only [List.length_set])
     have f := Frm.set f 3 (v := .slice A_14 (s_1.1.set x_3.toNat (1 : Int)).length cap_14) (v' := .slice A_14 ((s_1.1.set x_3.toNat (1 : Int)).set x_3.toNat ((mget (mput (mput (mput ([] : List (Int × Int)) (0 : Int) (2 : Int)) (1 : Int) (3 : Int)) (2 : Int) (4 : Int)) x_5.1.fState).getD (0 : Int))).length cap_14) (by kernel_rfl) (by simp only [List.length_set])
     have f := Frm.set f 34 (v := .slice A_14 (s_1.1.set x_3.toNat (1 : Int)).length cap_14) (v' := .slice A_14 ((s_1.1.set x_3.toNat (1 : Int)).set x_3.toNat ((mget (mput (mput (mput ([] : List (Int × Int)) (0 : Int) (2 : Int)) (1 : Int) (3 : Int)) (2 : Int) (4 : Int)) x_5.1.fState).getD (0 : Int))).length cap_14) (by kernel_rfl) (by simp only [List.length_set])
     refine W_end rfl (B_n (T_n (R_reg ?_)))
     obtain ⟨g_2, hF_13⟩ := nS hF_12
     refine Y f 1 fun _ f => ?_
     have f := f.st 42 (congrArg (Value.int .i64) (inR_wrap g_2))
     refine Y f 1 fun _ f => W_end rfl ?_
     have p_24 := p_19.pl [3, 1, 3, 3]
     refine T_n ?_
     obtain rfl := sI hF_13
     exact ⟨⟨m_2, ((s_1.1.set x_3.toNat (1 : Int)).set x_3.toNat ((mget (mput (mput (mput ([] : List (Int × Int)) (0 : Int) (2 : Int)) (1 : Int) (3 : Int)) (2 : Int) (4 : Int)) x_5.1.fState).getD (0 : Int)), s_1.2 + 1), A_14, cap_14, (cs_3.set x_3.toNat (.int .i8 1)).set x_3.toNat (.int .i8 ((mget (mput (mput (mput ([] : List (Int × Int)) (0 : Int) (2 : Int)) (1 : Int) (3 : Int)) (2 : Int) (4 : Int)) x_5.1.fState).getD (0 : Int)))⟩, Nat.lt_succ_self _, M_4, (hM_3.trans hM_4), ⟨hn_1, hr_8⟩, f.kp, (p_24.dropN 2)⟩
    ·refine wp_skip (B_n (T_n (R_reg ?_)))
     obtain ⟨g_3, hF_15⟩ := nS hF_14
     refine Y f 1 fun _ f => ?_
     have f := f.st 42 (congrArg (Value.int .i64) (inR_wrap g_3))
     refine Y f 1 fun _ f => eT ?_
     obtain rfl := sI hF_15
     exact ⟨⟨m_2, (s_1.1.set x_3.toNat (1 : Int), s_1.2 + 1), A_14, cap_14, cs_3.set x_3.toNat (.int .i8 1)⟩, Nat.lt_succ_self _, M_4, (hM_3.trans hM_4), ⟨hn_1, (RepSeq.mono hM_4 _ _ hr_6)⟩, f.kp, (p_12.dropN 1)⟩
   ·have k_6 := iff_f dI h_12
    refine wp_exit (T_x (T_x ?_))
    obtain rfl := sI hF_16
    exact ⟨rfl, s_1.1, (sI hn_1).symm, M_3, hM_3, A_14, cap_14, cs_3, hr_4, f.kp, p_7⟩
  ·rintro _ _ w_16 ⟨rfl, y_1, hq_, M_5, hM_5, A_16, cap_19, cs_4, hr_9, f, p_20⟩
   subst b_2
   refine B_x (T_n (RR (Z (v := .agg #[.int .i8 d0.fKind, .int .i64 d0.fWidth, .slice A_1 d0.fOld.fOwned.length cap_1, .slice A_2 d0.fOld.fPending.length cap_2, .slice A_3 d0.fOld.fRetained.length cap_3, .slice A_4 d0.fOld.fOuts.length cap_4, S d0.fOld.fText, .slice A_5 d0.fOld.fArgs.length cap_5, .int .i64 d0.fOld.fCalls, .int .i8 d0.fOld.fStatus, .slice A_6 d0.fNew.fScopes.length cap_6, .slice A_7 d0.fNew.fNodes.length cap_7, S d0.fText, .slice A_8 d0.fArgs.length cap_8, .slice A_9 d0.fChanges.length cap_9, .slice A_10 d0.fTasks.length cap_10, .int .i8 d0.fPhase, .int .i8 d0.fStatus]) f (Y32 (cs := [.int .i8 d0.fKind, .int .i64 d0.fWidth, .slice A_1 d0.fOld.fOwned.length cap_1, .slice A_2 d0.fOld.fPending.length cap_2, .slice A_3 d0.fOld.fRetained.length cap_3, .slice A_4 d0.fOld.fOuts.length cap_4, S d0.fOld.fText, .slice A_5 d0.fOld.fArgs.length cap_5, .int .i64 d0.fOld.fCalls, .int .i8 d0.fOld.fStatus, .slice A_6 d0.fNew.fScopes.length cap_6, .slice A_7 d0.fNew.fNodes.length cap_7, S d0.fText, .slice A_8 d0.fArgs.length cap_8, .slice A_9 d0.fChanges.length cap_9, .slice A_10 d0.fTasks.length cap_10, .int .i8 d0.fPhase, .int .i8 d0.fStatus]) rfl (ad := ⟨b_1, 0, none⟩) (fun j v h => p_20.cell ((fzu (hM_2.trans hM_5) hc_2) j v h))) fun _ f => ?_)))
   obtain ⟨x_7, hx_7, hF_17⟩ := bS hF_6
   refine Y16 f p_20 (change_Leans_ok n _ _ d0 (TL0.shutx (x := d0) (h_1.mono ((hM_1.trans hM_2).trans hM_5)) (h_2.mono ((hM_1.trans hM_2).trans hM_5)) (h_3.mono ((hM_1.trans hM_2).trans hM_5)) (h_4.mono ((hM_1.trans hM_2).trans hM_5)) (h_5.mono ((hM_1.trans hM_2).trans hM_5)) (h_6.mono ((hM_1.trans hM_2).trans hM_5)) (h_7.mono ((hM_1.trans hM_2).trans hM_5)) (h_8.mono ((hM_1.trans hM_2).trans hM_5)) (h_9.mono ((hM_1.trans hM_2).trans hM_5)) (h_10.mono ((hM_1.trans hM_2).trans hM_5))) (true) x_7 hx_7) fun _ M_6 w_17 hM_6 p_25 q_3 _ f => ?_
   obtain ⟨A_17, cap_20, rfl, h_15⟩ := q_3
   refine Y f 1 fun _ f => ?_
   obtain ⟨M_7, A_18, cap_21, hM_7, hv_5, p_26, h_16, hb_1⟩ := p_25.lend (f := (Dat.int .i8)) (xs := y_1) (szd_int .i8) (RepSeq.mono hM_6 _ _ hr_9)
   have f := f.st 46 (hv_5)
   obtain ⟨x_8, hx_8, hF_18⟩ := bS hF_17
   refine Y17 (E := []) (H := ((Ent.row 3 1 (.slice A_13 x_2.length cap_13) x_2.length cs_2) :: H)) f p_26 (ready_Settle_ok n _ A_17 cap_20 x_7 (h_15.mono hM_7) A_18 cap_21 y_1 h_16 (true) x_8 hx_8) fun _ M_8 E_2 w_18 hM_8 p_27 q_4 _ f => ?_
   obtain ⟨A_19, cap_22, cs_5, rfl, rfl, hr_10⟩ := q_4
   have hr_11 : ∀ M, RepSeq M (x_8.1.map (Dat.int .i8)) cs_5 := fun M => RepSeq.flat (flat_int .i8) _ hr_10
   obtain ⟨M_9, hM_9, p_28⟩ := hb_1 _ _ _ hM_8 p_27
   have f := f.st 46 (hv_5.symm)
   have hr_12 := hr_11 M_9
   refine Y f 5 fun _ f => eT (RR (Y f 2 fun _ f => eT (wp_ret (E_ret1 f rfl (by kernel_rfl : Vc.look _ 2 = some (.slice A_19 x_8.1.length cap_22)) ?_))))
   obtain rfl := sI hF_18
   have p_31 := p_28.pl [1, 2, 2]
   exact ⟨_, rfl, M_9, _, ((((hM_1.trans hM_2).trans hM_5).trans hM_6).trans hM_9), (p_31.dropN 2), ⟨A_19, cap_22, cs_5, rfl, rfl, hr_12⟩⟩
def cleanup_Ready_s1 (n : Nat) (_ : Unit) (x_5 : Int × Int) : Option (Lp Unit (List Int)) :=
    bif (decide (x_5.2 = 1)) then
      (some (.br [x_5.1]))
    else
      some (.nx ())
def cleanup_Ready (n : Nat) (d0 : TL0) : Option (List Int) :=
  (cleanup_States n d0).bind fun x_1 =>
  (forward_Flight n d0).bind fun x_2 =>
  ((bif (!(decide (d0.fPhase = 2))) then
      (some ((true)))
    else
      some ((decide (d0.fWidth ≤ ((x_2.length : Nat) : Int)))) : Option Bool)).bind fun y_1 =>
  bif y_1 then
    (some (([] : List Int)))
  else
    (change_Leans n d0 (true)).bind fun x_3 =>
    (ready_Ready n x_3 x_1 (true)).bind fun x_4 =>
    ((bif (decide (((x_4.1.length : Nat) : Int) = 0)) then
        (some ((decide (((x_2.length : Nat) : Int) = 0))))
      else
        some ((false)) : Option Bool)).bind fun y_2 =>
    bif y_2 then
      (need (x_1.length ≤ 9223372036854775806) <|
      (foldY (cleanup_Ready_s1 n) (backI x_1) ()).bind fun j_3 =>
      (match j_3 with 
      | .nx _ => some (x_4.1) 
      | .br b_4 => some (b_4)))
    else
      some (x_4.1)
set_option maxRecDepth 20000 in
theorem cleanup_Ready_ok (n : Nat) (M : Mem) (c0 : List Value) (d0 : TL0) (h0 : Rep M (emb_TL0 d0) c0) (r : List Int) (hF : cleanup_Ready n d0 = some r) : Ok Try.prog M 22 [.agg c0.toArray] (fun M' v => ∃ (A0 : Option Addr) (k0 : Nat), v = .slice A0 r.length k0 ∧ Sli M' 1 (Dat.int .i64) A0 k0 r) := by
 unfold cleanup_Ready at hF
 intro M1 hM0 w0 H w p0
 replace h0 := Rep.mono hM0 _ _ h0
 obtain ⟨A_1, cap_1, A_2, cap_2, A_3, cap_3, A_4, cap_4, A_5, cap_5, A_6, cap_6, A_7, cap_7, A_8, cap_8, A_9, cap_9, A_10, cap_10, rfl, h_1, h_2, h_3, h_4, h_5, h_6, h_7, h_8, h_9, h_10⟩ := TL0.opn h0
 refine R_enterM 46 Try.func22 rfl rfl (by simp) fun a0 f0 => RR (Y13 (cs := #[.int .i8 d0.fKind, .int .i64 d0.fWidth, .slice A_1 d0.fOld.fOwned.length cap_1, .slice A_2 d0.fOld.fPending.length cap_2, .slice A_3 d0.fOld.fRetained.length cap_3, .slice A_4 d0.fOld.fOuts.length cap_4, S d0.fOld.fText, .slice A_5 d0.fOld.fArgs.length cap_5, .int .i64 d0.fOld.fCalls, .int .i8 d0.fOld.fStatus, .slice A_6 d0.fNew.fScopes.length cap_6, .slice A_7 d0.fNew.fNodes.length cap_7, S d0.fText, .slice A_8 d0.fArgs.length cap_8, .slice A_9 d0.fChanges.length cap_9, .slice A_10 d0.fTasks.length cap_10, .int .i8 d0.fPhase, .int .i8 d0.fStatus]) (T := 55) f0 p0 fun b_1 M_1 w_1 hM_1 hc_1 p_1 _ f => ?_)
 have hc_2 := fz_box hc_1
 refine Y12 f p_1 (.cells #[.slice none 0 0] 27 (0, 0)) fun b_2 w_2 p_2 _ f => eT (R_seq (R_mix (E := []) (Hr := ((Ent.obj b_2 (.cells #[.slice none 0 0] 27 (0, 0))) :: H)) [(0, true), (2, true), (1, false), (3, false), (4, true), (5, true), (6, true)] p_2 (by kernel_rfl) (by kernel_rfl) rfl (by kernel_rfl) (M_eq (v := .agg #[.int .i8 d0.fKind, .int .i64 d0.fWidth, .slice A_1 d0.fOld.fOwned.length cap_1, .slice A_2 d0.fOld.fPending.length cap_2, .slice A_3 d0.fOld.fRetained.length cap_3, .slice A_4 d0.fOld.fOuts.length cap_4, S d0.fOld.fText, .slice A_5 d0.fOld.fArgs.length cap_5, .int .i64 d0.fOld.fCalls, .int .i8 d0.fOld.fStatus, .slice A_6 d0.fNew.fScopes.length cap_6, .slice A_7 d0.fNew.fNodes.length cap_7, S d0.fText, .slice A_8 d0.fArgs.length cap_8, .slice A_9 d0.fChanges.length cap_9, .slice A_10 d0.fTasks.length cap_10, .int .i8 d0.fPhase, .int .i8 d0.fStatus]) f (by kernel_rfl) (by kernel_rfl) rfl rfl (fun _ pq => Y32 (cs := [.int .i8 d0.fKind, .int .i64 d0.fWidth, .slice A_1 d0.fOld.fOwned.length cap_1, .slice A_2 d0.fOld.fPending.length cap_2, .slice A_3 d0.fOld.fRetained.length cap_3, .slice A_4 d0.fOld.fOuts.length cap_4, S d0.fOld.fText, .slice A_5 d0.fOld.fArgs.length cap_5, .int .i64 d0.fOld.fCalls, .int .i8 d0.fOld.fStatus, .slice A_6 d0.fNew.fScopes.length cap_6, .slice A_7 d0.fNew.fNodes.length cap_7, S d0.fText, .slice A_8 d0.fArgs.length cap_8, .slice A_9 d0.fChanges.length cap_9, .slice A_10 d0.fTasks.length cap_10, .int .i8 d0.fPhase, .int .i8 d0.fStatus]) rfl (ad := ⟨b_1, 0, none⟩) (fun j v h => pq.cell (hc_2 j v h))) fun _ f => M_eq (v := .agg #[.int .i8 d0.fKind, .int .i64 d0.fWidth, .slice A_1 d0.fOld.fOwned.length cap_1, .slice A_2 d0.fOld.fPending.length cap_2, .slice A_3 d0.fOld.fRetained.length cap_3, .slice A_4 d0.fOld.fOuts.length cap_4, S d0.fOld.fText, .slice A_5 d0.fOld.fArgs.length cap_5, .int .i64 d0.fOld.fCalls, .int .i8 d0.fOld.fStatus, .slice A_6 d0.fNew.fScopes.length cap_6, .slice A_7 d0.fNew.fNodes.length cap_7, S d0.fText, .slice A_8 d0.fArgs.length cap_8, .slice A_9 d0.fChanges.length cap_9, .slice A_10 d0.fTasks.length cap_10, .int .i8 d0.fPhase, .int .i8 d0.fStatus]) f (by kernel_rfl) (by kernel_rfl) rfl rfl (fun _ pq => Y32 (cs := [.int .i8 d0.fKind, .int .i64 d0.fWidth, .slice A_1 d0.fOld.fOwned.length cap_1, .slice A_2 d0.fOld.fPending.length cap_2, .slice A_3 d0.fOld.fRetained.length cap_3, .slice A_4 d0.fOld.fOuts.length cap_4, S d0.fOld.fText, .slice A_5 d0.fOld.fArgs.length cap_5, .int .i64 d0.fOld.fCalls, .int .i8 d0.fOld.fStatus, .slice A_6 d0.fNew.fScopes.length cap_6, .slice A_7 d0.fNew.fNodes.length cap_7, S d0.fText, .slice A_8 d0.fArgs.length cap_8, .slice A_9 d0.fChanges.length cap_9, .slice A_10 d0.fTasks.length cap_10, .int .i8 d0.fPhase, .int .i8 d0.fStatus]) rfl (ad := ⟨b_1, 0, none⟩) (fun j v h => pq.cell (hc_2 j v h))) fun _ f => M_fix (E := []) fun w_3 p_3 => ?_)))
 obtain ⟨x_1, hx_1, hF_1⟩ := bS hF
 refine Y17 (E := []) (H := ((Ent.obj b_2 (.cells #[.slice none 0 0] 27 (0, 0))) :: H)) f p_3 (cleanup_States_ok n _ _ d0 (TL0.shutx (x := d0) (h_1.mono hM_1) (h_2.mono hM_1) (h_3.mono hM_1) (h_4.mono hM_1) (h_5.mono hM_1) (h_6.mono hM_1) (h_7.mono hM_1) (h_8.mono hM_1) (h_9.mono hM_1) (h_10.mono hM_1)) x_1 hx_1) fun _ M_2 E_1 w_4 hM_2 p_4 q_1 _ f => ?_
 obtain ⟨A_11, cap_11, cs_1, rfl, rfl, hr_1⟩ := q_1
 refine W_end rfl (M_go (M1 := M_2) (E := [Ent.row 24 1 (.slice A_11 x_1.length cap_11) x_1.length cs_1]) hM_2 p_4 (M_fix (E := [Ent.row 24 1 (.slice A_11 x_1.length cap_11) x_1.length cs_1]) fun w_5 p_5 => ?_))
 obtain ⟨x_2, hx_2, hF_2⟩ := bS hF_1
 refine Y17 (E := []) (H := ((Ent.row 24 1 (.slice A_11 x_1.length cap_11) x_1.length cs_1) :: (Ent.obj b_2 (.cells #[.slice none 0 0] 27 (0, 0))) :: H)) f p_5 (forward_Flight_ok n _ _ d0 (TL0.shutx (x := d0) (h_1.mono (hM_1.trans hM_2)) (h_2.mono (hM_1.trans hM_2)) (h_3.mono (hM_1.trans hM_2)) (h_4.mono (hM_1.trans hM_2)) (h_5.mono (hM_1.trans hM_2)) (h_6.mono (hM_1.trans hM_2)) (h_7.mono (hM_1.trans hM_2)) (h_8.mono (hM_1.trans hM_2)) (h_9.mono (hM_1.trans hM_2)) (h_10.mono (hM_1.trans hM_2))) x_2 hx_2) fun _ M_3 E_2 w_6 hM_3 p_6 q_2 _ f => ?_
 obtain ⟨A_12, cap_12, cs_2, rfl, rfl, hr_2⟩ := q_2
 refine W_end rfl (M_go (M1 := M_3) (E := [Ent.row 3 1 (.slice A_12 x_2.length cap_12) x_2.length cs_2, Ent.row 24 1 (.slice A_11 x_1.length cap_11) x_1.length cs_1]) (hM_2.trans hM_3) p_6 (Y0 default f 3 fun _ f => M_end rfl fun w_7 p_7 => T_n (R_seq (R_seq ?_))))
 obtain ⟨j_1, hj_1, hF_3⟩ := bS hF_2
 refine R_mid (fun a_15 w_8 => ∃ y_1 : Bool, j_1 = y_1 ∧ ∃ M_4 : Mem, M_3.le M_4 ∧ Frm 46 [(1, .pointer (some (⟨b_1, 0, none⟩))), (2, .pointer (some (⟨b_2, 0, none⟩))), (3, .slice A_11 x_1.length cap_11), (4, .int .i64 ((x_2.length : Nat) : Int)), (22, .bool y_1)] a_15 ∧ Hp w0 M_4 ((Ent.row 3 1 (.slice A_12 x_2.length cap_12) x_2.length cs_2) :: (Ent.row 24 1 (.slice A_11 x_1.length cap_11) x_1.length cs_1) :: (Ent.obj b_2 (.cells #[.slice none 0 0] 27 (0, 0))) :: H) w_8) ?_ ?_
 ·refine R_reg (Y f 1 fun _ f => Y15 f p_7 (fzu (hM_2.trans hM_3) hc_2) 16 rfl fun _ f => Y f 2 fun _ f => ?_)
  rcases cE hj_1 with ⟨h_11, hF_4⟩ | ⟨h_11, hF_5⟩
  ·have k_1 : ¬ (d0.fPhase = 2) := (not_iff dI).1 h_11
   have f := f.st 17 (cB h_11)
   refine Y f 5 fun _ f => eT ?_
   exact ⟨(true), (sI hF_4).symm, M_3, (mR _), f.kp, p_7⟩
  ·have k_2 : ¬ (¬ (d0.fPhase = 2)) := iff_f (not_iff dI) h_11
   have f := f.st 17 (cB h_11)
   refine Y f 2 fun _ f => Y15 f p_7 (fzu (hM_2.trans hM_3) hc_2) 1 rfl fun _ f => Y f 2 fun _ f => eT ?_
   exact ⟨(decide (d0.fWidth ≤ ((x_2.length : Nat) : Int))), (sI hF_5).symm, M_3, (mR _), f.kp, p_7⟩
 ·rintro a_15 w_8 ⟨y_1, hq_1, M_4, hM_4, f, p_8⟩
  subst j_1
  refine T_n (RcF f hF_3 (fun h_12 hF_6 => ?_) fun h_12 hF_7 => ?_)
  ·refine RR (Y26 f p_8 2 rfl rfl (b := b_2) (j := 0) (v := .slice none 0 0) rfl (by exact rfl) (by simp) (by simp) ((Ent.row 3 1 (.slice A_12 x_2.length cap_12) x_2.length cs_2) :: (Ent.row 24 1 (.slice A_11 x_1.length cap_11) x_1.length cs_1) :: (Ent.obj b_2 (.cells #[.slice none 0 0] 27 (0, 0))) :: H) rfl fun w_9 p_9 _ f => eT (wp_ret (T_r (E_M0 f (V_rv1 rfl (Y9 (v := .slice none 0 0) (ad := ⟨b_2, 0, none⟩) f (p_9.ownCell 2 rfl 0)) ?_)))))
   obtain rfl := sI hF_6
   exact ⟨_, rfl, M_4, (((hM_1.trans hM_2).trans hM_3).trans hM_4), (p_9.dropN 3), ⟨none, 0, rfl, Sli.nil⟩⟩
  ·refine wp_skip (T_n (RR (Z (v := .agg #[.int .i8 d0.fKind, .int .i64 d0.fWidth, .slice A_1 d0.fOld.fOwned.length cap_1, .slice A_2 d0.fOld.fPending.length cap_2, .slice A_3 d0.fOld.fRetained.length cap_3, .slice A_4 d0.fOld.fOuts.length cap_4, S d0.fOld.fText, .slice A_5 d0.fOld.fArgs.length cap_5, .int .i64 d0.fOld.fCalls, .int .i8 d0.fOld.fStatus, .slice A_6 d0.fNew.fScopes.length cap_6, .slice A_7 d0.fNew.fNodes.length cap_7, S d0.fText, .slice A_8 d0.fArgs.length cap_8, .slice A_9 d0.fChanges.length cap_9, .slice A_10 d0.fTasks.length cap_10, .int .i8 d0.fPhase, .int .i8 d0.fStatus]) f (Y32 (cs := [.int .i8 d0.fKind, .int .i64 d0.fWidth, .slice A_1 d0.fOld.fOwned.length cap_1, .slice A_2 d0.fOld.fPending.length cap_2, .slice A_3 d0.fOld.fRetained.length cap_3, .slice A_4 d0.fOld.fOuts.length cap_4, S d0.fOld.fText, .slice A_5 d0.fOld.fArgs.length cap_5, .int .i64 d0.fOld.fCalls, .int .i8 d0.fOld.fStatus, .slice A_6 d0.fNew.fScopes.length cap_6, .slice A_7 d0.fNew.fNodes.length cap_7, S d0.fText, .slice A_8 d0.fArgs.length cap_8, .slice A_9 d0.fChanges.length cap_9, .slice A_10 d0.fTasks.length cap_10, .int .i8 d0.fPhase, .int .i8 d0.fStatus]) rfl (ad := ⟨b_1, 0, none⟩) (fun j v h => p_8.cell ((fzu ((hM_2.trans hM_3).trans hM_4) hc_2) j v h))) fun _ f => ?_)))
   obtain ⟨x_3, hx_3, hF_8⟩ := bS hF_7
   refine Y16 f p_8 (change_Leans_ok n _ _ d0 (TL0.shutx (x := d0) (h_1.mono (((hM_1.trans hM_2).trans hM_3).trans hM_4)) (h_2.mono (((hM_1.trans hM_2).trans hM_3).trans hM_4)) (h_3.mono (((hM_1.trans hM_2).trans hM_3).trans hM_4)) (h_4.mono (((hM_1.trans hM_2).trans hM_3).trans hM_4)) (h_5.mono (((hM_1.trans hM_2).trans hM_3).trans hM_4)) (h_6.mono (((hM_1.trans hM_2).trans hM_3).trans hM_4)) (h_7.mono (((hM_1.trans hM_2).trans hM_3).trans hM_4)) (h_8.mono (((hM_1.trans hM_2).trans hM_3).trans hM_4)) (h_9.mono (((hM_1.trans hM_2).trans hM_3).trans hM_4)) (h_10.mono (((hM_1.trans hM_2).trans hM_3).trans hM_4))) (true) x_3 hx_3) fun _ M_5 w_10 hM_5 p_10 q_3 _ f => ?_
   obtain ⟨A_13, cap_13, rfl, h_13⟩ := q_3
   refine Y f 1 fun _ f => ?_
   have p_11 := p_10.pl [1]
   obtain ⟨M_6, A_14, cap_14, hM_6, hv_1, p_12, h_14, hb_1⟩ := p_11.lend (f := (Dat.int .i8)) (xs := x_1) (szd_int .i8) (RepSeq.mono ((hM_3.trans hM_4).trans hM_5) _ _ hr_1)
   have f := f.st 3 (hv_1)
   have f := f.st 26 (hv_1)
   obtain ⟨x_4, hx_4, hF_9⟩ := bS hF_8
   refine Y17 (E := []) (H := ((Ent.row 3 1 (.slice A_12 x_2.length cap_12) x_2.length cs_2) :: (Ent.obj b_2 (.cells #[.slice none 0 0] 27 (0, 0))) :: H)) f p_12 (ready_Ready_ok n _ A_13 cap_13 x_3 (h_13.mono hM_6) A_14 cap_14 x_1 h_14 (true) x_4 hx_4) fun _ M_7 E_3 w_11 hM_7 p_13 q_4 _ f => ?_
   obtain ⟨A_15, cap_15, cs_3, rfl, rfl, hr_3⟩ := q_4
   have hr_4 : ∀ M, RepSeq M (x_4.1.map (Dat.int .i64)) cs_3 := fun M => RepSeq.flat (flat_int .i64) _ hr_3
   obtain ⟨M_8, hM_8, p_14⟩ := hb_1 _ _ _ hM_7 p_13
   have f := f.st 3 (hv_1.symm)
   have f := f.st 26 (hv_1.symm)
   have hr_5 := hr_4 M_8
   refine Y f 5 fun _ f => eT (R_seq (R_seq ?_))
   obtain ⟨j_2, hj_2, hF_10⟩ := bS hF_9
   refine R_mid (fun a_25 w_12 => ∃ y_2 : Bool, j_2 = y_2 ∧ ∃ M_9 : Mem, M_8.le M_9 ∧ Frm 46 [(2, .pointer (some (⟨b_2, 0, none⟩))), (3, .slice A_11 x_1.length cap_11), (5, .slice A_15 x_4.1.length cap_15), (36, .bool y_2)] a_25 ∧ Hp w0 M_9 ((Ent.row 24 1 (.slice A_11 x_1.length cap_11) x_1.length cs_1) :: (Ent.row 3 1 (.slice A_15 x_4.1.length cap_15) x_4.1.length cs_3) :: (Ent.row 3 1 (.slice A_12 x_2.length cap_12) x_2.length cs_2) :: (Ent.obj b_2 (.cells #[.slice none 0 0] 27 (0, 0))) :: H) w_12) ?_ ?_
   ·refine R_reg (Y f 4 fun _ f => ?_)
    rcases cE hj_2 with ⟨h_15, hF_11⟩ | ⟨h_15, hF_12⟩
    ·have k_5 := dI.1 h_15
     have f := f.st 33 (cB h_15)
     refine Y f 3 fun _ f => eT ?_
     exact ⟨(decide (((x_2.length : Nat) : Int) = 0)), (sI hF_11).symm, M_8, (mR _), f.kp, p_14⟩
    ·have k_6 := iff_f dI h_15
     have f := f.st 33 (cB h_15)
     refine Y f 3 fun _ f => eT ?_
     exact ⟨(false), (sI hF_12).symm, M_8, (mR _), f.kp, p_14⟩
   ·rintro a_25 w_12 ⟨y_2, hq_2, M_9, hM_9, f, p_15⟩
    subst j_2
    refine T_n (RcF f hF_10 (fun h_16 hF_13 => ?_) fun h_16 hF_18 => ?_)
    ·refine RR (Y f 1 fun _ f => ?_)
     obtain ⟨A_16, cap_16, M_10, hv_2, hM_10, p_16, h_17⟩ := p_15.rowSli (f := (Dat.int .i8)) (xs := x_1) (szd_int .i8) (RepSeq.mono ((((hM_3.trans hM_4).trans hM_5).trans hM_8).trans hM_9) _ _ hr_1)
     have f := f.st 37 (hv_2)
     obtain ⟨g_1, hF_14⟩ := nS hF_13
     refine Y16 f p_16 (backB_ok x_1 g_1 _ A_16 cap_16 h_17) fun _ M_11 w_13 hM_11 p_17 q_5 a_27 f => ?_
     obtain ⟨fv_1, cp_1, rfl, hit_1⟩ := q_5
     refine eT (wp_block ?_)
     have f : Frm 46 [(2, .pointer (some (⟨b_2, 0, none⟩))), (5, .slice A_15 x_4.1.length cap_15), (38, .func (.func fv_1) #[] cp_1.toArray)] a_27 := f.kp
     obtain ⟨j_3, hL_1, hF_15⟩ := bS hF_14
     refine R_range2 (σ := Unit) (β := List Int) (vals := (vals2 (vint .i8))) (Y := (cleanup_Ready_s1 n)) (E0 := [Ent.row 3 1 (.slice A_15 x_4.1.length cap_15) x_4.1.length cs_3, Ent.row 3 1 (.slice A_12 x_2.length cap_12) x_2.length cs_2, Ent.obj b_2 (.cells #[.slice none 0 0] 27 (0, 0))]) (H := H) (w0 := w0) (M := M_11) (f := fv_1) (caps := cp_1) f p_17 (by kernel_rfl) (by kernel_rfl) (by kernel_rfl) (by kernel_rfl) hit_1.1 (fun (s_1 : Unit) M' E1 => E1 = [Ent.row 3 1 (.slice A_15 x_4.1.length cap_15) x_4.1.length cs_3, Ent.row 3 1 (.slice A_12 x_2.length cap_12) x_2.length cs_2, Ent.obj b_2 (.cells #[.slice none 0 0] 27 (0, 0))]) (fun (y_3 : List Int) M' E1 => ∃ (A_17 : Option Addr) (cap_17 : Nat), E1 = [Ent.row 3 1 (.slice A_15 x_4.1.length cap_15) x_4.1.length cs_3, Ent.row 3 1 (.slice A_12 x_2.length cap_12) x_2.length cs_2, Ent.obj b_2 (.cells #[.slice A_17 y_3.length cap_17] 27 (0, 0))] ∧ Sli M' 1 (Dat.int .i64) A_17 cap_17 y_3) (fun (_ : List Int) => Jmp.ret) () j_3 rfl (fun s_ M_ M2_ E_ hM h => h) (fun s_ M_ M2_ E_ hM h => by obtain ⟨A_17, cap_17, rfl, h_19⟩ := h; exact ⟨A_17, cap_17, rfl, h_19.mono hM⟩) (fun M_ x_ vs_ h => by obtain ⟨c_, h, _⟩ := h; exact ⟨_, _, h⟩) (hit_1.2 _ _ _ _ _ hL_1) ?_ ?_ ?_
     ·rintro s_1 x_5 r_1 hs_1 l_1 w0 M_12 E_4 H w_14 _ v_1 u_6 hM_12 rfl ⟨u_7, hv_3, hu_1⟩ p_18 f
      obtain ⟨rfl, rfl⟩ : v_1 = .int .i64 x_5.1 ∧ u_6 = u_7 := by simpa using hv_3
      replace hu_1 : u_6 = .int .i8 x_5.2 := hu_1
      subst hu_1
      unfold cleanup_Ready_s1 at hs_1
      refine RI_seq (RI_reg (then_out (then_out F_out)) (by kernel_rfl) (Y f 1 fun _ f => eT (RI_reg (then_out F_out) (by kernel_rfl) (Y f 1 fun _ f => eT (⟨M_12, [Ent.row 3 1 (.slice A_15 x_4.1.length cap_15) x_4.1.length cs_3, Ent.row 3 1 (.slice A_12 x_2.length cap_12) x_2.length cs_2, Ent.obj b_2 (.cells #[.slice none 0 0] 27 (0, 0))], (mR _), p_18, fun H w_15 p_19 => ?_⟩)))))
      refine RI_block (RI_seq (RI_reg (then_out (block_out (RB_out))) (by kernel_rfl) (Y f 2 fun _ f => eT (RI_cond f (b := decide (x_5.2 = 1)) (by kernel_rfl) (by kernel_rfl) (fun h_18 => ?_) fun h_18 => ?_))))
      ·have k_8 := dI.1 h_18
       have hF_16 := cnd_t h_18 hs_1
       refine RI_seq (RI_reg (then_out (block_out (RB_out))) (by kernel_rfl) (Y f 1 fun _ f => V_allocS (k := 1) (c := 1) f p_19 (.cells #[.int .i64 x_5.1] 3 (0, 0)) (by kernel_rfl) (fun _ => by kernel_rfl) fun b_3 w_16 p_20 _ f => Y26 f p_20 3 rfl rfl (b := b_2) (j := 0) (v := .slice (some ⟨b_3, 0, none⟩) 1 1) rfl (by exact rfl) (by simp) (by simp) ((Ent.obj b_3 (.cells #[.int .i64 x_5.1] 3 (0, 0))) :: (Ent.row 3 1 (.slice A_15 x_4.1.length cap_15) x_4.1.length cs_3) :: (Ent.row 3 1 (.slice A_12 x_2.length cap_12) x_2.length cs_2) :: (Ent.obj b_2 (.cells #[.slice (some ⟨b_3, 0, none⟩) 1 1] 27 (0, 0))) :: H) rfl fun w_17 p_21 _ f => eT (RI_ret (B_r ?_))))
       have hr_7 : RepSeq M_12 ([x_5.1].map (Dat.int .i64)) [.int .i64 x_5.1] := ⟨_, _, rfl, rfl, rfl⟩
       have p_22 : Hp w0 M_12 ((Ent.row 3 1 (.slice (some ⟨b_3, 0, none⟩) 1 1) [x_5.1].length [.int .i64 x_5.1]) :: (Ent.row 3 1 (.slice A_15 x_4.1.length cap_15) x_4.1.length cs_3) :: (Ent.row 3 1 (.slice A_12 x_2.length cap_12) x_2.length cs_2) :: (Ent.obj b_2 (.cells #[.slice (some ⟨b_3, 0, none⟩) 1 1] 27 (0, 0))) :: H) w_17 := p_21.objRow (n := 1) (cap := 1) (size := 1) (by decide) (by decide) (blk_eq (by decide) rfl) rfl rfl
       obtain ⟨A_18, cap_18, M_13, hv_4, hM_13, p_23, h_20⟩ := p_22.rowSli (f := (Dat.int .i64)) (xs := [x_5.1]) (szd_int .i64) hr_7
       have f := f.st 44 (hv_4)
       have p_24 : Hp w0 M_13 ((Ent.row 3 1 (.slice A_15 x_4.1.length cap_15) x_4.1.length cs_3) :: (Ent.row 3 1 (.slice A_12 x_2.length cap_12) x_2.length cs_2) :: (Ent.obj b_2 (.cells #[.slice A_18 [x_5.1].length cap_18] 27 (0, 0))) :: H) w_17 := by rw [hv_4] at p_23; exact p_23
       obtain rfl := sI hF_16
       exact RB_x rfl ⟨M_13, [Ent.row 3 1 (.slice A_15 x_4.1.length cap_15) x_4.1.length cs_3, Ent.row 3 1 (.slice A_12 x_2.length cap_12) x_2.length cs_2, Ent.obj b_2 (.cells #[.slice A_18 [x_5.1].length cap_18] 27 (0, 0))], hM_13, p_24, ⟨A_18, cap_18, rfl, h_20⟩⟩
      ·have k_9 := iff_f dI h_18
       have hF_17 := cnd_f h_18 hs_1
       refine RI_skip (B_n ?_)
       obtain rfl := sI hF_17
       exact RB_n ⟨M_12, [Ent.row 3 1 (.slice A_15 x_4.1.length cap_15) x_4.1.length cs_3, Ent.row 3 1 (.slice A_12 x_2.length cap_12) x_2.length cs_2, Ent.obj b_2 (.cells #[.slice none 0 0] 27 (0, 0))], (mR _), p_19, rfl⟩
     ·rintro s_2 rfl l_2 D_1 rr_1 M_14 E_5 w_18 _ hM_14 rfl p_25 f
      replace p_25 : Hp w0 M_14 ((Ent.obj D_1 (.deferred (some []))) :: (Ent.row 3 1 (.slice A_15 x_4.1.length cap_15) x_4.1.length cs_3) :: (Ent.row 3 1 (.slice A_12 x_2.length cap_12) x_2.length cs_2) :: (Ent.obj b_2 (.cells #[.slice none 0 0] 27 (0, 0))) :: H) w_18 := p_25.drop
      replace hF_15 : (_ : Option _) = some _ := hF_15
      refine B_n (T_n (RR (Y f 1 fun _ f => Y26 f p_25 3 rfl rfl (b := b_2) (j := 0) (v := .slice A_15 x_4.1.length cap_15) rfl (by exact rfl) (by simp) (by simp) ((Ent.obj D_1 (.deferred (some []))) :: (Ent.row 3 1 (.slice A_15 x_4.1.length cap_15) x_4.1.length cs_3) :: (Ent.row 3 1 (.slice A_12 x_2.length cap_12) x_2.length cs_2) :: (Ent.obj b_2 (.cells #[.slice A_15 x_4.1.length cap_15] 27 (0, 0))) :: H) rfl fun w_19 p_26 _ f => eT (wp_ret ?_))))
      have p_27 := p_26.pl [1]
      obtain ⟨A_19, cap_19, M_15, hv_5, hM_15, p_28, h_21⟩ := p_27.rowSli (f := (Dat.int .i64)) (xs := x_4.1) (szd_int .i64) (RepSeq.mono (((hM_9.trans hM_10).trans hM_11).trans hM_14) _ _ hr_5)
      have f := f.st 45 (hv_5)
      have p_29 : Hp w0 M_15 ((Ent.obj D_1 (.deferred (some []))) :: (Ent.row 3 1 (.slice A_12 x_2.length cap_12) x_2.length cs_2) :: (Ent.obj b_2 (.cells #[.slice A_19 x_4.1.length cap_19] 27 (0, 0))) :: H) w_19 := by rw [hv_5] at p_28; exact p_28
      refine E_M1 f p_29 fun w_20 p_30 => V_rv1 rfl (Y9 (v := .slice A_19 x_4.1.length cap_19) (ad := ⟨b_2, 0, none⟩) f (p_30.ownCell 1 rfl 0)) ?_
      obtain rfl := sI hF_15
      exact ⟨_, rfl, M_15, ((((((((((hM_1.trans hM_2).trans hM_3).trans hM_4).trans hM_5).trans hM_8).trans hM_9).trans hM_10).trans hM_11).trans hM_14).trans hM_15), (p_30.dropN 2), ⟨A_19, cap_19, rfl, h_21⟩⟩
     ·rintro b_4 rfl l_3 D_2 rr_2 M_16 E_6 w_21 _ hM_16 hx_5 p_31 f
      obtain ⟨A_20, cap_20, rfl, h_22⟩ := hx_5
      replace p_31 : Hp w0 M_16 ((Ent.obj D_2 (.deferred (some []))) :: (Ent.row 3 1 (.slice A_15 x_4.1.length cap_15) x_4.1.length cs_3) :: (Ent.row 3 1 (.slice A_12 x_2.length cap_12) x_2.length cs_2) :: (Ent.obj b_2 (.cells #[.slice A_20 b_4.length cap_20] 27 (0, 0))) :: H) w_21 := p_31.drop
      refine B_r (T_r (E_M1 f p_31 fun w_22 p_32 => V_rv1 rfl (Y9 (v := .slice A_20 b_4.length cap_20) (ad := ⟨b_2, 0, none⟩) f (p_32.ownCell 2 rfl 0)) ?_))
      obtain rfl := sI hF_15
      exact ⟨_, rfl, M_16, (((((((((hM_1.trans hM_2).trans hM_3).trans hM_4).trans hM_5).trans hM_8).trans hM_9).trans hM_10).trans hM_11).trans hM_16), (p_32.dropN 3), ⟨A_20, cap_20, rfl, h_22⟩⟩
    ·refine wp_skip (T_n (RR (Y f 1 fun _ f => Y26 f p_15 3 rfl rfl (b := b_2) (j := 0) (v := .slice A_15 x_4.1.length cap_15) rfl (by exact rfl) (by simp) (by simp) ((Ent.row 24 1 (.slice A_11 x_1.length cap_11) x_1.length cs_1) :: (Ent.row 3 1 (.slice A_15 x_4.1.length cap_15) x_4.1.length cs_3) :: (Ent.row 3 1 (.slice A_12 x_2.length cap_12) x_2.length cs_2) :: (Ent.obj b_2 (.cells #[.slice A_15 x_4.1.length cap_15] 27 (0, 0))) :: H) rfl fun w_23 p_33 _ f => eT (wp_ret ?_))))
     have p_34 := p_33.pl [1]
     obtain ⟨A_21, cap_21, M_17, hv_6, hM_17, p_35, h_23⟩ := p_34.rowSli (f := (Dat.int .i64)) (xs := x_4.1) (szd_int .i64) (RepSeq.mono hM_9 _ _ hr_5)
     have f := f.st 45 (hv_6)
     have p_36 : Hp w0 M_17 ((Ent.row 24 1 (.slice A_11 x_1.length cap_11) x_1.length cs_1) :: (Ent.row 3 1 (.slice A_12 x_2.length cap_12) x_2.length cs_2) :: (Ent.obj b_2 (.cells #[.slice A_21 x_4.1.length cap_21] 27 (0, 0))) :: H) w_23 := by rw [hv_6] at p_35; exact p_35
     refine E_M0 f (V_rv1 rfl (Y9 (v := .slice A_21 x_4.1.length cap_21) (ad := ⟨b_2, 0, none⟩) f (p_36.ownCell 2 rfl 0)) ?_)
     obtain rfl := sI hF_18
     exact ⟨_, rfl, M_17, (((((((hM_1.trans hM_2).trans hM_3).trans hM_4).trans hM_5).trans hM_8).trans hM_9).trans hM_17), (p_36.dropN 3), ⟨A_21, cap_21, rfl, h_23⟩⟩
end Go.Proofs.Ytfdmlionhbeebaa
end
