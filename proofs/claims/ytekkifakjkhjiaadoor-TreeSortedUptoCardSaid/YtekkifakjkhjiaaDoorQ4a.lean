/-
  Printed by a program: of each function its shallow reading, and the proof that the function gives what the reading gives. No condition.
-/
import Derived.Test.YtekkifakjkhjiaaDoorQ1
import Derived.Test.YtekkifakjkhjiaaDoorWalkIt2
import Derived.Test.YtekkifakjkhjiaaDoorVkF
import Derived.Test.YtekkifakjkhjiaaDoorRows
set_option linter.unusedVariables false
set_option linter.unusedSimpArgs false
namespace Go.Proofs.YtekkifakjkhjiaaDoor
open Go Go.Vc Go.RowKit
def tree_Count_s1 (n : Nat) (s_1 : Int) (x_1 : T_api_Value) : Option (Lp Int Empty) :=
    need (inR .i64 (s_1 + 1)) <|
    some (.nx (s_1 + 1))
def tree_Count (n : Nat) (d0 : T_api_Value) : Option Int :=
  need ((walkV d0).length ≤ 9223372036854775806) <|
  (foldY (tree_Count_s1 n) (walkV d0) (0 : Int)).bind fun j_1 =>
  (match j_1 with 
  | .nx s_2 => some (s_2) 
  | .br _ => none)
theorem tree_Count_ok (n : Nat) (M : Mem) (c0 : List Value) (d0 : T_api_Value) (h0 : Rep M (emb_T_api_Value d0) c0) (r : Int) (hF : tree_Count n d0 = some r) : Ok Tryd.prog M 21 [.agg c0.toArray] (fun _ v => v = .int .i64 r) := by
  unfold tree_Count at hF
  intro M1 hM0 w0 H w p0
  replace h0 := Rep.mono hM0 _ _ h0
  obtain ⟨A_1, cap_1, A_2, cap_2, rfl, h_1, h_2⟩ := T_api_Value.opn h0
  refine R_enterM 10 Tryd.func21 rfl rfl (by simp) (fun a0 f0 => ?_)
  refine R_seq (R_reg ?_)
  refine V_box (cs := #[.int .i8 d0.fKind, .bool d0.fBool, .int .i64 d0.fNum, S d0.fText, .slice A_1 d0.fList.length cap_1, .slice A_2 d0.fKeys.length cap_2]) (T := 26) f0 p0 (by kernel_rfl) (fun _ => by kernel_rfl) (fun b_1 M_1 w_1 hM_1 hc_1 p_1 a_1 f_1 => ?_)
  have hc_2 := fz_box hc_1
  refine V_run f_1 1 (by kernel_rfl) (fun a_2 f_2 => ?_)
  refine W_end rfl (T_n (R_seq (R_reg ?_)))
  refine V_alloc f_2 p_1 (.cells #[.int .i64 0] 3 (0, 0)) (by kernel_rfl) (fun _ => by kernel_rfl) (fun b_2 w_2 p_2 a_3 f_3 => ?_)
  refine W_store1 f_3 p_2 0 (by kernel_rfl) (by kernel_rfl) rfl rfl (b := b_2) (j := 0) (v := .int .i64 0) (by kernel_rfl) (by kernel_rfl) rfl (by kernel_rfl) (by exact rfl) (by simp) (by simp) ((Ent.obj b_2 (.cells #[.int .i64 0] 3 (0, 0))) :: H) rfl (fun w_3 p_3 a_4 f_4 => ?_)
  refine W_end rfl (T_n (R_seq (R_seq (R_reg ?_))))
  refine V_eq (v := .agg #[.int .i8 d0.fKind, .bool d0.fBool, .int .i64 d0.fNum, S d0.fText, .slice A_1 d0.fList.length cap_1, .slice A_2 d0.fKeys.length cap_2]) f_4 (by kernel_rfl) (X_loadN (cs := [.int .i8 d0.fKind, .bool d0.fBool, .int .i64 d0.fNum, S d0.fText, .slice A_1 d0.fList.length cap_1, .slice A_2 d0.fKeys.length cap_2]) rfl (ad := ⟨b_1, 0, none⟩) (by kernel_rfl) (by kernel_rfl) (fun j v h => p_3.cell (hc_2 j v h))) (fun a_5 f_5 => ?_)
  obtain ⟨g_1, hF_1⟩ := need_some hF
  refine V_ok f_5 p_3 (walk_ok d0 g_1 _ [.int .i8 d0.fKind, .bool d0.fBool, .int .i64 d0.fNum, S d0.fText, .slice A_1 d0.fList.length cap_1, .slice A_2 d0.fKeys.length cap_2] (T_api_Value.shutx (x := d0) (h_1.mono hM_1) (h_2.mono hM_1))) (by kernel_rfl) (fun _ => by kernel_rfl) (fun u_1 M_2 w_4 hM_2 p_4 q_1 a_6 f_6 => ?_)
  obtain ⟨fv_1, cp_1, rfl, hit_1⟩ := q_1
  refine W_end rfl (T_n (wp_block ?_))
  have f_7 : Frm 10 [(3, .pointer (some (⟨b_2, 0, none⟩))), (5, .func (.func fv_1) #[] cp_1.toArray)] a_6 := f_6.keep (ks := [3, 5]) (by kernel_rfl)
  obtain ⟨j_1, hL_1, hF_2⟩ := bind_some' hF_1
  refine R_range (σ := Int) (β := Empty) (vals := valsV) (Y := (tree_Count_s1 n)) (E0 := [Ent.obj b_2 (.cells #[.int .i64 0] 3 (0, 0))]) (H := H) (w0 := w0) (M := M_2) (f := fv_1) (caps := cp_1) f_7 p_4 (by kernel_rfl) (by kernel_rfl) (by kernel_rfl) hit_1.1 (fun (s_1 : Int) M' E1 => E1 = [Ent.obj b_2 (.cells #[.int .i64 s_1] 3 (0, 0))]) (fun (b : Empty) _ _ => b.elim) (fun (b : Empty) => b.elim) (0 : Int) j_1 rfl (fun s_ M_ M2_ E_ hM h => h) (fun b => b.elim) (fun M_ x_ vs_ h => by obtain ⟨c_, h, _⟩ := h; exact ⟨_, h⟩) (hit_1.2 _ _ _ _ _ hL_1) ?_ ?_ ?_
  · rintro s_1 x_1 r_1 hs_1 l_1 w0 M_3 E_1 H w_5 a_7 v_1 hM_3 rfl ⟨cc_1, hv_1, hr_1⟩ p_5 f_8
    obtain rfl : v_1 = .agg cc_1.toArray := by simpa using hv_1
    unfold tree_Count_s1 at hs_1
    obtain ⟨A_3, cap_3, A_4, cap_4, rfl, h_3, h_4⟩ := T_api_Value.opn hr_1
    refine RI_skip ?_
    refine T_n ?_
    refine ⟨M_3, [Ent.obj b_2 (.cells #[.int .i64 s_1] 3 (0, 0))], (Mem.le_refl _), p_5, fun H w_6 p_6 => ?_⟩
    refine RI_block ?_
    refine RI_reg (block_out (RB_out)) (by kernel_rfl) ?_
    refine V_eq (v := .int .i64 s_1) f_8 (by kernel_rfl) (X_load1 (v := .int .i64 s_1) rfl (ad := ⟨b_2, 0, none⟩) (by kernel_rfl) (by kernel_rfl) (p_6.ownCell 0 rfl 0)) (fun a_8 f_9 => ?_)
    obtain ⟨g_2, hF_3⟩ := need_some hs_1
    refine V_run f_9 1 (by kernel_rfl) (fun a_9 f_10 => ?_)
    have f_11 := Frm.set f_10 8 (v := .int .i64 (IntKind.wrap .i64 (s_1 + 1))) (v' := .int .i64 (s_1 + 1)) (by kernel_rfl) (congrArg (Value.int .i64) (inR_wrap g_2))
    refine W_store1 f_11 p_6 0 (by kernel_rfl) (by kernel_rfl) rfl rfl (b := b_2) (j := 0) (v := .int .i64 (s_1 + 1)) (by kernel_rfl) (by kernel_rfl) rfl (by kernel_rfl) (by exact rfl) (by simp) (by simp) ((Ent.obj b_2 (.cells #[.int .i64 (s_1 + 1)] 3 (0, 0))) :: H) rfl (fun w_7 p_7 a_10 f_12 => ?_)
    refine W_end rfl (B_n ?_)
    obtain rfl := Option.some.inj hF_3
    exact RB_n ⟨M_3, [Ent.obj b_2 (.cells #[.int .i64 (s_1 + 1)] 3 (0, 0))], (Mem.le_refl _), p_7, rfl⟩
  · rintro s_2 rfl l_2 D_1 rr_1 M_4 E_2 w_8 a_11 hM_4 rfl p_8 f_13
    replace p_8 : Hp w0 M_4 ((Ent.obj D_1 (.deferred (some []))) :: (Ent.obj b_2 (.cells #[.int .i64 s_2] 3 (0, 0))) :: H) w_8 := p_8.drop
    replace hF_2 : (_ : Option _) = some _ := hF_2
    refine B_n (T_n (R_seq (R_reg ?_)))
    refine V_eq (v := .int .i64 s_2) f_13 (by kernel_rfl) (X_load1 (v := .int .i64 s_2) rfl (ad := ⟨b_2, 0, none⟩) (by kernel_rfl) (by kernel_rfl) (p_8.ownCell 1 rfl 0)) (fun a_12 f_14 => ?_)
    refine V_run f_14 1 (by kernel_rfl) (fun a_13 f_15 => ?_)
    refine W_end rfl (T_n (wp_ret ?_))
    refine E_M1 f_15 p_8 (fun w_9 p_9 => ?_)
    refine V_rv1 rfl (Rv.slot (v := .int .i64 s_2) f_15 (by kernel_rfl)) ?_
    obtain rfl := Option.some.inj hF_2
    exact ⟨_, rfl, M_4, ((hM_1.trans hM_2).trans hM_4), (p_9.dropN 1), rfl⟩
  · intro b; exact b.elim
end Go.Proofs.YtekkifakjkhjiaaDoor
