/-
  Printed by a program: of each function its shallow reading, and the proof that the function gives what the reading gives. No condition.
-/
import Derived.Test.YtekkifakjkhjiaaDoorQ5
import Derived.Test.YtekkifakjkhjiaaDoorQ2a
import Derived.Test.YtekkifakjkhjiaaDoorQ2b
import Derived.Test.YtekkifakjkhjiaaDoorQ2f
set_option linter.unusedVariables false
set_option linter.unusedSimpArgs false
namespace Go.Proofs.YtekkifakjkhjiaaDoor
open Go Go.Vc Go.RowKit
def law03_TreeWalk_s1 (n : Nat) (d1 : Int) (x_3 : List T_api_Value) (s_1 : Int) (x_4 : T_api_Value) : Option (Lp Int (Int × Bool)) :=
    ((bif (decide (((x_3.length : Nat) : Int) ≤ s_1)) then
        (some ((true)))
      else
        (getI x_3 s_1).bind fun x_5 =>
        (ref03_Same n x_4 x_5).bind fun x_6 =>
        some ((!x_6)) : Option Bool)).bind fun y_1 =>
    bif y_1 then
      (some (.br (s_1, (false))))
    else
      need (inR .i64 (s_1 + 1)) <|
      bif (decide ((s_1 + 1) = d1)) then
        ((law03_wakes n).bind fun x_7 =>
        some (.br (s_1 + 1, (x_7))))
      else
        some (.nx (s_1 + 1))
def law03_TreeWalk (n : Nat) (d0 : T_api_Value) (d1 : Int) : Option Bool :=
  (ref03_Great n d0).bind fun x_1 =>
  bif x_1 then
    ((law03_wakes n).bind fun x_2 =>
    some ((x_2)))
  else
    (ref03_Walk n d0).bind fun x_3 =>
    need ((walkV d0).length ≤ 9223372036854775806) <|
    (foldY (law03_TreeWalk_s1 n d1 x_3) (walkV d0) (0 : Int)).bind fun j_1 =>
    (match j_1 with 
    | .nx s_2 => bif (decide (s_2 = ((x_3.length : Nat) : Int))) then
        ((law03_wakes n).bind fun x_8 =>
        some ((x_8)))
      else
        some ((false)) 
    | .br b_7 => some ((b_7.2)))
theorem law03_TreeWalk_ok (n : Nat) (M : Mem) (hG : GL M) (c0 : List Value) (d0 : T_api_Value) (h0 : Rep M (emb_T_api_Value d0) c0) (d1 : Int) (r : Bool) (hF : law03_TreeWalk n d0 d1 = some r) : Ok Tryd.prog M 3 [.agg c0.toArray, .int .i64 d1] (fun _ v => v = .bool r) := by
  unfold law03_TreeWalk at hF
  intro M1 hM0 w0 H w p0
  replace hG := GL.mono hM0 hG
  replace h0 := Rep.mono hM0 _ _ h0
  obtain ⟨A_1, cap_1, A_2, cap_2, rfl, h_1, h_2⟩ := T_api_Value.opn h0
  refine R_enterM 46 Tryd.func3 rfl rfl (by simp) (fun a0 f0 => ?_)
  replace f0 : Frm 46 [(0, .agg #[.int .i8 d0.fKind, .bool d0.fBool, .int .i64 d0.fNum, S d0.fText, .slice A_1 d0.fList.length cap_1, .slice A_2 d0.fKeys.length cap_2]), (1, .int .i64 d1)] a0 := f0
  refine R_seq ?_
  refine R_reg ?_
  refine W_box (cs := #[.int .i8 d0.fKind, .bool d0.fBool, .int .i64 d0.fNum, S d0.fText, .slice A_1 d0.fList.length cap_1, .slice A_2 d0.fKeys.length cap_2]) (T := 26) f0 p0 1 [0, 1, 2] (fun b_1 => [(0, .agg #[.int .i8 d0.fKind, .bool d0.fBool, .int .i64 d0.fNum, S d0.fText, .slice A_1 d0.fList.length cap_1, .slice A_2 d0.fKeys.length cap_2]), (1, .int .i64 d1), (2, .pointer (some (⟨b_1, 0, none⟩)))]) (fun _ => by kernel_rfl) (fun b_1 M_1 w_1 hM_1 hc_1 p_1 a_1 f_1 => ?_)
  replace f_1 : Frm 46 [(0, .agg #[.int .i8 d0.fKind, .bool d0.fBool, .int .i64 d0.fNum, S d0.fText, .slice A_1 d0.fList.length cap_1, .slice A_2 d0.fKeys.length cap_2]), (1, .int .i64 d1), (2, .pointer (some (⟨b_1, 0, none⟩)))] a_1 := f_1
  have hc_2 := fz_box hc_1
  refine W_box (cs := #[.int .i64 d1]) (T := 3) f_1 p_1 1 [0, 1, 2, 3] (fun b_2 => [(0, .agg #[.int .i8 d0.fKind, .bool d0.fBool, .int .i64 d0.fNum, S d0.fText, .slice A_1 d0.fList.length cap_1, .slice A_2 d0.fKeys.length cap_2]), (1, .int .i64 d1), (2, .pointer (some (⟨b_1, 0, none⟩))), (3, .pointer (some (⟨b_2, 0, none⟩)))]) (fun _ => by kernel_rfl) (fun b_2 M_2 w_2 hM_2 hc_3 p_2 a_2 f_2 => ?_)
  replace f_2 : Frm 46 [(0, .agg #[.int .i8 d0.fKind, .bool d0.fBool, .int .i64 d0.fNum, S d0.fText, .slice A_1 d0.fList.length cap_1, .slice A_2 d0.fKeys.length cap_2]), (1, .int .i64 d1), (2, .pointer (some (⟨b_1, 0, none⟩))), (3, .pointer (some (⟨b_2, 0, none⟩)))] a_2 := f_2
  have hc_4 := fz_box hc_3
  refine W_alloc f_2 p_2 1 [0, 1, 2, 3, 4] (.cells #[.bool false] 4 (0, 0)) (fun b_3 => [(0, .agg #[.int .i8 d0.fKind, .bool d0.fBool, .int .i64 d0.fNum, S d0.fText, .slice A_1 d0.fList.length cap_1, .slice A_2 d0.fKeys.length cap_2]), (1, .int .i64 d1), (2, .pointer (some (⟨b_1, 0, none⟩))), (3, .pointer (some (⟨b_2, 0, none⟩))), (4, .pointer (some (⟨b_3, 0, none⟩)))]) (fun _ => by kernel_rfl) (fun b_3 w_3 p_3 a_3 f_3 => ?_)
  replace f_3 : Frm 46 [(0, .agg #[.int .i8 d0.fKind, .bool d0.fBool, .int .i64 d0.fNum, S d0.fText, .slice A_1 d0.fList.length cap_1, .slice A_2 d0.fKeys.length cap_2]), (1, .int .i64 d1), (2, .pointer (some (⟨b_1, 0, none⟩))), (3, .pointer (some (⟨b_2, 0, none⟩))), (4, .pointer (some (⟨b_3, 0, none⟩)))] a_3 := f_3
  refine W_end rfl ?_
  refine T_n ?_
  refine R_seq ?_
  refine R_seq ?_
  refine R_reg ?_
  refine W_eq (v := .agg #[.int .i8 d0.fKind, .bool d0.fBool, .int .i64 d0.fNum, S d0.fText, .slice A_1 d0.fList.length cap_1, .slice A_2 d0.fKeys.length cap_2]) f_3 (by kernel_rfl) (by kernel_rfl) rfl rfl (X_loadN (cs := [.int .i8 d0.fKind, .bool d0.fBool, .int .i64 d0.fNum, S d0.fText, .slice A_1 d0.fList.length cap_1, .slice A_2 d0.fKeys.length cap_2]) rfl (ad := ⟨b_1, 0, none⟩) (by kernel_rfl) (by kernel_rfl) (fun j v h => p_3.cell ((fun j v h => hM_2.cell (hc_2 j v h)) j v h))) (fun a_4 f_4 => ?_)
  obtain ⟨x_1, hx_1, hF_1⟩ := bind_some' hF
  refine W_okv (v := .bool x_1) f_4 p_3 (by kernel_rfl) (by kernel_rfl) rfl rfl (fun _ => by kernel_rfl) (ref03_Great_ok n _ [.int .i8 d0.fKind, .bool d0.fBool, .int .i64 d0.fNum, S d0.fText, .slice A_1 d0.fList.length cap_1, .slice A_2 d0.fKeys.length cap_2] d0 (T_api_Value.shutx (x := d0) (h_1.mono (hM_1.trans hM_2)) (h_2.mono (hM_1.trans hM_2))) x_1 hx_1) (fun w_4 p_4 a_5 f_5 => ?_)
  refine W_end rfl ?_
  refine T_n ?_
  refine R_cond f_5 (b := x_1) (by kernel_rfl) (by kernel_rfl) (fun h_3 => ?_) (fun h_3 => ?_)
  · have hF_2 := cnd_t h_3 hF_1
    refine R_seq ?_
    refine R_reg ?_
    obtain ⟨x_2, hx_2, hF_3⟩ := bind_some' hF_2
    refine W_okv (v := .bool x_2) f_5 p_4 (by kernel_rfl) (by kernel_rfl) rfl rfl (fun _ => by kernel_rfl) (law03_wakes_ok n _ (GL.mono (hM_1.trans hM_2) hG) x_2 hx_2) (fun w_5 p_5 a_6 f_6 => ?_)
    refine W_store1 f_6 p_5 0 (by kernel_rfl) (by kernel_rfl) rfl rfl (b := b_3) (j := 0) (v := .bool x_2) (by kernel_rfl) (by kernel_rfl) rfl (by kernel_rfl) (by exact rfl) (by simp) (by simp) ((Ent.obj b_3 (.cells #[.bool x_2] 4 (0, 0))) :: H) rfl (fun w_6 p_6 a_7 f_7 => ?_)
    refine W_end rfl ?_
    refine T_n ?_
    refine wp_ret ?_
    refine T_r ?_
    refine E_M0 f_7 ?_
    refine V_rv1 rfl (Rv.cell1 (v := .bool x_2) (ad := ⟨b_3, 0, none⟩) f_7 (by kernel_rfl) (by kernel_rfl) (p_6.ownCell 0 rfl 0)) ?_
    obtain rfl := Option.some.inj hF_3
    exact ⟨_, rfl, M_2, (hM_1.trans hM_2), (p_6.dropN 1), rfl⟩
  · have hF_4 := cnd_f h_3 hF_1
    refine wp_skip ?_
    refine T_n ?_
    refine R_seq ?_
    refine R_reg ?_
    refine W_eq (v := .agg #[.int .i8 d0.fKind, .bool d0.fBool, .int .i64 d0.fNum, S d0.fText, .slice A_1 d0.fList.length cap_1, .slice A_2 d0.fKeys.length cap_2]) f_5 (by kernel_rfl) (by kernel_rfl) rfl rfl (X_loadN (cs := [.int .i8 d0.fKind, .bool d0.fBool, .int .i64 d0.fNum, S d0.fText, .slice A_1 d0.fList.length cap_1, .slice A_2 d0.fKeys.length cap_2]) rfl (ad := ⟨b_1, 0, none⟩) (by kernel_rfl) (by kernel_rfl) (fun j v h => p_4.cell ((fun j v h => hM_2.cell (hc_2 j v h)) j v h))) (fun a_8 f_8 => ?_)
    obtain ⟨x_3, hx_3, hF_5⟩ := bind_some' hF_4
    refine W_ok f_8 p_4 (by kernel_rfl) (by kernel_rfl) rfl rfl (fun _ => by kernel_rfl) (ref03_Walk_ok n _ [.int .i8 d0.fKind, .bool d0.fBool, .int .i64 d0.fNum, S d0.fText, .slice A_1 d0.fList.length cap_1, .slice A_2 d0.fKeys.length cap_2] d0 (T_api_Value.shutx (x := d0) (h_1.mono (hM_1.trans hM_2)) (h_2.mono (hM_1.trans hM_2))) x_3 hx_3) (fun u_1 M_3 w_7 hM_3 p_7 q_1 a_9 f_9 => ?_)
    obtain ⟨A_3, cap_3, rfl, h_4⟩ := q_1
    refine W_alloc f_9 p_7 1 [0, 1, 2, 3, 4, 5, 9, 10, 12, 13] (.cells #[.slice none 0 0] 23 (0, 0)) (fun b_4 => [(0, .agg #[.int .i8 d0.fKind, .bool d0.fBool, .int .i64 d0.fNum, S d0.fText, .slice A_1 d0.fList.length cap_1, .slice A_2 d0.fKeys.length cap_2]), (1, .int .i64 d1), (2, .pointer (some (⟨b_1, 0, none⟩))), (3, .pointer (some (⟨b_2, 0, none⟩))), (4, .pointer (some (⟨b_3, 0, none⟩))), (5, .pointer (some (⟨b_4, 0, none⟩))), (9, .agg #[.int .i8 d0.fKind, .bool d0.fBool, .int .i64 d0.fNum, S d0.fText, .slice A_1 d0.fList.length cap_1, .slice A_2 d0.fKeys.length cap_2]), (10, .bool x_1), (12, .agg #[.int .i8 d0.fKind, .bool d0.fBool, .int .i64 d0.fNum, S d0.fText, .slice A_1 d0.fList.length cap_1, .slice A_2 d0.fKeys.length cap_2]), (13, .slice A_3 x_3.length cap_3)]) (fun _ => by kernel_rfl) (fun b_4 w_8 p_8 a_10 f_10 => ?_)
    replace f_10 : Frm 46 [(0, .agg #[.int .i8 d0.fKind, .bool d0.fBool, .int .i64 d0.fNum, S d0.fText, .slice A_1 d0.fList.length cap_1, .slice A_2 d0.fKeys.length cap_2]), (1, .int .i64 d1), (2, .pointer (some (⟨b_1, 0, none⟩))), (3, .pointer (some (⟨b_2, 0, none⟩))), (4, .pointer (some (⟨b_3, 0, none⟩))), (5, .pointer (some (⟨b_4, 0, none⟩))), (9, .agg #[.int .i8 d0.fKind, .bool d0.fBool, .int .i64 d0.fNum, S d0.fText, .slice A_1 d0.fList.length cap_1, .slice A_2 d0.fKeys.length cap_2]), (10, .bool x_1), (12, .agg #[.int .i8 d0.fKind, .bool d0.fBool, .int .i64 d0.fNum, S d0.fText, .slice A_1 d0.fList.length cap_1, .slice A_2 d0.fKeys.length cap_2]), (13, .slice A_3 x_3.length cap_3)] a_10 := f_10
    refine W_store1 f_10 p_8 0 (by kernel_rfl) (by kernel_rfl) rfl rfl (b := b_4) (j := 0) (v := .slice A_3 x_3.length cap_3) (by kernel_rfl) (by kernel_rfl) rfl (by kernel_rfl) (by exact rfl) (by simp) (by simp) ((Ent.obj b_4 (.cells #[.slice A_3 x_3.length cap_3] 23 (0, 0))) :: (Ent.obj b_3 (.cells #[.bool false] 4 (0, 0))) :: H) rfl (fun w_9 p_9 a_11 f_11 => ?_)
    refine W_end rfl ?_
    refine T_n ?_
    refine R_seq ?_
    refine R_reg ?_
    refine W_eq (v := .agg #[.int .i8 d0.fKind, .bool d0.fBool, .int .i64 d0.fNum, S d0.fText, .slice A_1 d0.fList.length cap_1, .slice A_2 d0.fKeys.length cap_2]) f_11 (by kernel_rfl) (by kernel_rfl) rfl rfl (X_loadN (cs := [.int .i8 d0.fKind, .bool d0.fBool, .int .i64 d0.fNum, S d0.fText, .slice A_1 d0.fList.length cap_1, .slice A_2 d0.fKeys.length cap_2]) rfl (ad := ⟨b_1, 0, none⟩) (by kernel_rfl) (by kernel_rfl) (fun j v h => p_9.cell ((fun j v h => (hM_2.trans hM_3).cell (hc_2 j v h)) j v h))) (fun a_12 f_12 => ?_)
    obtain ⟨g_1, hF_6⟩ := need_some hF_5
    refine W_ok f_12 p_9 (by kernel_rfl) (by kernel_rfl) rfl rfl (fun _ => by kernel_rfl) (walk_ok d0 g_1 _ [.int .i8 d0.fKind, .bool d0.fBool, .int .i64 d0.fNum, S d0.fText, .slice A_1 d0.fList.length cap_1, .slice A_2 d0.fKeys.length cap_2] (T_api_Value.shutx (x := d0) (h_1.mono ((hM_1.trans hM_2).trans hM_3)) (h_2.mono ((hM_1.trans hM_2).trans hM_3)))) (fun u_2 M_4 w_10 hM_4 p_10 q_2 a_13 f_13 => ?_)
    obtain ⟨fv_1, cp_1, rfl, hit_1⟩ := q_2
    refine W_run (L' := [(3, .pointer (some (⟨b_2, 0, none⟩))), (4, .pointer (some (⟨b_3, 0, none⟩))), (5, .pointer (some (⟨b_4, 0, none⟩))), (6, .func (.func fv_1) #[] cp_1.toArray)]) (w' := w_10) f_13 1 [3, 4, 5, 6] (by kernel_rfl) (fun a_14 f_14 => ?_)
    refine W_end rfl ?_
    refine T_n ?_
    refine R_seq ?_
    refine R_seq ?_
    refine R_reg ?_
    refine W_run (L' := [(3, .pointer (some (⟨b_2, 0, none⟩))), (4, .pointer (some (⟨b_3, 0, none⟩))), (5, .pointer (some (⟨b_4, 0, none⟩))), (6, .func (.func fv_1) #[] cp_1.toArray), (16, .func (.func fv_1) #[] cp_1.toArray)]) (w' := w_10) f_14 1 [3, 4, 5, 6, 16] (by kernel_rfl) (fun a_15 f_15 => ?_)
    refine W_run (L' := [(3, .pointer (some (⟨b_2, 0, none⟩))), (4, .pointer (some (⟨b_3, 0, none⟩))), (5, .pointer (some (⟨b_4, 0, none⟩))), (6, .func (.func fv_1) #[] cp_1.toArray), (16, .func (.func fv_1) #[] cp_1.toArray), (17, .bool false)]) (w' := w_10) f_15 1 [3, 4, 5, 6, 16, 17] (by kernel_rfl) (fun a_16 f_16 => ?_)
    refine W_end rfl ?_
    refine T_n ?_
    refine R_cond_f f_16 (by kernel_rfl) (by kernel_rfl) ?_
    refine wp_skip ?_
    refine T_n ?_
    refine R_seq ?_
    refine R_reg ?_
    refine W_alloc f_16 p_10 1 [3, 4, 5, 6, 7, 16, 17] (.cells #[.int .i64 0] 3 (0, 0)) (fun b_5 => [(3, .pointer (some (⟨b_2, 0, none⟩))), (4, .pointer (some (⟨b_3, 0, none⟩))), (5, .pointer (some (⟨b_4, 0, none⟩))), (6, .func (.func fv_1) #[] cp_1.toArray), (7, .pointer (some (⟨b_5, 0, none⟩))), (16, .func (.func fv_1) #[] cp_1.toArray), (17, .bool false)]) (fun _ => by kernel_rfl) (fun b_5 w_11 p_11 a_17 f_17 => ?_)
    replace f_17 : Frm 46 [(3, .pointer (some (⟨b_2, 0, none⟩))), (4, .pointer (some (⟨b_3, 0, none⟩))), (5, .pointer (some (⟨b_4, 0, none⟩))), (6, .func (.func fv_1) #[] cp_1.toArray), (7, .pointer (some (⟨b_5, 0, none⟩))), (16, .func (.func fv_1) #[] cp_1.toArray), (17, .bool false)] a_17 := f_17
    refine W_store1 f_17 p_11 0 (by kernel_rfl) (by kernel_rfl) rfl rfl (b := b_5) (j := 0) (v := .int .i64 0) (by kernel_rfl) (by kernel_rfl) rfl (by kernel_rfl) (by exact rfl) (by simp) (by simp) ((Ent.obj b_5 (.cells #[.int .i64 0] 3 (0, 0))) :: (Ent.obj b_4 (.cells #[.slice A_3 x_3.length cap_3] 23 (0, 0))) :: (Ent.obj b_3 (.cells #[.bool false] 4 (0, 0))) :: H) rfl (fun w_12 p_12 a_18 f_18 => ?_)
    refine W_end rfl ?_
    refine T_n ?_
    refine R_seq ?_
    refine R_seq ?_
    refine R_reg ?_
    refine W_run (L' := [(3, .pointer (some (⟨b_2, 0, none⟩))), (4, .pointer (some (⟨b_3, 0, none⟩))), (5, .pointer (some (⟨b_4, 0, none⟩))), (7, .pointer (some (⟨b_5, 0, none⟩))), (18, .func (.func fv_1) #[] cp_1.toArray)]) (w' := w_12) f_18 1 [3, 4, 5, 7, 18] (by kernel_rfl) (fun a_19 f_19 => ?_)
    refine W_end rfl ?_
    refine T_n ?_
    refine wp_block ?_
    have f_20 : Frm 46 [(3, .pointer (some (⟨b_2, 0, none⟩))), (4, .pointer (some (⟨b_3, 0, none⟩))), (5, .pointer (some (⟨b_4, 0, none⟩))), (7, .pointer (some (⟨b_5, 0, none⟩))), (18, .func (.func fv_1) #[] cp_1.toArray)] a_19 := f_19.keep (ks := [3, 4, 5, 7, 18]) (by kernel_rfl)
    obtain ⟨j_1, hL_1, hF_7⟩ := bind_some' hF_6
    refine R_range (σ := Int) (β := Int × Bool) (vals := valsV) (Y := (law03_TreeWalk_s1 n d1 x_3)) (E0 := [Ent.obj b_5 (.cells #[.int .i64 0] 3 (0, 0)), Ent.obj b_4 (.cells #[.slice A_3 x_3.length cap_3] 23 (0, 0)), Ent.obj b_3 (.cells #[.bool false] 4 (0, 0))]) (H := H) (w0 := w0) (M := M_4) (f := fv_1) (caps := cp_1) f_20 p_12 (by kernel_rfl) (by kernel_rfl) (by kernel_rfl) hit_1.1 (fun (s_1 : Int) M' E1 => E1 = [Ent.obj b_5 (.cells #[.int .i64 s_1] 3 (0, 0)), Ent.obj b_4 (.cells #[.slice A_3 x_3.length cap_3] 23 (0, 0)), Ent.obj b_3 (.cells #[.bool false] 4 (0, 0))]) (fun (y_2 : Int × Bool) M' E1 => E1 = [Ent.obj b_5 (.cells #[.int .i64 y_2.1] 3 (0, 0)), Ent.obj b_4 (.cells #[.slice A_3 x_3.length cap_3] 23 (0, 0)), Ent.obj b_3 (.cells #[.bool y_2.2] 4 (0, 0))]) (fun (_ : Int × Bool) => Jmp.ret) (0 : Int) j_1 rfl (fun s_ M_ M2_ E_ hM h => h) (fun s_ M_ M2_ E_ hM h => h) (fun M_ x_ vs_ h => by obtain ⟨c_, h, _⟩ := h; exact ⟨_, h⟩) (hit_1.2 _ _ _ _ _ hL_1) ?_ ?_ ?_
    · rintro s_1 x_4 r_1 hs_1 l_1 w0 M_5 E_1 H w_13 a_20 v_1 hM_5 rfl ⟨cc_1, hv_1, hr_1⟩ p_13 f_21
      obtain rfl : v_1 = .agg cc_1.toArray := by simpa using hv_1
      replace f_21 : Frm 46 [(19, .agg cc_1.toArray), (3, .pointer (some (⟨b_2, 0, none⟩))), (4, .pointer (some (⟨b_3, 0, none⟩))), (5, .pointer (some (⟨b_4, 0, none⟩))), (7, .pointer (some (⟨b_5, 0, none⟩))), (18, .func (.func fv_1) #[] cp_1.toArray)] a_20 := f_21
      replace p_13 : Hp w0 M_5 ((Ent.obj b_5 (.cells #[.int .i64 s_1] 3 (0, 0))) :: (Ent.obj b_4 (.cells #[.slice A_3 x_3.length cap_3] 23 (0, 0))) :: (Ent.obj b_3 (.cells #[.bool false] 4 (0, 0))) :: H) w_13 := p_13
      unfold law03_TreeWalk_s1 at hs_1
      obtain ⟨A_4, cap_4, A_5, cap_5, rfl, h_5, h_6⟩ := T_api_Value.opn hr_1
      refine RI_reg (then_out F_out) (by kernel_rfl) ?_
      refine W_alloc f_21 p_13 1 [3, 4, 5, 7, 8, 18, 19] (.cells #[.int .i8 0, .bool false, .int .i64 0, S [], .slice none 0 0, .slice none 0 0] 26 (0, 0)) (fun b_6 => [(3, .pointer (some (⟨b_2, 0, none⟩))), (4, .pointer (some (⟨b_3, 0, none⟩))), (5, .pointer (some (⟨b_4, 0, none⟩))), (7, .pointer (some (⟨b_5, 0, none⟩))), (8, .pointer (some (⟨b_6, 0, none⟩))), (18, .func (.func fv_1) #[] cp_1.toArray), (19, .agg #[.int .i8 x_4.fKind, .bool x_4.fBool, .int .i64 x_4.fNum, S x_4.fText, .slice A_4 x_4.fList.length cap_4, .slice A_5 x_4.fKeys.length cap_5])]) (fun _ => by kernel_rfl) (fun b_6 w_14 p_14 a_21 f_22 => ?_)
      replace f_22 : Frm 46 [(3, .pointer (some (⟨b_2, 0, none⟩))), (4, .pointer (some (⟨b_3, 0, none⟩))), (5, .pointer (some (⟨b_4, 0, none⟩))), (7, .pointer (some (⟨b_5, 0, none⟩))), (8, .pointer (some (⟨b_6, 0, none⟩))), (18, .func (.func fv_1) #[] cp_1.toArray), (19, .agg #[.int .i8 x_4.fKind, .bool x_4.fBool, .int .i64 x_4.fNum, S x_4.fText, .slice A_4 x_4.fList.length cap_4, .slice A_5 x_4.fKeys.length cap_5])] a_21 := f_22
      refine W_storeN (vs := [.int .i8 x_4.fKind, .bool x_4.fBool, .int .i64 x_4.fNum, S x_4.fText, .slice A_4 x_4.fList.length cap_4, .slice A_5 x_4.fKeys.length cap_5]) (j := 0) f_22 p_14 (by kernel_rfl) (by kernel_rfl) rfl rfl (by kernel_rfl) (by kernel_rfl) (by simp [Value.oneCell', S]) (by kernel_rfl) (by simp) (by decide) (cs' := #[.int .i8 x_4.fKind, .bool x_4.fBool, .int .i64 x_4.fNum, S x_4.fText, .slice A_4 x_4.fList.length cap_4, .slice A_5 x_4.fKeys.length cap_5]) rfl (fun w_15 p_15 a_22 f_23 => ?_)
      refine W_end rfl ?_
      refine T_n ?_
      refine ⟨M_5, [Ent.obj b_6 (.cells #[.int .i8 x_4.fKind, .bool x_4.fBool, .int .i64 x_4.fNum, S x_4.fText, .slice A_4 x_4.fList.length cap_4, .slice A_5 x_4.fKeys.length cap_5] 26 (0, 0)), Ent.obj b_5 (.cells #[.int .i64 s_1] 3 (0, 0)), Ent.obj b_4 (.cells #[.slice A_3 x_3.length cap_3] 23 (0, 0)), Ent.obj b_3 (.cells #[.bool false] 4 (0, 0))], (Mem.le_refl _), p_15, fun H w_16 p_16 => ?_⟩
      replace p_16 : Hp w0 M_5 ((Ent.obj b_6 (.cells #[.int .i8 x_4.fKind, .bool x_4.fBool, .int .i64 x_4.fNum, S x_4.fText, .slice A_4 x_4.fList.length cap_4, .slice A_5 x_4.fKeys.length cap_5] 26 (0, 0))) :: (Ent.obj b_5 (.cells #[.int .i64 s_1] 3 (0, 0))) :: (Ent.obj b_4 (.cells #[.slice A_3 x_3.length cap_3] 23 (0, 0))) :: (Ent.obj b_3 (.cells #[.bool false] 4 (0, 0))) :: H) w_16 := p_16
      refine RI_block ?_
      refine RI_seq ?_
      refine RI_seq ?_
      obtain ⟨j_2, hj_1, hF_8⟩ := bind_some' hs_1
      refine RI_mid (fun a_44 w_20 => ∃ y_1 : Bool, j_2 = y_1 ∧ ∃ M_6 : Mem, M_5.le M_6 ∧ Frm 46 [(3, .pointer (some (⟨b_2, 0, none⟩))), (4, .pointer (some (⟨b_3, 0, none⟩))), (7, .pointer (some (⟨b_5, 0, none⟩))), (32, .bool y_1)] a_44 ∧ Hp w0 M_6 ((Ent.obj b_6 (.cells #[.int .i8 x_4.fKind, .bool x_4.fBool, .int .i64 x_4.fNum, S x_4.fText, .slice A_4 x_4.fList.length cap_4, .slice A_5 x_4.fKeys.length cap_5] 26 (0, 0))) :: (Ent.obj b_5 (.cells #[.int .i64 s_1] 3 (0, 0))) :: (Ent.obj b_4 (.cells #[.slice A_3 x_3.length cap_3] 23 (0, 0))) :: (Ent.obj b_3 (.cells #[.bool false] 4 (0, 0))) :: H) w_20) ?_ ?_
      · refine RI_draw (then_out (then_out (then_out (block_out (RB_out))))) (by kernel_rfl) p_16 (by kernel_rfl) (by kernel_rfl) ?_
        refine Q_eq (v := .int .i64 s_1) f_23 (by kernel_rfl) (by kernel_rfl) rfl rfl (fun _ pq => X_load1 (v := .int .i64 s_1) rfl (ad := ⟨b_5, 0, none⟩) (by kernel_rfl) (by kernel_rfl) (pq.ownCell 1 rfl 0)) (fun a_23 f_24 => ?_)
        refine Q_eq (v := .slice A_3 x_3.length cap_3) f_24 (by kernel_rfl) (by kernel_rfl) rfl rfl (fun _ pq => X_load1 (v := .slice A_3 x_3.length cap_3) rfl (ad := ⟨b_4, 0, none⟩) (by kernel_rfl) (by kernel_rfl) (pq.ownCell 2 rfl 0)) (fun a_24 f_25 => ?_)
        refine Q_eq (v := .int .i64 ((x_3.length : Nat) : Int)) f_25 (by kernel_rfl) (by kernel_rfl) rfl rfl (fun _ _ => by kernel_rfl) (fun a_25 f_26 => ?_)
        refine Q_eq (v := .bool (decide (((x_3.length : Nat) : Int) ≤ s_1))) f_26 (by kernel_rfl) (by kernel_rfl) rfl rfl (fun _ _ => by kernel_rfl) (fun a_26 f_27 => ?_)
        refine Q_eq (v := .bool (decide (((x_3.length : Nat) : Int) ≤ s_1))) f_27 (by kernel_rfl) (by kernel_rfl) rfl rfl (fun _ _ => by kernel_rfl) (fun a_27 f_28 => ?_)
        have f_29 : Frm 46 [(3, .pointer (some (⟨b_2, 0, none⟩))), (4, .pointer (some (⟨b_3, 0, none⟩))), (5, .pointer (some (⟨b_4, 0, none⟩))), (7, .pointer (some (⟨b_5, 0, none⟩))), (8, .pointer (some (⟨b_6, 0, none⟩))), (24, .bool (decide (((x_3.length : Nat) : Int) ≤ s_1)))] a_27 := f_28.keep (ks := [3, 4, 5, 7, 8, 24]) (by kernel_rfl)
        rcases Bool.eq_false_or_eq_true (decide (((x_3.length : Nat) : Int) ≤ s_1)) with h_7 | h_7
        · have k_3 : ((x_3.length : Nat) : Int) ≤ s_1 := decide_eq_true_iff.1 h_7
          have hF_9 := cnd_t h_7 hj_1
          have f_30 := Frm.set f_29 24 (v := .bool (decide (((x_3.length : Nat) : Int) ≤ s_1))) (v' := .bool true) (by kernel_rfl) (congrArg Value.bool h_7)
          have f_31 : Frm 46 [(3, .pointer (some (⟨b_2, 0, none⟩))), (4, .pointer (some (⟨b_3, 0, none⟩))), (5, .pointer (some (⟨b_4, 0, none⟩))), (7, .pointer (some (⟨b_5, 0, none⟩))), (8, .pointer (some (⟨b_6, 0, none⟩))), (24, .bool true)] a_27 := f_30.keep (ks := [3, 4, 5, 7, 8, 24]) (by kernel_rfl)
          refine Q_not f_31 (by kernel_rfl) rfl rfl (fun a_28 f_32 => ?_)
          refine Q_not f_32 (by kernel_rfl) rfl rfl (fun a_29 f_33 => ?_)
          refine Q_not f_33 (by kernel_rfl) rfl rfl (fun a_30 f_34 => ?_)
          refine Q_not f_34 (by kernel_rfl) rfl rfl (fun a_31 f_35 => ?_)
          refine Q_not f_35 (by kernel_rfl) rfl rfl (fun a_32 f_36 => ?_)
          refine Q_not f_36 (by kernel_rfl) rfl rfl (fun a_33 f_37 => ?_)
          refine Q_not f_37 (by kernel_rfl) rfl rfl (fun a_34 f_38 => ?_)
          refine Q_eq (v := .bool true) f_38 (by kernel_rfl) (by kernel_rfl) rfl rfl (fun _ _ => by kernel_rfl) (fun a_35 f_39 => ?_)
          have f_40 : Frm 46 [(3, .pointer (some (⟨b_2, 0, none⟩))), (4, .pointer (some (⟨b_3, 0, none⟩))), (7, .pointer (some (⟨b_5, 0, none⟩))), (32, .bool true)] a_35 := f_39.keep (ks := [3, 4, 7, 32]) (by kernel_rfl)
          refine Q_end rfl ?_
          intro w_17 p_17
          refine T_n ?_
          exact ⟨(true), (Option.some.inj hF_9).symm, M_5, (Mem.le_refl _), f_40.keep (ks := [3, 4, 7, 32]) (by kernel_rfl), p_17⟩
        · have k_4 : ¬ (((x_3.length : Nat) : Int) ≤ s_1) := iff_f decide_eq_true_iff h_7
          have hF_10 := cnd_f h_7 hj_1
          have f_41 := Frm.set f_29 24 (v := .bool (decide (((x_3.length : Nat) : Int) ≤ s_1))) (v' := .bool false) (by kernel_rfl) (congrArg Value.bool h_7)
          have f_42 : Frm 46 [(3, .pointer (some (⟨b_2, 0, none⟩))), (4, .pointer (some (⟨b_3, 0, none⟩))), (5, .pointer (some (⟨b_4, 0, none⟩))), (7, .pointer (some (⟨b_5, 0, none⟩))), (8, .pointer (some (⟨b_6, 0, none⟩))), (24, .bool false)] a_27 := f_41.keep (ks := [3, 4, 5, 7, 8, 24]) (by kernel_rfl)
          refine Q_eq (v := .agg #[.int .i8 x_4.fKind, .bool x_4.fBool, .int .i64 x_4.fNum, S x_4.fText, .slice A_4 x_4.fList.length cap_4, .slice A_5 x_4.fKeys.length cap_5]) f_42 (by kernel_rfl) (by kernel_rfl) rfl rfl (fun _ pq => X_loadN (cs := [.int .i8 x_4.fKind, .bool x_4.fBool, .int .i64 x_4.fNum, S x_4.fText, .slice A_4 x_4.fList.length cap_4, .slice A_5 x_4.fKeys.length cap_5]) rfl (ad := ⟨b_6, 0, none⟩) (by kernel_rfl) (by kernel_rfl) (own_cells (pq.ownCell 0 rfl) 0 rfl)) (fun a_36 f_43 => ?_)
          refine Q_eq (v := .slice A_3 x_3.length cap_3) f_43 (by kernel_rfl) (by kernel_rfl) rfl rfl (fun _ pq => X_load1 (v := .slice A_3 x_3.length cap_3) rfl (ad := ⟨b_4, 0, none⟩) (by kernel_rfl) (by kernel_rfl) (pq.ownCell 2 rfl 0)) (fun a_37 f_44 => ?_)
          refine Q_eq (v := .int .i64 s_1) f_44 (by kernel_rfl) (by kernel_rfl) rfl rfl (fun _ pq => X_load1 (v := .int .i64 s_1) rfl (ad := ⟨b_5, 0, none⟩) (by kernel_rfl) (by kernel_rfl) (pq.ownCell 1 rfl 0)) (fun a_38 f_45 => ?_)
          obtain ⟨x_5, hx_4, hF_11⟩ := bind_some' hF_10
          obtain ⟨ad_1, c_1, e_1, hl_1, hr_2, hc_5⟩ := Sli.at_ (h_4.mono (hM_4.trans hM_5)) hx_4
          clear hl_1
          obtain ⟨A_6, cap_6, A_7, cap_7, rfl, h_8, h_9⟩ := T_api_Value.opn hr_2
          refine Q_eq (v := .pointer (some (ad_1.add (s_1.toNat * 6)))) f_45 (by kernel_rfl) (by kernel_rfl) rfl rfl (fun _ pq => X_indexAddrA e_1 rfl (len := x_3.length) (cap := cap_3) (k := .i64) (i := s_1) (by kernel_rfl) (by kernel_rfl) (e := 26) (by kernel_rfl) (sz := 6) (by kernel_rfl) (getI_nn hx_4) (getI_lt hx_4)) (fun a_39 f_46 => ?_)
          refine Q_eq (v := .agg #[.int .i8 x_5.fKind, .bool x_5.fBool, .int .i64 x_5.fNum, S x_5.fText, .slice A_6 x_5.fList.length cap_6, .slice A_7 x_5.fKeys.length cap_7]) f_46 (by kernel_rfl) (by kernel_rfl) rfl rfl (fun _ pq => X_loadN (cs := [.int .i8 x_5.fKind, .bool x_5.fBool, .int .i64 x_5.fNum, S x_5.fText, .slice A_6 x_5.fList.length cap_6, .slice A_7 x_5.fKeys.length cap_7]) rfl (ad := ad_1.add (s_1.toNat * 6)) (by kernel_rfl) (by kernel_rfl) (fun j v h => pq.cell (hc_5 j v h))) (fun a_40 f_47 => ?_)
          obtain ⟨x_6, hx_5, hF_12⟩ := bind_some' hF_11
          refine Q_okv (v := .bool x_6) f_47 (by kernel_rfl) (by kernel_rfl) rfl rfl (fun _ => by kernel_rfl) (ref03_Same_ok n _ [.int .i8 x_4.fKind, .bool x_4.fBool, .int .i64 x_4.fNum, S x_4.fText, .slice A_4 x_4.fList.length cap_4, .slice A_5 x_4.fKeys.length cap_5] x_4 (T_api_Value.shutx (x := x_4) h_5 h_6) [.int .i8 x_5.fKind, .bool x_5.fBool, .int .i64 x_5.fNum, S x_5.fText, .slice A_6 x_5.fList.length cap_6, .slice A_7 x_5.fKeys.length cap_7] x_5 (T_api_Value.shutx (x := x_5) h_8 h_9) x_6 hx_5) (fun a_41 f_48 => ?_)
          refine Q_eq (v := .bool !x_6) f_48 (by kernel_rfl) (by kernel_rfl) rfl rfl (fun _ _ => by kernel_rfl) (fun a_42 f_49 => ?_)
          refine Q_eq (v := .bool !x_6) f_49 (by kernel_rfl) (by kernel_rfl) rfl rfl (fun _ _ => by kernel_rfl) (fun a_43 f_50 => ?_)
          have f_51 : Frm 46 [(3, .pointer (some (⟨b_2, 0, none⟩))), (4, .pointer (some (⟨b_3, 0, none⟩))), (7, .pointer (some (⟨b_5, 0, none⟩))), (32, .bool !x_6)] a_43 := f_50.keep (ks := [3, 4, 7, 32]) (by kernel_rfl)
          refine Q_end rfl ?_
          intro w_19 p_19
          refine T_n ?_
          exact ⟨(!x_6), (Option.some.inj hF_12).symm, M_5, (Mem.le_refl _), f_51.keep (ks := [3, 4, 7, 32]) (by kernel_rfl), p_19⟩
      · rintro a_44 w_20 ⟨y_1, hq_1, M_6, hM_6, f_52, p_20⟩
        subst j_2
        refine T_n ?_
        refine RI_cond f_52 (b := y_1) (by kernel_rfl) (by kernel_rfl) (fun h_10 => ?_) (fun h_10 => ?_)
        · have hF_13 := cnd_t h_10 hF_8
          refine RI_seq ?_
          refine RI_reg (then_out (then_out (block_out (RB_out)))) (by kernel_rfl) ?_
          refine W_store1 f_52 p_20 3 (by kernel_rfl) (by kernel_rfl) rfl rfl (b := b_3) (j := 0) (v := .bool false) (by kernel_rfl) (by kernel_rfl) rfl (by kernel_rfl) (by exact rfl) (by simp) (by simp) ((Ent.obj b_6 (.cells #[.int .i8 x_4.fKind, .bool x_4.fBool, .int .i64 x_4.fNum, S x_4.fText, .slice A_4 x_4.fList.length cap_4, .slice A_5 x_4.fKeys.length cap_5] 26 (0, 0))) :: (Ent.obj b_5 (.cells #[.int .i64 s_1] 3 (0, 0))) :: (Ent.obj b_4 (.cells #[.slice A_3 x_3.length cap_3] 23 (0, 0))) :: (Ent.obj b_3 (.cells #[.bool false] 4 (0, 0))) :: H) rfl (fun w_21 p_21 a_45 f_53 => ?_)
          refine W_end rfl ?_
          refine T_n ?_
          refine RI_ret ?_
          refine T_r ?_
          refine B_r ?_
          obtain rfl := Option.some.inj hF_13
          exact RB_x rfl ⟨M_6, [Ent.obj b_5 (.cells #[.int .i64 s_1] 3 (0, 0)), Ent.obj b_4 (.cells #[.slice A_3 x_3.length cap_3] 23 (0, 0)), Ent.obj b_3 (.cells #[.bool false] 4 (0, 0))], hM_6, (p_21.dropN 1), rfl⟩
        · have hF_14 := cnd_f h_10 hF_8
          refine RI_skip ?_
          refine T_n ?_
          refine RI_seq ?_
          refine RI_reg (then_out (block_out (RB_out))) (by kernel_rfl) ?_
          refine W_eq (v := .int .i64 s_1) f_52 (by kernel_rfl) (by kernel_rfl) rfl rfl (X_load1 (v := .int .i64 s_1) rfl (ad := ⟨b_5, 0, none⟩) (by kernel_rfl) (by kernel_rfl) (p_20.ownCell 1 rfl 0)) (fun a_46 f_54 => ?_)
          obtain ⟨g_2, hF_15⟩ := need_some hF_14
          refine W_run (L' := [(3, .pointer (some (⟨b_2, 0, none⟩))), (4, .pointer (some (⟨b_3, 0, none⟩))), (7, .pointer (some (⟨b_5, 0, none⟩))), (32, .bool y_1), (33, .int .i64 s_1), (34, .int .i64 (IntKind.wrap .i64 (s_1 + 1)))]) (w' := w_20) f_54 1 [3, 4, 7, 32, 33, 34] (by kernel_rfl) (fun a_47 f_55 => ?_)
          have f_56 := Frm.set f_55 34 (v := .int .i64 (IntKind.wrap .i64 (s_1 + 1))) (v' := .int .i64 (s_1 + 1)) (by kernel_rfl) (congrArg (Value.int .i64) (inR_wrap g_2))
          have f_57 : Frm 46 [(3, .pointer (some (⟨b_2, 0, none⟩))), (4, .pointer (some (⟨b_3, 0, none⟩))), (7, .pointer (some (⟨b_5, 0, none⟩))), (32, .bool y_1), (33, .int .i64 s_1), (34, .int .i64 (s_1 + 1))] a_47 := f_56.keep (ks := [3, 4, 7, 32, 33, 34]) (by kernel_rfl)
          refine W_store1 f_57 p_20 1 (by kernel_rfl) (by kernel_rfl) rfl rfl (b := b_5) (j := 0) (v := .int .i64 (s_1 + 1)) (by kernel_rfl) (by kernel_rfl) rfl (by kernel_rfl) (by exact rfl) (by simp) (by simp) ((Ent.obj b_6 (.cells #[.int .i8 x_4.fKind, .bool x_4.fBool, .int .i64 x_4.fNum, S x_4.fText, .slice A_4 x_4.fList.length cap_4, .slice A_5 x_4.fKeys.length cap_5] 26 (0, 0))) :: (Ent.obj b_5 (.cells #[.int .i64 (s_1 + 1)] 3 (0, 0))) :: (Ent.obj b_4 (.cells #[.slice A_3 x_3.length cap_3] 23 (0, 0))) :: (Ent.obj b_3 (.cells #[.bool false] 4 (0, 0))) :: H) rfl (fun w_22 p_22 a_48 f_58 => ?_)
          refine W_end rfl ?_
          refine T_n ?_
          refine RI_seq ?_
          refine RI_reg (then_out (block_out (RB_out))) (by kernel_rfl) ?_
          refine W_eq (v := .int .i64 (s_1 + 1)) f_58 (by kernel_rfl) (by kernel_rfl) rfl rfl (X_load1 (v := .int .i64 (s_1 + 1)) rfl (ad := ⟨b_5, 0, none⟩) (by kernel_rfl) (by kernel_rfl) (p_22.ownCell 1 rfl 0)) (fun a_49 f_59 => ?_)
          refine W_eq (v := .int .i64 d1) f_59 (by kernel_rfl) (by kernel_rfl) rfl rfl (X_load1 (v := .int .i64 d1) rfl (ad := ⟨b_2, 0, none⟩) (by kernel_rfl) (by kernel_rfl) (p_22.cell ((fun j v h => (((hM_3.trans hM_4).trans hM_5).trans hM_6).cell (hc_4 j v h)) 0 _ rfl))) (fun a_50 f_60 => ?_)
          refine W_run (L' := [(4, .pointer (some (⟨b_3, 0, none⟩))), (37, .bool (decide ((s_1 + 1) = d1)))]) (w' := w_22) f_60 1 [4, 37] (by kernel_rfl) (fun a_51 f_61 => ?_)
          refine W_end rfl ?_
          refine T_n ?_
          refine RI_cond f_61 (b := decide ((s_1 + 1) = d1)) (by kernel_rfl) (by kernel_rfl) (fun h_11 => ?_) (fun h_11 => ?_)
          · have k_7 : (s_1 + 1) = d1 := decide_eq_true_iff.1 h_11
            have hF_16 := cnd_t h_11 hF_15
            refine RI_seq ?_
            refine RI_reg (then_out (block_out (RB_out))) (by kernel_rfl) ?_
            obtain ⟨x_7, hx_6, hF_17⟩ := bind_some' hF_16
            refine W_okv (v := .bool x_7) f_61 p_22 (by kernel_rfl) (by kernel_rfl) rfl rfl (fun _ => by kernel_rfl) (law03_wakes_ok n _ (GL.mono (((((hM_1.trans hM_2).trans hM_3).trans hM_4).trans hM_5).trans hM_6) hG) x_7 hx_6) (fun w_23 p_23 a_52 f_62 => ?_)
            refine W_store1 f_62 p_23 3 (by kernel_rfl) (by kernel_rfl) rfl rfl (b := b_3) (j := 0) (v := .bool x_7) (by kernel_rfl) (by kernel_rfl) rfl (by kernel_rfl) (by exact rfl) (by simp) (by simp) ((Ent.obj b_6 (.cells #[.int .i8 x_4.fKind, .bool x_4.fBool, .int .i64 x_4.fNum, S x_4.fText, .slice A_4 x_4.fList.length cap_4, .slice A_5 x_4.fKeys.length cap_5] 26 (0, 0))) :: (Ent.obj b_5 (.cells #[.int .i64 (s_1 + 1)] 3 (0, 0))) :: (Ent.obj b_4 (.cells #[.slice A_3 x_3.length cap_3] 23 (0, 0))) :: (Ent.obj b_3 (.cells #[.bool x_7] 4 (0, 0))) :: H) rfl (fun w_24 p_24 a_53 f_63 => ?_)
            refine W_end rfl ?_
            refine T_n ?_
            refine RI_ret ?_
            refine B_r ?_
            obtain rfl := Option.some.inj hF_17
            exact RB_x rfl ⟨M_6, [Ent.obj b_5 (.cells #[.int .i64 (s_1 + 1)] 3 (0, 0)), Ent.obj b_4 (.cells #[.slice A_3 x_3.length cap_3] 23 (0, 0)), Ent.obj b_3 (.cells #[.bool x_7] 4 (0, 0))], hM_6, (p_24.dropN 1), rfl⟩
          · have k_8 : ¬ ((s_1 + 1) = d1) := iff_f decide_eq_true_iff h_11
            have hF_18 := cnd_f h_11 hF_15
            refine RI_skip ?_
            refine B_n ?_
            obtain rfl := Option.some.inj hF_18
            exact RB_n ⟨M_6, [Ent.obj b_5 (.cells #[.int .i64 (s_1 + 1)] 3 (0, 0)), Ent.obj b_4 (.cells #[.slice A_3 x_3.length cap_3] 23 (0, 0)), Ent.obj b_3 (.cells #[.bool false] 4 (0, 0))], hM_6, (p_22.dropN 1), rfl⟩
    · rintro s_2 rfl l_2 D_1 rr_1 M_7 E_2 w_25 a_54 hM_7 rfl p_25 f_64
      replace p_25 : Hp w0 M_7 ((Ent.obj D_1 (.deferred (some []))) :: (Ent.obj b_5 (.cells #[.int .i64 s_2] 3 (0, 0))) :: (Ent.obj b_4 (.cells #[.slice A_3 x_3.length cap_3] 23 (0, 0))) :: (Ent.obj b_3 (.cells #[.bool false] 4 (0, 0))) :: H) w_25 := p_25.drop
      replace hF_7 : (_ : Option _) = some _ := hF_7
      refine B_n ?_
      refine T_n ?_
      refine R_seq ?_
      refine R_reg ?_
      refine W_eq (v := .int .i64 s_2) f_64 (by kernel_rfl) (by kernel_rfl) rfl rfl (X_load1 (v := .int .i64 s_2) rfl (ad := ⟨b_5, 0, none⟩) (by kernel_rfl) (by kernel_rfl) (p_25.ownCell 1 rfl 0)) (fun a_55 f_65 => ?_)
      refine W_eq (v := .slice A_3 x_3.length cap_3) f_65 (by kernel_rfl) (by kernel_rfl) rfl rfl (X_load1 (v := .slice A_3 x_3.length cap_3) rfl (ad := ⟨b_4, 0, none⟩) (by kernel_rfl) (by kernel_rfl) (p_25.ownCell 2 rfl 0)) (fun a_56 f_66 => ?_)
      refine W_run (L' := [(4, .pointer (some (⟨b_3, 0, none⟩))), (43, .bool (decide (s_2 = ((x_3.length : Nat) : Int))))]) (w' := w_25) f_66 3 [4, 43] (by kernel_rfl) (fun a_57 f_67 => ?_)
      rcases Bool.eq_false_or_eq_true (decide (s_2 = ((x_3.length : Nat) : Int))) with h_12 | h_12
      · have k_9 : s_2 = ((x_3.length : Nat) : Int) := decide_eq_true_iff.1 h_12
        have hF_19 := cnd_t h_12 hF_7
        have f_68 := Frm.set f_67 43 (v := .bool (decide (s_2 = ((x_3.length : Nat) : Int)))) (v' := .bool true) (by kernel_rfl) (congrArg Value.bool h_12)
        have f_69 : Frm 46 [(4, .pointer (some (⟨b_3, 0, none⟩))), (43, .bool true)] a_57 (Go.Vc.mark D_1) := f_68.keep (ks := [4, 43]) (by kernel_rfl)
        obtain ⟨x_8, hx_7, hF_20⟩ := bind_some' hF_19
        refine W_okv (v := .bool x_8) f_69 p_25 (by kernel_rfl) (by kernel_rfl) rfl rfl (fun _ => by kernel_rfl) (law03_wakes_ok n _ (GL.mono ((((hM_1.trans hM_2).trans hM_3).trans hM_4).trans hM_7) hG) x_8 hx_7) (fun w_26 p_26 a_58 f_70 => ?_)
        refine W_run (L' := [(4, .pointer (some (⟨b_3, 0, none⟩))), (45, .bool x_8)]) (w' := w_26) f_70 1 [4, 45] (by kernel_rfl) (fun a_59 f_71 => ?_)
        refine W_store1 f_71 p_26 3 (by kernel_rfl) (by kernel_rfl) rfl rfl (b := b_3) (j := 0) (v := .bool x_8) (by kernel_rfl) (by kernel_rfl) rfl (by kernel_rfl) (by exact rfl) (by simp) (by simp) ((Ent.obj D_1 (.deferred (some []))) :: (Ent.obj b_5 (.cells #[.int .i64 s_2] 3 (0, 0))) :: (Ent.obj b_4 (.cells #[.slice A_3 x_3.length cap_3] 23 (0, 0))) :: (Ent.obj b_3 (.cells #[.bool x_8] 4 (0, 0))) :: H) rfl (fun w_27 p_27 a_60 f_72 => ?_)
        refine W_end rfl ?_
        refine T_n ?_
        refine wp_ret ?_
        refine E_M1 f_72 p_27 (fun w_28 p_28 => ?_)
        replace p_28 : Hp w0 M_7 ((Ent.obj b_5 (.cells #[.int .i64 s_2] 3 (0, 0))) :: (Ent.obj b_4 (.cells #[.slice A_3 x_3.length cap_3] 23 (0, 0))) :: (Ent.obj b_3 (.cells #[.bool x_8] 4 (0, 0))) :: H) w_28 := p_28
        refine V_rv1 rfl (Rv.cell1 (v := .bool x_8) (ad := ⟨b_3, 0, none⟩) f_72 (by kernel_rfl) (by kernel_rfl) (p_28.ownCell 2 rfl 0)) ?_
        obtain rfl := Option.some.inj hF_20
        exact ⟨_, rfl, M_7, ((((hM_1.trans hM_2).trans hM_3).trans hM_4).trans hM_7), (p_28.dropN 3), rfl⟩
      · have k_10 : ¬ (s_2 = ((x_3.length : Nat) : Int)) := iff_f decide_eq_true_iff h_12
        have hF_21 := cnd_f h_12 hF_7
        have f_73 := Frm.set f_67 43 (v := .bool (decide (s_2 = ((x_3.length : Nat) : Int)))) (v' := .bool false) (by kernel_rfl) (congrArg Value.bool h_12)
        have f_74 : Frm 46 [(4, .pointer (some (⟨b_3, 0, none⟩))), (43, .bool false)] a_57 (Go.Vc.mark D_1) := f_73.keep (ks := [4, 43]) (by kernel_rfl)
        refine W_run (L' := [(4, .pointer (some (⟨b_3, 0, none⟩))), (45, .bool false)]) (w' := w_25) f_74 2 [4, 45] (by kernel_rfl) (fun a_61 f_75 => ?_)
        refine W_store1 f_75 p_25 3 (by kernel_rfl) (by kernel_rfl) rfl rfl (b := b_3) (j := 0) (v := .bool false) (by kernel_rfl) (by kernel_rfl) rfl (by kernel_rfl) (by exact rfl) (by simp) (by simp) ((Ent.obj D_1 (.deferred (some []))) :: (Ent.obj b_5 (.cells #[.int .i64 s_2] 3 (0, 0))) :: (Ent.obj b_4 (.cells #[.slice A_3 x_3.length cap_3] 23 (0, 0))) :: (Ent.obj b_3 (.cells #[.bool false] 4 (0, 0))) :: H) rfl (fun w_29 p_29 a_62 f_76 => ?_)
        refine W_end rfl ?_
        refine T_n ?_
        refine wp_ret ?_
        refine E_M1 f_76 p_29 (fun w_30 p_30 => ?_)
        replace p_30 : Hp w0 M_7 ((Ent.obj b_5 (.cells #[.int .i64 s_2] 3 (0, 0))) :: (Ent.obj b_4 (.cells #[.slice A_3 x_3.length cap_3] 23 (0, 0))) :: (Ent.obj b_3 (.cells #[.bool false] 4 (0, 0))) :: H) w_30 := p_30
        refine V_rv1 rfl (Rv.cell1 (v := .bool false) (ad := ⟨b_3, 0, none⟩) f_76 (by kernel_rfl) (by kernel_rfl) (p_30.ownCell 2 rfl 0)) ?_
        obtain rfl := Option.some.inj hF_21
        exact ⟨_, rfl, M_7, ((((hM_1.trans hM_2).trans hM_3).trans hM_4).trans hM_7), (p_30.dropN 3), rfl⟩
    · rintro b_7 rfl l_3 D_2 rr_2 M_8 E_3 w_31 a_63 hM_8 hx_8 p_31 f_77
      obtain rfl := hx_8
      replace p_31 : Hp w0 M_8 ((Ent.obj D_2 (.deferred (some []))) :: (Ent.obj b_5 (.cells #[.int .i64 b_7.1] 3 (0, 0))) :: (Ent.obj b_4 (.cells #[.slice A_3 x_3.length cap_3] 23 (0, 0))) :: (Ent.obj b_3 (.cells #[.bool b_7.2] 4 (0, 0))) :: H) w_31 := p_31.drop
      refine B_r ?_
      refine T_r ?_
      refine E_M1 f_77 p_31 (fun w_32 p_32 => ?_)
      replace p_32 : Hp w0 M_8 ((Ent.obj b_5 (.cells #[.int .i64 b_7.1] 3 (0, 0))) :: (Ent.obj b_4 (.cells #[.slice A_3 x_3.length cap_3] 23 (0, 0))) :: (Ent.obj b_3 (.cells #[.bool b_7.2] 4 (0, 0))) :: H) w_32 := p_32
      refine V_rv1 rfl (Rv.cell1 (v := .bool b_7.2) (ad := ⟨b_3, 0, none⟩) f_77 (by kernel_rfl) (by kernel_rfl) (p_32.ownCell 2 rfl 0)) ?_
      obtain rfl := Option.some.inj hF_7
      exact ⟨_, rfl, M_8, ((((hM_1.trans hM_2).trans hM_3).trans hM_4).trans hM_8), (p_32.dropN 3), rfl⟩
end Go.Proofs.YtekkifakjkhjiaaDoor
