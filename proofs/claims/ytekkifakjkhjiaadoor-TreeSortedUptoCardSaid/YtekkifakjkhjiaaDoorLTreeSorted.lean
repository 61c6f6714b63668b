/-
  Printed by a program: of each function its shallow reading, and the proof that the function gives what the reading gives. No condition.
-/
import Derived.Test.YtekkifakjkhjiaaDoorQ5
import Derived.Test.YtekkifakjkhjiaaDoorQ2a
import Derived.Test.YtekkifakjkhjiaaDoorQ2b
import Derived.Test.YtekkifakjkhjiaaDoorQ2f
import Derived.Test.YtekkifakjkhjiaaDoorQ4g
set_option linter.unusedVariables false
set_option linter.unusedSimpArgs false
namespace Go.Proofs.YtekkifakjkhjiaaDoor
open Go Go.Vc Go.RowKit
def law03_TreeSorted_s2 (n : Nat) (x_29 : T_api_Value) (s_2 : Int) : Option (Lp Int (Sum Unit Unit)) :=
    bif (decide (s_2 < ((x_29.fKeys.length : Nat) : Int))) then
      ((getI x_29.fKeys s_2).bind fun x_30 =>
      need (inR .i64 (s_2 - 1)) <|
      (getI x_29.fKeys (s_2 - 1)).bind fun x_31 =>
      bif (Op.bytesLess x_30 x_31 || x_30 == x_31) then
        (some (.br (.inl ())))
      else
        need (inR .i64 (s_2 + 1)) <|
        some (.nx (s_2 + 1)))
    else
      some (.br (.inr ()))
def law03_TreeSorted_s1 (n : Nat) (x_28 : List T_api_Value) (s_1 : Int) : Option (Lp Int (Sum Unit Unit)) :=
    bif (decide (s_1 < ((x_28.length : Nat) : Int))) then
      ((getI x_28 s_1).bind fun x_29 =>
      (loopF (law03_TreeSorted_s2 n x_29) n (1 : Int)).bind fun b_25 =>
      (match b_25 with 
      | .inl y_5 => some (.br (.inl ())) 
      | .inr y_6 => need (inR .i64 (s_1 + 1)) <|
        some (.nx (s_1 + 1))))
    else
      some (.br (.inr ()))
def law03_TreeSorted (n : Nat) (d0 : T_api_Value) (d1 : T_api_Value) : Option Bool :=
  (((ref03_Great n d0).bind fun x_1 =>
    bif x_1 then
      (some ((true)))
    else
      (ref03_Great n d1).bind fun x_2 =>
      some ((x_2)) : Option Bool)).bind fun y_1 =>
  bif y_1 then
    ((law03_wakes n).bind fun x_3 =>
    some ((x_3)))
  else
    (((tree_Sorted n d0).bind fun x_4 =>
      (tree_Sorted n d1).bind fun x_5 =>
      some (((⟨x_4.fKind, (x_4.fBool), x_4.fNum, x_4.fText, x_4.fList, x_4.fKeys⟩ : T_api_Value), (⟨x_5.fKind, (x_5.fBool), x_5.fNum, x_5.fText, x_5.fList, x_5.fKeys⟩ : T_api_Value))) : Option (T_api_Value × T_api_Value))).bind fun y_2 =>
    (((tree_Check n d0).bind fun x_22 =>
      bif (!(decide (x_22 = 0))) then
        (some ((true)))
      else
        (tree_Check n d1).bind fun x_23 =>
        some ((!(decide (x_23 = 0)))) : Option Bool)).bind fun y_3 =>
    bif y_3 then
      ((((tree_Check n d0).bind fun x_24 =>
        bif (decide (x_24 = 0)) then
          ((law03_wakes n).bind fun x_25 =>
          some ((x_25)))
        else
          (ref03_Same n y_2.1 d0).bind fun x_26 =>
          bif x_26 then
            ((law03_wakes n).bind fun x_27 =>
            some ((x_27)))
          else
            some ((false)) : Option Bool)).bind fun y_4 =>
      some ((y_4)))
    else
      (ref03_Walk n y_2.1).bind fun x_28 =>
      (loopF (law03_TreeSorted_s1 n x_28) n (0 : Int)).bind fun b_23 =>
      (match b_23 with 
      | .inl y_7 => some ((false)) 
      | .inr y_8 => (tree_Equal n y_2.1 d0).bind fun x_32 =>
        bif x_32 then
          ((tree_Sorted n y_2.1).bind fun x_33 =>
          (ref03_Same n x_33 y_2.1).bind fun x_34 =>
          bif x_34 then
            ((tree_Equal n d0 d1).bind fun x_35 =>
            (ref03_Same n y_2.1 y_2.2).bind fun x_36 =>
            bif (x_35 == x_36) then
              ((tree_Count n y_2.1).bind fun x_37 =>
              (tree_Count n d0).bind fun x_38 =>
              bif (decide (x_37 = x_38)) then
                ((law03_wakes n).bind fun x_39 =>
                some ((x_39)))
              else
                some ((false)))
            else
              some ((false)))
          else
            some ((false)))
        else
          some ((false)))
set_option maxHeartbeats 2000000 in
theorem law03_TreeSorted_ok (n : Nat) (M : Mem) (hG : GL M) (c0 : List Value) (d0 : T_api_Value) (h0 : Rep M (emb_T_api_Value d0) c0) (c1 : List Value) (d1 : T_api_Value) (h1 : Rep M (emb_T_api_Value d1) c1) (r : Bool) (hF : law03_TreeSorted n d0 d1 = some r) : Ok Tryd.prog M 6 [.agg c0.toArray, .agg c1.toArray] (fun _ v => v = .bool r) := by
  unfold law03_TreeSorted at hF
  intro M1 hM0 w0 H w p0
  replace hG := GL.mono hM0 hG
  replace h0 := Rep.mono hM0 _ _ h0
  replace h1 := Rep.mono hM0 _ _ h1
  obtain ⟨A_1, cap_1, A_2, cap_2, rfl, h_1, h_2⟩ := T_api_Value.opn h0
  obtain ⟨A_3, cap_3, A_4, cap_4, rfl, h_3, h_4⟩ := T_api_Value.opn h1
  refine R_enter 95 Tryd.func6 rfl rfl (by simp) (fun a0 f0 => ?_)
  refine R_seq (R_reg ?_)
  refine V_box (cs := #[.int .i8 d0.fKind, .bool d0.fBool, .int .i64 d0.fNum, S d0.fText, .slice A_1 d0.fList.length cap_1, .slice A_2 d0.fKeys.length cap_2]) (T := 26) f0 p0 (by kernel_rfl) (fun _ => by kernel_rfl) (fun b_1 M_1 w_1 hM_1 hc_1 p_1 a_1 f_1 => ?_)
  have hc_2 := fz_box hc_1
  refine V_box (cs := #[.int .i8 d1.fKind, .bool d1.fBool, .int .i64 d1.fNum, S d1.fText, .slice A_3 d1.fList.length cap_3, .slice A_4 d1.fKeys.length cap_4]) (T := 26) f_1 p_1 (by kernel_rfl) (fun _ => by kernel_rfl) (fun b_2 M_2 w_2 hM_2 hc_3 p_2 a_2 f_2 => ?_)
  have hc_4 := fz_box hc_3
  refine V_run f_2 1 (by kernel_rfl) (fun a_3 f_3 => ?_)
  refine W_end rfl (T_n (R_seq (R_seq ?_)))
  obtain ⟨j_1, hj_1, hF_1⟩ := bind_some' hF
  refine R_mid (fun a_11 w_5 => ∃ y_1 : Bool, j_1 = y_1 ∧ ∃ M_3 : Mem, M_2.le M_3 ∧ Frm 95 [(2, .pointer (some (⟨b_1, 0, none⟩))), (3, .pointer (some (⟨b_2, 0, none⟩))), (15, .bool y_1)] a_11 ∧ Hp w0 M_3 (H) w_5) ?_ ?_
  · refine R_reg ?_
    refine V_eq (v := .agg #[.int .i8 d0.fKind, .bool d0.fBool, .int .i64 d0.fNum, S d0.fText, .slice A_1 d0.fList.length cap_1, .slice A_2 d0.fKeys.length cap_2]) f_3 (by kernel_rfl) (X_loadN (cs := [.int .i8 d0.fKind, .bool d0.fBool, .int .i64 d0.fNum, S d0.fText, .slice A_1 d0.fList.length cap_1, .slice A_2 d0.fKeys.length cap_2]) rfl (ad := ⟨b_1, 0, none⟩) (by kernel_rfl) (by kernel_rfl) (fun j v h => p_2.cell ((fzu hM_2 hc_2) j v h))) (fun a_4 f_4 => ?_)
    obtain ⟨x_1, hx_1, hF_2⟩ := bind_some' hj_1
    refine V_okv f_4 p_2 (ref03_Great_ok n _ _ d0 (T_api_Value.shutx (x := d0) (h_1.mono (hM_1.trans hM_2)) (h_2.mono (hM_1.trans hM_2))) x_1 hx_1) (by kernel_rfl) (fun _ => by kernel_rfl) (fun w_3 p_3 a_5 f_5 => ?_)
    refine V_run f_5 1 (by kernel_rfl) (fun a_6 f_6 => ?_)
    rcases Bool.eq_false_or_eq_true (x_1) with h_5 | h_5
    · have hF_3 := cnd_t h_5 hF_2
      have f_7 := Frm.set f_6 12 (v := .bool x_1) (v' := .bool true) (by kernel_rfl) (congrArg Value.bool h_5)
      refine V_run f_7 3 (by kernel_rfl) (fun a_7 f_8 => ?_)
      refine W_end rfl (T_n ?_)
      exact ⟨(true), (Option.some.inj hF_3).symm, M_2, (Mem.le_refl _), f_8.keep (ks := [2, 3, 15]) (by kernel_rfl), p_3⟩
    · have hF_4 := cnd_f h_5 hF_2
      have f_9 := Frm.set f_6 12 (v := .bool x_1) (v' := .bool false) (by kernel_rfl) (congrArg Value.bool h_5)
      refine V_eq (v := .agg #[.int .i8 d1.fKind, .bool d1.fBool, .int .i64 d1.fNum, S d1.fText, .slice A_3 d1.fList.length cap_3, .slice A_4 d1.fKeys.length cap_4]) f_9 (by kernel_rfl) (X_loadN (cs := [.int .i8 d1.fKind, .bool d1.fBool, .int .i64 d1.fNum, S d1.fText, .slice A_3 d1.fList.length cap_3, .slice A_4 d1.fKeys.length cap_4]) rfl (ad := ⟨b_2, 0, none⟩) (by kernel_rfl) (by kernel_rfl) (fun j v h => p_3.cell (hc_4 j v h))) (fun a_8 f_10 => ?_)
      obtain ⟨x_2, hx_2, hF_5⟩ := bind_some' hF_4
      refine V_okv f_10 p_3 (ref03_Great_ok n _ _ d1 (T_api_Value.shutx (x := d1) (h_3.mono (hM_1.trans hM_2)) (h_4.mono (hM_1.trans hM_2))) x_2 hx_2) (by kernel_rfl) (fun _ => by kernel_rfl) (fun w_4 p_4 a_9 f_11 => ?_)
      refine V_run f_11 1 (by kernel_rfl) (fun a_10 f_12 => ?_)
      refine W_end rfl (T_n ?_)
      exact ⟨(x_2), (Option.some.inj hF_5).symm, M_2, (Mem.le_refl _), f_12.keep (ks := [2, 3, 15]) (by kernel_rfl), p_4⟩
  · rintro a_11 w_5 ⟨y_1, hq_1, M_3, hM_3, f_13, p_5⟩
    subst j_1
    refine T_n ?_
    refine R_cond f_13 (b := y_1) (by kernel_rfl) (by kernel_rfl) (fun h_6 => ?_) (fun h_6 => ?_)
    · have hF_6 := cnd_t h_6 hF_1
      refine R_seq (R_reg ?_)
      obtain ⟨x_3, hx_3, hF_7⟩ := bind_some' hF_6
      refine V_okv f_13 p_5 (law03_wakes_ok n _ (GL.mono ((hM_1.trans hM_2).trans hM_3) hG) x_3 hx_3) (by kernel_rfl) (fun _ => by kernel_rfl) (fun w_6 p_6 a_12 f_14 => ?_)
      refine V_run f_14 1 (by kernel_rfl) (fun a_13 f_15 => ?_)
      refine W_end rfl (T_n (wp_ret (T_r ?_)))
      refine E_ret1 f_15 rfl (by kernel_rfl : Vc.look _ 4 = some (.bool x_3)) ?_
      obtain rfl := Option.some.inj hF_7
      exact ⟨_, rfl, M_3, ((hM_1.trans hM_2).trans hM_3), p_6, rfl⟩
    · have hF_8 := cnd_f h_6 hF_1
      refine wp_skip (T_n (R_seq ?_))
      obtain ⟨j_2, hj_2, hF_9⟩ := bind_some' hF_8
      refine R_mid (fun a_82 w_141 => ∃ y_2 : T_api_Value × T_api_Value, j_2 = y_2 ∧ ∃ M_22 : Mem, M_3.le M_22 ∧ ∃ (ad_1 : Addr), ∃ (c_19 : List Value), ∃ (ad_2 : Addr), ∃ (c_20 : List Value), Rep M_22 (emb_T_api_Value y_2.1) c_19 ∧ (∀ j u, c_19[j]? = some u → M_22.cell? (ad_1.add j) = some u) ∧ Rep M_22 (emb_T_api_Value y_2.2) c_20 ∧ (∀ j u, c_20[j]? = some u → M_22.cell? (ad_2.add j) = some u) ∧ Frm 95 [(2, .pointer (some (⟨b_1, 0, none⟩))), (3, .pointer (some (⟨b_2, 0, none⟩))), (5, .pointer (some ad_1)), (6, .pointer (some ad_2))] a_82 ∧ Hp w0 M_22 (H) w_141) ?_ ?_
      · obtain ⟨x_4, hx_4, hF_10⟩ := bind_some' hj_2
        obtain ⟨x_5, hx_5, hF_11⟩ := bind_some' hF_10
        refine R_plan (E := []) (Hr := (H)) (.quiet 0 (.quiet 2 (.alt 1 (.alt 3 (.alt 4 (.alt 5 (.alt 6 (.alt 7 .done .none) .none) .none) (.alt 5 (.alt 4 (.alt 6 (.alt 7 .done .none) .none) .none) .none)) (.alt 4 (.alt 3 (.alt 5 (.alt 6 (.alt 7 .done .none) .none) .none) (.alt 5 (.alt 3 (.alt 6 (.alt 7 .done .none) .none) .none) .none)) (.alt 5 (.alt 3 (.alt 4 (.alt 6 (.alt 7 .done .none) .none) .none) (.alt 4 (.alt 3 (.alt 6 (.alt 7 .done .none) .none) .none) .none)) .none))) (.alt 4 (.alt 1 (.alt 3 (.alt 5 (.alt 6 (.alt 7 .done .none) .none) .none) (.alt 5 (.alt 3 (.alt 6 (.alt 7 .done .none) .none) .none) .none)) (.alt 5 (.alt 1 (.alt 3 (.alt 6 (.alt 7 .done .none) .none) .none) .none) .none)) (.alt 5 (.alt 1 (.alt 3 (.alt 4 (.alt 6 (.alt 7 .done .none) .none) .none) (.alt 4 (.alt 3 (.alt 6 (.alt 7 .done .none) .none) .none) .none)) (.alt 4 (.alt 1 (.alt 3 (.alt 6 (.alt 7 .done .none) .none) .none) .none) .none)) .none))))) p_5 (by kernel_rfl) (by kernel_rfl) (by kernel_rfl) ?_
        refine N_eq (v := .agg #[.int .i8 d0.fKind, .bool d0.fBool, .int .i64 d0.fNum, S d0.fText, .slice A_1 d0.fList.length cap_1, .slice A_2 d0.fKeys.length cap_2]) rfl f_13 (by kernel_rfl) (by kernel_rfl) rfl rfl (fun _ pq => X_loadN (cs := [.int .i8 d0.fKind, .bool d0.fBool, .int .i64 d0.fNum, S d0.fText, .slice A_1 d0.fList.length cap_1, .slice A_2 d0.fKeys.length cap_2]) rfl (ad := ⟨b_1, 0, none⟩) (by kernel_rfl) (by kernel_rfl) (fun j v h => pq.cell ((fzu (hM_2.trans hM_3) hc_2) j v h))) (fun a_22 f_24 => ?_)
        refine N_eq (v := .agg #[.int .i8 d1.fKind, .bool d1.fBool, .int .i64 d1.fNum, S d1.fText, .slice A_3 d1.fList.length cap_3, .slice A_4 d1.fKeys.length cap_4]) rfl f_24 (by kernel_rfl) (by kernel_rfl) rfl rfl (fun _ pq => X_loadN (cs := [.int .i8 d1.fKind, .bool d1.fBool, .int .i64 d1.fNum, S d1.fText, .slice A_3 d1.fList.length cap_3, .slice A_4 d1.fKeys.length cap_4]) rfl (ad := ⟨b_2, 0, none⟩) (by kernel_rfl) (by kernel_rfl) (fun j v h => pq.cell ((fzu hM_3 hc_4) j v h))) (fun a_23 f_25 => ?_)
        refine N_alt rfl (E := []) (fun w_13 p_15 => ?_) ?_
        · refine V_ok f_25 p_15 (tree_Sorted_ok n _ (GL.mono ((hM_1.trans hM_2).trans hM_3) hG) _ d0 (T_api_Value.shutx (x := d0) (h_1.mono ((hM_1.trans hM_2).trans hM_3)) (h_2.mono ((hM_1.trans hM_2).trans hM_3))) x_4 hx_4) (by kernel_rfl) (fun _ => by kernel_rfl) (fun u_3 M_6 w_14 hM_6 p_16 q_3 a_24 f_26 => ?_)
          obtain ⟨c_3, rfl, hr_3⟩ := q_3
          obtain ⟨A_9, cap_9, A_10, cap_10, rfl, h_11, h_12⟩ := T_api_Value.opn hr_3
          refine W_end rfl ?_
          refine N_go (M1 := M_6) (E := []) hM_6 p_16 ?_
          refine N_alt rfl (E := []) (fun w_15 p_17 => ?_) ?_
          · refine V_ok f_26 p_17 (tree_Sorted_ok n _ (GL.mono (((hM_1.trans hM_2).trans hM_3).trans hM_6) hG) _ d1 (T_api_Value.shutx (x := d1) (h_3.mono (((hM_1.trans hM_2).trans hM_3).trans hM_6)) (h_4.mono (((hM_1.trans hM_2).trans hM_3).trans hM_6))) x_5 hx_5) (by kernel_rfl) (fun _ => by kernel_rfl) (fun u_4 M_7 w_16 hM_7 p_18 q_4 a_25 f_27 => ?_)
            obtain ⟨c_4, rfl, hr_4⟩ := q_4
            obtain ⟨A_11, cap_11, A_12, cap_12, rfl, h_13, h_14⟩ := T_api_Value.opn hr_4
            refine W_end rfl ?_
            refine N_go (M1 := M_7) (E := []) (hM_6.trans hM_7) p_18 ?_
            refine N_alt rfl (E := []) (fun w_17 p_19 => ?_) ?_
            · refine V_alloc f_27 p_19 (.cells #[.int .i8 0, .bool false, .int .i64 0, S [], .slice none 0 0, .slice none 0 0] 26 (0, 0)) (by kernel_rfl) (fun _ => by kernel_rfl) (fun b_5 w_18 p_20 a_26 f_28 => ?_)
              refine W_end rfl ?_
              refine N_go (M1 := M_7) (E := [Ent.obj b_5 (.cells #[.int .i8 0, .bool false, .int .i64 0, S [], .slice none 0 0, .slice none 0 0] 26 (0, 0))]) (hM_6.trans hM_7) p_20 ?_
              refine N_alt rfl (E := [Ent.obj b_5 (.cells #[.int .i8 0, .bool false, .int .i64 0, S [], .slice none 0 0, .slice none 0 0] 26 (0, 0))]) (fun w_19 p_21 => ?_) ?_
              · refine V_alloc f_28 p_21 (.cells #[.int .i8 0, .bool false, .int .i64 0, S [], .slice none 0 0, .slice none 0 0] 26 (0, 0)) (by kernel_rfl) (fun _ => by kernel_rfl) (fun b_6 w_20 p_22 a_27 f_29 => ?_)
                refine W_end rfl ?_
                refine N_go (M1 := M_7) (E := [Ent.obj b_6 (.cells #[.int .i8 0, .bool false, .int .i64 0, S [], .slice none 0 0, .slice none 0 0] 26 (0, 0)), Ent.obj b_5 (.cells #[.int .i8 0, .bool false, .int .i64 0, S [], .slice none 0 0, .slice none 0 0] 26 (0, 0))]) (hM_6.trans hM_7) p_22 ?_
                refine N_alt rfl (E := [Ent.obj b_6 (.cells #[.int .i8 0, .bool false, .int .i64 0, S [], .slice none 0 0, .slice none 0 0] 26 (0, 0)), Ent.obj b_5 (.cells #[.int .i8 0, .bool false, .int .i64 0, S [], .slice none 0 0, .slice none 0 0] 26 (0, 0))]) (fun w_21 p_23 => ?_) ?_
                · have p_24 := p_23.pl [1]
                  refine W_storeN (vs := [.int .i8 x_4.fKind, .bool x_4.fBool, .int .i64 x_4.fNum, S x_4.fText, .slice A_9 x_4.fList.length cap_9, .slice A_10 x_4.fKeys.length cap_10]) (j := 0) f_29 p_24 (by kernel_rfl) (by kernel_rfl) rfl rfl (by kernel_rfl) (by kernel_rfl) (by simp [Value.oneCell', S]) (by kernel_rfl) (by simp) (by decide) (cs' := #[.int .i8 x_4.fKind, .bool x_4.fBool, .int .i64 x_4.fNum, S x_4.fText, .slice A_9 x_4.fList.length cap_9, .slice A_10 x_4.fKeys.length cap_10]) rfl (fun w_22 p_25 a_28 f_30 => ?_)
                  refine W_end rfl ?_
                  refine N_go (M1 := M_7) (E := [Ent.obj b_5 (.cells #[.int .i8 x_4.fKind, .bool x_4.fBool, .int .i64 x_4.fNum, S x_4.fText, .slice A_9 x_4.fList.length cap_9, .slice A_10 x_4.fKeys.length cap_10] 26 (0, 0)), Ent.obj b_6 (.cells #[.int .i8 0, .bool false, .int .i64 0, S [], .slice none 0 0, .slice none 0 0] 26 (0, 0))]) (hM_6.trans hM_7) p_25 ?_
                  refine N_alt rfl (E := [Ent.obj b_5 (.cells #[.int .i8 x_4.fKind, .bool x_4.fBool, .int .i64 x_4.fNum, S x_4.fText, .slice A_9 x_4.fList.length cap_9, .slice A_10 x_4.fKeys.length cap_10] 26 (0, 0)), Ent.obj b_6 (.cells #[.int .i8 0, .bool false, .int .i64 0, S [], .slice none 0 0, .slice none 0 0] 26 (0, 0))]) (fun w_23 p_26 => ?_) ?_
                  · have p_27 := p_26.pl [1]
                    refine W_storeN (vs := [.int .i8 x_5.fKind, .bool x_5.fBool, .int .i64 x_5.fNum, S x_5.fText, .slice A_11 x_5.fList.length cap_11, .slice A_12 x_5.fKeys.length cap_12]) (j := 0) f_30 p_27 (by kernel_rfl) (by kernel_rfl) rfl rfl (by kernel_rfl) (by kernel_rfl) (by simp [Value.oneCell', S]) (by kernel_rfl) (by simp) (by decide) (cs' := #[.int .i8 x_5.fKind, .bool x_5.fBool, .int .i64 x_5.fNum, S x_5.fText, .slice A_11 x_5.fList.length cap_11, .slice A_12 x_5.fKeys.length cap_12]) rfl (fun w_24 p_28 a_29 f_31 => ?_)
                    refine W_end rfl ?_
                    refine N_go (M1 := M_7) (E := [Ent.obj b_6 (.cells #[.int .i8 x_5.fKind, .bool x_5.fBool, .int .i64 x_5.fNum, S x_5.fText, .slice A_11 x_5.fList.length cap_11, .slice A_12 x_5.fKeys.length cap_12] 26 (0, 0)), Ent.obj b_5 (.cells #[.int .i8 x_4.fKind, .bool x_4.fBool, .int .i64 x_4.fNum, S x_4.fText, .slice A_9 x_4.fList.length cap_9, .slice A_10 x_4.fKeys.length cap_10] 26 (0, 0))]) (hM_6.trans hM_7) p_28 ?_
                    refine N_end (fun w_25 p_29 => ?_)
                    have p_162 := p_29.pl [1]
                    obtain ⟨M_23, hM_23, p_163, hc_5⟩ := p_162.fzOwn
                    obtain ⟨M_24, hM_24, p_164, hc_6⟩ := p_163.fzOwn
                    refine T_n ?_
                    exact ⟨((⟨x_4.fKind, (x_4.fBool), x_4.fNum, x_4.fText, x_4.fList, x_4.fKeys⟩ : T_api_Value), (⟨x_5.fKind, (x_5.fBool), x_5.fNum, x_5.fText, x_5.fList, x_5.fKeys⟩ : T_api_Value)), (Option.some.inj hF_11).symm, M_24, (((hM_6.trans hM_7).trans hM_23).trans hM_24), ⟨b_5, 0, none⟩, [.int .i8 x_4.fKind, .bool x_4.fBool, .int .i64 x_4.fNum, S x_4.fText, .slice A_9 x_4.fList.length cap_9, .slice A_10 x_4.fKeys.length cap_10], ⟨b_6, 0, none⟩, [.int .i8 x_5.fKind, .bool x_5.fBool, .int .i64 x_5.fNum, S x_5.fText, .slice A_11 x_5.fList.length cap_11, .slice A_12 x_5.fKeys.length cap_12], (T_api_Value.shut (h_11.mono ((hM_7.trans hM_23).trans hM_24)) (h_12.mono ((hM_7.trans hM_23).trans hM_24))), (fz_at ((fzu hM_24 hc_5)) 0 rfl), (T_api_Value.shut (h_13.mono (hM_23.trans hM_24)) (h_14.mono (hM_23.trans hM_24))), (fz_at (hc_6) 0 rfl), f_31.keep (ks := [2, 3, 5, 6]) (by kernel_rfl), p_164⟩
                  exact N_none
                exact N_none
              exact N_none
            refine N_alt rfl (E := []) (fun w_26 p_30 => ?_) ?_
            · refine V_alloc f_27 p_30 (.cells #[.int .i8 0, .bool false, .int .i64 0, S [], .slice none 0 0, .slice none 0 0] 26 (0, 0)) (by kernel_rfl) (fun _ => by kernel_rfl) (fun b_7 w_27 p_31 a_30 f_32 => ?_)
              refine W_end rfl ?_
              refine N_go (M1 := M_7) (E := [Ent.obj b_7 (.cells #[.int .i8 0, .bool false, .int .i64 0, S [], .slice none 0 0, .slice none 0 0] 26 (0, 0))]) (hM_6.trans hM_7) p_31 ?_
              refine N_alt rfl (E := [Ent.obj b_7 (.cells #[.int .i8 0, .bool false, .int .i64 0, S [], .slice none 0 0, .slice none 0 0] 26 (0, 0))]) (fun w_28 p_32 => ?_) ?_
              · refine V_alloc f_32 p_32 (.cells #[.int .i8 0, .bool false, .int .i64 0, S [], .slice none 0 0, .slice none 0 0] 26 (0, 0)) (by kernel_rfl) (fun _ => by kernel_rfl) (fun b_8 w_29 p_33 a_31 f_33 => ?_)
                refine W_end rfl ?_
                refine N_go (M1 := M_7) (E := [Ent.obj b_8 (.cells #[.int .i8 0, .bool false, .int .i64 0, S [], .slice none 0 0, .slice none 0 0] 26 (0, 0)), Ent.obj b_7 (.cells #[.int .i8 0, .bool false, .int .i64 0, S [], .slice none 0 0, .slice none 0 0] 26 (0, 0))]) (hM_6.trans hM_7) p_33 ?_
                refine N_alt rfl (E := [Ent.obj b_8 (.cells #[.int .i8 0, .bool false, .int .i64 0, S [], .slice none 0 0, .slice none 0 0] 26 (0, 0)), Ent.obj b_7 (.cells #[.int .i8 0, .bool false, .int .i64 0, S [], .slice none 0 0, .slice none 0 0] 26 (0, 0))]) (fun w_30 p_34 => ?_) ?_
                · refine W_storeN (vs := [.int .i8 x_4.fKind, .bool x_4.fBool, .int .i64 x_4.fNum, S x_4.fText, .slice A_9 x_4.fList.length cap_9, .slice A_10 x_4.fKeys.length cap_10]) (j := 0) f_33 p_34 (by kernel_rfl) (by kernel_rfl) rfl rfl (by kernel_rfl) (by kernel_rfl) (by simp [Value.oneCell', S]) (by kernel_rfl) (by simp) (by decide) (cs' := #[.int .i8 x_4.fKind, .bool x_4.fBool, .int .i64 x_4.fNum, S x_4.fText, .slice A_9 x_4.fList.length cap_9, .slice A_10 x_4.fKeys.length cap_10]) rfl (fun w_31 p_35 a_32 f_34 => ?_)
                  refine W_end rfl ?_
                  refine N_go (M1 := M_7) (E := [Ent.obj b_8 (.cells #[.int .i8 x_4.fKind, .bool x_4.fBool, .int .i64 x_4.fNum, S x_4.fText, .slice A_9 x_4.fList.length cap_9, .slice A_10 x_4.fKeys.length cap_10] 26 (0, 0)), Ent.obj b_7 (.cells #[.int .i8 0, .bool false, .int .i64 0, S [], .slice none 0 0, .slice none 0 0] 26 (0, 0))]) (hM_6.trans hM_7) p_35 ?_
                  refine N_alt rfl (E := [Ent.obj b_8 (.cells #[.int .i8 x_4.fKind, .bool x_4.fBool, .int .i64 x_4.fNum, S x_4.fText, .slice A_9 x_4.fList.length cap_9, .slice A_10 x_4.fKeys.length cap_10] 26 (0, 0)), Ent.obj b_7 (.cells #[.int .i8 0, .bool false, .int .i64 0, S [], .slice none 0 0, .slice none 0 0] 26 (0, 0))]) (fun w_32 p_36 => ?_) ?_
                  · have p_37 := p_36.pl [1]
                    refine W_storeN (vs := [.int .i8 x_5.fKind, .bool x_5.fBool, .int .i64 x_5.fNum, S x_5.fText, .slice A_11 x_5.fList.length cap_11, .slice A_12 x_5.fKeys.length cap_12]) (j := 0) f_34 p_37 (by kernel_rfl) (by kernel_rfl) rfl rfl (by kernel_rfl) (by kernel_rfl) (by simp [Value.oneCell', S]) (by kernel_rfl) (by simp) (by decide) (cs' := #[.int .i8 x_5.fKind, .bool x_5.fBool, .int .i64 x_5.fNum, S x_5.fText, .slice A_11 x_5.fList.length cap_11, .slice A_12 x_5.fKeys.length cap_12]) rfl (fun w_33 p_38 a_33 f_35 => ?_)
                    refine W_end rfl ?_
                    refine N_go (M1 := M_7) (E := [Ent.obj b_7 (.cells #[.int .i8 x_5.fKind, .bool x_5.fBool, .int .i64 x_5.fNum, S x_5.fText, .slice A_11 x_5.fList.length cap_11, .slice A_12 x_5.fKeys.length cap_12] 26 (0, 0)), Ent.obj b_8 (.cells #[.int .i8 x_4.fKind, .bool x_4.fBool, .int .i64 x_4.fNum, S x_4.fText, .slice A_9 x_4.fList.length cap_9, .slice A_10 x_4.fKeys.length cap_10] 26 (0, 0))]) (hM_6.trans hM_7) p_38 ?_
                    refine N_end (fun w_34 p_39 => ?_)
                    have p_165 := p_39.pl [1]
                    obtain ⟨M_25, hM_25, p_166, hc_7⟩ := p_165.fzOwn
                    obtain ⟨M_26, hM_26, p_167, hc_8⟩ := p_166.fzOwn
                    refine T_n ?_
                    exact ⟨((⟨x_4.fKind, (x_4.fBool), x_4.fNum, x_4.fText, x_4.fList, x_4.fKeys⟩ : T_api_Value), (⟨x_5.fKind, (x_5.fBool), x_5.fNum, x_5.fText, x_5.fList, x_5.fKeys⟩ : T_api_Value)), (Option.some.inj hF_11).symm, M_26, (((hM_6.trans hM_7).trans hM_25).trans hM_26), ⟨b_8, 0, none⟩, [.int .i8 x_4.fKind, .bool x_4.fBool, .int .i64 x_4.fNum, S x_4.fText, .slice A_9 x_4.fList.length cap_9, .slice A_10 x_4.fKeys.length cap_10], ⟨b_7, 0, none⟩, [.int .i8 x_5.fKind, .bool x_5.fBool, .int .i64 x_5.fNum, S x_5.fText, .slice A_11 x_5.fList.length cap_11, .slice A_12 x_5.fKeys.length cap_12], (T_api_Value.shut (h_11.mono ((hM_7.trans hM_25).trans hM_26)) (h_12.mono ((hM_7.trans hM_25).trans hM_26))), (fz_at ((fzu hM_26 hc_7)) 0 rfl), (T_api_Value.shut (h_13.mono (hM_25.trans hM_26)) (h_14.mono (hM_25.trans hM_26))), (fz_at (hc_8) 0 rfl), f_35.keep (ks := [2, 3, 5, 6]) (by kernel_rfl), p_167⟩
                  exact N_none
                exact N_none
              exact N_none
            exact N_none
          refine N_alt rfl (E := []) (fun w_35 p_40 => ?_) ?_
          · refine V_alloc f_26 p_40 (.cells #[.int .i8 0, .bool false, .int .i64 0, S [], .slice none 0 0, .slice none 0 0] 26 (0, 0)) (by kernel_rfl) (fun _ => by kernel_rfl) (fun b_9 w_36 p_41 a_34 f_36 => ?_)
            refine W_end rfl ?_
            refine N_go (M1 := M_6) (E := [Ent.obj b_9 (.cells #[.int .i8 0, .bool false, .int .i64 0, S [], .slice none 0 0, .slice none 0 0] 26 (0, 0))]) hM_6 p_41 ?_
            refine N_alt rfl (E := [Ent.obj b_9 (.cells #[.int .i8 0, .bool false, .int .i64 0, S [], .slice none 0 0, .slice none 0 0] 26 (0, 0))]) (fun w_37 p_42 => ?_) ?_
            · refine V_ok f_36 p_42 (tree_Sorted_ok n _ (GL.mono (((hM_1.trans hM_2).trans hM_3).trans hM_6) hG) _ d1 (T_api_Value.shutx (x := d1) (h_3.mono (((hM_1.trans hM_2).trans hM_3).trans hM_6)) (h_4.mono (((hM_1.trans hM_2).trans hM_3).trans hM_6))) x_5 hx_5) (by kernel_rfl) (fun _ => by kernel_rfl) (fun u_5 M_8 w_38 hM_8 p_43 q_5 a_35 f_37 => ?_)
              obtain ⟨c_5, rfl, hr_5⟩ := q_5
              obtain ⟨A_13, cap_13, A_14, cap_14, rfl, h_15, h_16⟩ := T_api_Value.opn hr_5
              refine W_end rfl ?_
              refine N_go (M1 := M_8) (E := [Ent.obj b_9 (.cells #[.int .i8 0, .bool false, .int .i64 0, S [], .slice none 0 0, .slice none 0 0] 26 (0, 0))]) (hM_6.trans hM_8) p_43 ?_
              refine N_alt rfl (E := [Ent.obj b_9 (.cells #[.int .i8 0, .bool false, .int .i64 0, S [], .slice none 0 0, .slice none 0 0] 26 (0, 0))]) (fun w_39 p_44 => ?_) ?_
              · refine V_alloc f_37 p_44 (.cells #[.int .i8 0, .bool false, .int .i64 0, S [], .slice none 0 0, .slice none 0 0] 26 (0, 0)) (by kernel_rfl) (fun _ => by kernel_rfl) (fun b_10 w_40 p_45 a_36 f_38 => ?_)
                refine W_end rfl ?_
                refine N_go (M1 := M_8) (E := [Ent.obj b_10 (.cells #[.int .i8 0, .bool false, .int .i64 0, S [], .slice none 0 0, .slice none 0 0] 26 (0, 0)), Ent.obj b_9 (.cells #[.int .i8 0, .bool false, .int .i64 0, S [], .slice none 0 0, .slice none 0 0] 26 (0, 0))]) (hM_6.trans hM_8) p_45 ?_
                refine N_alt rfl (E := [Ent.obj b_10 (.cells #[.int .i8 0, .bool false, .int .i64 0, S [], .slice none 0 0, .slice none 0 0] 26 (0, 0)), Ent.obj b_9 (.cells #[.int .i8 0, .bool false, .int .i64 0, S [], .slice none 0 0, .slice none 0 0] 26 (0, 0))]) (fun w_41 p_46 => ?_) ?_
                · have p_47 := p_46.pl [1]
                  refine W_storeN (vs := [.int .i8 x_4.fKind, .bool x_4.fBool, .int .i64 x_4.fNum, S x_4.fText, .slice A_9 x_4.fList.length cap_9, .slice A_10 x_4.fKeys.length cap_10]) (j := 0) f_38 p_47 (by kernel_rfl) (by kernel_rfl) rfl rfl (by kernel_rfl) (by kernel_rfl) (by simp [Value.oneCell', S]) (by kernel_rfl) (by simp) (by decide) (cs' := #[.int .i8 x_4.fKind, .bool x_4.fBool, .int .i64 x_4.fNum, S x_4.fText, .slice A_9 x_4.fList.length cap_9, .slice A_10 x_4.fKeys.length cap_10]) rfl (fun w_42 p_48 a_37 f_39 => ?_)
                  refine W_end rfl ?_
                  refine N_go (M1 := M_8) (E := [Ent.obj b_9 (.cells #[.int .i8 x_4.fKind, .bool x_4.fBool, .int .i64 x_4.fNum, S x_4.fText, .slice A_9 x_4.fList.length cap_9, .slice A_10 x_4.fKeys.length cap_10] 26 (0, 0)), Ent.obj b_10 (.cells #[.int .i8 0, .bool false, .int .i64 0, S [], .slice none 0 0, .slice none 0 0] 26 (0, 0))]) (hM_6.trans hM_8) p_48 ?_
                  refine N_alt rfl (E := [Ent.obj b_9 (.cells #[.int .i8 x_4.fKind, .bool x_4.fBool, .int .i64 x_4.fNum, S x_4.fText, .slice A_9 x_4.fList.length cap_9, .slice A_10 x_4.fKeys.length cap_10] 26 (0, 0)), Ent.obj b_10 (.cells #[.int .i8 0, .bool false, .int .i64 0, S [], .slice none 0 0, .slice none 0 0] 26 (0, 0))]) (fun w_43 p_49 => ?_) ?_
                  · have p_50 := p_49.pl [1]
                    refine W_storeN (vs := [.int .i8 x_5.fKind, .bool x_5.fBool, .int .i64 x_5.fNum, S x_5.fText, .slice A_13 x_5.fList.length cap_13, .slice A_14 x_5.fKeys.length cap_14]) (j := 0) f_39 p_50 (by kernel_rfl) (by kernel_rfl) rfl rfl (by kernel_rfl) (by kernel_rfl) (by simp [Value.oneCell', S]) (by kernel_rfl) (by simp) (by decide) (cs' := #[.int .i8 x_5.fKind, .bool x_5.fBool, .int .i64 x_5.fNum, S x_5.fText, .slice A_13 x_5.fList.length cap_13, .slice A_14 x_5.fKeys.length cap_14]) rfl (fun w_44 p_51 a_38 f_40 => ?_)
                    refine W_end rfl ?_
                    refine N_go (M1 := M_8) (E := [Ent.obj b_10 (.cells #[.int .i8 x_5.fKind, .bool x_5.fBool, .int .i64 x_5.fNum, S x_5.fText, .slice A_13 x_5.fList.length cap_13, .slice A_14 x_5.fKeys.length cap_14] 26 (0, 0)), Ent.obj b_9 (.cells #[.int .i8 x_4.fKind, .bool x_4.fBool, .int .i64 x_4.fNum, S x_4.fText, .slice A_9 x_4.fList.length cap_9, .slice A_10 x_4.fKeys.length cap_10] 26 (0, 0))]) (hM_6.trans hM_8) p_51 ?_
                    refine N_end (fun w_45 p_52 => ?_)
                    have p_168 := p_52.pl [1]
                    obtain ⟨M_27, hM_27, p_169, hc_9⟩ := p_168.fzOwn
                    obtain ⟨M_28, hM_28, p_170, hc_10⟩ := p_169.fzOwn
                    refine T_n ?_
                    exact ⟨((⟨x_4.fKind, (x_4.fBool), x_4.fNum, x_4.fText, x_4.fList, x_4.fKeys⟩ : T_api_Value), (⟨x_5.fKind, (x_5.fBool), x_5.fNum, x_5.fText, x_5.fList, x_5.fKeys⟩ : T_api_Value)), (Option.some.inj hF_11).symm, M_28, (((hM_6.trans hM_8).trans hM_27).trans hM_28), ⟨b_9, 0, none⟩, [.int .i8 x_4.fKind, .bool x_4.fBool, .int .i64 x_4.fNum, S x_4.fText, .slice A_9 x_4.fList.length cap_9, .slice A_10 x_4.fKeys.length cap_10], ⟨b_10, 0, none⟩, [.int .i8 x_5.fKind, .bool x_5.fBool, .int .i64 x_5.fNum, S x_5.fText, .slice A_13 x_5.fList.length cap_13, .slice A_14 x_5.fKeys.length cap_14], (T_api_Value.shut (h_11.mono ((hM_8.trans hM_27).trans hM_28)) (h_12.mono ((hM_8.trans hM_27).trans hM_28))), (fz_at ((fzu hM_28 hc_9)) 0 rfl), (T_api_Value.shut (h_15.mono (hM_27.trans hM_28)) (h_16.mono (hM_27.trans hM_28))), (fz_at (hc_10) 0 rfl), f_40.keep (ks := [2, 3, 5, 6]) (by kernel_rfl), p_170⟩
                  exact N_none
                exact N_none
              exact N_none
            refine N_alt rfl (E := [Ent.obj b_9 (.cells #[.int .i8 0, .bool false, .int .i64 0, S [], .slice none 0 0, .slice none 0 0] 26 (0, 0))]) (fun w_46 p_53 => ?_) ?_
            · refine V_alloc f_36 p_53 (.cells #[.int .i8 0, .bool false, .int .i64 0, S [], .slice none 0 0, .slice none 0 0] 26 (0, 0)) (by kernel_rfl) (fun _ => by kernel_rfl) (fun b_11 w_47 p_54 a_39 f_41 => ?_)
              refine W_end rfl ?_
              refine N_go (M1 := M_6) (E := [Ent.obj b_11 (.cells #[.int .i8 0, .bool false, .int .i64 0, S [], .slice none 0 0, .slice none 0 0] 26 (0, 0)), Ent.obj b_9 (.cells #[.int .i8 0, .bool false, .int .i64 0, S [], .slice none 0 0, .slice none 0 0] 26 (0, 0))]) hM_6 p_54 ?_
              refine N_alt rfl (E := [Ent.obj b_11 (.cells #[.int .i8 0, .bool false, .int .i64 0, S [], .slice none 0 0, .slice none 0 0] 26 (0, 0)), Ent.obj b_9 (.cells #[.int .i8 0, .bool false, .int .i64 0, S [], .slice none 0 0, .slice none 0 0] 26 (0, 0))]) (fun w_48 p_55 => ?_) ?_
              · refine V_ok f_41 p_55 (tree_Sorted_ok n _ (GL.mono (((hM_1.trans hM_2).trans hM_3).trans hM_6) hG) _ d1 (T_api_Value.shutx (x := d1) (h_3.mono (((hM_1.trans hM_2).trans hM_3).trans hM_6)) (h_4.mono (((hM_1.trans hM_2).trans hM_3).trans hM_6))) x_5 hx_5) (by kernel_rfl) (fun _ => by kernel_rfl) (fun u_6 M_9 w_49 hM_9 p_56 q_6 a_40 f_42 => ?_)
                obtain ⟨c_6, rfl, hr_6⟩ := q_6
                obtain ⟨A_15, cap_15, A_16, cap_16, rfl, h_17, h_18⟩ := T_api_Value.opn hr_6
                refine W_end rfl ?_
                refine N_go (M1 := M_9) (E := [Ent.obj b_11 (.cells #[.int .i8 0, .bool false, .int .i64 0, S [], .slice none 0 0, .slice none 0 0] 26 (0, 0)), Ent.obj b_9 (.cells #[.int .i8 0, .bool false, .int .i64 0, S [], .slice none 0 0, .slice none 0 0] 26 (0, 0))]) (hM_6.trans hM_9) p_56 ?_
                refine N_alt rfl (E := [Ent.obj b_11 (.cells #[.int .i8 0, .bool false, .int .i64 0, S [], .slice none 0 0, .slice none 0 0] 26 (0, 0)), Ent.obj b_9 (.cells #[.int .i8 0, .bool false, .int .i64 0, S [], .slice none 0 0, .slice none 0 0] 26 (0, 0))]) (fun w_50 p_57 => ?_) ?_
                · have p_58 := p_57.pl [1]
                  refine W_storeN (vs := [.int .i8 x_4.fKind, .bool x_4.fBool, .int .i64 x_4.fNum, S x_4.fText, .slice A_9 x_4.fList.length cap_9, .slice A_10 x_4.fKeys.length cap_10]) (j := 0) f_42 p_58 (by kernel_rfl) (by kernel_rfl) rfl rfl (by kernel_rfl) (by kernel_rfl) (by simp [Value.oneCell', S]) (by kernel_rfl) (by simp) (by decide) (cs' := #[.int .i8 x_4.fKind, .bool x_4.fBool, .int .i64 x_4.fNum, S x_4.fText, .slice A_9 x_4.fList.length cap_9, .slice A_10 x_4.fKeys.length cap_10]) rfl (fun w_51 p_59 a_41 f_43 => ?_)
                  refine W_end rfl ?_
                  refine N_go (M1 := M_9) (E := [Ent.obj b_9 (.cells #[.int .i8 x_4.fKind, .bool x_4.fBool, .int .i64 x_4.fNum, S x_4.fText, .slice A_9 x_4.fList.length cap_9, .slice A_10 x_4.fKeys.length cap_10] 26 (0, 0)), Ent.obj b_11 (.cells #[.int .i8 0, .bool false, .int .i64 0, S [], .slice none 0 0, .slice none 0 0] 26 (0, 0))]) (hM_6.trans hM_9) p_59 ?_
                  refine N_alt rfl (E := [Ent.obj b_9 (.cells #[.int .i8 x_4.fKind, .bool x_4.fBool, .int .i64 x_4.fNum, S x_4.fText, .slice A_9 x_4.fList.length cap_9, .slice A_10 x_4.fKeys.length cap_10] 26 (0, 0)), Ent.obj b_11 (.cells #[.int .i8 0, .bool false, .int .i64 0, S [], .slice none 0 0, .slice none 0 0] 26 (0, 0))]) (fun w_52 p_60 => ?_) ?_
                  · have p_61 := p_60.pl [1]
                    refine W_storeN (vs := [.int .i8 x_5.fKind, .bool x_5.fBool, .int .i64 x_5.fNum, S x_5.fText, .slice A_15 x_5.fList.length cap_15, .slice A_16 x_5.fKeys.length cap_16]) (j := 0) f_43 p_61 (by kernel_rfl) (by kernel_rfl) rfl rfl (by kernel_rfl) (by kernel_rfl) (by simp [Value.oneCell', S]) (by kernel_rfl) (by simp) (by decide) (cs' := #[.int .i8 x_5.fKind, .bool x_5.fBool, .int .i64 x_5.fNum, S x_5.fText, .slice A_15 x_5.fList.length cap_15, .slice A_16 x_5.fKeys.length cap_16]) rfl (fun w_53 p_62 a_42 f_44 => ?_)
                    refine W_end rfl ?_
                    refine N_go (M1 := M_9) (E := [Ent.obj b_11 (.cells #[.int .i8 x_5.fKind, .bool x_5.fBool, .int .i64 x_5.fNum, S x_5.fText, .slice A_15 x_5.fList.length cap_15, .slice A_16 x_5.fKeys.length cap_16] 26 (0, 0)), Ent.obj b_9 (.cells #[.int .i8 x_4.fKind, .bool x_4.fBool, .int .i64 x_4.fNum, S x_4.fText, .slice A_9 x_4.fList.length cap_9, .slice A_10 x_4.fKeys.length cap_10] 26 (0, 0))]) (hM_6.trans hM_9) p_62 ?_
                    refine N_end (fun w_54 p_63 => ?_)
                    have p_171 := p_63.pl [1]
                    obtain ⟨M_29, hM_29, p_172, hc_11⟩ := p_171.fzOwn
                    obtain ⟨M_30, hM_30, p_173, hc_12⟩ := p_172.fzOwn
                    refine T_n ?_
                    exact ⟨((⟨x_4.fKind, (x_4.fBool), x_4.fNum, x_4.fText, x_4.fList, x_4.fKeys⟩ : T_api_Value), (⟨x_5.fKind, (x_5.fBool), x_5.fNum, x_5.fText, x_5.fList, x_5.fKeys⟩ : T_api_Value)), (Option.some.inj hF_11).symm, M_30, (((hM_6.trans hM_9).trans hM_29).trans hM_30), ⟨b_9, 0, none⟩, [.int .i8 x_4.fKind, .bool x_4.fBool, .int .i64 x_4.fNum, S x_4.fText, .slice A_9 x_4.fList.length cap_9, .slice A_10 x_4.fKeys.length cap_10], ⟨b_11, 0, none⟩, [.int .i8 x_5.fKind, .bool x_5.fBool, .int .i64 x_5.fNum, S x_5.fText, .slice A_15 x_5.fList.length cap_15, .slice A_16 x_5.fKeys.length cap_16], (T_api_Value.shut (h_11.mono ((hM_9.trans hM_29).trans hM_30)) (h_12.mono ((hM_9.trans hM_29).trans hM_30))), (fz_at ((fzu hM_30 hc_11)) 0 rfl), (T_api_Value.shut (h_17.mono (hM_29.trans hM_30)) (h_18.mono (hM_29.trans hM_30))), (fz_at (hc_12) 0 rfl), f_44.keep (ks := [2, 3, 5, 6]) (by kernel_rfl), p_173⟩
                  exact N_none
                exact N_none
              exact N_none
            exact N_none
          refine N_alt rfl (E := []) (fun w_55 p_64 => ?_) ?_
          · refine V_alloc f_26 p_64 (.cells #[.int .i8 0, .bool false, .int .i64 0, S [], .slice none 0 0, .slice none 0 0] 26 (0, 0)) (by kernel_rfl) (fun _ => by kernel_rfl) (fun b_12 w_56 p_65 a_43 f_45 => ?_)
            refine W_end rfl ?_
            refine N_go (M1 := M_6) (E := [Ent.obj b_12 (.cells #[.int .i8 0, .bool false, .int .i64 0, S [], .slice none 0 0, .slice none 0 0] 26 (0, 0))]) hM_6 p_65 ?_
            refine N_alt rfl (E := [Ent.obj b_12 (.cells #[.int .i8 0, .bool false, .int .i64 0, S [], .slice none 0 0, .slice none 0 0] 26 (0, 0))]) (fun w_57 p_66 => ?_) ?_
            · refine V_ok f_45 p_66 (tree_Sorted_ok n _ (GL.mono (((hM_1.trans hM_2).trans hM_3).trans hM_6) hG) _ d1 (T_api_Value.shutx (x := d1) (h_3.mono (((hM_1.trans hM_2).trans hM_3).trans hM_6)) (h_4.mono (((hM_1.trans hM_2).trans hM_3).trans hM_6))) x_5 hx_5) (by kernel_rfl) (fun _ => by kernel_rfl) (fun u_7 M_10 w_58 hM_10 p_67 q_7 a_44 f_46 => ?_)
              obtain ⟨c_7, rfl, hr_7⟩ := q_7
              obtain ⟨A_17, cap_17, A_18, cap_18, rfl, h_19, h_20⟩ := T_api_Value.opn hr_7
              refine W_end rfl ?_
              refine N_go (M1 := M_10) (E := [Ent.obj b_12 (.cells #[.int .i8 0, .bool false, .int .i64 0, S [], .slice none 0 0, .slice none 0 0] 26 (0, 0))]) (hM_6.trans hM_10) p_67 ?_
              refine N_alt rfl (E := [Ent.obj b_12 (.cells #[.int .i8 0, .bool false, .int .i64 0, S [], .slice none 0 0, .slice none 0 0] 26 (0, 0))]) (fun w_59 p_68 => ?_) ?_
              · refine V_alloc f_46 p_68 (.cells #[.int .i8 0, .bool false, .int .i64 0, S [], .slice none 0 0, .slice none 0 0] 26 (0, 0)) (by kernel_rfl) (fun _ => by kernel_rfl) (fun b_13 w_60 p_69 a_45 f_47 => ?_)
                refine W_end rfl ?_
                refine N_go (M1 := M_10) (E := [Ent.obj b_13 (.cells #[.int .i8 0, .bool false, .int .i64 0, S [], .slice none 0 0, .slice none 0 0] 26 (0, 0)), Ent.obj b_12 (.cells #[.int .i8 0, .bool false, .int .i64 0, S [], .slice none 0 0, .slice none 0 0] 26 (0, 0))]) (hM_6.trans hM_10) p_69 ?_
                refine N_alt rfl (E := [Ent.obj b_13 (.cells #[.int .i8 0, .bool false, .int .i64 0, S [], .slice none 0 0, .slice none 0 0] 26 (0, 0)), Ent.obj b_12 (.cells #[.int .i8 0, .bool false, .int .i64 0, S [], .slice none 0 0, .slice none 0 0] 26 (0, 0))]) (fun w_61 p_70 => ?_) ?_
                · refine W_storeN (vs := [.int .i8 x_4.fKind, .bool x_4.fBool, .int .i64 x_4.fNum, S x_4.fText, .slice A_9 x_4.fList.length cap_9, .slice A_10 x_4.fKeys.length cap_10]) (j := 0) f_47 p_70 (by kernel_rfl) (by kernel_rfl) rfl rfl (by kernel_rfl) (by kernel_rfl) (by simp [Value.oneCell', S]) (by kernel_rfl) (by simp) (by decide) (cs' := #[.int .i8 x_4.fKind, .bool x_4.fBool, .int .i64 x_4.fNum, S x_4.fText, .slice A_9 x_4.fList.length cap_9, .slice A_10 x_4.fKeys.length cap_10]) rfl (fun w_62 p_71 a_46 f_48 => ?_)
                  refine W_end rfl ?_
                  refine N_go (M1 := M_10) (E := [Ent.obj b_13 (.cells #[.int .i8 x_4.fKind, .bool x_4.fBool, .int .i64 x_4.fNum, S x_4.fText, .slice A_9 x_4.fList.length cap_9, .slice A_10 x_4.fKeys.length cap_10] 26 (0, 0)), Ent.obj b_12 (.cells #[.int .i8 0, .bool false, .int .i64 0, S [], .slice none 0 0, .slice none 0 0] 26 (0, 0))]) (hM_6.trans hM_10) p_71 ?_
                  refine N_alt rfl (E := [Ent.obj b_13 (.cells #[.int .i8 x_4.fKind, .bool x_4.fBool, .int .i64 x_4.fNum, S x_4.fText, .slice A_9 x_4.fList.length cap_9, .slice A_10 x_4.fKeys.length cap_10] 26 (0, 0)), Ent.obj b_12 (.cells #[.int .i8 0, .bool false, .int .i64 0, S [], .slice none 0 0, .slice none 0 0] 26 (0, 0))]) (fun w_63 p_72 => ?_) ?_
                  · have p_73 := p_72.pl [1]
                    refine W_storeN (vs := [.int .i8 x_5.fKind, .bool x_5.fBool, .int .i64 x_5.fNum, S x_5.fText, .slice A_17 x_5.fList.length cap_17, .slice A_18 x_5.fKeys.length cap_18]) (j := 0) f_48 p_73 (by kernel_rfl) (by kernel_rfl) rfl rfl (by kernel_rfl) (by kernel_rfl) (by simp [Value.oneCell', S]) (by kernel_rfl) (by simp) (by decide) (cs' := #[.int .i8 x_5.fKind, .bool x_5.fBool, .int .i64 x_5.fNum, S x_5.fText, .slice A_17 x_5.fList.length cap_17, .slice A_18 x_5.fKeys.length cap_18]) rfl (fun w_64 p_74 a_47 f_49 => ?_)
                    refine W_end rfl ?_
                    refine N_go (M1 := M_10) (E := [Ent.obj b_12 (.cells #[.int .i8 x_5.fKind, .bool x_5.fBool, .int .i64 x_5.fNum, S x_5.fText, .slice A_17 x_5.fList.length cap_17, .slice A_18 x_5.fKeys.length cap_18] 26 (0, 0)), Ent.obj b_13 (.cells #[.int .i8 x_4.fKind, .bool x_4.fBool, .int .i64 x_4.fNum, S x_4.fText, .slice A_9 x_4.fList.length cap_9, .slice A_10 x_4.fKeys.length cap_10] 26 (0, 0))]) (hM_6.trans hM_10) p_74 ?_
                    refine N_end (fun w_65 p_75 => ?_)
                    have p_174 := p_75.pl [1]
                    obtain ⟨M_31, hM_31, p_175, hc_13⟩ := p_174.fzOwn
                    obtain ⟨M_32, hM_32, p_176, hc_14⟩ := p_175.fzOwn
                    refine T_n ?_
                    exact ⟨((⟨x_4.fKind, (x_4.fBool), x_4.fNum, x_4.fText, x_4.fList, x_4.fKeys⟩ : T_api_Value), (⟨x_5.fKind, (x_5.fBool), x_5.fNum, x_5.fText, x_5.fList, x_5.fKeys⟩ : T_api_Value)), (Option.some.inj hF_11).symm, M_32, (((hM_6.trans hM_10).trans hM_31).trans hM_32), ⟨b_13, 0, none⟩, [.int .i8 x_4.fKind, .bool x_4.fBool, .int .i64 x_4.fNum, S x_4.fText, .slice A_9 x_4.fList.length cap_9, .slice A_10 x_4.fKeys.length cap_10], ⟨b_12, 0, none⟩, [.int .i8 x_5.fKind, .bool x_5.fBool, .int .i64 x_5.fNum, S x_5.fText, .slice A_17 x_5.fList.length cap_17, .slice A_18 x_5.fKeys.length cap_18], (T_api_Value.shut (h_11.mono ((hM_10.trans hM_31).trans hM_32)) (h_12.mono ((hM_10.trans hM_31).trans hM_32))), (fz_at ((fzu hM_32 hc_13)) 0 rfl), (T_api_Value.shut (h_19.mono (hM_31.trans hM_32)) (h_20.mono (hM_31.trans hM_32))), (fz_at (hc_14) 0 rfl), f_49.keep (ks := [2, 3, 5, 6]) (by kernel_rfl), p_176⟩
                  exact N_none
                exact N_none
              exact N_none
            refine N_alt rfl (E := [Ent.obj b_12 (.cells #[.int .i8 0, .bool false, .int .i64 0, S [], .slice none 0 0, .slice none 0 0] 26 (0, 0))]) (fun w_66 p_76 => ?_) ?_
            · refine V_alloc f_45 p_76 (.cells #[.int .i8 0, .bool false, .int .i64 0, S [], .slice none 0 0, .slice none 0 0] 26 (0, 0)) (by kernel_rfl) (fun _ => by kernel_rfl) (fun b_14 w_67 p_77 a_48 f_50 => ?_)
              refine W_end rfl ?_
              refine N_go (M1 := M_6) (E := [Ent.obj b_14 (.cells #[.int .i8 0, .bool false, .int .i64 0, S [], .slice none 0 0, .slice none 0 0] 26 (0, 0)), Ent.obj b_12 (.cells #[.int .i8 0, .bool false, .int .i64 0, S [], .slice none 0 0, .slice none 0 0] 26 (0, 0))]) hM_6 p_77 ?_
              refine N_alt rfl (E := [Ent.obj b_14 (.cells #[.int .i8 0, .bool false, .int .i64 0, S [], .slice none 0 0, .slice none 0 0] 26 (0, 0)), Ent.obj b_12 (.cells #[.int .i8 0, .bool false, .int .i64 0, S [], .slice none 0 0, .slice none 0 0] 26 (0, 0))]) (fun w_68 p_78 => ?_) ?_
              · refine V_ok f_50 p_78 (tree_Sorted_ok n _ (GL.mono (((hM_1.trans hM_2).trans hM_3).trans hM_6) hG) _ d1 (T_api_Value.shutx (x := d1) (h_3.mono (((hM_1.trans hM_2).trans hM_3).trans hM_6)) (h_4.mono (((hM_1.trans hM_2).trans hM_3).trans hM_6))) x_5 hx_5) (by kernel_rfl) (fun _ => by kernel_rfl) (fun u_8 M_11 w_69 hM_11 p_79 q_8 a_49 f_51 => ?_)
                obtain ⟨c_8, rfl, hr_8⟩ := q_8
                obtain ⟨A_19, cap_19, A_20, cap_20, rfl, h_21, h_22⟩ := T_api_Value.opn hr_8
                refine W_end rfl ?_
                refine N_go (M1 := M_11) (E := [Ent.obj b_14 (.cells #[.int .i8 0, .bool false, .int .i64 0, S [], .slice none 0 0, .slice none 0 0] 26 (0, 0)), Ent.obj b_12 (.cells #[.int .i8 0, .bool false, .int .i64 0, S [], .slice none 0 0, .slice none 0 0] 26 (0, 0))]) (hM_6.trans hM_11) p_79 ?_
                refine N_alt rfl (E := [Ent.obj b_14 (.cells #[.int .i8 0, .bool false, .int .i64 0, S [], .slice none 0 0, .slice none 0 0] 26 (0, 0)), Ent.obj b_12 (.cells #[.int .i8 0, .bool false, .int .i64 0, S [], .slice none 0 0, .slice none 0 0] 26 (0, 0))]) (fun w_70 p_80 => ?_) ?_
                · refine W_storeN (vs := [.int .i8 x_4.fKind, .bool x_4.fBool, .int .i64 x_4.fNum, S x_4.fText, .slice A_9 x_4.fList.length cap_9, .slice A_10 x_4.fKeys.length cap_10]) (j := 0) f_51 p_80 (by kernel_rfl) (by kernel_rfl) rfl rfl (by kernel_rfl) (by kernel_rfl) (by simp [Value.oneCell', S]) (by kernel_rfl) (by simp) (by decide) (cs' := #[.int .i8 x_4.fKind, .bool x_4.fBool, .int .i64 x_4.fNum, S x_4.fText, .slice A_9 x_4.fList.length cap_9, .slice A_10 x_4.fKeys.length cap_10]) rfl (fun w_71 p_81 a_50 f_52 => ?_)
                  refine W_end rfl ?_
                  refine N_go (M1 := M_11) (E := [Ent.obj b_14 (.cells #[.int .i8 x_4.fKind, .bool x_4.fBool, .int .i64 x_4.fNum, S x_4.fText, .slice A_9 x_4.fList.length cap_9, .slice A_10 x_4.fKeys.length cap_10] 26 (0, 0)), Ent.obj b_12 (.cells #[.int .i8 0, .bool false, .int .i64 0, S [], .slice none 0 0, .slice none 0 0] 26 (0, 0))]) (hM_6.trans hM_11) p_81 ?_
                  refine N_alt rfl (E := [Ent.obj b_14 (.cells #[.int .i8 x_4.fKind, .bool x_4.fBool, .int .i64 x_4.fNum, S x_4.fText, .slice A_9 x_4.fList.length cap_9, .slice A_10 x_4.fKeys.length cap_10] 26 (0, 0)), Ent.obj b_12 (.cells #[.int .i8 0, .bool false, .int .i64 0, S [], .slice none 0 0, .slice none 0 0] 26 (0, 0))]) (fun w_72 p_82 => ?_) ?_
                  · have p_83 := p_82.pl [1]
                    refine W_storeN (vs := [.int .i8 x_5.fKind, .bool x_5.fBool, .int .i64 x_5.fNum, S x_5.fText, .slice A_19 x_5.fList.length cap_19, .slice A_20 x_5.fKeys.length cap_20]) (j := 0) f_52 p_83 (by kernel_rfl) (by kernel_rfl) rfl rfl (by kernel_rfl) (by kernel_rfl) (by simp [Value.oneCell', S]) (by kernel_rfl) (by simp) (by decide) (cs' := #[.int .i8 x_5.fKind, .bool x_5.fBool, .int .i64 x_5.fNum, S x_5.fText, .slice A_19 x_5.fList.length cap_19, .slice A_20 x_5.fKeys.length cap_20]) rfl (fun w_73 p_84 a_51 f_53 => ?_)
                    refine W_end rfl ?_
                    refine N_go (M1 := M_11) (E := [Ent.obj b_12 (.cells #[.int .i8 x_5.fKind, .bool x_5.fBool, .int .i64 x_5.fNum, S x_5.fText, .slice A_19 x_5.fList.length cap_19, .slice A_20 x_5.fKeys.length cap_20] 26 (0, 0)), Ent.obj b_14 (.cells #[.int .i8 x_4.fKind, .bool x_4.fBool, .int .i64 x_4.fNum, S x_4.fText, .slice A_9 x_4.fList.length cap_9, .slice A_10 x_4.fKeys.length cap_10] 26 (0, 0))]) (hM_6.trans hM_11) p_84 ?_
                    refine N_end (fun w_74 p_85 => ?_)
                    have p_177 := p_85.pl [1]
                    obtain ⟨M_33, hM_33, p_178, hc_15⟩ := p_177.fzOwn
                    obtain ⟨M_34, hM_34, p_179, hc_16⟩ := p_178.fzOwn
                    refine T_n ?_
                    exact ⟨((⟨x_4.fKind, (x_4.fBool), x_4.fNum, x_4.fText, x_4.fList, x_4.fKeys⟩ : T_api_Value), (⟨x_5.fKind, (x_5.fBool), x_5.fNum, x_5.fText, x_5.fList, x_5.fKeys⟩ : T_api_Value)), (Option.some.inj hF_11).symm, M_34, (((hM_6.trans hM_11).trans hM_33).trans hM_34), ⟨b_14, 0, none⟩, [.int .i8 x_4.fKind, .bool x_4.fBool, .int .i64 x_4.fNum, S x_4.fText, .slice A_9 x_4.fList.length cap_9, .slice A_10 x_4.fKeys.length cap_10], ⟨b_12, 0, none⟩, [.int .i8 x_5.fKind, .bool x_5.fBool, .int .i64 x_5.fNum, S x_5.fText, .slice A_19 x_5.fList.length cap_19, .slice A_20 x_5.fKeys.length cap_20], (T_api_Value.shut (h_11.mono ((hM_11.trans hM_33).trans hM_34)) (h_12.mono ((hM_11.trans hM_33).trans hM_34))), (fz_at ((fzu hM_34 hc_15)) 0 rfl), (T_api_Value.shut (h_21.mono (hM_33.trans hM_34)) (h_22.mono (hM_33.trans hM_34))), (fz_at (hc_16) 0 rfl), f_53.keep (ks := [2, 3, 5, 6]) (by kernel_rfl), p_179⟩
                  exact N_none
                exact N_none
              exact N_none
            exact N_none
          exact N_none
        refine N_alt rfl (E := []) (fun w_75 p_86 => ?_) ?_
        · refine V_alloc f_25 p_86 (.cells #[.int .i8 0, .bool false, .int .i64 0, S [], .slice none 0 0, .slice none 0 0] 26 (0, 0)) (by kernel_rfl) (fun _ => by kernel_rfl) (fun b_15 w_76 p_87 a_52 f_54 => ?_)
          refine W_end rfl ?_
          refine N_go (M1 := M_3) (E := [Ent.obj b_15 (.cells #[.int .i8 0, .bool false, .int .i64 0, S [], .slice none 0 0, .slice none 0 0] 26 (0, 0))]) (Mem.le_refl _) p_87 ?_
          refine N_alt rfl (E := [Ent.obj b_15 (.cells #[.int .i8 0, .bool false, .int .i64 0, S [], .slice none 0 0, .slice none 0 0] 26 (0, 0))]) (fun w_77 p_88 => ?_) ?_
          · refine V_ok f_54 p_88 (tree_Sorted_ok n _ (GL.mono ((hM_1.trans hM_2).trans hM_3) hG) _ d0 (T_api_Value.shutx (x := d0) (h_1.mono ((hM_1.trans hM_2).trans hM_3)) (h_2.mono ((hM_1.trans hM_2).trans hM_3))) x_4 hx_4) (by kernel_rfl) (fun _ => by kernel_rfl) (fun u_9 M_12 w_78 hM_12 p_89 q_9 a_53 f_55 => ?_)
            obtain ⟨c_9, rfl, hr_9⟩ := q_9
            obtain ⟨A_21, cap_21, A_22, cap_22, rfl, h_23, h_24⟩ := T_api_Value.opn hr_9
            refine W_end rfl ?_
            refine N_go (M1 := M_12) (E := [Ent.obj b_15 (.cells #[.int .i8 0, .bool false, .int .i64 0, S [], .slice none 0 0, .slice none 0 0] 26 (0, 0))]) hM_12 p_89 ?_
            refine N_alt rfl (E := [Ent.obj b_15 (.cells #[.int .i8 0, .bool false, .int .i64 0, S [], .slice none 0 0, .slice none 0 0] 26 (0, 0))]) (fun w_79 p_90 => ?_) ?_
            · refine V_ok f_55 p_90 (tree_Sorted_ok n _ (GL.mono (((hM_1.trans hM_2).trans hM_3).trans hM_12) hG) _ d1 (T_api_Value.shutx (x := d1) (h_3.mono (((hM_1.trans hM_2).trans hM_3).trans hM_12)) (h_4.mono (((hM_1.trans hM_2).trans hM_3).trans hM_12))) x_5 hx_5) (by kernel_rfl) (fun _ => by kernel_rfl) (fun u_10 M_13 w_80 hM_13 p_91 q_10 a_54 f_56 => ?_)
              obtain ⟨c_10, rfl, hr_10⟩ := q_10
              obtain ⟨A_23, cap_23, A_24, cap_24, rfl, h_25, h_26⟩ := T_api_Value.opn hr_10
              refine W_end rfl ?_
              refine N_go (M1 := M_13) (E := [Ent.obj b_15 (.cells #[.int .i8 0, .bool false, .int .i64 0, S [], .slice none 0 0, .slice none 0 0] 26 (0, 0))]) (hM_12.trans hM_13) p_91 ?_
              refine N_alt rfl (E := [Ent.obj b_15 (.cells #[.int .i8 0, .bool false, .int .i64 0, S [], .slice none 0 0, .slice none 0 0] 26 (0, 0))]) (fun w_81 p_92 => ?_) ?_
              · refine V_alloc f_56 p_92 (.cells #[.int .i8 0, .bool false, .int .i64 0, S [], .slice none 0 0, .slice none 0 0] 26 (0, 0)) (by kernel_rfl) (fun _ => by kernel_rfl) (fun b_16 w_82 p_93 a_55 f_57 => ?_)
                refine W_end rfl ?_
                refine N_go (M1 := M_13) (E := [Ent.obj b_16 (.cells #[.int .i8 0, .bool false, .int .i64 0, S [], .slice none 0 0, .slice none 0 0] 26 (0, 0)), Ent.obj b_15 (.cells #[.int .i8 0, .bool false, .int .i64 0, S [], .slice none 0 0, .slice none 0 0] 26 (0, 0))]) (hM_12.trans hM_13) p_93 ?_
                refine N_alt rfl (E := [Ent.obj b_16 (.cells #[.int .i8 0, .bool false, .int .i64 0, S [], .slice none 0 0, .slice none 0 0] 26 (0, 0)), Ent.obj b_15 (.cells #[.int .i8 0, .bool false, .int .i64 0, S [], .slice none 0 0, .slice none 0 0] 26 (0, 0))]) (fun w_83 p_94 => ?_) ?_
                · have p_95 := p_94.pl [1]
                  refine W_storeN (vs := [.int .i8 x_4.fKind, .bool x_4.fBool, .int .i64 x_4.fNum, S x_4.fText, .slice A_21 x_4.fList.length cap_21, .slice A_22 x_4.fKeys.length cap_22]) (j := 0) f_57 p_95 (by kernel_rfl) (by kernel_rfl) rfl rfl (by kernel_rfl) (by kernel_rfl) (by simp [Value.oneCell', S]) (by kernel_rfl) (by simp) (by decide) (cs' := #[.int .i8 x_4.fKind, .bool x_4.fBool, .int .i64 x_4.fNum, S x_4.fText, .slice A_21 x_4.fList.length cap_21, .slice A_22 x_4.fKeys.length cap_22]) rfl (fun w_84 p_96 a_56 f_58 => ?_)
                  refine W_end rfl ?_
                  refine N_go (M1 := M_13) (E := [Ent.obj b_15 (.cells #[.int .i8 x_4.fKind, .bool x_4.fBool, .int .i64 x_4.fNum, S x_4.fText, .slice A_21 x_4.fList.length cap_21, .slice A_22 x_4.fKeys.length cap_22] 26 (0, 0)), Ent.obj b_16 (.cells #[.int .i8 0, .bool false, .int .i64 0, S [], .slice none 0 0, .slice none 0 0] 26 (0, 0))]) (hM_12.trans hM_13) p_96 ?_
                  refine N_alt rfl (E := [Ent.obj b_15 (.cells #[.int .i8 x_4.fKind, .bool x_4.fBool, .int .i64 x_4.fNum, S x_4.fText, .slice A_21 x_4.fList.length cap_21, .slice A_22 x_4.fKeys.length cap_22] 26 (0, 0)), Ent.obj b_16 (.cells #[.int .i8 0, .bool false, .int .i64 0, S [], .slice none 0 0, .slice none 0 0] 26 (0, 0))]) (fun w_85 p_97 => ?_) ?_
                  · have p_98 := p_97.pl [1]
                    refine W_storeN (vs := [.int .i8 x_5.fKind, .bool x_5.fBool, .int .i64 x_5.fNum, S x_5.fText, .slice A_23 x_5.fList.length cap_23, .slice A_24 x_5.fKeys.length cap_24]) (j := 0) f_58 p_98 (by kernel_rfl) (by kernel_rfl) rfl rfl (by kernel_rfl) (by kernel_rfl) (by simp [Value.oneCell', S]) (by kernel_rfl) (by simp) (by decide) (cs' := #[.int .i8 x_5.fKind, .bool x_5.fBool, .int .i64 x_5.fNum, S x_5.fText, .slice A_23 x_5.fList.length cap_23, .slice A_24 x_5.fKeys.length cap_24]) rfl (fun w_86 p_99 a_57 f_59 => ?_)
                    refine W_end rfl ?_
                    refine N_go (M1 := M_13) (E := [Ent.obj b_16 (.cells #[.int .i8 x_5.fKind, .bool x_5.fBool, .int .i64 x_5.fNum, S x_5.fText, .slice A_23 x_5.fList.length cap_23, .slice A_24 x_5.fKeys.length cap_24] 26 (0, 0)), Ent.obj b_15 (.cells #[.int .i8 x_4.fKind, .bool x_4.fBool, .int .i64 x_4.fNum, S x_4.fText, .slice A_21 x_4.fList.length cap_21, .slice A_22 x_4.fKeys.length cap_22] 26 (0, 0))]) (hM_12.trans hM_13) p_99 ?_
                    refine N_end (fun w_87 p_100 => ?_)
                    have p_180 := p_100.pl [1]
                    obtain ⟨M_35, hM_35, p_181, hc_17⟩ := p_180.fzOwn
                    obtain ⟨M_36, hM_36, p_182, hc_18⟩ := p_181.fzOwn
                    refine T_n ?_
                    exact ⟨((⟨x_4.fKind, (x_4.fBool), x_4.fNum, x_4.fText, x_4.fList, x_4.fKeys⟩ : T_api_Value), (⟨x_5.fKind, (x_5.fBool), x_5.fNum, x_5.fText, x_5.fList, x_5.fKeys⟩ : T_api_Value)), (Option.some.inj hF_11).symm, M_36, (((hM_12.trans hM_13).trans hM_35).trans hM_36), ⟨b_15, 0, none⟩, [.int .i8 x_4.fKind, .bool x_4.fBool, .int .i64 x_4.fNum, S x_4.fText, .slice A_21 x_4.fList.length cap_21, .slice A_22 x_4.fKeys.length cap_22], ⟨b_16, 0, none⟩, [.int .i8 x_5.fKind, .bool x_5.fBool, .int .i64 x_5.fNum, S x_5.fText, .slice A_23 x_5.fList.length cap_23, .slice A_24 x_5.fKeys.length cap_24], (T_api_Value.shut (h_23.mono ((hM_13.trans hM_35).trans hM_36)) (h_24.mono ((hM_13.trans hM_35).trans hM_36))), (fz_at ((fzu hM_36 hc_17)) 0 rfl), (T_api_Value.shut (h_25.mono (hM_35.trans hM_36)) (h_26.mono (hM_35.trans hM_36))), (fz_at (hc_18) 0 rfl), f_59.keep (ks := [2, 3, 5, 6]) (by kernel_rfl), p_182⟩
                  exact N_none
                exact N_none
              exact N_none
            refine N_alt rfl (E := [Ent.obj b_15 (.cells #[.int .i8 0, .bool false, .int .i64 0, S [], .slice none 0 0, .slice none 0 0] 26 (0, 0))]) (fun w_88 p_101 => ?_) ?_
            · refine V_alloc f_55 p_101 (.cells #[.int .i8 0, .bool false, .int .i64 0, S [], .slice none 0 0, .slice none 0 0] 26 (0, 0)) (by kernel_rfl) (fun _ => by kernel_rfl) (fun b_17 w_89 p_102 a_58 f_60 => ?_)
              refine W_end rfl ?_
              refine N_go (M1 := M_12) (E := [Ent.obj b_17 (.cells #[.int .i8 0, .bool false, .int .i64 0, S [], .slice none 0 0, .slice none 0 0] 26 (0, 0)), Ent.obj b_15 (.cells #[.int .i8 0, .bool false, .int .i64 0, S [], .slice none 0 0, .slice none 0 0] 26 (0, 0))]) hM_12 p_102 ?_
              refine N_alt rfl (E := [Ent.obj b_17 (.cells #[.int .i8 0, .bool false, .int .i64 0, S [], .slice none 0 0, .slice none 0 0] 26 (0, 0)), Ent.obj b_15 (.cells #[.int .i8 0, .bool false, .int .i64 0, S [], .slice none 0 0, .slice none 0 0] 26 (0, 0))]) (fun w_90 p_103 => ?_) ?_
              · refine V_ok f_60 p_103 (tree_Sorted_ok n _ (GL.mono (((hM_1.trans hM_2).trans hM_3).trans hM_12) hG) _ d1 (T_api_Value.shutx (x := d1) (h_3.mono (((hM_1.trans hM_2).trans hM_3).trans hM_12)) (h_4.mono (((hM_1.trans hM_2).trans hM_3).trans hM_12))) x_5 hx_5) (by kernel_rfl) (fun _ => by kernel_rfl) (fun u_11 M_14 w_91 hM_14 p_104 q_11 a_59 f_61 => ?_)
                obtain ⟨c_11, rfl, hr_11⟩ := q_11
                obtain ⟨A_25, cap_25, A_26, cap_26, rfl, h_27, h_28⟩ := T_api_Value.opn hr_11
                refine W_end rfl ?_
                refine N_go (M1 := M_14) (E := [Ent.obj b_17 (.cells #[.int .i8 0, .bool false, .int .i64 0, S [], .slice none 0 0, .slice none 0 0] 26 (0, 0)), Ent.obj b_15 (.cells #[.int .i8 0, .bool false, .int .i64 0, S [], .slice none 0 0, .slice none 0 0] 26 (0, 0))]) (hM_12.trans hM_14) p_104 ?_
                refine N_alt rfl (E := [Ent.obj b_17 (.cells #[.int .i8 0, .bool false, .int .i64 0, S [], .slice none 0 0, .slice none 0 0] 26 (0, 0)), Ent.obj b_15 (.cells #[.int .i8 0, .bool false, .int .i64 0, S [], .slice none 0 0, .slice none 0 0] 26 (0, 0))]) (fun w_92 p_105 => ?_) ?_
                · have p_106 := p_105.pl [1]
                  refine W_storeN (vs := [.int .i8 x_4.fKind, .bool x_4.fBool, .int .i64 x_4.fNum, S x_4.fText, .slice A_21 x_4.fList.length cap_21, .slice A_22 x_4.fKeys.length cap_22]) (j := 0) f_61 p_106 (by kernel_rfl) (by kernel_rfl) rfl rfl (by kernel_rfl) (by kernel_rfl) (by simp [Value.oneCell', S]) (by kernel_rfl) (by simp) (by decide) (cs' := #[.int .i8 x_4.fKind, .bool x_4.fBool, .int .i64 x_4.fNum, S x_4.fText, .slice A_21 x_4.fList.length cap_21, .slice A_22 x_4.fKeys.length cap_22]) rfl (fun w_93 p_107 a_60 f_62 => ?_)
                  refine W_end rfl ?_
                  refine N_go (M1 := M_14) (E := [Ent.obj b_15 (.cells #[.int .i8 x_4.fKind, .bool x_4.fBool, .int .i64 x_4.fNum, S x_4.fText, .slice A_21 x_4.fList.length cap_21, .slice A_22 x_4.fKeys.length cap_22] 26 (0, 0)), Ent.obj b_17 (.cells #[.int .i8 0, .bool false, .int .i64 0, S [], .slice none 0 0, .slice none 0 0] 26 (0, 0))]) (hM_12.trans hM_14) p_107 ?_
                  refine N_alt rfl (E := [Ent.obj b_15 (.cells #[.int .i8 x_4.fKind, .bool x_4.fBool, .int .i64 x_4.fNum, S x_4.fText, .slice A_21 x_4.fList.length cap_21, .slice A_22 x_4.fKeys.length cap_22] 26 (0, 0)), Ent.obj b_17 (.cells #[.int .i8 0, .bool false, .int .i64 0, S [], .slice none 0 0, .slice none 0 0] 26 (0, 0))]) (fun w_94 p_108 => ?_) ?_
                  · have p_109 := p_108.pl [1]
                    refine W_storeN (vs := [.int .i8 x_5.fKind, .bool x_5.fBool, .int .i64 x_5.fNum, S x_5.fText, .slice A_25 x_5.fList.length cap_25, .slice A_26 x_5.fKeys.length cap_26]) (j := 0) f_62 p_109 (by kernel_rfl) (by kernel_rfl) rfl rfl (by kernel_rfl) (by kernel_rfl) (by simp [Value.oneCell', S]) (by kernel_rfl) (by simp) (by decide) (cs' := #[.int .i8 x_5.fKind, .bool x_5.fBool, .int .i64 x_5.fNum, S x_5.fText, .slice A_25 x_5.fList.length cap_25, .slice A_26 x_5.fKeys.length cap_26]) rfl (fun w_95 p_110 a_61 f_63 => ?_)
                    refine W_end rfl ?_
                    refine N_go (M1 := M_14) (E := [Ent.obj b_17 (.cells #[.int .i8 x_5.fKind, .bool x_5.fBool, .int .i64 x_5.fNum, S x_5.fText, .slice A_25 x_5.fList.length cap_25, .slice A_26 x_5.fKeys.length cap_26] 26 (0, 0)), Ent.obj b_15 (.cells #[.int .i8 x_4.fKind, .bool x_4.fBool, .int .i64 x_4.fNum, S x_4.fText, .slice A_21 x_4.fList.length cap_21, .slice A_22 x_4.fKeys.length cap_22] 26 (0, 0))]) (hM_12.trans hM_14) p_110 ?_
                    refine N_end (fun w_96 p_111 => ?_)
                    have p_183 := p_111.pl [1]
                    obtain ⟨M_37, hM_37, p_184, hc_19⟩ := p_183.fzOwn
                    obtain ⟨M_38, hM_38, p_185, hc_20⟩ := p_184.fzOwn
                    refine T_n ?_
                    exact ⟨((⟨x_4.fKind, (x_4.fBool), x_4.fNum, x_4.fText, x_4.fList, x_4.fKeys⟩ : T_api_Value), (⟨x_5.fKind, (x_5.fBool), x_5.fNum, x_5.fText, x_5.fList, x_5.fKeys⟩ : T_api_Value)), (Option.some.inj hF_11).symm, M_38, (((hM_12.trans hM_14).trans hM_37).trans hM_38), ⟨b_15, 0, none⟩, [.int .i8 x_4.fKind, .bool x_4.fBool, .int .i64 x_4.fNum, S x_4.fText, .slice A_21 x_4.fList.length cap_21, .slice A_22 x_4.fKeys.length cap_22], ⟨b_17, 0, none⟩, [.int .i8 x_5.fKind, .bool x_5.fBool, .int .i64 x_5.fNum, S x_5.fText, .slice A_25 x_5.fList.length cap_25, .slice A_26 x_5.fKeys.length cap_26], (T_api_Value.shut (h_23.mono ((hM_14.trans hM_37).trans hM_38)) (h_24.mono ((hM_14.trans hM_37).trans hM_38))), (fz_at ((fzu hM_38 hc_19)) 0 rfl), (T_api_Value.shut (h_27.mono (hM_37.trans hM_38)) (h_28.mono (hM_37.trans hM_38))), (fz_at (hc_20) 0 rfl), f_63.keep (ks := [2, 3, 5, 6]) (by kernel_rfl), p_185⟩
                  exact N_none
                exact N_none
              exact N_none
            exact N_none
          refine N_alt rfl (E := [Ent.obj b_15 (.cells #[.int .i8 0, .bool false, .int .i64 0, S [], .slice none 0 0, .slice none 0 0] 26 (0, 0))]) (fun w_97 p_112 => ?_) ?_
          · refine V_alloc f_54 p_112 (.cells #[.int .i8 0, .bool false, .int .i64 0, S [], .slice none 0 0, .slice none 0 0] 26 (0, 0)) (by kernel_rfl) (fun _ => by kernel_rfl) (fun b_18 w_98 p_113 a_62 f_64 => ?_)
            refine W_end rfl ?_
            refine N_go (M1 := M_3) (E := [Ent.obj b_18 (.cells #[.int .i8 0, .bool false, .int .i64 0, S [], .slice none 0 0, .slice none 0 0] 26 (0, 0)), Ent.obj b_15 (.cells #[.int .i8 0, .bool false, .int .i64 0, S [], .slice none 0 0, .slice none 0 0] 26 (0, 0))]) (Mem.le_refl _) p_113 ?_
            refine N_alt rfl (E := [Ent.obj b_18 (.cells #[.int .i8 0, .bool false, .int .i64 0, S [], .slice none 0 0, .slice none 0 0] 26 (0, 0)), Ent.obj b_15 (.cells #[.int .i8 0, .bool false, .int .i64 0, S [], .slice none 0 0, .slice none 0 0] 26 (0, 0))]) (fun w_99 p_114 => ?_) ?_
            · refine V_ok f_64 p_114 (tree_Sorted_ok n _ (GL.mono ((hM_1.trans hM_2).trans hM_3) hG) _ d0 (T_api_Value.shutx (x := d0) (h_1.mono ((hM_1.trans hM_2).trans hM_3)) (h_2.mono ((hM_1.trans hM_2).trans hM_3))) x_4 hx_4) (by kernel_rfl) (fun _ => by kernel_rfl) (fun u_12 M_15 w_100 hM_15 p_115 q_12 a_63 f_65 => ?_)
              obtain ⟨c_12, rfl, hr_12⟩ := q_12
              obtain ⟨A_27, cap_27, A_28, cap_28, rfl, h_29, h_30⟩ := T_api_Value.opn hr_12
              refine W_end rfl ?_
              refine N_go (M1 := M_15) (E := [Ent.obj b_18 (.cells #[.int .i8 0, .bool false, .int .i64 0, S [], .slice none 0 0, .slice none 0 0] 26 (0, 0)), Ent.obj b_15 (.cells #[.int .i8 0, .bool false, .int .i64 0, S [], .slice none 0 0, .slice none 0 0] 26 (0, 0))]) hM_15 p_115 ?_
              refine N_alt rfl (E := [Ent.obj b_18 (.cells #[.int .i8 0, .bool false, .int .i64 0, S [], .slice none 0 0, .slice none 0 0] 26 (0, 0)), Ent.obj b_15 (.cells #[.int .i8 0, .bool false, .int .i64 0, S [], .slice none 0 0, .slice none 0 0] 26 (0, 0))]) (fun w_101 p_116 => ?_) ?_
              · refine V_ok f_65 p_116 (tree_Sorted_ok n _ (GL.mono (((hM_1.trans hM_2).trans hM_3).trans hM_15) hG) _ d1 (T_api_Value.shutx (x := d1) (h_3.mono (((hM_1.trans hM_2).trans hM_3).trans hM_15)) (h_4.mono (((hM_1.trans hM_2).trans hM_3).trans hM_15))) x_5 hx_5) (by kernel_rfl) (fun _ => by kernel_rfl) (fun u_13 M_16 w_102 hM_16 p_117 q_13 a_64 f_66 => ?_)
                obtain ⟨c_13, rfl, hr_13⟩ := q_13
                obtain ⟨A_29, cap_29, A_30, cap_30, rfl, h_31, h_32⟩ := T_api_Value.opn hr_13
                refine W_end rfl ?_
                refine N_go (M1 := M_16) (E := [Ent.obj b_18 (.cells #[.int .i8 0, .bool false, .int .i64 0, S [], .slice none 0 0, .slice none 0 0] 26 (0, 0)), Ent.obj b_15 (.cells #[.int .i8 0, .bool false, .int .i64 0, S [], .slice none 0 0, .slice none 0 0] 26 (0, 0))]) (hM_15.trans hM_16) p_117 ?_
                refine N_alt rfl (E := [Ent.obj b_18 (.cells #[.int .i8 0, .bool false, .int .i64 0, S [], .slice none 0 0, .slice none 0 0] 26 (0, 0)), Ent.obj b_15 (.cells #[.int .i8 0, .bool false, .int .i64 0, S [], .slice none 0 0, .slice none 0 0] 26 (0, 0))]) (fun w_103 p_118 => ?_) ?_
                · have p_119 := p_118.pl [1]
                  refine W_storeN (vs := [.int .i8 x_4.fKind, .bool x_4.fBool, .int .i64 x_4.fNum, S x_4.fText, .slice A_27 x_4.fList.length cap_27, .slice A_28 x_4.fKeys.length cap_28]) (j := 0) f_66 p_119 (by kernel_rfl) (by kernel_rfl) rfl rfl (by kernel_rfl) (by kernel_rfl) (by simp [Value.oneCell', S]) (by kernel_rfl) (by simp) (by decide) (cs' := #[.int .i8 x_4.fKind, .bool x_4.fBool, .int .i64 x_4.fNum, S x_4.fText, .slice A_27 x_4.fList.length cap_27, .slice A_28 x_4.fKeys.length cap_28]) rfl (fun w_104 p_120 a_65 f_67 => ?_)
                  refine W_end rfl ?_
                  refine N_go (M1 := M_16) (E := [Ent.obj b_15 (.cells #[.int .i8 x_4.fKind, .bool x_4.fBool, .int .i64 x_4.fNum, S x_4.fText, .slice A_27 x_4.fList.length cap_27, .slice A_28 x_4.fKeys.length cap_28] 26 (0, 0)), Ent.obj b_18 (.cells #[.int .i8 0, .bool false, .int .i64 0, S [], .slice none 0 0, .slice none 0 0] 26 (0, 0))]) (hM_15.trans hM_16) p_120 ?_
                  refine N_alt rfl (E := [Ent.obj b_15 (.cells #[.int .i8 x_4.fKind, .bool x_4.fBool, .int .i64 x_4.fNum, S x_4.fText, .slice A_27 x_4.fList.length cap_27, .slice A_28 x_4.fKeys.length cap_28] 26 (0, 0)), Ent.obj b_18 (.cells #[.int .i8 0, .bool false, .int .i64 0, S [], .slice none 0 0, .slice none 0 0] 26 (0, 0))]) (fun w_105 p_121 => ?_) ?_
                  · have p_122 := p_121.pl [1]
                    refine W_storeN (vs := [.int .i8 x_5.fKind, .bool x_5.fBool, .int .i64 x_5.fNum, S x_5.fText, .slice A_29 x_5.fList.length cap_29, .slice A_30 x_5.fKeys.length cap_30]) (j := 0) f_67 p_122 (by kernel_rfl) (by kernel_rfl) rfl rfl (by kernel_rfl) (by kernel_rfl) (by simp [Value.oneCell', S]) (by kernel_rfl) (by simp) (by decide) (cs' := #[.int .i8 x_5.fKind, .bool x_5.fBool, .int .i64 x_5.fNum, S x_5.fText, .slice A_29 x_5.fList.length cap_29, .slice A_30 x_5.fKeys.length cap_30]) rfl (fun w_106 p_123 a_66 f_68 => ?_)
                    refine W_end rfl ?_
                    refine N_go (M1 := M_16) (E := [Ent.obj b_18 (.cells #[.int .i8 x_5.fKind, .bool x_5.fBool, .int .i64 x_5.fNum, S x_5.fText, .slice A_29 x_5.fList.length cap_29, .slice A_30 x_5.fKeys.length cap_30] 26 (0, 0)), Ent.obj b_15 (.cells #[.int .i8 x_4.fKind, .bool x_4.fBool, .int .i64 x_4.fNum, S x_4.fText, .slice A_27 x_4.fList.length cap_27, .slice A_28 x_4.fKeys.length cap_28] 26 (0, 0))]) (hM_15.trans hM_16) p_123 ?_
                    refine N_end (fun w_107 p_124 => ?_)
                    have p_186 := p_124.pl [1]
                    obtain ⟨M_39, hM_39, p_187, hc_21⟩ := p_186.fzOwn
                    obtain ⟨M_40, hM_40, p_188, hc_22⟩ := p_187.fzOwn
                    refine T_n ?_
                    exact ⟨((⟨x_4.fKind, (x_4.fBool), x_4.fNum, x_4.fText, x_4.fList, x_4.fKeys⟩ : T_api_Value), (⟨x_5.fKind, (x_5.fBool), x_5.fNum, x_5.fText, x_5.fList, x_5.fKeys⟩ : T_api_Value)), (Option.some.inj hF_11).symm, M_40, (((hM_15.trans hM_16).trans hM_39).trans hM_40), ⟨b_15, 0, none⟩, [.int .i8 x_4.fKind, .bool x_4.fBool, .int .i64 x_4.fNum, S x_4.fText, .slice A_27 x_4.fList.length cap_27, .slice A_28 x_4.fKeys.length cap_28], ⟨b_18, 0, none⟩, [.int .i8 x_5.fKind, .bool x_5.fBool, .int .i64 x_5.fNum, S x_5.fText, .slice A_29 x_5.fList.length cap_29, .slice A_30 x_5.fKeys.length cap_30], (T_api_Value.shut (h_29.mono ((hM_16.trans hM_39).trans hM_40)) (h_30.mono ((hM_16.trans hM_39).trans hM_40))), (fz_at ((fzu hM_40 hc_21)) 0 rfl), (T_api_Value.shut (h_31.mono (hM_39.trans hM_40)) (h_32.mono (hM_39.trans hM_40))), (fz_at (hc_22) 0 rfl), f_68.keep (ks := [2, 3, 5, 6]) (by kernel_rfl), p_188⟩
                  exact N_none
                exact N_none
              exact N_none
            exact N_none
          exact N_none
        refine N_alt rfl (E := []) (fun w_108 p_125 => ?_) ?_
        · refine V_alloc f_25 p_125 (.cells #[.int .i8 0, .bool false, .int .i64 0, S [], .slice none 0 0, .slice none 0 0] 26 (0, 0)) (by kernel_rfl) (fun _ => by kernel_rfl) (fun b_19 w_109 p_126 a_67 f_69 => ?_)
          refine W_end rfl ?_
          refine N_go (M1 := M_3) (E := [Ent.obj b_19 (.cells #[.int .i8 0, .bool false, .int .i64 0, S [], .slice none 0 0, .slice none 0 0] 26 (0, 0))]) (Mem.le_refl _) p_126 ?_
          refine N_alt rfl (E := [Ent.obj b_19 (.cells #[.int .i8 0, .bool false, .int .i64 0, S [], .slice none 0 0, .slice none 0 0] 26 (0, 0))]) (fun w_110 p_127 => ?_) ?_
          · refine V_ok f_69 p_127 (tree_Sorted_ok n _ (GL.mono ((hM_1.trans hM_2).trans hM_3) hG) _ d0 (T_api_Value.shutx (x := d0) (h_1.mono ((hM_1.trans hM_2).trans hM_3)) (h_2.mono ((hM_1.trans hM_2).trans hM_3))) x_4 hx_4) (by kernel_rfl) (fun _ => by kernel_rfl) (fun u_14 M_17 w_111 hM_17 p_128 q_14 a_68 f_70 => ?_)
            obtain ⟨c_14, rfl, hr_14⟩ := q_14
            obtain ⟨A_31, cap_31, A_32, cap_32, rfl, h_33, h_34⟩ := T_api_Value.opn hr_14
            refine W_end rfl ?_
            refine N_go (M1 := M_17) (E := [Ent.obj b_19 (.cells #[.int .i8 0, .bool false, .int .i64 0, S [], .slice none 0 0, .slice none 0 0] 26 (0, 0))]) hM_17 p_128 ?_
            refine N_alt rfl (E := [Ent.obj b_19 (.cells #[.int .i8 0, .bool false, .int .i64 0, S [], .slice none 0 0, .slice none 0 0] 26 (0, 0))]) (fun w_112 p_129 => ?_) ?_
            · refine V_ok f_70 p_129 (tree_Sorted_ok n _ (GL.mono (((hM_1.trans hM_2).trans hM_3).trans hM_17) hG) _ d1 (T_api_Value.shutx (x := d1) (h_3.mono (((hM_1.trans hM_2).trans hM_3).trans hM_17)) (h_4.mono (((hM_1.trans hM_2).trans hM_3).trans hM_17))) x_5 hx_5) (by kernel_rfl) (fun _ => by kernel_rfl) (fun u_15 M_18 w_113 hM_18 p_130 q_15 a_69 f_71 => ?_)
              obtain ⟨c_15, rfl, hr_15⟩ := q_15
              obtain ⟨A_33, cap_33, A_34, cap_34, rfl, h_35, h_36⟩ := T_api_Value.opn hr_15
              refine W_end rfl ?_
              refine N_go (M1 := M_18) (E := [Ent.obj b_19 (.cells #[.int .i8 0, .bool false, .int .i64 0, S [], .slice none 0 0, .slice none 0 0] 26 (0, 0))]) (hM_17.trans hM_18) p_130 ?_
              refine N_alt rfl (E := [Ent.obj b_19 (.cells #[.int .i8 0, .bool false, .int .i64 0, S [], .slice none 0 0, .slice none 0 0] 26 (0, 0))]) (fun w_114 p_131 => ?_) ?_
              · refine V_alloc f_71 p_131 (.cells #[.int .i8 0, .bool false, .int .i64 0, S [], .slice none 0 0, .slice none 0 0] 26 (0, 0)) (by kernel_rfl) (fun _ => by kernel_rfl) (fun b_20 w_115 p_132 a_70 f_72 => ?_)
                refine W_end rfl ?_
                refine N_go (M1 := M_18) (E := [Ent.obj b_20 (.cells #[.int .i8 0, .bool false, .int .i64 0, S [], .slice none 0 0, .slice none 0 0] 26 (0, 0)), Ent.obj b_19 (.cells #[.int .i8 0, .bool false, .int .i64 0, S [], .slice none 0 0, .slice none 0 0] 26 (0, 0))]) (hM_17.trans hM_18) p_132 ?_
                refine N_alt rfl (E := [Ent.obj b_20 (.cells #[.int .i8 0, .bool false, .int .i64 0, S [], .slice none 0 0, .slice none 0 0] 26 (0, 0)), Ent.obj b_19 (.cells #[.int .i8 0, .bool false, .int .i64 0, S [], .slice none 0 0, .slice none 0 0] 26 (0, 0))]) (fun w_116 p_133 => ?_) ?_
                · refine W_storeN (vs := [.int .i8 x_4.fKind, .bool x_4.fBool, .int .i64 x_4.fNum, S x_4.fText, .slice A_31 x_4.fList.length cap_31, .slice A_32 x_4.fKeys.length cap_32]) (j := 0) f_72 p_133 (by kernel_rfl) (by kernel_rfl) rfl rfl (by kernel_rfl) (by kernel_rfl) (by simp [Value.oneCell', S]) (by kernel_rfl) (by simp) (by decide) (cs' := #[.int .i8 x_4.fKind, .bool x_4.fBool, .int .i64 x_4.fNum, S x_4.fText, .slice A_31 x_4.fList.length cap_31, .slice A_32 x_4.fKeys.length cap_32]) rfl (fun w_117 p_134 a_71 f_73 => ?_)
                  refine W_end rfl ?_
                  refine N_go (M1 := M_18) (E := [Ent.obj b_20 (.cells #[.int .i8 x_4.fKind, .bool x_4.fBool, .int .i64 x_4.fNum, S x_4.fText, .slice A_31 x_4.fList.length cap_31, .slice A_32 x_4.fKeys.length cap_32] 26 (0, 0)), Ent.obj b_19 (.cells #[.int .i8 0, .bool false, .int .i64 0, S [], .slice none 0 0, .slice none 0 0] 26 (0, 0))]) (hM_17.trans hM_18) p_134 ?_
                  refine N_alt rfl (E := [Ent.obj b_20 (.cells #[.int .i8 x_4.fKind, .bool x_4.fBool, .int .i64 x_4.fNum, S x_4.fText, .slice A_31 x_4.fList.length cap_31, .slice A_32 x_4.fKeys.length cap_32] 26 (0, 0)), Ent.obj b_19 (.cells #[.int .i8 0, .bool false, .int .i64 0, S [], .slice none 0 0, .slice none 0 0] 26 (0, 0))]) (fun w_118 p_135 => ?_) ?_
                  · have p_136 := p_135.pl [1]
                    refine W_storeN (vs := [.int .i8 x_5.fKind, .bool x_5.fBool, .int .i64 x_5.fNum, S x_5.fText, .slice A_33 x_5.fList.length cap_33, .slice A_34 x_5.fKeys.length cap_34]) (j := 0) f_73 p_136 (by kernel_rfl) (by kernel_rfl) rfl rfl (by kernel_rfl) (by kernel_rfl) (by simp [Value.oneCell', S]) (by kernel_rfl) (by simp) (by decide) (cs' := #[.int .i8 x_5.fKind, .bool x_5.fBool, .int .i64 x_5.fNum, S x_5.fText, .slice A_33 x_5.fList.length cap_33, .slice A_34 x_5.fKeys.length cap_34]) rfl (fun w_119 p_137 a_72 f_74 => ?_)
                    refine W_end rfl ?_
                    refine N_go (M1 := M_18) (E := [Ent.obj b_19 (.cells #[.int .i8 x_5.fKind, .bool x_5.fBool, .int .i64 x_5.fNum, S x_5.fText, .slice A_33 x_5.fList.length cap_33, .slice A_34 x_5.fKeys.length cap_34] 26 (0, 0)), Ent.obj b_20 (.cells #[.int .i8 x_4.fKind, .bool x_4.fBool, .int .i64 x_4.fNum, S x_4.fText, .slice A_31 x_4.fList.length cap_31, .slice A_32 x_4.fKeys.length cap_32] 26 (0, 0))]) (hM_17.trans hM_18) p_137 ?_
                    refine N_end (fun w_120 p_138 => ?_)
                    have p_189 := p_138.pl [1]
                    obtain ⟨M_41, hM_41, p_190, hc_23⟩ := p_189.fzOwn
                    obtain ⟨M_42, hM_42, p_191, hc_24⟩ := p_190.fzOwn
                    refine T_n ?_
                    exact ⟨((⟨x_4.fKind, (x_4.fBool), x_4.fNum, x_4.fText, x_4.fList, x_4.fKeys⟩ : T_api_Value), (⟨x_5.fKind, (x_5.fBool), x_5.fNum, x_5.fText, x_5.fList, x_5.fKeys⟩ : T_api_Value)), (Option.some.inj hF_11).symm, M_42, (((hM_17.trans hM_18).trans hM_41).trans hM_42), ⟨b_20, 0, none⟩, [.int .i8 x_4.fKind, .bool x_4.fBool, .int .i64 x_4.fNum, S x_4.fText, .slice A_31 x_4.fList.length cap_31, .slice A_32 x_4.fKeys.length cap_32], ⟨b_19, 0, none⟩, [.int .i8 x_5.fKind, .bool x_5.fBool, .int .i64 x_5.fNum, S x_5.fText, .slice A_33 x_5.fList.length cap_33, .slice A_34 x_5.fKeys.length cap_34], (T_api_Value.shut (h_33.mono ((hM_18.trans hM_41).trans hM_42)) (h_34.mono ((hM_18.trans hM_41).trans hM_42))), (fz_at ((fzu hM_42 hc_23)) 0 rfl), (T_api_Value.shut (h_35.mono (hM_41.trans hM_42)) (h_36.mono (hM_41.trans hM_42))), (fz_at (hc_24) 0 rfl), f_74.keep (ks := [2, 3, 5, 6]) (by kernel_rfl), p_191⟩
                  exact N_none
                exact N_none
              exact N_none
            refine N_alt rfl (E := [Ent.obj b_19 (.cells #[.int .i8 0, .bool false, .int .i64 0, S [], .slice none 0 0, .slice none 0 0] 26 (0, 0))]) (fun w_121 p_139 => ?_) ?_
            · refine V_alloc f_70 p_139 (.cells #[.int .i8 0, .bool false, .int .i64 0, S [], .slice none 0 0, .slice none 0 0] 26 (0, 0)) (by kernel_rfl) (fun _ => by kernel_rfl) (fun b_21 w_122 p_140 a_73 f_75 => ?_)
              refine W_end rfl ?_
              refine N_go (M1 := M_17) (E := [Ent.obj b_21 (.cells #[.int .i8 0, .bool false, .int .i64 0, S [], .slice none 0 0, .slice none 0 0] 26 (0, 0)), Ent.obj b_19 (.cells #[.int .i8 0, .bool false, .int .i64 0, S [], .slice none 0 0, .slice none 0 0] 26 (0, 0))]) hM_17 p_140 ?_
              refine N_alt rfl (E := [Ent.obj b_21 (.cells #[.int .i8 0, .bool false, .int .i64 0, S [], .slice none 0 0, .slice none 0 0] 26 (0, 0)), Ent.obj b_19 (.cells #[.int .i8 0, .bool false, .int .i64 0, S [], .slice none 0 0, .slice none 0 0] 26 (0, 0))]) (fun w_123 p_141 => ?_) ?_
              · refine V_ok f_75 p_141 (tree_Sorted_ok n _ (GL.mono (((hM_1.trans hM_2).trans hM_3).trans hM_17) hG) _ d1 (T_api_Value.shutx (x := d1) (h_3.mono (((hM_1.trans hM_2).trans hM_3).trans hM_17)) (h_4.mono (((hM_1.trans hM_2).trans hM_3).trans hM_17))) x_5 hx_5) (by kernel_rfl) (fun _ => by kernel_rfl) (fun u_16 M_19 w_124 hM_19 p_142 q_16 a_74 f_76 => ?_)
                obtain ⟨c_16, rfl, hr_16⟩ := q_16
                obtain ⟨A_35, cap_35, A_36, cap_36, rfl, h_37, h_38⟩ := T_api_Value.opn hr_16
                refine W_end rfl ?_
                refine N_go (M1 := M_19) (E := [Ent.obj b_21 (.cells #[.int .i8 0, .bool false, .int .i64 0, S [], .slice none 0 0, .slice none 0 0] 26 (0, 0)), Ent.obj b_19 (.cells #[.int .i8 0, .bool false, .int .i64 0, S [], .slice none 0 0, .slice none 0 0] 26 (0, 0))]) (hM_17.trans hM_19) p_142 ?_
                refine N_alt rfl (E := [Ent.obj b_21 (.cells #[.int .i8 0, .bool false, .int .i64 0, S [], .slice none 0 0, .slice none 0 0] 26 (0, 0)), Ent.obj b_19 (.cells #[.int .i8 0, .bool false, .int .i64 0, S [], .slice none 0 0, .slice none 0 0] 26 (0, 0))]) (fun w_125 p_143 => ?_) ?_
                · refine W_storeN (vs := [.int .i8 x_4.fKind, .bool x_4.fBool, .int .i64 x_4.fNum, S x_4.fText, .slice A_31 x_4.fList.length cap_31, .slice A_32 x_4.fKeys.length cap_32]) (j := 0) f_76 p_143 (by kernel_rfl) (by kernel_rfl) rfl rfl (by kernel_rfl) (by kernel_rfl) (by simp [Value.oneCell', S]) (by kernel_rfl) (by simp) (by decide) (cs' := #[.int .i8 x_4.fKind, .bool x_4.fBool, .int .i64 x_4.fNum, S x_4.fText, .slice A_31 x_4.fList.length cap_31, .slice A_32 x_4.fKeys.length cap_32]) rfl (fun w_126 p_144 a_75 f_77 => ?_)
                  refine W_end rfl ?_
                  refine N_go (M1 := M_19) (E := [Ent.obj b_21 (.cells #[.int .i8 x_4.fKind, .bool x_4.fBool, .int .i64 x_4.fNum, S x_4.fText, .slice A_31 x_4.fList.length cap_31, .slice A_32 x_4.fKeys.length cap_32] 26 (0, 0)), Ent.obj b_19 (.cells #[.int .i8 0, .bool false, .int .i64 0, S [], .slice none 0 0, .slice none 0 0] 26 (0, 0))]) (hM_17.trans hM_19) p_144 ?_
                  refine N_alt rfl (E := [Ent.obj b_21 (.cells #[.int .i8 x_4.fKind, .bool x_4.fBool, .int .i64 x_4.fNum, S x_4.fText, .slice A_31 x_4.fList.length cap_31, .slice A_32 x_4.fKeys.length cap_32] 26 (0, 0)), Ent.obj b_19 (.cells #[.int .i8 0, .bool false, .int .i64 0, S [], .slice none 0 0, .slice none 0 0] 26 (0, 0))]) (fun w_127 p_145 => ?_) ?_
                  · have p_146 := p_145.pl [1]
                    refine W_storeN (vs := [.int .i8 x_5.fKind, .bool x_5.fBool, .int .i64 x_5.fNum, S x_5.fText, .slice A_35 x_5.fList.length cap_35, .slice A_36 x_5.fKeys.length cap_36]) (j := 0) f_77 p_146 (by kernel_rfl) (by kernel_rfl) rfl rfl (by kernel_rfl) (by kernel_rfl) (by simp [Value.oneCell', S]) (by kernel_rfl) (by simp) (by decide) (cs' := #[.int .i8 x_5.fKind, .bool x_5.fBool, .int .i64 x_5.fNum, S x_5.fText, .slice A_35 x_5.fList.length cap_35, .slice A_36 x_5.fKeys.length cap_36]) rfl (fun w_128 p_147 a_76 f_78 => ?_)
                    refine W_end rfl ?_
                    refine N_go (M1 := M_19) (E := [Ent.obj b_19 (.cells #[.int .i8 x_5.fKind, .bool x_5.fBool, .int .i64 x_5.fNum, S x_5.fText, .slice A_35 x_5.fList.length cap_35, .slice A_36 x_5.fKeys.length cap_36] 26 (0, 0)), Ent.obj b_21 (.cells #[.int .i8 x_4.fKind, .bool x_4.fBool, .int .i64 x_4.fNum, S x_4.fText, .slice A_31 x_4.fList.length cap_31, .slice A_32 x_4.fKeys.length cap_32] 26 (0, 0))]) (hM_17.trans hM_19) p_147 ?_
                    refine N_end (fun w_129 p_148 => ?_)
                    have p_192 := p_148.pl [1]
                    obtain ⟨M_43, hM_43, p_193, hc_25⟩ := p_192.fzOwn
                    obtain ⟨M_44, hM_44, p_194, hc_26⟩ := p_193.fzOwn
                    refine T_n ?_
                    exact ⟨((⟨x_4.fKind, (x_4.fBool), x_4.fNum, x_4.fText, x_4.fList, x_4.fKeys⟩ : T_api_Value), (⟨x_5.fKind, (x_5.fBool), x_5.fNum, x_5.fText, x_5.fList, x_5.fKeys⟩ : T_api_Value)), (Option.some.inj hF_11).symm, M_44, (((hM_17.trans hM_19).trans hM_43).trans hM_44), ⟨b_21, 0, none⟩, [.int .i8 x_4.fKind, .bool x_4.fBool, .int .i64 x_4.fNum, S x_4.fText, .slice A_31 x_4.fList.length cap_31, .slice A_32 x_4.fKeys.length cap_32], ⟨b_19, 0, none⟩, [.int .i8 x_5.fKind, .bool x_5.fBool, .int .i64 x_5.fNum, S x_5.fText, .slice A_35 x_5.fList.length cap_35, .slice A_36 x_5.fKeys.length cap_36], (T_api_Value.shut (h_33.mono ((hM_19.trans hM_43).trans hM_44)) (h_34.mono ((hM_19.trans hM_43).trans hM_44))), (fz_at ((fzu hM_44 hc_25)) 0 rfl), (T_api_Value.shut (h_37.mono (hM_43.trans hM_44)) (h_38.mono (hM_43.trans hM_44))), (fz_at (hc_26) 0 rfl), f_78.keep (ks := [2, 3, 5, 6]) (by kernel_rfl), p_194⟩
                  exact N_none
                exact N_none
              exact N_none
            exact N_none
          refine N_alt rfl (E := [Ent.obj b_19 (.cells #[.int .i8 0, .bool false, .int .i64 0, S [], .slice none 0 0, .slice none 0 0] 26 (0, 0))]) (fun w_130 p_149 => ?_) ?_
          · refine V_alloc f_69 p_149 (.cells #[.int .i8 0, .bool false, .int .i64 0, S [], .slice none 0 0, .slice none 0 0] 26 (0, 0)) (by kernel_rfl) (fun _ => by kernel_rfl) (fun b_22 w_131 p_150 a_77 f_79 => ?_)
            refine W_end rfl ?_
            refine N_go (M1 := M_3) (E := [Ent.obj b_22 (.cells #[.int .i8 0, .bool false, .int .i64 0, S [], .slice none 0 0, .slice none 0 0] 26 (0, 0)), Ent.obj b_19 (.cells #[.int .i8 0, .bool false, .int .i64 0, S [], .slice none 0 0, .slice none 0 0] 26 (0, 0))]) (Mem.le_refl _) p_150 ?_
            refine N_alt rfl (E := [Ent.obj b_22 (.cells #[.int .i8 0, .bool false, .int .i64 0, S [], .slice none 0 0, .slice none 0 0] 26 (0, 0)), Ent.obj b_19 (.cells #[.int .i8 0, .bool false, .int .i64 0, S [], .slice none 0 0, .slice none 0 0] 26 (0, 0))]) (fun w_132 p_151 => ?_) ?_
            · refine V_ok f_79 p_151 (tree_Sorted_ok n _ (GL.mono ((hM_1.trans hM_2).trans hM_3) hG) _ d0 (T_api_Value.shutx (x := d0) (h_1.mono ((hM_1.trans hM_2).trans hM_3)) (h_2.mono ((hM_1.trans hM_2).trans hM_3))) x_4 hx_4) (by kernel_rfl) (fun _ => by kernel_rfl) (fun u_17 M_20 w_133 hM_20 p_152 q_17 a_78 f_80 => ?_)
              obtain ⟨c_17, rfl, hr_17⟩ := q_17
              obtain ⟨A_37, cap_37, A_38, cap_38, rfl, h_39, h_40⟩ := T_api_Value.opn hr_17
              refine W_end rfl ?_
              refine N_go (M1 := M_20) (E := [Ent.obj b_22 (.cells #[.int .i8 0, .bool false, .int .i64 0, S [], .slice none 0 0, .slice none 0 0] 26 (0, 0)), Ent.obj b_19 (.cells #[.int .i8 0, .bool false, .int .i64 0, S [], .slice none 0 0, .slice none 0 0] 26 (0, 0))]) hM_20 p_152 ?_
              refine N_alt rfl (E := [Ent.obj b_22 (.cells #[.int .i8 0, .bool false, .int .i64 0, S [], .slice none 0 0, .slice none 0 0] 26 (0, 0)), Ent.obj b_19 (.cells #[.int .i8 0, .bool false, .int .i64 0, S [], .slice none 0 0, .slice none 0 0] 26 (0, 0))]) (fun w_134 p_153 => ?_) ?_
              · refine V_ok f_80 p_153 (tree_Sorted_ok n _ (GL.mono (((hM_1.trans hM_2).trans hM_3).trans hM_20) hG) _ d1 (T_api_Value.shutx (x := d1) (h_3.mono (((hM_1.trans hM_2).trans hM_3).trans hM_20)) (h_4.mono (((hM_1.trans hM_2).trans hM_3).trans hM_20))) x_5 hx_5) (by kernel_rfl) (fun _ => by kernel_rfl) (fun u_18 M_21 w_135 hM_21 p_154 q_18 a_79 f_81 => ?_)
                obtain ⟨c_18, rfl, hr_18⟩ := q_18
                obtain ⟨A_39, cap_39, A_40, cap_40, rfl, h_41, h_42⟩ := T_api_Value.opn hr_18
                refine W_end rfl ?_
                refine N_go (M1 := M_21) (E := [Ent.obj b_22 (.cells #[.int .i8 0, .bool false, .int .i64 0, S [], .slice none 0 0, .slice none 0 0] 26 (0, 0)), Ent.obj b_19 (.cells #[.int .i8 0, .bool false, .int .i64 0, S [], .slice none 0 0, .slice none 0 0] 26 (0, 0))]) (hM_20.trans hM_21) p_154 ?_
                refine N_alt rfl (E := [Ent.obj b_22 (.cells #[.int .i8 0, .bool false, .int .i64 0, S [], .slice none 0 0, .slice none 0 0] 26 (0, 0)), Ent.obj b_19 (.cells #[.int .i8 0, .bool false, .int .i64 0, S [], .slice none 0 0, .slice none 0 0] 26 (0, 0))]) (fun w_136 p_155 => ?_) ?_
                · refine W_storeN (vs := [.int .i8 x_4.fKind, .bool x_4.fBool, .int .i64 x_4.fNum, S x_4.fText, .slice A_37 x_4.fList.length cap_37, .slice A_38 x_4.fKeys.length cap_38]) (j := 0) f_81 p_155 (by kernel_rfl) (by kernel_rfl) rfl rfl (by kernel_rfl) (by kernel_rfl) (by simp [Value.oneCell', S]) (by kernel_rfl) (by simp) (by decide) (cs' := #[.int .i8 x_4.fKind, .bool x_4.fBool, .int .i64 x_4.fNum, S x_4.fText, .slice A_37 x_4.fList.length cap_37, .slice A_38 x_4.fKeys.length cap_38]) rfl (fun w_137 p_156 a_80 f_82 => ?_)
                  refine W_end rfl ?_
                  refine N_go (M1 := M_21) (E := [Ent.obj b_22 (.cells #[.int .i8 x_4.fKind, .bool x_4.fBool, .int .i64 x_4.fNum, S x_4.fText, .slice A_37 x_4.fList.length cap_37, .slice A_38 x_4.fKeys.length cap_38] 26 (0, 0)), Ent.obj b_19 (.cells #[.int .i8 0, .bool false, .int .i64 0, S [], .slice none 0 0, .slice none 0 0] 26 (0, 0))]) (hM_20.trans hM_21) p_156 ?_
                  refine N_alt rfl (E := [Ent.obj b_22 (.cells #[.int .i8 x_4.fKind, .bool x_4.fBool, .int .i64 x_4.fNum, S x_4.fText, .slice A_37 x_4.fList.length cap_37, .slice A_38 x_4.fKeys.length cap_38] 26 (0, 0)), Ent.obj b_19 (.cells #[.int .i8 0, .bool false, .int .i64 0, S [], .slice none 0 0, .slice none 0 0] 26 (0, 0))]) (fun w_138 p_157 => ?_) ?_
                  · have p_158 := p_157.pl [1]
                    refine W_storeN (vs := [.int .i8 x_5.fKind, .bool x_5.fBool, .int .i64 x_5.fNum, S x_5.fText, .slice A_39 x_5.fList.length cap_39, .slice A_40 x_5.fKeys.length cap_40]) (j := 0) f_82 p_158 (by kernel_rfl) (by kernel_rfl) rfl rfl (by kernel_rfl) (by kernel_rfl) (by simp [Value.oneCell', S]) (by kernel_rfl) (by simp) (by decide) (cs' := #[.int .i8 x_5.fKind, .bool x_5.fBool, .int .i64 x_5.fNum, S x_5.fText, .slice A_39 x_5.fList.length cap_39, .slice A_40 x_5.fKeys.length cap_40]) rfl (fun w_139 p_159 a_81 f_83 => ?_)
                    refine W_end rfl ?_
                    refine N_go (M1 := M_21) (E := [Ent.obj b_19 (.cells #[.int .i8 x_5.fKind, .bool x_5.fBool, .int .i64 x_5.fNum, S x_5.fText, .slice A_39 x_5.fList.length cap_39, .slice A_40 x_5.fKeys.length cap_40] 26 (0, 0)), Ent.obj b_22 (.cells #[.int .i8 x_4.fKind, .bool x_4.fBool, .int .i64 x_4.fNum, S x_4.fText, .slice A_37 x_4.fList.length cap_37, .slice A_38 x_4.fKeys.length cap_38] 26 (0, 0))]) (hM_20.trans hM_21) p_159 ?_
                    refine N_end (fun w_140 p_160 => ?_)
                    have p_195 := p_160.pl [1]
                    obtain ⟨M_45, hM_45, p_196, hc_27⟩ := p_195.fzOwn
                    obtain ⟨M_46, hM_46, p_197, hc_28⟩ := p_196.fzOwn
                    refine T_n ?_
                    exact ⟨((⟨x_4.fKind, (x_4.fBool), x_4.fNum, x_4.fText, x_4.fList, x_4.fKeys⟩ : T_api_Value), (⟨x_5.fKind, (x_5.fBool), x_5.fNum, x_5.fText, x_5.fList, x_5.fKeys⟩ : T_api_Value)), (Option.some.inj hF_11).symm, M_46, (((hM_20.trans hM_21).trans hM_45).trans hM_46), ⟨b_22, 0, none⟩, [.int .i8 x_4.fKind, .bool x_4.fBool, .int .i64 x_4.fNum, S x_4.fText, .slice A_37 x_4.fList.length cap_37, .slice A_38 x_4.fKeys.length cap_38], ⟨b_19, 0, none⟩, [.int .i8 x_5.fKind, .bool x_5.fBool, .int .i64 x_5.fNum, S x_5.fText, .slice A_39 x_5.fList.length cap_39, .slice A_40 x_5.fKeys.length cap_40], (T_api_Value.shut (h_39.mono ((hM_21.trans hM_45).trans hM_46)) (h_40.mono ((hM_21.trans hM_45).trans hM_46))), (fz_at ((fzu hM_46 hc_27)) 0 rfl), (T_api_Value.shut (h_41.mono (hM_45.trans hM_46)) (h_42.mono (hM_45.trans hM_46))), (fz_at (hc_28) 0 rfl), f_83.keep (ks := [2, 3, 5, 6]) (by kernel_rfl), p_197⟩
                  exact N_none
                exact N_none
              exact N_none
            exact N_none
          exact N_none
        exact N_none
      · rintro a_82 w_141 ⟨y_2, hq_4, M_22, hM_22, ad_1, c_19, ad_2, c_20, hr_19, hq_2, hr_20, hq_3, f_84, p_161⟩
        subst j_2
        obtain ⟨A_41, cap_41, A_42, cap_42, rfl, h_43, h_44⟩ := T_api_Value.opn hr_19
        obtain ⟨A_43, cap_43, A_44, cap_44, rfl, h_45, h_46⟩ := T_api_Value.opn hr_20
        refine T_n (R_seq (R_seq ?_))
        obtain ⟨j_3, hj_3, hF_12⟩ := bind_some' hF_9
        refine R_mid (fun a_90 w_144 => ∃ y_3 : Bool, j_3 = y_3 ∧ ∃ M_47 : Mem, M_22.le M_47 ∧ Frm 95 [(2, .pointer (some (⟨b_1, 0, none⟩))), (3, .pointer (some (⟨b_2, 0, none⟩))), (5, .pointer (some ad_1)), (6, .pointer (some ad_2)), (28, .bool y_3)] a_90 ∧ Hp w0 M_47 (H) w_144) ?_ ?_
        · refine R_reg ?_
          refine V_eq (v := .agg #[.int .i8 d0.fKind, .bool d0.fBool, .int .i64 d0.fNum, S d0.fText, .slice A_1 d0.fList.length cap_1, .slice A_2 d0.fKeys.length cap_2]) f_84 (by kernel_rfl) (X_loadN (cs := [.int .i8 d0.fKind, .bool d0.fBool, .int .i64 d0.fNum, S d0.fText, .slice A_1 d0.fList.length cap_1, .slice A_2 d0.fKeys.length cap_2]) rfl (ad := ⟨b_1, 0, none⟩) (by kernel_rfl) (by kernel_rfl) (fun j v h => p_161.cell ((fzu ((hM_2.trans hM_3).trans hM_22) hc_2) j v h))) (fun a_83 f_85 => ?_)
          obtain ⟨x_22, hx_6, hF_13⟩ := bind_some' hj_3
          refine V_okv f_85 p_161 (tree_Check_ok n _ (GL.mono (((hM_1.trans hM_2).trans hM_3).trans hM_22) hG) _ d0 (T_api_Value.shutx (x := d0) (h_1.mono (((hM_1.trans hM_2).trans hM_3).trans hM_22)) (h_2.mono (((hM_1.trans hM_2).trans hM_3).trans hM_22))) x_22 hx_6) (by kernel_rfl) (fun _ => by kernel_rfl) (fun w_142 p_198 a_84 f_86 => ?_)
          refine V_run f_86 2 (by kernel_rfl) (fun a_85 f_87 => ?_)
          rcases Bool.eq_false_or_eq_true (!(decide (x_22 = 0))) with h_47 | h_47
          · have k_5 : ¬ (x_22 = 0) := (not_iff decide_eq_true_iff).1 h_47
            have hF_14 := cnd_t h_47 hF_13
            have f_88 := Frm.set f_87 24 (v := .bool (!(decide (x_22 = 0)))) (v' := .bool true) (by kernel_rfl) (congrArg Value.bool h_47)
            refine V_run f_88 4 (by kernel_rfl) (fun a_86 f_89 => ?_)
            refine W_end rfl (T_n ?_)
            exact ⟨(true), (Option.some.inj hF_14).symm, M_22, (Mem.le_refl _), f_89.keep (ks := [2, 3, 5, 6, 28]) (by kernel_rfl), p_198⟩
          · have k_6 : ¬ (¬ (x_22 = 0)) := iff_f (not_iff decide_eq_true_iff) h_47
            have hF_15 := cnd_f h_47 hF_13
            have f_90 := Frm.set f_87 24 (v := .bool (!(decide (x_22 = 0)))) (v' := .bool false) (by kernel_rfl) (congrArg Value.bool h_47)
            refine V_eq (v := .agg #[.int .i8 d1.fKind, .bool d1.fBool, .int .i64 d1.fNum, S d1.fText, .slice A_3 d1.fList.length cap_3, .slice A_4 d1.fKeys.length cap_4]) f_90 (by kernel_rfl) (X_loadN (cs := [.int .i8 d1.fKind, .bool d1.fBool, .int .i64 d1.fNum, S d1.fText, .slice A_3 d1.fList.length cap_3, .slice A_4 d1.fKeys.length cap_4]) rfl (ad := ⟨b_2, 0, none⟩) (by kernel_rfl) (by kernel_rfl) (fun j v h => p_198.cell ((fzu (hM_3.trans hM_22) hc_4) j v h))) (fun a_87 f_91 => ?_)
            obtain ⟨x_23, hx_7, hF_16⟩ := bind_some' hF_15
            refine V_okv f_91 p_198 (tree_Check_ok n _ (GL.mono (((hM_1.trans hM_2).trans hM_3).trans hM_22) hG) _ d1 (T_api_Value.shutx (x := d1) (h_3.mono (((hM_1.trans hM_2).trans hM_3).trans hM_22)) (h_4.mono (((hM_1.trans hM_2).trans hM_3).trans hM_22))) x_23 hx_7) (by kernel_rfl) (fun _ => by kernel_rfl) (fun w_143 p_199 a_88 f_92 => ?_)
            refine V_run f_92 2 (by kernel_rfl) (fun a_89 f_93 => ?_)
            refine W_end rfl (T_n ?_)
            exact ⟨(!(decide (x_23 = 0))), (Option.some.inj hF_16).symm, M_22, (Mem.le_refl _), f_93.keep (ks := [2, 3, 5, 6, 28]) (by kernel_rfl), p_199⟩
        · rintro a_90 w_144 ⟨y_3, hq_5, M_47, hM_47, f_94, p_200⟩
          subst j_3
          refine T_n ?_
          refine R_cond f_94 (b := y_3) (by kernel_rfl) (by kernel_rfl) (fun h_48 => ?_) (fun h_48 => ?_)
          · have hF_17 := cnd_t h_48 hF_12
            refine R_seq ?_
            obtain ⟨j_4, hj_4, hF_18⟩ := bind_some' hF_17
            refine R_mid (fun a_104 w_149 => ∃ y_4 : Bool, j_4 = y_4 ∧ ∃ M_48 : Mem, M_47.le M_48 ∧ Frm 95 [(4, .bool y_4)] a_104 ∧ Hp w0 M_48 (H) w_149) ?_ ?_
            · refine R_reg ?_
              refine V_eq (v := .agg #[.int .i8 d0.fKind, .bool d0.fBool, .int .i64 d0.fNum, S d0.fText, .slice A_1 d0.fList.length cap_1, .slice A_2 d0.fKeys.length cap_2]) f_94 (by kernel_rfl) (X_loadN (cs := [.int .i8 d0.fKind, .bool d0.fBool, .int .i64 d0.fNum, S d0.fText, .slice A_1 d0.fList.length cap_1, .slice A_2 d0.fKeys.length cap_2]) rfl (ad := ⟨b_1, 0, none⟩) (by kernel_rfl) (by kernel_rfl) (fun j v h => p_200.cell ((fzu (((hM_2.trans hM_3).trans hM_22).trans hM_47) hc_2) j v h))) (fun a_91 f_95 => ?_)
              obtain ⟨x_24, hx_8, hF_19⟩ := bind_some' hj_4
              refine V_okv f_95 p_200 (tree_Check_ok n _ (GL.mono ((((hM_1.trans hM_2).trans hM_3).trans hM_22).trans hM_47) hG) _ d0 (T_api_Value.shutx (x := d0) (h_1.mono ((((hM_1.trans hM_2).trans hM_3).trans hM_22).trans hM_47)) (h_2.mono ((((hM_1.trans hM_2).trans hM_3).trans hM_22).trans hM_47))) x_24 hx_8) (by kernel_rfl) (fun _ => by kernel_rfl) (fun w_145 p_201 a_92 f_96 => ?_)
              refine V_run f_96 2 (by kernel_rfl) (fun a_93 f_97 => ?_)
              rcases Bool.eq_false_or_eq_true (decide (x_24 = 0)) with h_49 | h_49
              · have k_8 : x_24 = 0 := decide_eq_true_iff.1 h_49
                have hF_20 := cnd_t h_49 hF_19
                have f_98 := Frm.set f_97 32 (v := .bool (decide (x_24 = 0))) (v' := .bool true) (by kernel_rfl) (congrArg Value.bool h_49)
                refine V_run f_98 5 (by kernel_rfl) (fun a_94 f_99 => ?_)
                obtain ⟨x_25, hx_9, hF_21⟩ := bind_some' hF_20
                refine V_okv f_99 p_201 (law03_wakes_ok n _ (GL.mono ((((hM_1.trans hM_2).trans hM_3).trans hM_22).trans hM_47) hG) x_25 hx_9) (by kernel_rfl) (fun _ => by kernel_rfl) (fun w_146 p_202 a_95 f_100 => ?_)
                refine V_run f_100 2 (by kernel_rfl) (fun a_96 f_101 => ?_)
                refine W_end rfl (T_n ?_)
                exact ⟨(x_25), (Option.some.inj hF_21).symm, M_47, (Mem.le_refl _), f_101.keep (ks := [4]) (by kernel_rfl), p_202⟩
              · have k_9 : ¬ (x_24 = 0) := iff_f decide_eq_true_iff h_49
                have hF_22 := cnd_f h_49 hF_19
                have f_102 := Frm.set f_97 32 (v := .bool (decide (x_24 = 0))) (v' := .bool false) (by kernel_rfl) (congrArg Value.bool h_49)
                refine V_eq (v := .agg #[.int .i8 y_2.1.fKind, .bool y_2.1.fBool, .int .i64 y_2.1.fNum, S y_2.1.fText, .slice A_41 y_2.1.fList.length cap_41, .slice A_42 y_2.1.fKeys.length cap_42]) f_102 (by kernel_rfl) (X_loadN (cs := [.int .i8 y_2.1.fKind, .bool y_2.1.fBool, .int .i64 y_2.1.fNum, S y_2.1.fText, .slice A_41 y_2.1.fList.length cap_41, .slice A_42 y_2.1.fKeys.length cap_42]) rfl (ad := ad_1) (by kernel_rfl) (by kernel_rfl) (fun j v h => p_201.cell ((fzu hM_47 hq_2) j v h))) (fun a_97 f_103 => ?_)
                refine V_eq (v := .agg #[.int .i8 d0.fKind, .bool d0.fBool, .int .i64 d0.fNum, S d0.fText, .slice A_1 d0.fList.length cap_1, .slice A_2 d0.fKeys.length cap_2]) f_103 (by kernel_rfl) (X_loadN (cs := [.int .i8 d0.fKind, .bool d0.fBool, .int .i64 d0.fNum, S d0.fText, .slice A_1 d0.fList.length cap_1, .slice A_2 d0.fKeys.length cap_2]) rfl (ad := ⟨b_1, 0, none⟩) (by kernel_rfl) (by kernel_rfl) (fun j v h => p_201.cell ((fzu (((hM_2.trans hM_3).trans hM_22).trans hM_47) hc_2) j v h))) (fun a_98 f_104 => ?_)
                obtain ⟨x_26, hx_10, hF_23⟩ := bind_some' hF_22
                refine V_okv f_104 p_201 (ref03_Same_ok n _ _ y_2.1 (T_api_Value.shutx (x := y_2.1) (h_43.mono hM_47) (h_44.mono hM_47)) _ d0 (T_api_Value.shutx (x := d0) (h_1.mono ((((hM_1.trans hM_2).trans hM_3).trans hM_22).trans hM_47)) (h_2.mono ((((hM_1.trans hM_2).trans hM_3).trans hM_22).trans hM_47))) x_26 hx_10) (by kernel_rfl) (fun _ => by kernel_rfl) (fun w_147 p_203 a_99 f_105 => ?_)
                refine V_run f_105 2 (by kernel_rfl) (fun a_100 f_106 => ?_)
                rcases Bool.eq_false_or_eq_true (x_26) with h_50 | h_50
                · have hF_24 := cnd_t h_50 hF_23
                  have f_107 := Frm.set f_106 37 (v := .bool x_26) (v' := .bool true) (by kernel_rfl) (congrArg Value.bool h_50)
                  obtain ⟨x_27, hx_11, hF_25⟩ := bind_some' hF_24
                  refine V_okv f_107 p_203 (law03_wakes_ok n _ (GL.mono ((((hM_1.trans hM_2).trans hM_3).trans hM_22).trans hM_47) hG) x_27 hx_11) (by kernel_rfl) (fun _ => by kernel_rfl) (fun w_148 p_204 a_101 f_108 => ?_)
                  refine V_run f_108 2 (by kernel_rfl) (fun a_102 f_109 => ?_)
                  refine W_end rfl (T_n ?_)
                  exact ⟨(x_27), (Option.some.inj hF_25).symm, M_47, (Mem.le_refl _), f_109.keep (ks := [4]) (by kernel_rfl), p_204⟩
                · have hF_26 := cnd_f h_50 hF_23
                  have f_110 := Frm.set f_106 37 (v := .bool x_26) (v' := .bool false) (by kernel_rfl) (congrArg Value.bool h_50)
                  refine V_run f_110 3 (by kernel_rfl) (fun a_103 f_111 => ?_)
                  refine W_end rfl (T_n ?_)
                  exact ⟨(false), (Option.some.inj hF_26).symm, M_47, (Mem.le_refl _), f_111.keep (ks := [4]) (by kernel_rfl), p_203⟩
            · rintro a_104 w_149 ⟨y_4, hq_6, M_48, hM_48, f_112, p_205⟩
              subst j_4
              refine T_n (wp_ret (T_r ?_))
              refine E_ret1 f_112 rfl (by kernel_rfl : Vc.look _ 4 = some (.bool y_4)) ?_
              obtain rfl := Option.some.inj hF_18
              exact ⟨_, rfl, M_48, (((((hM_1.trans hM_2).trans hM_3).trans hM_22).trans hM_47).trans hM_48), p_205, rfl⟩
          · have hF_27 := cnd_f h_48 hF_12
            refine wp_skip (T_n (R_seq (R_seq (R_reg ?_))))
            refine V_eq (v := .agg #[.int .i8 y_2.1.fKind, .bool y_2.1.fBool, .int .i64 y_2.1.fNum, S y_2.1.fText, .slice A_41 y_2.1.fList.length cap_41, .slice A_42 y_2.1.fKeys.length cap_42]) f_94 (by kernel_rfl) (X_loadN (cs := [.int .i8 y_2.1.fKind, .bool y_2.1.fBool, .int .i64 y_2.1.fNum, S y_2.1.fText, .slice A_41 y_2.1.fList.length cap_41, .slice A_42 y_2.1.fKeys.length cap_42]) rfl (ad := ad_1) (by kernel_rfl) (by kernel_rfl) (fun j v h => p_200.cell ((fzu hM_47 hq_2) j v h))) (fun a_105 f_113 => ?_)
            obtain ⟨x_28, hx_12, hF_28⟩ := bind_some' hF_27
            refine V_ok f_113 p_200 (ref03_Walk_ok n _ _ y_2.1 (T_api_Value.shutx (x := y_2.1) (h_43.mono hM_47) (h_44.mono hM_47)) x_28 hx_12) (by kernel_rfl) (fun _ => by kernel_rfl) (fun u_19 M_49 w_150 hM_49 p_206 q_19 a_106 f_114 => ?_)
            obtain ⟨A_45, cap_45, rfl, h_51⟩ := q_19
            refine V_run f_114 2 (by kernel_rfl) (fun a_107 f_115 => ?_)
            refine W_end rfl (T_n (wp_block ?_))
            obtain ⟨b_23, hL_1, hF_29⟩ := bind_some' hF_28
            refine wp_mono (Q := fun e a w => (e = .ret ∧ (∃ y_7 : Unit, b_23 = .inl y_7 ∧ ∃ M_54 : Mem, M_49.le M_54 ∧ Frm 95 [(4, .bool false)] a ∧ Hp w0 M_54 (H) w)) ∨ (e = .exit 0 ∧ (∃ y_8 : Unit, b_23 = .inr y_8 ∧ ∃ M_55 : Mem, M_49.le M_55 ∧ Frm 95 [(2, .pointer (some (⟨b_1, 0, none⟩))), (3, .pointer (some (⟨b_2, 0, none⟩))), (5, .pointer (some ad_1)), (6, .pointer (some ad_2))] a ∧ Hp w0 M_55 (H) w))) (R_loop (n := 95) (w0 := w0) (M := M_49) (fun (x : Nat × Int) => match x with | (m_1, s_1) => [(2, .pointer (some (⟨b_1, 0, none⟩))), (3, .pointer (some (⟨b_2, 0, none⟩))), (5, .pointer (some ad_1)), (6, .pointer (some ad_2)), (41, .slice A_45 x_28.length cap_45), (42, .int .i64 ((x_28.length : Nat) : Int)), (43, .int .i64 s_1)]) (fun (x : Nat × Int) => match x with | (m_1, s_1) => (H)) (fun (x : Nat × Int) (MM : Mem) => match x with | (m_1, s_1) => loopF (law03_TreeSorted_s1 n x_28) m_1 s_1 = some b_23) (fun (x : Nat × Int) => match x with | (m_1, s_1) => m_1) (n, (0 : Int)) (f_115.keep (ks := [2, 3, 5, 6, 41, 42, 43]) (by kernel_rfl)) p_206 hL_1 ?_) ?_
            · rintro ⟨m_1, s_1⟩ M_50 a_108 w_151 hM_50 I_1 f_116 p_207
              have I_1L := I_1
              obtain ⟨m_2, r_1, rfl, hs_1, hn_1⟩ := loop_step I_1L
              unfold law03_TreeSorted_s1 at hs_1
              refine R_seq (R_reg ?_)
              refine V_run f_116 1 (by kernel_rfl) (fun a_109 f_117 => ?_)
              refine W_end rfl (T_n (R_seq ?_))
              refine R_cond f_117 (b := decide (s_1 < ((x_28.length : Nat) : Int))) (by kernel_rfl) (by kernel_rfl) (fun h_52 => ?_) (fun h_52 => ?_)
              · have k_13 : s_1 < ((x_28.length : Nat) : Int) := decide_eq_true_iff.1 h_52
                have hF_30 := cnd_t h_52 hs_1
                refine wp_skip (T_n (R_seq (wp_block (R_seq (R_reg ?_)))))
                obtain ⟨x_29, hx_13, hF_31⟩ := bind_some' hF_30
                obtain ⟨ad_3, c_21, e_1, hl_1, hr_21, hc_29⟩ := Sli.at_ (h_51.mono hM_50) hx_13
                clear hl_1
                obtain ⟨A_46, cap_46, A_47, cap_47, rfl, h_53, h_54⟩ := T_api_Value.opn hr_21
                refine V_eq (v := .pointer (some (ad_3.add (s_1.toNat * 6)))) f_117 (by kernel_rfl) (X_indexAddrA e_1 rfl (len := x_28.length) (cap := cap_45) (k := .i64) (i := s_1) (by kernel_rfl) (by kernel_rfl) (e := 26) (by kernel_rfl) (sz := 6) (by kernel_rfl) (getI_nn hx_13) (getI_lt hx_13)) (fun a_110 f_118 => ?_)
                refine V_eq (v := .agg #[.int .i8 x_29.fKind, .bool x_29.fBool, .int .i64 x_29.fNum, S x_29.fText, .slice A_46 x_29.fList.length cap_46, .slice A_47 x_29.fKeys.length cap_47]) f_118 (by kernel_rfl) (X_loadN (cs := [.int .i8 x_29.fKind, .bool x_29.fBool, .int .i64 x_29.fNum, S x_29.fText, .slice A_46 x_29.fList.length cap_46, .slice A_47 x_29.fKeys.length cap_47]) rfl (ad := ad_3.add (s_1.toNat * 6)) (by kernel_rfl) (by kernel_rfl) (fun j v h => p_207.cell (hc_29 j v h))) (fun a_111 f_119 => ?_)
                refine V_alloc f_119 p_207 (.cells #[.int .i8 0, .bool false, .int .i64 0, S [], .slice none 0 0, .slice none 0 0] 26 (0, 0)) (by kernel_rfl) (fun _ => by kernel_rfl) (fun b_24 w_152 p_208 a_112 f_120 => ?_)
                refine W_storeN (vs := [.int .i8 x_29.fKind, .bool x_29.fBool, .int .i64 x_29.fNum, S x_29.fText, .slice A_46 x_29.fList.length cap_46, .slice A_47 x_29.fKeys.length cap_47]) (j := 0) f_120 p_208 (by kernel_rfl) (by kernel_rfl) rfl rfl (by kernel_rfl) (by kernel_rfl) (by simp [Value.oneCell', S]) (by kernel_rfl) (by simp) (by decide) (cs' := #[.int .i8 x_29.fKind, .bool x_29.fBool, .int .i64 x_29.fNum, S x_29.fText, .slice A_46 x_29.fList.length cap_46, .slice A_47 x_29.fKeys.length cap_47]) rfl (fun w_153 p_209 a_113 f_121 => ?_)
                refine W_end rfl (T_n (R_seq (R_reg ?_)))
                refine V_run f_121 1 (by kernel_rfl) (fun a_114 f_122 => ?_)
                refine W_end rfl (T_n (wp_block ?_))
                obtain ⟨b_25, hL_2, hF_32⟩ := bind_some' hF_31
                refine wp_mono (Q := fun e a w => (e = .ret ∧ (∃ y_5 : Unit, b_25 = .inl y_5 ∧ ∃ M_52 : Mem, M_50.le M_52 ∧ Frm 95 [(4, .bool false)] a ∧ Hp w0 M_52 ((Ent.obj b_24 (.cells #[.int .i8 x_29.fKind, .bool x_29.fBool, .int .i64 x_29.fNum, S x_29.fText, .slice A_46 x_29.fList.length cap_46, .slice A_47 x_29.fKeys.length cap_47] 26 (0, 0))) :: H) w)) ∨ (e = .exit 2 ∧ (∃ y_6 : Unit, b_25 = .inr y_6 ∧ ∃ M_53 : Mem, M_50.le M_53 ∧ Frm 95 [(2, .pointer (some (⟨b_1, 0, none⟩))), (3, .pointer (some (⟨b_2, 0, none⟩))), (5, .pointer (some ad_1)), (6, .pointer (some ad_2)), (41, .slice A_45 x_28.length cap_45), (42, .int .i64 ((x_28.length : Nat) : Int)), (43, .int .i64 s_1)] a ∧ Hp w0 M_53 ((Ent.obj b_24 (.cells #[.int .i8 x_29.fKind, .bool x_29.fBool, .int .i64 x_29.fNum, S x_29.fText, .slice A_46 x_29.fList.length cap_46, .slice A_47 x_29.fKeys.length cap_47] 26 (0, 0))) :: H) w))) (R_loop (n := 95) (w0 := w0) (M := M_50) (fun (x : Nat × Int) => match x with | (m_3, s_2) => [(2, .pointer (some (⟨b_1, 0, none⟩))), (3, .pointer (some (⟨b_2, 0, none⟩))), (5, .pointer (some ad_1)), (6, .pointer (some ad_2)), (8, .pointer (some (⟨b_24, 0, none⟩))), (9, .int .i64 s_2), (41, .slice A_45 x_28.length cap_45), (42, .int .i64 ((x_28.length : Nat) : Int)), (43, .int .i64 s_1)]) (fun (x : Nat × Int) => match x with | (m_3, s_2) => ((Ent.obj b_24 (.cells #[.int .i8 x_29.fKind, .bool x_29.fBool, .int .i64 x_29.fNum, S x_29.fText, .slice A_46 x_29.fList.length cap_46, .slice A_47 x_29.fKeys.length cap_47] 26 (0, 0))) :: H)) (fun (x : Nat × Int) (MM : Mem) => match x with | (m_3, s_2) => loopF (law03_TreeSorted_s2 n x_29) m_3 s_2 = some b_25) (fun (x : Nat × Int) => match x with | (m_3, s_2) => m_3) (n, (1 : Int)) (f_122.keep (ks := [2, 3, 5, 6, 8, 9, 41, 42, 43]) (by kernel_rfl)) p_209 hL_2 ?_) ?_
                · rintro ⟨m_3, s_2⟩ M_51 a_115 w_154 hM_51 I_2 f_123 p_210
                  have I_2L := I_2
                  obtain ⟨m_4, r_2, rfl, hs_2, hn_2⟩ := loop_step I_2L
                  unfold law03_TreeSorted_s2 at hs_2
                  refine R_seq (R_seq (R_reg ?_))
                  refine V_run f_123 2 (by kernel_rfl) (fun a_116 f_124 => ?_)
                  refine V_eq (v := .slice A_47 x_29.fKeys.length cap_47) f_124 (by kernel_rfl) (X_load1 (v := .slice A_47 x_29.fKeys.length cap_47) rfl (ad := ⟨b_24, 5, none⟩) (by kernel_rfl) (by kernel_rfl) (p_210.ownCell 0 rfl 5)) (fun a_117 f_125 => ?_)
                  refine V_run f_125 2 (by kernel_rfl) (fun a_118 f_126 => ?_)
                  refine W_end rfl (T_n ?_)
                  refine R_cond f_126 (b := decide (s_2 < ((x_29.fKeys.length : Nat) : Int))) (by kernel_rfl) (by kernel_rfl) (fun h_55 => ?_) (fun h_55 => ?_)
                  · have k_14 : s_2 < ((x_29.fKeys.length : Nat) : Int) := decide_eq_true_iff.1 h_55
                    have hF_33 := cnd_t h_55 hs_2
                    refine wp_skip (T_n (R_seq (wp_block (R_seq ?_))))
                    refine R_draw p_210 (by kernel_rfl) (by kernel_rfl) ?_
                    refine Q_run default f_126 1 (fun _ => by kernel_rfl) (fun a_119 f_127 => ?_)
                    refine QV_eq (v := .slice A_47 x_29.fKeys.length cap_47) f_127 (by kernel_rfl) (fun _ pq => X_load1 (v := .slice A_47 x_29.fKeys.length cap_47) rfl (ad := ⟨b_24, 5, none⟩) (by kernel_rfl) (by kernel_rfl) (pq.ownCell 0 rfl 5)) (fun a_120 f_128 => ?_)
                    refine Q_run default f_128 1 (fun _ => by kernel_rfl) (fun a_121 f_129 => ?_)
                    obtain ⟨x_30, hx_14, hF_34⟩ := bind_some' hF_33
                    obtain ⟨ad_4, c_22, e_2, hl_2, hr_22, hc_30⟩ := Sli.at_ (h_54.mono hM_51) hx_14
                    clear hl_2
                    obtain rfl : c_22 = [S x_30] := hr_22
                    refine QV_eq (v := .pointer (some (ad_4.add (s_2.toNat * 1)))) f_129 (by kernel_rfl) (fun _ pq => X_indexAddrA e_2 rfl (len := x_29.fKeys.length) (cap := cap_47) (k := .i64) (i := s_2) (by kernel_rfl) (by kernel_rfl) (e := 9) (by kernel_rfl) (sz := 1) (by kernel_rfl) (getI_nn hx_14) (getI_lt hx_14)) (fun a_122 f_130 => ?_)
                    refine Q_ld f_130 hc_30 0 rfl (by kernel_rfl) (by kernel_rfl) (fun a_123 f_131 => ?_)
                    refine Q_run default f_131 1 (fun _ => by kernel_rfl) (fun a_124 f_132 => ?_)
                    refine QV_eq (v := .slice A_47 x_29.fKeys.length cap_47) f_132 (by kernel_rfl) (fun _ pq => X_load1 (v := .slice A_47 x_29.fKeys.length cap_47) rfl (ad := ⟨b_24, 5, none⟩) (by kernel_rfl) (by kernel_rfl) (pq.ownCell 0 rfl 5)) (fun a_125 f_133 => ?_)
                    refine Q_run default f_133 1 (fun _ => by kernel_rfl) (fun a_126 f_134 => ?_)
                    obtain ⟨g_1, hF_35⟩ := need_some hF_34
                    refine QV_eq (v := .int .i64 (IntKind.wrap .i64 (s_2 - 1))) f_134 (by kernel_rfl) (fun _ pq => by kernel_rfl) (fun a_127 f_135 => ?_)
                    have f_136 := Frm.set f_135 62 (v := .int .i64 (IntKind.wrap .i64 (s_2 - 1))) (v' := .int .i64 (s_2 - 1)) (by kernel_rfl) (congrArg (Value.int .i64) (inR_wrap g_1))
                    obtain ⟨x_31, hx_15, hF_36⟩ := bind_some' hF_35
                    obtain ⟨ad_5, c_23, e_3, hl_3, hr_23, hc_31⟩ := Sli.at_ (h_54.mono hM_51) hx_15
                    clear hl_3
                    obtain rfl : c_23 = [S x_31] := hr_23
                    refine QV_eq (v := .pointer (some (ad_5.add ((s_2 - 1).toNat * 1)))) f_136 (by kernel_rfl) (fun _ pq => X_indexAddrA e_3 rfl (len := x_29.fKeys.length) (cap := cap_47) (k := .i64) (i := s_2 - 1) (by kernel_rfl) (by kernel_rfl) (e := 9) (by kernel_rfl) (sz := 1) (by kernel_rfl) (getI_nn hx_15) (getI_lt hx_15)) (fun a_128 f_137 => ?_)
                    refine Q_ld f_137 hc_31 0 rfl (by kernel_rfl) (by kernel_rfl) (fun a_129 f_138 => ?_)
                    refine QV_eq (v := .bool (Op.bytesLess x_30 x_31 || x_30 == x_31)) f_138 (by kernel_rfl) (fun _ pq => X_strle rfl (l := x_30) (m := x_31) (by kernel_rfl) (by kernel_rfl)) (fun a_130 f_139 => ?_)
                    refine Q_end rfl ?_
                    intro w_155 p_211
                    refine T_n ?_
                    refine R_cond f_139 (b := Op.bytesLess x_30 x_31 || x_30 == x_31) (by kernel_rfl) (by kernel_rfl) (fun h_56 => ?_) (fun h_56 => ?_)
                    · have hF_37 := cnd_t h_56 hF_36
                      refine R_seq (R_reg ?_)
                      refine V_run f_139 1 (by kernel_rfl) (fun a_131 f_140 => ?_)
                      refine W_end rfl (T_n (wp_ret (B_r (T_r (T_r ?_)))))
                      obtain rfl := Option.some.inj hF_37
                      exact .inl ⟨rfl, (), (Option.some.inj hn_2).symm, M_51, hM_51, f_140.keep (ks := [4]) (by kernel_rfl), p_211⟩
                    · have hF_38 := cnd_f h_56 hF_36
                      refine wp_skip (B_n (T_n (R_reg ?_)))
                      refine V_run f_139 1 (by kernel_rfl) (fun a_132 f_141 => ?_)
                      obtain ⟨g_2, hF_39⟩ := need_some hF_38
                      refine V_run f_141 1 (by kernel_rfl) (fun a_133 f_142 => ?_)
                      have f_143 := Frm.set f_142 53 (v := .int .i64 (IntKind.wrap .i64 (s_2 + 1))) (v' := .int .i64 (s_2 + 1)) (by kernel_rfl) (congrArg (Value.int .i64) (inR_wrap g_2))
                      refine V_run f_143 1 (by kernel_rfl) (fun a_134 f_144 => ?_)
                      refine W_end rfl (T_n ?_)
                      obtain rfl := Option.some.inj hF_39
                      exact ⟨⟨m_4, s_2 + 1⟩, Nat.lt_succ_self _, M_51, hM_51, hn_2, f_144.keep (ks := [2, 3, 5, 6, 8, 9, 41, 42, 43]) (by kernel_rfl), p_211⟩
                  · have k_17 : ¬ (s_2 < ((x_29.fKeys.length : Nat) : Int)) := iff_f decide_eq_true_iff h_55
                    have hF_40 := cnd_f h_55 hs_2
                    refine wp_exit (T_x (T_x ?_))
                    obtain rfl := Option.some.inj hF_40
                    exact .inr ⟨rfl, (), (Option.some.inj hn_2).symm, M_51, hM_51, f_126.keep (ks := [2, 3, 5, 6, 41, 42, 43]) (by kernel_rfl), p_210⟩
                · rintro _ a_137 w_158 (⟨rfl, y_5, rfl, M_52, hM_52, f_145, p_212⟩ | ⟨rfl, y_6, rfl, M_53, hM_53, f_146, p_213⟩)
                  · refine B_r (B_r (T_r (T_r ?_)))
                    obtain rfl := Option.some.inj hF_32
                    exact .inl ⟨rfl, (), (Option.some.inj hn_1).symm, M_52, (hM_50.trans hM_52), f_145.keep (ks := [4]) (by kernel_rfl), (p_212.dropN 1)⟩
                  · refine B_x (B_n (T_n (R_reg ?_)))
                    obtain ⟨g_3, hF_41⟩ := need_some hF_32
                    refine V_run f_146 1 (by kernel_rfl) (fun a_138 f_147 => ?_)
                    have f_148 := Frm.set f_147 66 (v := .int .i64 (IntKind.wrap .i64 (s_1 + 1))) (v' := .int .i64 (s_1 + 1)) (by kernel_rfl) (congrArg (Value.int .i64) (inR_wrap g_3))
                    refine V_run f_148 1 (by kernel_rfl) (fun a_139 f_149 => ?_)
                    refine W_end rfl (T_n ?_)
                    obtain rfl := Option.some.inj hF_41
                    exact ⟨⟨m_2, s_1 + 1⟩, Nat.lt_succ_self _, M_53, (hM_50.trans hM_53), hn_1, f_149.keep (ks := [2, 3, 5, 6, 41, 42, 43]) (by kernel_rfl), (p_213.dropN 1)⟩
              · have k_18 : ¬ (s_1 < ((x_28.length : Nat) : Int)) := iff_f decide_eq_true_iff h_52
                have hF_42 := cnd_f h_52 hs_1
                refine wp_exit (T_x (T_x ?_))
                obtain rfl := Option.some.inj hF_42
                exact .inr ⟨rfl, (), (Option.some.inj hn_1).symm, M_50, hM_50, f_117.keep (ks := [2, 3, 5, 6]) (by kernel_rfl), p_207⟩
            · rintro _ a_142 w_161 (⟨rfl, y_7, rfl, M_54, hM_54, f_150, p_214⟩ | ⟨rfl, y_8, rfl, M_55, hM_55, f_151, p_215⟩)
              · refine B_r (T_r ?_)
                refine E_ret1 f_150 rfl (by kernel_rfl : Vc.look _ 4 = some (.bool false)) ?_
                obtain rfl := Option.some.inj hF_29
                exact ⟨_, rfl, M_54, ((((((hM_1.trans hM_2).trans hM_3).trans hM_22).trans hM_47).trans hM_49).trans hM_54), p_214, rfl⟩
              · refine B_x (T_n (R_seq ?_))
                refine R_mixR (E := []) (Hr := (H)) [(0, true), (1, true), (2, true), (3, true), (4, true), (6, true), (5, false), (7, true), (8, true), (9, true), (10, true), (11, true), (12, true), (13, true), (14, true), (15, true), (16, true), (17, true), (18, true), (19, true), (20, true), (21, true), (22, true), (23, true), (24, true), (25, true), (26, true), (27, true), (28, true)] p_215 (by kernel_rfl) (by kernel_rfl) rfl (by kernel_rfl) ?_
                refine MR_eq (v := .agg #[.int .i8 y_2.1.fKind, .bool y_2.1.fBool, .int .i64 y_2.1.fNum, S y_2.1.fText, .slice A_41 y_2.1.fList.length cap_41, .slice A_42 y_2.1.fKeys.length cap_42]) f_151 (by kernel_rfl) (by kernel_rfl) rfl rfl (fun _ pq => X_loadN (cs := [.int .i8 y_2.1.fKind, .bool y_2.1.fBool, .int .i64 y_2.1.fNum, S y_2.1.fText, .slice A_41 y_2.1.fList.length cap_41, .slice A_42 y_2.1.fKeys.length cap_42]) rfl (ad := ad_1) (by kernel_rfl) (by kernel_rfl) (fun j v h => pq.cell ((fzu ((hM_47.trans hM_49).trans hM_55) hq_2) j v h))) (fun a_143 f_152 => ?_)
                refine MR_eq (v := .agg #[.int .i8 d0.fKind, .bool d0.fBool, .int .i64 d0.fNum, S d0.fText, .slice A_1 d0.fList.length cap_1, .slice A_2 d0.fKeys.length cap_2]) f_152 (by kernel_rfl) (by kernel_rfl) rfl rfl (fun _ pq => X_loadN (cs := [.int .i8 d0.fKind, .bool d0.fBool, .int .i64 d0.fNum, S d0.fText, .slice A_1 d0.fList.length cap_1, .slice A_2 d0.fKeys.length cap_2]) rfl (ad := ⟨b_1, 0, none⟩) (by kernel_rfl) (by kernel_rfl) (fun j v h => pq.cell ((fzu (((((hM_2.trans hM_3).trans hM_22).trans hM_47).trans hM_49).trans hM_55) hc_2) j v h))) (fun a_144 f_153 => ?_)
                obtain ⟨x_32, hx_16, hF_43⟩ := bind_some' hF_29
                refine MR_okv (v := .bool x_32) f_153 (by kernel_rfl) (by kernel_rfl) rfl rfl (fun _ => by kernel_rfl) (tree_Equal_ok n _ (GL.mono ((((((hM_1.trans hM_2).trans hM_3).trans hM_22).trans hM_47).trans hM_49).trans hM_55) hG) _ y_2.1 (T_api_Value.shutx (x := y_2.1) (h_43.mono ((hM_47.trans hM_49).trans hM_55)) (h_44.mono ((hM_47.trans hM_49).trans hM_55))) _ d0 (T_api_Value.shutx (x := d0) (h_1.mono ((((((hM_1.trans hM_2).trans hM_3).trans hM_22).trans hM_47).trans hM_49).trans hM_55)) (h_2.mono ((((((hM_1.trans hM_2).trans hM_3).trans hM_22).trans hM_47).trans hM_49).trans hM_55))) x_32 hx_16) (fun a_145 f_154 => ?_)
                refine MR_run default f_154 1 (by kernel_rfl) (fun _ => by kernel_rfl) (fun a_146 f_155 => ?_)
                rcases Bool.eq_false_or_eq_true (x_32) with h_57 | h_57
                · have hF_44 := cnd_t h_57 hF_43
                  have f_156 := Frm.set f_155 70 (v := .bool x_32) (v' := .bool true) (by kernel_rfl) (congrArg Value.bool h_57)
                  refine MR_eq (v := .agg #[.int .i8 y_2.1.fKind, .bool y_2.1.fBool, .int .i64 y_2.1.fNum, S y_2.1.fText, .slice A_41 y_2.1.fList.length cap_41, .slice A_42 y_2.1.fKeys.length cap_42]) f_156 (by kernel_rfl) (by kernel_rfl) rfl rfl (fun _ pq => X_loadN (cs := [.int .i8 y_2.1.fKind, .bool y_2.1.fBool, .int .i64 y_2.1.fNum, S y_2.1.fText, .slice A_41 y_2.1.fList.length cap_41, .slice A_42 y_2.1.fKeys.length cap_42]) rfl (ad := ad_1) (by kernel_rfl) (by kernel_rfl) (fun j v h => pq.cell ((fzu ((hM_47.trans hM_49).trans hM_55) hq_2) j v h))) (fun a_147 f_157 => ?_)
                  refine MR_eq (v := .agg #[.int .i8 y_2.1.fKind, .bool y_2.1.fBool, .int .i64 y_2.1.fNum, S y_2.1.fText, .slice A_41 y_2.1.fList.length cap_41, .slice A_42 y_2.1.fKeys.length cap_42]) f_157 (by kernel_rfl) (by kernel_rfl) rfl rfl (fun _ pq => X_loadN (cs := [.int .i8 y_2.1.fKind, .bool y_2.1.fBool, .int .i64 y_2.1.fNum, S y_2.1.fText, .slice A_41 y_2.1.fList.length cap_41, .slice A_42 y_2.1.fKeys.length cap_42]) rfl (ad := ad_1) (by kernel_rfl) (by kernel_rfl) (fun j v h => pq.cell ((fzu ((hM_47.trans hM_49).trans hM_55) hq_2) j v h))) (fun a_148 f_158 => ?_)
                  refine MR_fix (E := []) (fun w_163 p_217 => ?_)
                  obtain ⟨x_33, hx_17, hF_45⟩ := bind_some' hF_44
                  refine V_ok f_158 p_217 (tree_Sorted_ok n _ (GL.mono ((((((hM_1.trans hM_2).trans hM_3).trans hM_22).trans hM_47).trans hM_49).trans hM_55) hG) _ y_2.1 (T_api_Value.shutx (x := y_2.1) (h_43.mono ((hM_47.trans hM_49).trans hM_55)) (h_44.mono ((hM_47.trans hM_49).trans hM_55))) x_33 hx_17) (by kernel_rfl) (fun _ => by kernel_rfl) (fun u_20 M_56 w_164 hM_56 p_218 q_20 a_149 f_159 => ?_)
                  obtain ⟨c_24, rfl, hr_24⟩ := q_20
                  obtain ⟨A_48, cap_48, A_49, cap_49, rfl, h_58, h_59⟩ := T_api_Value.opn hr_24
                  refine W_end rfl ?_
                  refine MR_go (M1 := M_56) (E := []) hM_56 p_218 ?_
                  obtain ⟨x_34, hx_18, hF_46⟩ := bind_some' hF_45
                  refine MR_okv (v := .bool x_34) f_159 (by kernel_rfl) (by kernel_rfl) rfl rfl (fun _ => by kernel_rfl) (ref03_Same_ok n _ _ x_33 (T_api_Value.shutx (x := x_33) h_58 h_59) _ y_2.1 (T_api_Value.shutx (x := y_2.1) (h_43.mono (((hM_47.trans hM_49).trans hM_55).trans hM_56)) (h_44.mono (((hM_47.trans hM_49).trans hM_55).trans hM_56))) x_34 hx_18) (fun a_150 f_160 => ?_)
                  refine MR_run default f_160 2 (by kernel_rfl) (fun _ => by kernel_rfl) (fun a_151 f_161 => ?_)
                  rcases Bool.eq_false_or_eq_true (x_34) with h_60 | h_60
                  · have hF_47 := cnd_t h_60 hF_46
                    have f_162 := Frm.set f_161 76 (v := .bool x_34) (v' := .bool true) (by kernel_rfl) (congrArg Value.bool h_60)
                    refine MR_eq (v := .agg #[.int .i8 d0.fKind, .bool d0.fBool, .int .i64 d0.fNum, S d0.fText, .slice A_1 d0.fList.length cap_1, .slice A_2 d0.fKeys.length cap_2]) f_162 (by kernel_rfl) (by kernel_rfl) rfl rfl (fun _ pq => X_loadN (cs := [.int .i8 d0.fKind, .bool d0.fBool, .int .i64 d0.fNum, S d0.fText, .slice A_1 d0.fList.length cap_1, .slice A_2 d0.fKeys.length cap_2]) rfl (ad := ⟨b_1, 0, none⟩) (by kernel_rfl) (by kernel_rfl) (fun j v h => pq.cell ((fzu ((((((hM_2.trans hM_3).trans hM_22).trans hM_47).trans hM_49).trans hM_55).trans hM_56) hc_2) j v h))) (fun a_152 f_163 => ?_)
                    refine MR_eq (v := .agg #[.int .i8 d1.fKind, .bool d1.fBool, .int .i64 d1.fNum, S d1.fText, .slice A_3 d1.fList.length cap_3, .slice A_4 d1.fKeys.length cap_4]) f_163 (by kernel_rfl) (by kernel_rfl) rfl rfl (fun _ pq => X_loadN (cs := [.int .i8 d1.fKind, .bool d1.fBool, .int .i64 d1.fNum, S d1.fText, .slice A_3 d1.fList.length cap_3, .slice A_4 d1.fKeys.length cap_4]) rfl (ad := ⟨b_2, 0, none⟩) (by kernel_rfl) (by kernel_rfl) (fun j v h => pq.cell ((fzu (((((hM_3.trans hM_22).trans hM_47).trans hM_49).trans hM_55).trans hM_56) hc_4) j v h))) (fun a_153 f_164 => ?_)
                    obtain ⟨x_35, hx_19, hF_48⟩ := bind_some' hF_47
                    refine MR_okv (v := .bool x_35) f_164 (by kernel_rfl) (by kernel_rfl) rfl rfl (fun _ => by kernel_rfl) (tree_Equal_ok n _ (GL.mono (((((((hM_1.trans hM_2).trans hM_3).trans hM_22).trans hM_47).trans hM_49).trans hM_55).trans hM_56) hG) _ d0 (T_api_Value.shutx (x := d0) (h_1.mono (((((((hM_1.trans hM_2).trans hM_3).trans hM_22).trans hM_47).trans hM_49).trans hM_55).trans hM_56)) (h_2.mono (((((((hM_1.trans hM_2).trans hM_3).trans hM_22).trans hM_47).trans hM_49).trans hM_55).trans hM_56))) _ d1 (T_api_Value.shutx (x := d1) (h_3.mono (((((((hM_1.trans hM_2).trans hM_3).trans hM_22).trans hM_47).trans hM_49).trans hM_55).trans hM_56)) (h_4.mono (((((((hM_1.trans hM_2).trans hM_3).trans hM_22).trans hM_47).trans hM_49).trans hM_55).trans hM_56))) x_35 hx_19) (fun a_154 f_165 => ?_)
                    refine MR_eq (v := .agg #[.int .i8 y_2.1.fKind, .bool y_2.1.fBool, .int .i64 y_2.1.fNum, S y_2.1.fText, .slice A_41 y_2.1.fList.length cap_41, .slice A_42 y_2.1.fKeys.length cap_42]) f_165 (by kernel_rfl) (by kernel_rfl) rfl rfl (fun _ pq => X_loadN (cs := [.int .i8 y_2.1.fKind, .bool y_2.1.fBool, .int .i64 y_2.1.fNum, S y_2.1.fText, .slice A_41 y_2.1.fList.length cap_41, .slice A_42 y_2.1.fKeys.length cap_42]) rfl (ad := ad_1) (by kernel_rfl) (by kernel_rfl) (fun j v h => pq.cell ((fzu (((hM_47.trans hM_49).trans hM_55).trans hM_56) hq_2) j v h))) (fun a_155 f_166 => ?_)
                    refine MR_eq (v := .agg #[.int .i8 y_2.2.fKind, .bool y_2.2.fBool, .int .i64 y_2.2.fNum, S y_2.2.fText, .slice A_43 y_2.2.fList.length cap_43, .slice A_44 y_2.2.fKeys.length cap_44]) f_166 (by kernel_rfl) (by kernel_rfl) rfl rfl (fun _ pq => X_loadN (cs := [.int .i8 y_2.2.fKind, .bool y_2.2.fBool, .int .i64 y_2.2.fNum, S y_2.2.fText, .slice A_43 y_2.2.fList.length cap_43, .slice A_44 y_2.2.fKeys.length cap_44]) rfl (ad := ad_2) (by kernel_rfl) (by kernel_rfl) (fun j v h => pq.cell ((fzu (((hM_47.trans hM_49).trans hM_55).trans hM_56) hq_3) j v h))) (fun a_156 f_167 => ?_)
                    obtain ⟨x_36, hx_20, hF_49⟩ := bind_some' hF_48
                    refine MR_okv (v := .bool x_36) f_167 (by kernel_rfl) (by kernel_rfl) rfl rfl (fun _ => by kernel_rfl) (ref03_Same_ok n _ _ y_2.1 (T_api_Value.shutx (x := y_2.1) (h_43.mono (((hM_47.trans hM_49).trans hM_55).trans hM_56)) (h_44.mono (((hM_47.trans hM_49).trans hM_55).trans hM_56))) _ y_2.2 (T_api_Value.shutx (x := y_2.2) (h_45.mono (((hM_47.trans hM_49).trans hM_55).trans hM_56)) (h_46.mono (((hM_47.trans hM_49).trans hM_55).trans hM_56))) x_36 hx_20) (fun a_157 f_168 => ?_)
                    refine MR_run default f_168 3 (by kernel_rfl) (fun _ => by kernel_rfl) (fun a_158 f_169 => ?_)
                    rcases Bool.eq_false_or_eq_true (x_35 == x_36) with h_61 | h_61
                    · have hF_50 := cnd_t h_61 hF_49
                      have f_170 := Frm.set f_169 85 (v := .bool (x_35 == x_36)) (v' := .bool true) (by kernel_rfl) (congrArg Value.bool h_61)
                      refine MR_eq (v := .agg #[.int .i8 y_2.1.fKind, .bool y_2.1.fBool, .int .i64 y_2.1.fNum, S y_2.1.fText, .slice A_41 y_2.1.fList.length cap_41, .slice A_42 y_2.1.fKeys.length cap_42]) f_170 (by kernel_rfl) (by kernel_rfl) rfl rfl (fun _ pq => X_loadN (cs := [.int .i8 y_2.1.fKind, .bool y_2.1.fBool, .int .i64 y_2.1.fNum, S y_2.1.fText, .slice A_41 y_2.1.fList.length cap_41, .slice A_42 y_2.1.fKeys.length cap_42]) rfl (ad := ad_1) (by kernel_rfl) (by kernel_rfl) (fun j v h => pq.cell ((fzu (((hM_47.trans hM_49).trans hM_55).trans hM_56) hq_2) j v h))) (fun a_159 f_171 => ?_)
                      obtain ⟨x_37, hx_21, hF_51⟩ := bind_some' hF_50
                      refine MR_okv (v := .int .i64 x_37) f_171 (by kernel_rfl) (by kernel_rfl) rfl rfl (fun _ => by kernel_rfl) (tree_Count_ok n _ _ y_2.1 (T_api_Value.shutx (x := y_2.1) (h_43.mono (((hM_47.trans hM_49).trans hM_55).trans hM_56)) (h_44.mono (((hM_47.trans hM_49).trans hM_55).trans hM_56))) x_37 hx_21) (fun a_160 f_172 => ?_)
                      refine MR_eq (v := .agg #[.int .i8 d0.fKind, .bool d0.fBool, .int .i64 d0.fNum, S d0.fText, .slice A_1 d0.fList.length cap_1, .slice A_2 d0.fKeys.length cap_2]) f_172 (by kernel_rfl) (by kernel_rfl) rfl rfl (fun _ pq => X_loadN (cs := [.int .i8 d0.fKind, .bool d0.fBool, .int .i64 d0.fNum, S d0.fText, .slice A_1 d0.fList.length cap_1, .slice A_2 d0.fKeys.length cap_2]) rfl (ad := ⟨b_1, 0, none⟩) (by kernel_rfl) (by kernel_rfl) (fun j v h => pq.cell ((fzu ((((((hM_2.trans hM_3).trans hM_22).trans hM_47).trans hM_49).trans hM_55).trans hM_56) hc_2) j v h))) (fun a_161 f_173 => ?_)
                      obtain ⟨x_38, hx_22, hF_52⟩ := bind_some' hF_51
                      refine MR_okv (v := .int .i64 x_38) f_173 (by kernel_rfl) (by kernel_rfl) rfl rfl (fun _ => by kernel_rfl) (tree_Count_ok n _ _ d0 (T_api_Value.shutx (x := d0) (h_1.mono (((((((hM_1.trans hM_2).trans hM_3).trans hM_22).trans hM_47).trans hM_49).trans hM_55).trans hM_56)) (h_2.mono (((((((hM_1.trans hM_2).trans hM_3).trans hM_22).trans hM_47).trans hM_49).trans hM_55).trans hM_56))) x_38 hx_22) (fun a_162 f_174 => ?_)
                      refine MR_run default f_174 3 (by kernel_rfl) (fun _ => by kernel_rfl) (fun a_163 f_175 => ?_)
                      rcases Bool.eq_false_or_eq_true (decide (x_37 = x_38)) with h_62 | h_62
                      · have k_22 : x_37 = x_38 := decide_eq_true_iff.1 h_62
                        have hF_53 := cnd_t h_62 hF_52
                        have f_176 := Frm.set f_175 92 (v := .bool (decide (x_37 = x_38))) (v' := .bool true) (by kernel_rfl) (congrArg Value.bool h_62)
                        obtain ⟨x_39, hx_23, hF_54⟩ := bind_some' hF_53
                        refine MR_okv (v := .bool x_39) f_176 (by kernel_rfl) (by kernel_rfl) rfl rfl (fun _ => by kernel_rfl) (law03_wakes_ok n _ (GL.mono (((((((hM_1.trans hM_2).trans hM_3).trans hM_22).trans hM_47).trans hM_49).trans hM_55).trans hM_56) hG) x_39 hx_23) (fun a_164 f_177 => ?_)
                        refine MR_run default f_177 2 (by kernel_rfl) (fun _ => by kernel_rfl) (fun a_165 f_178 => ?_)
                        refine MR_end rfl (fun w_171 p_225 => ?_)
                        refine T_n (wp_ret ?_)
                        refine E_ret1 f_178 rfl (by kernel_rfl : Vc.look _ 4 = some (.bool x_39)) ?_
                        obtain rfl := Option.some.inj hF_54
                        exact ⟨_, rfl, M_56, (((((((hM_1.trans hM_2).trans hM_3).trans hM_22).trans hM_47).trans hM_49).trans hM_55).trans hM_56), p_225, rfl⟩
                      · have k_23 : ¬ (x_37 = x_38) := iff_f decide_eq_true_iff h_62
                        have hF_55 := cnd_f h_62 hF_52
                        have f_179 := Frm.set f_175 92 (v := .bool (decide (x_37 = x_38))) (v' := .bool false) (by kernel_rfl) (congrArg Value.bool h_62)
                        refine MR_run default f_179 3 (by kernel_rfl) (fun _ => by kernel_rfl) (fun a_166 f_180 => ?_)
                        refine MR_end rfl (fun w_172 p_226 => ?_)
                        refine T_n (wp_ret ?_)
                        refine E_ret1 f_180 rfl (by kernel_rfl : Vc.look _ 4 = some (.bool false)) ?_
                        obtain rfl := Option.some.inj hF_55
                        exact ⟨_, rfl, M_56, (((((((hM_1.trans hM_2).trans hM_3).trans hM_22).trans hM_47).trans hM_49).trans hM_55).trans hM_56), p_226, rfl⟩
                    · have hF_56 := cnd_f h_61 hF_49
                      have f_181 := Frm.set f_169 85 (v := .bool (x_35 == x_36)) (v' := .bool false) (by kernel_rfl) (congrArg Value.bool h_61)
                      refine MR_run default f_181 10 (by kernel_rfl) (fun _ => by kernel_rfl) (fun a_167 f_182 => ?_)
                      refine MR_end rfl (fun w_173 p_227 => ?_)
                      refine T_n (wp_ret ?_)
                      refine E_ret1 f_182 rfl (by kernel_rfl : Vc.look _ 4 = some (.bool false)) ?_
                      obtain rfl := Option.some.inj hF_56
                      exact ⟨_, rfl, M_56, (((((((hM_1.trans hM_2).trans hM_3).trans hM_22).trans hM_47).trans hM_49).trans hM_55).trans hM_56), p_227, rfl⟩
                  · have hF_57 := cnd_f h_60 hF_46
                    have f_183 := Frm.set f_161 76 (v := .bool x_34) (v' := .bool false) (by kernel_rfl) (congrArg Value.bool h_60)
                    refine MR_run default f_183 19 (by kernel_rfl) (fun _ => by kernel_rfl) (fun a_168 f_184 => ?_)
                    refine MR_end rfl (fun w_174 p_228 => ?_)
                    refine T_n (wp_ret ?_)
                    refine E_ret1 f_184 rfl (by kernel_rfl : Vc.look _ 4 = some (.bool false)) ?_
                    obtain rfl := Option.some.inj hF_57
                    exact ⟨_, rfl, M_56, (((((((hM_1.trans hM_2).trans hM_3).trans hM_22).trans hM_47).trans hM_49).trans hM_55).trans hM_56), p_228, rfl⟩
                · have hF_58 := cnd_f h_57 hF_43
                  have f_185 := Frm.set f_155 70 (v := .bool x_32) (v' := .bool false) (by kernel_rfl) (congrArg Value.bool h_57)
                  refine MR_run default f_185 2 (by kernel_rfl) (fun _ => by kernel_rfl) (fun a_169 f_186 => ?_)
                  refine MR_fix (E := []) (fun w_175 p_229 => ?_)
                  refine V_run f_186 1 (by kernel_rfl) (fun a_170 f_187 => ?_)
                  refine W_end rfl ?_
                  refine MR_go (M1 := M_55) (E := []) (Mem.le_refl _) p_229 ?_
                  refine MR_run default f_187 22 (by kernel_rfl) (fun _ => by kernel_rfl) (fun a_171 f_188 => ?_)
                  refine MR_end rfl (fun w_176 p_230 => ?_)
                  refine T_n (wp_ret ?_)
                  refine E_ret1 f_188 rfl (by kernel_rfl : Vc.look _ 4 = some (.bool false)) ?_
                  obtain rfl := Option.some.inj hF_58
                  exact ⟨_, rfl, M_55, ((((((hM_1.trans hM_2).trans hM_3).trans hM_22).trans hM_47).trans hM_49).trans hM_55), p_230, rfl⟩
end Go.Proofs.YtekkifakjkhjiaaDoor
