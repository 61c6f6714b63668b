/-
  Printed by a program: of each function its shallow reading, and the proof that the function gives what the reading gives. No condition.
-/
import Derived.Test.YtekkifakjkhjiaaDoorQ5
import Derived.Test.YtekkifakjkhjiaaDoorQ2a
import Derived.Test.YtekkifakjkhjiaaDoorQ3a
set_option linter.unusedVariables false
set_option linter.unusedSimpArgs false
namespace Go.Proofs.YtekkifakjkhjiaaDoor
open Go Go.Vc Go.RowKit
def law03_TreeWrap (n : Nat) (d0 : T_api_Value) (d1 : T_api_Value) (d2 : List UInt8) : Option Bool :=
  (((ref03_Great n d0).bind fun x_1 =>
    bif x_1 then
      (some ((true)))
    else
      (ref03_Great n d1).bind fun x_2 =>
      bif x_2 then
        (some ((true)))
      else
        some ((decide ((200 : Int) < (d2.length : Int)))) : Option Bool)).bind fun y_1 =>
  bif y_1 then
    ((law03_wakes n).bind fun x_3 =>
    some ((x_3)))
  else
    (((tree_Count n (⟨(4 : Int), (false), (0 : Int), ([] : List UInt8), [(⟨d0.fKind, (d0.fBool), d0.fNum, d0.fText, d0.fList, d0.fKeys⟩ : T_api_Value)], ([] : List (List UInt8))⟩ : T_api_Value)).bind fun x_4 =>
      (tree_Count n d0).bind fun x_5 =>
      need (inR .i64 (x_5 + 1)) <|
      bif (!(decide (x_4 = (x_5 + 1)))) then
        (some ((true)))
      else
        (tree_Depth n (⟨(4 : Int), (false), (0 : Int), ([] : List UInt8), [(⟨d0.fKind, (d0.fBool), d0.fNum, d0.fText, d0.fList, d0.fKeys⟩ : T_api_Value)], ([] : List (List UInt8))⟩ : T_api_Value)).bind fun x_6 =>
        (tree_Depth n d0).bind fun x_7 =>
        need (inR .i64 (x_7 + 1)) <|
        bif (!(decide (x_6 = (min (x_7 + 1) (1001 : Int))))) then
          (some ((true)))
        else
          (tree_Count n (⟨(5 : Int), (false), (0 : Int), ([] : List UInt8), [(⟨d0.fKind, (d0.fBool), d0.fNum, d0.fText, d0.fList, d0.fKeys⟩ : T_api_Value)], ([d2] : List (List UInt8))⟩ : T_api_Value)).bind fun x_8 =>
          (tree_Count n (⟨(4 : Int), (false), (0 : Int), ([] : List UInt8), [(⟨d0.fKind, (d0.fBool), d0.fNum, d0.fText, d0.fList, d0.fKeys⟩ : T_api_Value)], ([] : List (List UInt8))⟩ : T_api_Value)).bind fun x_9 =>
          bif (!(decide (x_8 = x_9))) then
            (some ((true)))
          else
            (tree_Depth n (⟨(5 : Int), (false), (0 : Int), ([] : List UInt8), [(⟨d0.fKind, (d0.fBool), d0.fNum, d0.fText, d0.fList, d0.fKeys⟩ : T_api_Value)], ([d2] : List (List UInt8))⟩ : T_api_Value)).bind fun x_10 =>
            (tree_Depth n (⟨(4 : Int), (false), (0 : Int), ([] : List UInt8), [(⟨d0.fKind, (d0.fBool), d0.fNum, d0.fText, d0.fList, d0.fKeys⟩ : T_api_Value)], ([] : List (List UInt8))⟩ : T_api_Value)).bind fun x_11 =>
            some ((!(decide (x_10 = x_11)))) : Option Bool)).bind fun y_2 =>
    bif y_2 then
      (some ((false)))
    else
      (((tree_Check n (⟨(4 : Int), (false), (0 : Int), ([] : List UInt8), [(⟨d0.fKind, (d0.fBool), d0.fNum, d0.fText, d0.fList, d0.fKeys⟩ : T_api_Value)], ([] : List (List UInt8))⟩ : T_api_Value)).bind fun x_12 =>
        bif (decide (x_12 = 0)) then
          ((tree_Check n (⟨(4 : Int), (false), (0 : Int), ([] : List UInt8), [(⟨d1.fKind, (d1.fBool), d1.fNum, d1.fText, d1.fList, d1.fKeys⟩ : T_api_Value)], ([] : List (List UInt8))⟩ : T_api_Value)).bind fun x_13 =>
          bif (decide (x_13 = 0)) then
            ((tree_Less n (⟨(4 : Int), (false), (0 : Int), ([] : List UInt8), [(⟨d0.fKind, (d0.fBool), d0.fNum, d0.fText, d0.fList, d0.fKeys⟩ : T_api_Value)], ([] : List (List UInt8))⟩ : T_api_Value) (⟨(4 : Int), (false), (0 : Int), ([] : List UInt8), [(⟨d1.fKind, (d1.fBool), d1.fNum, d1.fText, d1.fList, d1.fKeys⟩ : T_api_Value)], ([] : List (List UInt8))⟩ : T_api_Value)).bind fun x_14 =>
            (tree_Less n d0 d1).bind fun x_15 =>
            bif (!(x_14 == x_15)) then
              (some ((true)))
            else
              (tree_Equal n (⟨(4 : Int), (false), (0 : Int), ([] : List UInt8), [(⟨d0.fKind, (d0.fBool), d0.fNum, d0.fText, d0.fList, d0.fKeys⟩ : T_api_Value)], ([] : List (List UInt8))⟩ : T_api_Value) (⟨(4 : Int), (false), (0 : Int), ([] : List UInt8), [(⟨d1.fKind, (d1.fBool), d1.fNum, d1.fText, d1.fList, d1.fKeys⟩ : T_api_Value)], ([] : List (List UInt8))⟩ : T_api_Value)).bind fun x_16 =>
              (tree_Equal n d0 d1).bind fun x_17 =>
              some ((!(x_16 == x_17))))
          else
            some ((false)))
        else
          some ((false)) : Option Bool)).bind fun y_3 =>
      bif y_3 then
        (some ((false)))
      else
        (((tree_Check n (⟨(5 : Int), (false), (0 : Int), ([] : List UInt8), [(⟨d0.fKind, (d0.fBool), d0.fNum, d0.fText, d0.fList, d0.fKeys⟩ : T_api_Value)], ([d2] : List (List UInt8))⟩ : T_api_Value)).bind fun x_18 =>
          bif (decide (x_18 = 0)) then
            ((tree_Check n (⟨(5 : Int), (false), (0 : Int), ([] : List UInt8), [(⟨d1.fKind, (d1.fBool), d1.fNum, d1.fText, d1.fList, d1.fKeys⟩ : T_api_Value)], ([d2] : List (List UInt8))⟩ : T_api_Value)).bind fun x_19 =>
            bif (decide (x_19 = 0)) then
              ((tree_Less n (⟨(5 : Int), (false), (0 : Int), ([] : List UInt8), [(⟨d0.fKind, (d0.fBool), d0.fNum, d0.fText, d0.fList, d0.fKeys⟩ : T_api_Value)], ([d2] : List (List UInt8))⟩ : T_api_Value) (⟨(5 : Int), (false), (0 : Int), ([] : List UInt8), [(⟨d1.fKind, (d1.fBool), d1.fNum, d1.fText, d1.fList, d1.fKeys⟩ : T_api_Value)], ([d2] : List (List UInt8))⟩ : T_api_Value)).bind fun x_20 =>
              (tree_Less n d0 d1).bind fun x_21 =>
              bif (!(x_20 == x_21)) then
                (some ((true)))
              else
                (tree_Equal n (⟨(5 : Int), (false), (0 : Int), ([] : List UInt8), [(⟨d0.fKind, (d0.fBool), d0.fNum, d0.fText, d0.fList, d0.fKeys⟩ : T_api_Value)], ([d2] : List (List UInt8))⟩ : T_api_Value) (⟨(5 : Int), (false), (0 : Int), ([] : List UInt8), [(⟨d1.fKind, (d1.fBool), d1.fNum, d1.fText, d1.fList, d1.fKeys⟩ : T_api_Value)], ([d2] : List (List UInt8))⟩ : T_api_Value)).bind fun x_22 =>
                (tree_Equal n d0 d1).bind fun x_23 =>
                some ((!(x_22 == x_23))))
            else
              some ((false)))
          else
            some ((false)) : Option Bool)).bind fun y_4 =>
        bif y_4 then
          (some ((false)))
        else
          (tree_Check n (⟨(4 : Int), (false), (0 : Int), ([] : List UInt8), [(⟨d0.fKind, (d0.fBool), d0.fNum, d0.fText, d0.fList, d0.fKeys⟩ : T_api_Value)], ([] : List (List UInt8))⟩ : T_api_Value)).bind fun x_24 =>
          bif (!(decide (x_24 = 0))) then
            ((law03_wakes n).bind fun x_25 =>
            some ((x_25)))
          else
            (tree_Check n d0).bind fun x_26 =>
            bif (decide (x_26 = 0)) then
              ((law03_wakes n).bind fun x_27 =>
              some ((x_27)))
            else
              some ((false))
theorem law03_TreeWrap_ok (n : Nat) (M : Mem) (hG : GL M) (c0 : List Value) (d0 : T_api_Value) (h0 : Rep M (emb_T_api_Value d0) c0) (c1 : List Value) (d1 : T_api_Value) (h1 : Rep M (emb_T_api_Value d1) c1) (d2 : List UInt8) (r : Bool) (hF : law03_TreeWrap n d0 d1 d2 = some r) : Ok Tryd.prog M 5 [.agg c0.toArray, .agg c1.toArray, S d2] (fun _ v => v = .bool r) := by
  unfold law03_TreeWrap at hF
  intro M1 hM0 w0 H w p0
  replace hG := GL.mono hM0 hG
  replace h0 := Rep.mono hM0 _ _ h0
  replace h1 := Rep.mono hM0 _ _ h1
  obtain ⟨A_1, cap_1, A_2, cap_2, rfl, h_1, h_2⟩ := T_api_Value.opn h0
  obtain ⟨A_3, cap_3, A_4, cap_4, rfl, h_3, h_4⟩ := T_api_Value.opn h1
  refine R_enter 131 Tryd.func5 rfl rfl (by simp) (fun a0 f0 => ?_)
  refine R_seq (R_reg ?_)
  refine V_box (cs := #[.int .i8 d0.fKind, .bool d0.fBool, .int .i64 d0.fNum, S d0.fText, .slice A_1 d0.fList.length cap_1, .slice A_2 d0.fKeys.length cap_2]) (T := 26) f0 p0 (by kernel_rfl) (fun _ => by kernel_rfl) (fun b_1 M_1 w_1 hM_1 hc_1 p_1 a_1 f_1 => ?_)
  have hc_2 := fz_box hc_1
  refine V_box (cs := #[.int .i8 d1.fKind, .bool d1.fBool, .int .i64 d1.fNum, S d1.fText, .slice A_3 d1.fList.length cap_3, .slice A_4 d1.fKeys.length cap_4]) (T := 26) f_1 p_1 (by kernel_rfl) (fun _ => by kernel_rfl) (fun b_2 M_2 w_2 hM_2 hc_3 p_2 a_2 f_2 => ?_)
  have hc_4 := fz_box hc_3
  refine V_run f_2 1 (by kernel_rfl) (fun a_3 f_3 => ?_)
  refine W_end rfl (T_n (R_seq (R_seq ?_)))
  obtain ⟨j_1, hj_1, hF_1⟩ := bind_some' hF
  refine R_mid (fun a_13 w_5 => ∃ y_1 : Bool, j_1 = y_1 ∧ ∃ M_3 : Mem, M_2.le M_3 ∧ Frm 131 [(2, S d2), (3, .pointer (some (⟨b_1, 0, none⟩))), (4, .pointer (some (⟨b_2, 0, none⟩))), (21, .bool y_1)] a_13 ∧ Hp w0 M_3 (H) w_5) ?_ ?_
  · refine R_reg ?_
    refine V_eq (v := .agg #[.int .i8 d0.fKind, .bool d0.fBool, .int .i64 d0.fNum, S d0.fText, .slice A_1 d0.fList.length cap_1, .slice A_2 d0.fKeys.length cap_2]) f_3 (by kernel_rfl) (X_loadN (cs := [.int .i8 d0.fKind, .bool d0.fBool, .int .i64 d0.fNum, S d0.fText, .slice A_1 d0.fList.length cap_1, .slice A_2 d0.fKeys.length cap_2]) rfl (ad := ⟨b_1, 0, none⟩) (by kernel_rfl) (by kernel_rfl) (fun j v h => p_2.cell ((fzu hM_2 hc_2) j v h))) (fun a_4 f_4 => ?_)
    obtain ⟨x_1, hx_1, hF_2⟩ := bind_some' hj_1
    refine V_okv f_4 p_2 (ref03_Great_ok n _ _ d0 (T_api_Value.shutx (x := d0) (h_1.mono (hM_1.trans hM_2)) (h_2.mono (hM_1.trans hM_2))) x_1 hx_1) (by kernel_rfl) (fun _ => by kernel_rfl) (fun w_3 p_3 a_5 f_5 => ?_)
    refine V_run f_5 1 (by kernel_rfl) (fun a_6 f_6 => ?_)
    rcases Bool.eq_false_or_eq_true (x_1) with h_5 | h_5
    · have hF_3 := cnd_t h_5 hF_2
      have f_7 := Frm.set f_6 13 (v := .bool x_1) (v' := .bool true) (by kernel_rfl) (congrArg Value.bool h_5)
      refine V_run f_7 8 (by kernel_rfl) (fun a_7 f_8 => ?_)
      refine W_end rfl (T_n ?_)
      exact ⟨(true), (Option.some.inj hF_3).symm, M_2, (Mem.le_refl _), f_8.keep (ks := [2, 3, 4, 21]) (by kernel_rfl), p_3⟩
    · have hF_4 := cnd_f h_5 hF_2
      have f_9 := Frm.set f_6 13 (v := .bool x_1) (v' := .bool false) (by kernel_rfl) (congrArg Value.bool h_5)
      refine V_eq (v := .agg #[.int .i8 d1.fKind, .bool d1.fBool, .int .i64 d1.fNum, S d1.fText, .slice A_3 d1.fList.length cap_3, .slice A_4 d1.fKeys.length cap_4]) f_9 (by kernel_rfl) (X_loadN (cs := [.int .i8 d1.fKind, .bool d1.fBool, .int .i64 d1.fNum, S d1.fText, .slice A_3 d1.fList.length cap_3, .slice A_4 d1.fKeys.length cap_4]) rfl (ad := ⟨b_2, 0, none⟩) (by kernel_rfl) (by kernel_rfl) (fun j v h => p_3.cell (hc_4 j v h))) (fun a_8 f_10 => ?_)
      obtain ⟨x_2, hx_2, hF_5⟩ := bind_some' hF_4
      refine V_okv f_10 p_3 (ref03_Great_ok n _ _ d1 (T_api_Value.shutx (x := d1) (h_3.mono (hM_1.trans hM_2)) (h_4.mono (hM_1.trans hM_2))) x_2 hx_2) (by kernel_rfl) (fun _ => by kernel_rfl) (fun w_4 p_4 a_9 f_11 => ?_)
      refine V_run f_11 2 (by kernel_rfl) (fun a_10 f_12 => ?_)
      rcases Bool.eq_false_or_eq_true (x_2) with h_6 | h_6
      · have hF_6 := cnd_t h_6 hF_5
        have f_13 := Frm.set f_12 17 (v := .bool x_2) (v' := .bool true) (by kernel_rfl) (congrArg Value.bool h_6)
        refine V_run f_13 4 (by kernel_rfl) (fun a_11 f_14 => ?_)
        refine W_end rfl (T_n ?_)
        exact ⟨(true), (Option.some.inj hF_6).symm, M_2, (Mem.le_refl _), f_14.keep (ks := [2, 3, 4, 21]) (by kernel_rfl), p_4⟩
      · have hF_7 := cnd_f h_6 hF_5
        have f_15 := Frm.set f_12 17 (v := .bool x_2) (v' := .bool false) (by kernel_rfl) (congrArg Value.bool h_6)
        refine V_run f_15 4 (by kernel_rfl) (fun a_12 f_16 => ?_)
        refine W_end rfl (T_n ?_)
        exact ⟨(decide ((200 : Int) < (d2.length : Int))), (Option.some.inj hF_7).symm, M_2, (Mem.le_refl _), f_16.keep (ks := [2, 3, 4, 21]) (by kernel_rfl), p_4⟩
  · rintro a_13 w_5 ⟨y_1, hq_1, M_3, hM_3, f_17, p_5⟩
    subst j_1
    refine T_n ?_
    refine R_cond f_17 (b := y_1) (by kernel_rfl) (by kernel_rfl) (fun h_7 => ?_) (fun h_7 => ?_)
    · have hF_8 := cnd_t h_7 hF_1
      refine R_seq (R_reg ?_)
      obtain ⟨x_3, hx_3, hF_9⟩ := bind_some' hF_8
      refine V_okv f_17 p_5 (law03_wakes_ok n _ (GL.mono ((hM_1.trans hM_2).trans hM_3) hG) x_3 hx_3) (by kernel_rfl) (fun _ => by kernel_rfl) (fun w_6 p_6 a_14 f_18 => ?_)
      refine V_run f_18 1 (by kernel_rfl) (fun a_15 f_19 => ?_)
      refine W_end rfl (T_n (wp_ret (T_r ?_)))
      refine E_ret1 f_19 rfl (by kernel_rfl : Vc.look _ 6 = some (.bool x_3)) ?_
      obtain rfl := Option.some.inj hF_9
      exact ⟨_, rfl, M_3, ((hM_1.trans hM_2).trans hM_3), p_6, rfl⟩
    · have hF_10 := cnd_f h_7 hF_1
      refine wp_skip (T_n (R_seq (R_reg ?_)))
      refine V_eq (v := .agg #[.int .i8 d0.fKind, .bool d0.fBool, .int .i64 d0.fNum, S d0.fText, .slice A_1 d0.fList.length cap_1, .slice A_2 d0.fKeys.length cap_2]) f_17 (by kernel_rfl) (X_loadN (cs := [.int .i8 d0.fKind, .bool d0.fBool, .int .i64 d0.fNum, S d0.fText, .slice A_1 d0.fList.length cap_1, .slice A_2 d0.fKeys.length cap_2]) rfl (ad := ⟨b_1, 0, none⟩) (by kernel_rfl) (by kernel_rfl) (fun j v h => p_5.cell ((fzu (hM_2.trans hM_3) hc_2) j v h))) (fun a_16 f_20 => ?_)
      refine V_allocS (k := 1) (c := 1) f_20 p_5 (.cells #[.int .i8 d0.fKind, .bool d0.fBool, .int .i64 d0.fNum, S d0.fText, .slice A_1 d0.fList.length cap_1, .slice A_2 d0.fKeys.length cap_2] 26 (0, 0)) (by kernel_rfl) (fun _ => by kernel_rfl) (fun b_3 w_7 p_7 a_17 f_21 => ?_)
      refine V_run f_21 1 (by kernel_rfl) (fun a_18 f_22 => ?_)
      refine V_alloc f_22 p_7 (.cells #[.int .i8 0, .bool false, .int .i64 0, S [], .slice none 0 0, .slice none 0 0] 26 (0, 0)) (by kernel_rfl) (fun _ => by kernel_rfl) (fun b_4 w_8 p_8 a_19 f_23 => ?_)
      have p_9 := p_8.pl [1]
      have hr_1 : RepSeq M_3 ([(⟨d0.fKind, (d0.fBool), d0.fNum, d0.fText, d0.fList, d0.fKeys⟩ : T_api_Value)].map emb_T_api_Value) [.int .i8 d0.fKind, .bool d0.fBool, .int .i64 d0.fNum, S d0.fText, .slice A_1 d0.fList.length cap_1, .slice A_2 d0.fKeys.length cap_2] := ⟨_, _, rfl, T_api_Value.shut (h_1.mono ((hM_1.trans hM_2).trans hM_3)) (h_2.mono ((hM_1.trans hM_2).trans hM_3)), rfl⟩
      have p_10 : Hp w0 M_3 ((Ent.row 26 6 (.slice (some ⟨b_3, 0, none⟩) 1 1) [(⟨d0.fKind, (d0.fBool), d0.fNum, d0.fText, d0.fList, d0.fKeys⟩ : T_api_Value)].length [.int .i8 d0.fKind, .bool d0.fBool, .int .i64 d0.fNum, S d0.fText, .slice A_1 d0.fList.length cap_1, .slice A_2 d0.fKeys.length cap_2]) :: (Ent.obj b_4 (.cells #[.int .i8 0, .bool false, .int .i64 0, S [], .slice none 0 0, .slice none 0 0] 26 (0, 0))) :: H) w_8 := p_9.objRow (n := 1) (cap := 1) (size := 6) (by decide) (by decide) rfl rfl rfl
      obtain ⟨A_5, cap_5, M_4, hv_1, hM_4, p_11, h_8⟩ := p_10.rowSli (f := emb_T_api_Value) (xs := [(⟨d0.fKind, (d0.fBool), d0.fNum, d0.fText, d0.fList, d0.fKeys⟩ : T_api_Value)]) szd_T_api_Value hr_1
      have f_24 := Frm.set f_23 25 (v := .agg #[.int .i8 4, .bool false, .int .i64 0, S [], .slice (some ⟨b_3, 0, none⟩) 1 1, .slice none 0 0]) (v' := .agg #[.int .i8 4, .bool false, .int .i64 0, S [], .slice A_5 [(⟨d0.fKind, (d0.fBool), d0.fNum, d0.fText, d0.fList, d0.fKeys⟩ : T_api_Value)].length cap_5, .slice none 0 0]) (by kernel_rfl) (by rw [hv_1])
      refine W_storeN (vs := [.int .i8 4, .bool false, .int .i64 0, S [], .slice A_5 [(⟨d0.fKind, (d0.fBool), d0.fNum, d0.fText, d0.fList, d0.fKeys⟩ : T_api_Value)].length cap_5, .slice none 0 0]) (j := 0) f_24 p_11 (by kernel_rfl) (by kernel_rfl) rfl rfl (by kernel_rfl) (by kernel_rfl) (by simp [Value.oneCell', S]) (by kernel_rfl) (by simp) (by decide) (cs' := #[.int .i8 4, .bool false, .int .i64 0, S [], .slice A_5 [(⟨d0.fKind, (d0.fBool), d0.fNum, d0.fText, d0.fList, d0.fKeys⟩ : T_api_Value)].length cap_5, .slice none 0 0]) rfl (fun w_9 p_12 a_20 f_25 => ?_)
      refine W_end rfl (T_n (R_seq (R_reg ?_)))
      refine V_eq (v := .agg #[.int .i8 d1.fKind, .bool d1.fBool, .int .i64 d1.fNum, S d1.fText, .slice A_3 d1.fList.length cap_3, .slice A_4 d1.fKeys.length cap_4]) f_25 (by kernel_rfl) (X_loadN (cs := [.int .i8 d1.fKind, .bool d1.fBool, .int .i64 d1.fNum, S d1.fText, .slice A_3 d1.fList.length cap_3, .slice A_4 d1.fKeys.length cap_4]) rfl (ad := ⟨b_2, 0, none⟩) (by kernel_rfl) (by kernel_rfl) (fun j v h => p_12.cell ((fzu (hM_3.trans hM_4) hc_4) j v h))) (fun a_21 f_26 => ?_)
      refine V_allocS (k := 1) (c := 1) f_26 p_12 (.cells #[.int .i8 d1.fKind, .bool d1.fBool, .int .i64 d1.fNum, S d1.fText, .slice A_3 d1.fList.length cap_3, .slice A_4 d1.fKeys.length cap_4] 26 (0, 0)) (by kernel_rfl) (fun _ => by kernel_rfl) (fun b_5 w_10 p_13 a_22 f_27 => ?_)
      refine V_run f_27 1 (by kernel_rfl) (fun a_23 f_28 => ?_)
      refine V_alloc f_28 p_13 (.cells #[.int .i8 0, .bool false, .int .i64 0, S [], .slice none 0 0, .slice none 0 0] 26 (0, 0)) (by kernel_rfl) (fun _ => by kernel_rfl) (fun b_6 w_11 p_14 a_24 f_29 => ?_)
      have p_15 := p_14.pl [1]
      have hr_2 : RepSeq M_4 ([(⟨d1.fKind, (d1.fBool), d1.fNum, d1.fText, d1.fList, d1.fKeys⟩ : T_api_Value)].map emb_T_api_Value) [.int .i8 d1.fKind, .bool d1.fBool, .int .i64 d1.fNum, S d1.fText, .slice A_3 d1.fList.length cap_3, .slice A_4 d1.fKeys.length cap_4] := ⟨_, _, rfl, T_api_Value.shut (h_3.mono (((hM_1.trans hM_2).trans hM_3).trans hM_4)) (h_4.mono (((hM_1.trans hM_2).trans hM_3).trans hM_4)), rfl⟩
      have p_16 : Hp w0 M_4 ((Ent.row 26 6 (.slice (some ⟨b_5, 0, none⟩) 1 1) [(⟨d1.fKind, (d1.fBool), d1.fNum, d1.fText, d1.fList, d1.fKeys⟩ : T_api_Value)].length [.int .i8 d1.fKind, .bool d1.fBool, .int .i64 d1.fNum, S d1.fText, .slice A_3 d1.fList.length cap_3, .slice A_4 d1.fKeys.length cap_4]) :: (Ent.obj b_6 (.cells #[.int .i8 0, .bool false, .int .i64 0, S [], .slice none 0 0, .slice none 0 0] 26 (0, 0))) :: (Ent.obj b_4 (.cells #[.int .i8 4, .bool false, .int .i64 0, S [], .slice A_5 [(⟨d0.fKind, (d0.fBool), d0.fNum, d0.fText, d0.fList, d0.fKeys⟩ : T_api_Value)].length cap_5, .slice none 0 0] 26 (0, 0))) :: H) w_11 := p_15.objRow (n := 1) (cap := 1) (size := 6) (by decide) (by decide) rfl rfl rfl
      obtain ⟨A_6, cap_6, M_5, hv_2, hM_5, p_17, h_9⟩ := p_16.rowSli (f := emb_T_api_Value) (xs := [(⟨d1.fKind, (d1.fBool), d1.fNum, d1.fText, d1.fList, d1.fKeys⟩ : T_api_Value)]) szd_T_api_Value hr_2
      have f_30 := Frm.set f_29 28 (v := .agg #[.int .i8 4, .bool false, .int .i64 0, S [], .slice (some ⟨b_5, 0, none⟩) 1 1, .slice none 0 0]) (v' := .agg #[.int .i8 4, .bool false, .int .i64 0, S [], .slice A_6 [(⟨d1.fKind, (d1.fBool), d1.fNum, d1.fText, d1.fList, d1.fKeys⟩ : T_api_Value)].length cap_6, .slice none 0 0]) (by kernel_rfl) (by rw [hv_2])
      refine W_storeN (vs := [.int .i8 4, .bool false, .int .i64 0, S [], .slice A_6 [(⟨d1.fKind, (d1.fBool), d1.fNum, d1.fText, d1.fList, d1.fKeys⟩ : T_api_Value)].length cap_6, .slice none 0 0]) (j := 0) f_30 p_17 (by kernel_rfl) (by kernel_rfl) rfl rfl (by kernel_rfl) (by kernel_rfl) (by simp [Value.oneCell', S]) (by kernel_rfl) (by simp) (by decide) (cs' := #[.int .i8 4, .bool false, .int .i64 0, S [], .slice A_6 [(⟨d1.fKind, (d1.fBool), d1.fNum, d1.fText, d1.fList, d1.fKeys⟩ : T_api_Value)].length cap_6, .slice none 0 0]) rfl (fun w_12 p_18 a_25 f_31 => ?_)
      refine W_end rfl (T_n (R_seq (R_reg ?_)))
      refine V_run f_31 1 (by kernel_rfl) (fun a_26 f_32 => ?_)
      refine V_allocS (k := 1) (c := 1) f_32 p_18 (.cells #[S d2] 9 (0, 0)) (by kernel_rfl) (fun _ => by kernel_rfl) (fun b_7 w_13 p_19 a_27 f_33 => ?_)
      refine V_eq (v := .agg #[.int .i8 d0.fKind, .bool d0.fBool, .int .i64 d0.fNum, S d0.fText, .slice A_1 d0.fList.length cap_1, .slice A_2 d0.fKeys.length cap_2]) f_33 (by kernel_rfl) (X_loadN (cs := [.int .i8 d0.fKind, .bool d0.fBool, .int .i64 d0.fNum, S d0.fText, .slice A_1 d0.fList.length cap_1, .slice A_2 d0.fKeys.length cap_2]) rfl (ad := ⟨b_1, 0, none⟩) (by kernel_rfl) (by kernel_rfl) (fun j v h => p_19.cell ((fzu (((hM_2.trans hM_3).trans hM_4).trans hM_5) hc_2) j v h))) (fun a_28 f_34 => ?_)
      refine V_allocS (k := 1) (c := 1) f_34 p_19 (.cells #[.int .i8 d0.fKind, .bool d0.fBool, .int .i64 d0.fNum, S d0.fText, .slice A_1 d0.fList.length cap_1, .slice A_2 d0.fKeys.length cap_2] 26 (0, 0)) (by kernel_rfl) (fun _ => by kernel_rfl) (fun b_8 w_14 p_20 a_29 f_35 => ?_)
      refine V_run f_35 1 (by kernel_rfl) (fun a_30 f_36 => ?_)
      refine V_alloc f_36 p_20 (.cells #[.int .i8 0, .bool false, .int .i64 0, S [], .slice none 0 0, .slice none 0 0] 26 (0, 0)) (by kernel_rfl) (fun _ => by kernel_rfl) (fun b_9 w_15 p_21 a_31 f_37 => ?_)
      have p_22 := p_21.pl [1]
      have hr_3 : RepSeq M_5 ([(⟨d0.fKind, (d0.fBool), d0.fNum, d0.fText, d0.fList, d0.fKeys⟩ : T_api_Value)].map emb_T_api_Value) [.int .i8 d0.fKind, .bool d0.fBool, .int .i64 d0.fNum, S d0.fText, .slice A_1 d0.fList.length cap_1, .slice A_2 d0.fKeys.length cap_2] := ⟨_, _, rfl, T_api_Value.shut (h_1.mono ((((hM_1.trans hM_2).trans hM_3).trans hM_4).trans hM_5)) (h_2.mono ((((hM_1.trans hM_2).trans hM_3).trans hM_4).trans hM_5)), rfl⟩
      have p_23 : Hp w0 M_5 ((Ent.row 26 6 (.slice (some ⟨b_8, 0, none⟩) 1 1) [(⟨d0.fKind, (d0.fBool), d0.fNum, d0.fText, d0.fList, d0.fKeys⟩ : T_api_Value)].length [.int .i8 d0.fKind, .bool d0.fBool, .int .i64 d0.fNum, S d0.fText, .slice A_1 d0.fList.length cap_1, .slice A_2 d0.fKeys.length cap_2]) :: (Ent.obj b_9 (.cells #[.int .i8 0, .bool false, .int .i64 0, S [], .slice none 0 0, .slice none 0 0] 26 (0, 0))) :: (Ent.obj b_7 (.cells #[S d2] 9 (0, 0))) :: (Ent.obj b_6 (.cells #[.int .i8 4, .bool false, .int .i64 0, S [], .slice A_6 [(⟨d1.fKind, (d1.fBool), d1.fNum, d1.fText, d1.fList, d1.fKeys⟩ : T_api_Value)].length cap_6, .slice none 0 0] 26 (0, 0))) :: (Ent.obj b_4 (.cells #[.int .i8 4, .bool false, .int .i64 0, S [], .slice A_5 [(⟨d0.fKind, (d0.fBool), d0.fNum, d0.fText, d0.fList, d0.fKeys⟩ : T_api_Value)].length cap_5, .slice none 0 0] 26 (0, 0))) :: H) w_15 := p_22.objRow (n := 1) (cap := 1) (size := 6) (by decide) (by decide) rfl rfl rfl
      obtain ⟨A_7, cap_7, M_6, hv_3, hM_6, p_24, h_10⟩ := p_23.rowSli (f := emb_T_api_Value) (xs := [(⟨d0.fKind, (d0.fBool), d0.fNum, d0.fText, d0.fList, d0.fKeys⟩ : T_api_Value)]) szd_T_api_Value hr_3
      have f_38 := Frm.set f_37 33 (v := .agg #[.int .i8 5, .bool false, .int .i64 0, S [], .slice (some ⟨b_8, 0, none⟩) 1 1, .slice (some ⟨b_7, 0, none⟩) 1 1]) (v' := .agg #[.int .i8 5, .bool false, .int .i64 0, S [], .slice A_7 [(⟨d0.fKind, (d0.fBool), d0.fNum, d0.fText, d0.fList, d0.fKeys⟩ : T_api_Value)].length cap_7, .slice (some ⟨b_7, 0, none⟩) 1 1]) (by kernel_rfl) (by rw [hv_3])
      have p_25 := p_24.pl [1]
      have hr_4 : RepSeq M_6 (([d2] : List (List UInt8)).map Dat.str) [S d2] := ⟨_, _, rfl, rfl, rfl⟩
      have p_26 : Hp w0 M_6 ((Ent.row 9 1 (.slice (some ⟨b_7, 0, none⟩) 1 1) ([d2] : List (List UInt8)).length [S d2]) :: (Ent.obj b_9 (.cells #[.int .i8 0, .bool false, .int .i64 0, S [], .slice none 0 0, .slice none 0 0] 26 (0, 0))) :: (Ent.obj b_6 (.cells #[.int .i8 4, .bool false, .int .i64 0, S [], .slice A_6 [(⟨d1.fKind, (d1.fBool), d1.fNum, d1.fText, d1.fList, d1.fKeys⟩ : T_api_Value)].length cap_6, .slice none 0 0] 26 (0, 0))) :: (Ent.obj b_4 (.cells #[.int .i8 4, .bool false, .int .i64 0, S [], .slice A_5 [(⟨d0.fKind, (d0.fBool), d0.fNum, d0.fText, d0.fList, d0.fKeys⟩ : T_api_Value)].length cap_5, .slice none 0 0] 26 (0, 0))) :: H) w_15 := p_25.objRow (n := 1) (cap := 1) (size := 1) (by decide) (by decide) rfl rfl rfl
      obtain ⟨A_8, cap_8, M_7, hv_4, hM_7, p_27, h_11⟩ := p_26.rowSli (f := Dat.str) (xs := ([d2] : List (List UInt8))) szd_str hr_4
      have f_39 := Frm.set f_38 33 (v := .agg #[.int .i8 5, .bool false, .int .i64 0, S [], .slice A_7 [(⟨d0.fKind, (d0.fBool), d0.fNum, d0.fText, d0.fList, d0.fKeys⟩ : T_api_Value)].length cap_7, .slice (some ⟨b_7, 0, none⟩) 1 1]) (v' := .agg #[.int .i8 5, .bool false, .int .i64 0, S [], .slice A_7 [(⟨d0.fKind, (d0.fBool), d0.fNum, d0.fText, d0.fList, d0.fKeys⟩ : T_api_Value)].length cap_7, .slice A_8 ([d2] : List (List UInt8)).length cap_8]) (by kernel_rfl) (by rw [hv_4])
      refine W_storeN (vs := [.int .i8 5, .bool false, .int .i64 0, S [], .slice A_7 [(⟨d0.fKind, (d0.fBool), d0.fNum, d0.fText, d0.fList, d0.fKeys⟩ : T_api_Value)].length cap_7, .slice A_8 ([d2] : List (List UInt8)).length cap_8]) (j := 0) f_39 p_27 (by kernel_rfl) (by kernel_rfl) rfl rfl (by kernel_rfl) (by kernel_rfl) (by simp [Value.oneCell', S]) (by kernel_rfl) (by simp) (by decide) (cs' := #[.int .i8 5, .bool false, .int .i64 0, S [], .slice A_7 [(⟨d0.fKind, (d0.fBool), d0.fNum, d0.fText, d0.fList, d0.fKeys⟩ : T_api_Value)].length cap_7, .slice A_8 ([d2] : List (List UInt8)).length cap_8]) rfl (fun w_16 p_28 a_32 f_40 => ?_)
      refine W_end rfl (T_n (R_seq (R_reg ?_)))
      refine V_run f_40 1 (by kernel_rfl) (fun a_33 f_41 => ?_)
      refine V_allocS (k := 1) (c := 1) f_41 p_28 (.cells #[S d2] 9 (0, 0)) (by kernel_rfl) (fun _ => by kernel_rfl) (fun b_10 w_17 p_29 a_34 f_42 => ?_)
      refine V_eq (v := .agg #[.int .i8 d1.fKind, .bool d1.fBool, .int .i64 d1.fNum, S d1.fText, .slice A_3 d1.fList.length cap_3, .slice A_4 d1.fKeys.length cap_4]) f_42 (by kernel_rfl) (X_loadN (cs := [.int .i8 d1.fKind, .bool d1.fBool, .int .i64 d1.fNum, S d1.fText, .slice A_3 d1.fList.length cap_3, .slice A_4 d1.fKeys.length cap_4]) rfl (ad := ⟨b_2, 0, none⟩) (by kernel_rfl) (by kernel_rfl) (fun j v h => p_29.cell ((fzu ((((hM_3.trans hM_4).trans hM_5).trans hM_6).trans hM_7) hc_4) j v h))) (fun a_35 f_43 => ?_)
      refine V_allocS (k := 1) (c := 1) f_43 p_29 (.cells #[.int .i8 d1.fKind, .bool d1.fBool, .int .i64 d1.fNum, S d1.fText, .slice A_3 d1.fList.length cap_3, .slice A_4 d1.fKeys.length cap_4] 26 (0, 0)) (by kernel_rfl) (fun _ => by kernel_rfl) (fun b_11 w_18 p_30 a_36 f_44 => ?_)
      refine V_run f_44 1 (by kernel_rfl) (fun a_37 f_45 => ?_)
      refine V_alloc f_45 p_30 (.cells #[.int .i8 0, .bool false, .int .i64 0, S [], .slice none 0 0, .slice none 0 0] 26 (0, 0)) (by kernel_rfl) (fun _ => by kernel_rfl) (fun b_12 w_19 p_31 a_38 f_46 => ?_)
      have p_32 := p_31.pl [1]
      have hr_5 : RepSeq M_7 ([(⟨d1.fKind, (d1.fBool), d1.fNum, d1.fText, d1.fList, d1.fKeys⟩ : T_api_Value)].map emb_T_api_Value) [.int .i8 d1.fKind, .bool d1.fBool, .int .i64 d1.fNum, S d1.fText, .slice A_3 d1.fList.length cap_3, .slice A_4 d1.fKeys.length cap_4] := ⟨_, _, rfl, T_api_Value.shut (h_3.mono ((((((hM_1.trans hM_2).trans hM_3).trans hM_4).trans hM_5).trans hM_6).trans hM_7)) (h_4.mono ((((((hM_1.trans hM_2).trans hM_3).trans hM_4).trans hM_5).trans hM_6).trans hM_7)), rfl⟩
      have p_33 : Hp w0 M_7 ((Ent.row 26 6 (.slice (some ⟨b_11, 0, none⟩) 1 1) [(⟨d1.fKind, (d1.fBool), d1.fNum, d1.fText, d1.fList, d1.fKeys⟩ : T_api_Value)].length [.int .i8 d1.fKind, .bool d1.fBool, .int .i64 d1.fNum, S d1.fText, .slice A_3 d1.fList.length cap_3, .slice A_4 d1.fKeys.length cap_4]) :: (Ent.obj b_12 (.cells #[.int .i8 0, .bool false, .int .i64 0, S [], .slice none 0 0, .slice none 0 0] 26 (0, 0))) :: (Ent.obj b_10 (.cells #[S d2] 9 (0, 0))) :: (Ent.obj b_9 (.cells #[.int .i8 5, .bool false, .int .i64 0, S [], .slice A_7 [(⟨d0.fKind, (d0.fBool), d0.fNum, d0.fText, d0.fList, d0.fKeys⟩ : T_api_Value)].length cap_7, .slice A_8 ([d2] : List (List UInt8)).length cap_8] 26 (0, 0))) :: (Ent.obj b_6 (.cells #[.int .i8 4, .bool false, .int .i64 0, S [], .slice A_6 [(⟨d1.fKind, (d1.fBool), d1.fNum, d1.fText, d1.fList, d1.fKeys⟩ : T_api_Value)].length cap_6, .slice none 0 0] 26 (0, 0))) :: (Ent.obj b_4 (.cells #[.int .i8 4, .bool false, .int .i64 0, S [], .slice A_5 [(⟨d0.fKind, (d0.fBool), d0.fNum, d0.fText, d0.fList, d0.fKeys⟩ : T_api_Value)].length cap_5, .slice none 0 0] 26 (0, 0))) :: H) w_19 := p_32.objRow (n := 1) (cap := 1) (size := 6) (by decide) (by decide) rfl rfl rfl
      obtain ⟨A_9, cap_9, M_8, hv_5, hM_8, p_34, h_12⟩ := p_33.rowSli (f := emb_T_api_Value) (xs := [(⟨d1.fKind, (d1.fBool), d1.fNum, d1.fText, d1.fList, d1.fKeys⟩ : T_api_Value)]) szd_T_api_Value hr_5
      have f_47 := Frm.set f_46 38 (v := .agg #[.int .i8 5, .bool false, .int .i64 0, S [], .slice (some ⟨b_11, 0, none⟩) 1 1, .slice (some ⟨b_10, 0, none⟩) 1 1]) (v' := .agg #[.int .i8 5, .bool false, .int .i64 0, S [], .slice A_9 [(⟨d1.fKind, (d1.fBool), d1.fNum, d1.fText, d1.fList, d1.fKeys⟩ : T_api_Value)].length cap_9, .slice (some ⟨b_10, 0, none⟩) 1 1]) (by kernel_rfl) (by rw [hv_5])
      have p_35 := p_34.pl [1]
      have hr_6 : RepSeq M_8 (([d2] : List (List UInt8)).map Dat.str) [S d2] := ⟨_, _, rfl, rfl, rfl⟩
      have p_36 : Hp w0 M_8 ((Ent.row 9 1 (.slice (some ⟨b_10, 0, none⟩) 1 1) ([d2] : List (List UInt8)).length [S d2]) :: (Ent.obj b_12 (.cells #[.int .i8 0, .bool false, .int .i64 0, S [], .slice none 0 0, .slice none 0 0] 26 (0, 0))) :: (Ent.obj b_9 (.cells #[.int .i8 5, .bool false, .int .i64 0, S [], .slice A_7 [(⟨d0.fKind, (d0.fBool), d0.fNum, d0.fText, d0.fList, d0.fKeys⟩ : T_api_Value)].length cap_7, .slice A_8 ([d2] : List (List UInt8)).length cap_8] 26 (0, 0))) :: (Ent.obj b_6 (.cells #[.int .i8 4, .bool false, .int .i64 0, S [], .slice A_6 [(⟨d1.fKind, (d1.fBool), d1.fNum, d1.fText, d1.fList, d1.fKeys⟩ : T_api_Value)].length cap_6, .slice none 0 0] 26 (0, 0))) :: (Ent.obj b_4 (.cells #[.int .i8 4, .bool false, .int .i64 0, S [], .slice A_5 [(⟨d0.fKind, (d0.fBool), d0.fNum, d0.fText, d0.fList, d0.fKeys⟩ : T_api_Value)].length cap_5, .slice none 0 0] 26 (0, 0))) :: H) w_19 := p_35.objRow (n := 1) (cap := 1) (size := 1) (by decide) (by decide) rfl rfl rfl
      obtain ⟨A_10, cap_10, M_9, hv_6, hM_9, p_37, h_13⟩ := p_36.rowSli (f := Dat.str) (xs := ([d2] : List (List UInt8))) szd_str hr_6
      have f_48 := Frm.set f_47 38 (v := .agg #[.int .i8 5, .bool false, .int .i64 0, S [], .slice A_9 [(⟨d1.fKind, (d1.fBool), d1.fNum, d1.fText, d1.fList, d1.fKeys⟩ : T_api_Value)].length cap_9, .slice (some ⟨b_10, 0, none⟩) 1 1]) (v' := .agg #[.int .i8 5, .bool false, .int .i64 0, S [], .slice A_9 [(⟨d1.fKind, (d1.fBool), d1.fNum, d1.fText, d1.fList, d1.fKeys⟩ : T_api_Value)].length cap_9, .slice A_10 ([d2] : List (List UInt8)).length cap_10]) (by kernel_rfl) (by rw [hv_6])
      refine W_storeN (vs := [.int .i8 5, .bool false, .int .i64 0, S [], .slice A_9 [(⟨d1.fKind, (d1.fBool), d1.fNum, d1.fText, d1.fList, d1.fKeys⟩ : T_api_Value)].length cap_9, .slice A_10 ([d2] : List (List UInt8)).length cap_10]) (j := 0) f_48 p_37 (by kernel_rfl) (by kernel_rfl) rfl rfl (by kernel_rfl) (by kernel_rfl) (by simp [Value.oneCell', S]) (by kernel_rfl) (by simp) (by decide) (cs' := #[.int .i8 5, .bool false, .int .i64 0, S [], .slice A_9 [(⟨d1.fKind, (d1.fBool), d1.fNum, d1.fText, d1.fList, d1.fKeys⟩ : T_api_Value)].length cap_9, .slice A_10 ([d2] : List (List UInt8)).length cap_10]) rfl (fun w_20 p_38 a_39 f_49 => ?_)
      refine W_end rfl (T_n (R_seq (R_seq ?_)))
      obtain ⟨j_2, hj_2, hF_11⟩ := bind_some' hF_10
      refine R_mid (fun a_66 w_33 => ∃ y_2 : Bool, j_2 = y_2 ∧ ∃ M_10 : Mem, M_9.le M_10 ∧ Frm 131 [(3, .pointer (some (⟨b_1, 0, none⟩))), (4, .pointer (some (⟨b_2, 0, none⟩))), (7, .pointer (some (⟨b_4, 0, none⟩))), (8, .pointer (some (⟨b_6, 0, none⟩))), (9, .pointer (some (⟨b_9, 0, none⟩))), (10, .pointer (some (⟨b_12, 0, none⟩))), (67, .bool y_2)] a_66 ∧ Hp w0 M_10 ((Ent.obj b_12 (.cells #[.int .i8 5, .bool false, .int .i64 0, S [], .slice A_9 [(⟨d1.fKind, (d1.fBool), d1.fNum, d1.fText, d1.fList, d1.fKeys⟩ : T_api_Value)].length cap_9, .slice A_10 ([d2] : List (List UInt8)).length cap_10] 26 (0, 0))) :: (Ent.obj b_9 (.cells #[.int .i8 5, .bool false, .int .i64 0, S [], .slice A_7 [(⟨d0.fKind, (d0.fBool), d0.fNum, d0.fText, d0.fList, d0.fKeys⟩ : T_api_Value)].length cap_7, .slice A_8 ([d2] : List (List UInt8)).length cap_8] 26 (0, 0))) :: (Ent.obj b_6 (.cells #[.int .i8 4, .bool false, .int .i64 0, S [], .slice A_6 [(⟨d1.fKind, (d1.fBool), d1.fNum, d1.fText, d1.fList, d1.fKeys⟩ : T_api_Value)].length cap_6, .slice none 0 0] 26 (0, 0))) :: (Ent.obj b_4 (.cells #[.int .i8 4, .bool false, .int .i64 0, S [], .slice A_5 [(⟨d0.fKind, (d0.fBool), d0.fNum, d0.fText, d0.fList, d0.fKeys⟩ : T_api_Value)].length cap_5, .slice none 0 0] 26 (0, 0))) :: H) w_33) ?_ ?_
      · refine R_draw p_38 (by kernel_rfl) (by kernel_rfl) ?_
        refine QV_eq (v := .agg #[.int .i8 4, .bool false, .int .i64 0, S [], .slice A_5 [(⟨d0.fKind, (d0.fBool), d0.fNum, d0.fText, d0.fList, d0.fKeys⟩ : T_api_Value)].length cap_5, .slice none 0 0]) f_49 (by kernel_rfl) (fun _ pq => X_loadN (cs := [.int .i8 4, .bool false, .int .i64 0, S [], .slice A_5 [(⟨d0.fKind, (d0.fBool), d0.fNum, d0.fText, d0.fList, d0.fKeys⟩ : T_api_Value)].length cap_5, .slice none 0 0]) rfl (ad := ⟨b_4, 0, none⟩) (by kernel_rfl) (by kernel_rfl) (own_cells (pq.ownCell 3 rfl) 0 rfl)) (fun a_40 f_50 => ?_)
        obtain ⟨x_4, hx_4, hF_12⟩ := bind_some' hj_2
        refine QV_okv f_50 (tree_Count_ok n _ _ (⟨(4 : Int), (false), (0 : Int), ([] : List UInt8), [(⟨d0.fKind, (d0.fBool), d0.fNum, d0.fText, d0.fList, d0.fKeys⟩ : T_api_Value)], ([] : List (List UInt8))⟩ : T_api_Value) (T_api_Value.shut (h_8.mono ((((hM_5.trans hM_6).trans hM_7).trans hM_8).trans hM_9)) Sli.nil) x_4 hx_4) (by kernel_rfl) (fun _ => by kernel_rfl) (fun a_41 f_51 => ?_)
        refine QV_eq (v := .agg #[.int .i8 d0.fKind, .bool d0.fBool, .int .i64 d0.fNum, S d0.fText, .slice A_1 d0.fList.length cap_1, .slice A_2 d0.fKeys.length cap_2]) f_51 (by kernel_rfl) (fun _ pq => X_loadN (cs := [.int .i8 d0.fKind, .bool d0.fBool, .int .i64 d0.fNum, S d0.fText, .slice A_1 d0.fList.length cap_1, .slice A_2 d0.fKeys.length cap_2]) rfl (ad := ⟨b_1, 0, none⟩) (by kernel_rfl) (by kernel_rfl) (fun j v h => pq.cell ((fzu (((((((hM_2.trans hM_3).trans hM_4).trans hM_5).trans hM_6).trans hM_7).trans hM_8).trans hM_9) hc_2) j v h))) (fun a_42 f_52 => ?_)
        obtain ⟨x_5, hx_5, hF_13⟩ := bind_some' hF_12
        refine QV_okv f_52 (tree_Count_ok n _ _ d0 (T_api_Value.shutx (x := d0) (h_1.mono ((((((((hM_1.trans hM_2).trans hM_3).trans hM_4).trans hM_5).trans hM_6).trans hM_7).trans hM_8).trans hM_9)) (h_2.mono ((((((((hM_1.trans hM_2).trans hM_3).trans hM_4).trans hM_5).trans hM_6).trans hM_7).trans hM_8).trans hM_9))) x_5 hx_5) (by kernel_rfl) (fun _ => by kernel_rfl) (fun a_43 f_53 => ?_)
        obtain ⟨g_1, hF_14⟩ := need_some hF_13
        refine QV_eq (v := .int .i64 (IntKind.wrap .i64 (x_5 + 1))) f_53 (by kernel_rfl) (fun _ pq => by kernel_rfl) (fun a_44 f_54 => ?_)
        have f_55 := Frm.set f_54 43 (v := .int .i64 (IntKind.wrap .i64 (x_5 + 1))) (v' := .int .i64 (x_5 + 1)) (by kernel_rfl) (congrArg (Value.int .i64) (inR_wrap g_1))
        refine Q_run default f_55 2 (fun _ => by kernel_rfl) (fun a_45 f_56 => ?_)
        rcases Bool.eq_false_or_eq_true (!(decide (x_4 = (x_5 + 1)))) with h_14 | h_14
        · have k_7 : ¬ (x_4 = (x_5 + 1)) := (not_iff decide_eq_true_iff).1 h_14
          have hF_15 := cnd_t h_14 hF_14
          have f_57 := Frm.set f_56 45 (v := .bool (!(decide (x_4 = (x_5 + 1))))) (v' := .bool true) (by kernel_rfl) (congrArg Value.bool h_14)
          refine Q_run default f_57 22 (fun _ => by kernel_rfl) (fun a_46 f_58 => ?_)
          refine Q_end rfl ?_
          intro w_23 p_41
          refine T_n ?_
          exact ⟨(true), (Option.some.inj hF_15).symm, M_9, (Mem.le_refl _), f_58.keep (ks := [3, 4, 7, 8, 9, 10, 67]) (by kernel_rfl), p_41⟩
        · have k_8 : ¬ (¬ (x_4 = (x_5 + 1))) := iff_f (not_iff decide_eq_true_iff) h_14
          have hF_16 := cnd_f h_14 hF_14
          have f_59 := Frm.set f_56 45 (v := .bool (!(decide (x_4 = (x_5 + 1))))) (v' := .bool false) (by kernel_rfl) (congrArg Value.bool h_14)
          refine QV_eq (v := .agg #[.int .i8 4, .bool false, .int .i64 0, S [], .slice A_5 [(⟨d0.fKind, (d0.fBool), d0.fNum, d0.fText, d0.fList, d0.fKeys⟩ : T_api_Value)].length cap_5, .slice none 0 0]) f_59 (by kernel_rfl) (fun _ pq => X_loadN (cs := [.int .i8 4, .bool false, .int .i64 0, S [], .slice A_5 [(⟨d0.fKind, (d0.fBool), d0.fNum, d0.fText, d0.fList, d0.fKeys⟩ : T_api_Value)].length cap_5, .slice none 0 0]) rfl (ad := ⟨b_4, 0, none⟩) (by kernel_rfl) (by kernel_rfl) (own_cells (pq.ownCell 3 rfl) 0 rfl)) (fun a_47 f_60 => ?_)
          obtain ⟨x_6, hx_6, hF_17⟩ := bind_some' hF_16
          refine QV_okv f_60 (tree_Depth_ok n _ _ (⟨(4 : Int), (false), (0 : Int), ([] : List UInt8), [(⟨d0.fKind, (d0.fBool), d0.fNum, d0.fText, d0.fList, d0.fKeys⟩ : T_api_Value)], ([] : List (List UInt8))⟩ : T_api_Value) (T_api_Value.shut (h_8.mono ((((hM_5.trans hM_6).trans hM_7).trans hM_8).trans hM_9)) Sli.nil) x_6 hx_6) (by kernel_rfl) (fun _ => by kernel_rfl) (fun a_48 f_61 => ?_)
          refine QV_eq (v := .agg #[.int .i8 d0.fKind, .bool d0.fBool, .int .i64 d0.fNum, S d0.fText, .slice A_1 d0.fList.length cap_1, .slice A_2 d0.fKeys.length cap_2]) f_61 (by kernel_rfl) (fun _ pq => X_loadN (cs := [.int .i8 d0.fKind, .bool d0.fBool, .int .i64 d0.fNum, S d0.fText, .slice A_1 d0.fList.length cap_1, .slice A_2 d0.fKeys.length cap_2]) rfl (ad := ⟨b_1, 0, none⟩) (by kernel_rfl) (by kernel_rfl) (fun j v h => pq.cell ((fzu (((((((hM_2.trans hM_3).trans hM_4).trans hM_5).trans hM_6).trans hM_7).trans hM_8).trans hM_9) hc_2) j v h))) (fun a_49 f_62 => ?_)
          obtain ⟨x_7, hx_7, hF_18⟩ := bind_some' hF_17
          refine QV_okv f_62 (tree_Depth_ok n _ _ d0 (T_api_Value.shutx (x := d0) (h_1.mono ((((((((hM_1.trans hM_2).trans hM_3).trans hM_4).trans hM_5).trans hM_6).trans hM_7).trans hM_8).trans hM_9)) (h_2.mono ((((((((hM_1.trans hM_2).trans hM_3).trans hM_4).trans hM_5).trans hM_6).trans hM_7).trans hM_8).trans hM_9))) x_7 hx_7) (by kernel_rfl) (fun _ => by kernel_rfl) (fun a_50 f_63 => ?_)
          obtain ⟨g_2, hF_19⟩ := need_some hF_18
          refine QV_eq (v := .int .i64 (IntKind.wrap .i64 (x_7 + 1))) f_63 (by kernel_rfl) (fun _ pq => by kernel_rfl) (fun a_51 f_64 => ?_)
          have f_65 := Frm.set f_64 50 (v := .int .i64 (IntKind.wrap .i64 (x_7 + 1))) (v' := .int .i64 (x_7 + 1)) (by kernel_rfl) (congrArg (Value.int .i64) (inR_wrap g_2))
          refine QV_eq (v := .int .i64 (min (x_7 + 1) (1001 : Int))) f_65 (by kernel_rfl) (fun _ pq => X_min (k := .i64) (a := x_7 + 1) (b := (1001 : Int)) rfl (by kernel_rfl) (by kernel_rfl)) (fun a_52 f_66 => ?_)
          refine Q_run default f_66 3 (fun _ => by kernel_rfl) (fun a_53 f_67 => ?_)
          rcases Bool.eq_false_or_eq_true (!(decide (x_6 = (min (x_7 + 1) (1001 : Int))))) with h_15 | h_15
          · have k_9 : ¬ (x_6 = (min (x_7 + 1) (1001 : Int))) := (not_iff decide_eq_true_iff).1 h_15
            have hF_20 := cnd_t h_15 hF_19
            have f_68 := Frm.set f_67 54 (v := .bool (!(decide (x_6 = (min (x_7 + 1) (1001 : Int)))))) (v' := .bool true) (by kernel_rfl) (congrArg Value.bool h_15)
            refine Q_run default f_68 13 (fun _ => by kernel_rfl) (fun a_54 f_69 => ?_)
            refine Q_end rfl ?_
            intro w_26 p_44
            refine T_n ?_
            exact ⟨(true), (Option.some.inj hF_20).symm, M_9, (Mem.le_refl _), f_69.keep (ks := [3, 4, 7, 8, 9, 10, 67]) (by kernel_rfl), p_44⟩
          · have k_10 : ¬ (¬ (x_6 = (min (x_7 + 1) (1001 : Int)))) := iff_f (not_iff decide_eq_true_iff) h_15
            have hF_21 := cnd_f h_15 hF_19
            have f_70 := Frm.set f_67 54 (v := .bool (!(decide (x_6 = (min (x_7 + 1) (1001 : Int)))))) (v' := .bool false) (by kernel_rfl) (congrArg Value.bool h_15)
            refine QV_eq (v := .agg #[.int .i8 5, .bool false, .int .i64 0, S [], .slice A_7 [(⟨d0.fKind, (d0.fBool), d0.fNum, d0.fText, d0.fList, d0.fKeys⟩ : T_api_Value)].length cap_7, .slice A_8 ([d2] : List (List UInt8)).length cap_8]) f_70 (by kernel_rfl) (fun _ pq => X_loadN (cs := [.int .i8 5, .bool false, .int .i64 0, S [], .slice A_7 [(⟨d0.fKind, (d0.fBool), d0.fNum, d0.fText, d0.fList, d0.fKeys⟩ : T_api_Value)].length cap_7, .slice A_8 ([d2] : List (List UInt8)).length cap_8]) rfl (ad := ⟨b_9, 0, none⟩) (by kernel_rfl) (by kernel_rfl) (own_cells (pq.ownCell 1 rfl) 0 rfl)) (fun a_55 f_71 => ?_)
            obtain ⟨x_8, hx_8, hF_22⟩ := bind_some' hF_21
            refine QV_okv f_71 (tree_Count_ok n _ _ (⟨(5 : Int), (false), (0 : Int), ([] : List UInt8), [(⟨d0.fKind, (d0.fBool), d0.fNum, d0.fText, d0.fList, d0.fKeys⟩ : T_api_Value)], ([d2] : List (List UInt8))⟩ : T_api_Value) (T_api_Value.shut (h_10.mono ((hM_7.trans hM_8).trans hM_9)) (h_11.mono (hM_8.trans hM_9))) x_8 hx_8) (by kernel_rfl) (fun _ => by kernel_rfl) (fun a_56 f_72 => ?_)
            refine QV_eq (v := .agg #[.int .i8 4, .bool false, .int .i64 0, S [], .slice A_5 [(⟨d0.fKind, (d0.fBool), d0.fNum, d0.fText, d0.fList, d0.fKeys⟩ : T_api_Value)].length cap_5, .slice none 0 0]) f_72 (by kernel_rfl) (fun _ pq => X_loadN (cs := [.int .i8 4, .bool false, .int .i64 0, S [], .slice A_5 [(⟨d0.fKind, (d0.fBool), d0.fNum, d0.fText, d0.fList, d0.fKeys⟩ : T_api_Value)].length cap_5, .slice none 0 0]) rfl (ad := ⟨b_4, 0, none⟩) (by kernel_rfl) (by kernel_rfl) (own_cells (pq.ownCell 3 rfl) 0 rfl)) (fun a_57 f_73 => ?_)
            obtain ⟨x_9, hx_9, hF_23⟩ := bind_some' hF_22
            refine QV_okv f_73 (tree_Count_ok n _ _ (⟨(4 : Int), (false), (0 : Int), ([] : List UInt8), [(⟨d0.fKind, (d0.fBool), d0.fNum, d0.fText, d0.fList, d0.fKeys⟩ : T_api_Value)], ([] : List (List UInt8))⟩ : T_api_Value) (T_api_Value.shut (h_8.mono ((((hM_5.trans hM_6).trans hM_7).trans hM_8).trans hM_9)) Sli.nil) x_9 hx_9) (by kernel_rfl) (fun _ => by kernel_rfl) (fun a_58 f_74 => ?_)
            refine Q_run default f_74 3 (fun _ => by kernel_rfl) (fun a_59 f_75 => ?_)
            rcases Bool.eq_false_or_eq_true (!(decide (x_8 = x_9))) with h_16 | h_16
            · have k_11 : ¬ (x_8 = x_9) := (not_iff decide_eq_true_iff).1 h_16
              have hF_24 := cnd_t h_16 hF_23
              have f_76 := Frm.set f_75 61 (v := .bool (!(decide (x_8 = x_9)))) (v' := .bool true) (by kernel_rfl) (congrArg Value.bool h_16)
              refine Q_run default f_76 6 (fun _ => by kernel_rfl) (fun a_60 f_77 => ?_)
              refine Q_end rfl ?_
              intro w_29 p_47
              refine T_n ?_
              exact ⟨(true), (Option.some.inj hF_24).symm, M_9, (Mem.le_refl _), f_77.keep (ks := [3, 4, 7, 8, 9, 10, 67]) (by kernel_rfl), p_47⟩
            · have k_12 : ¬ (¬ (x_8 = x_9)) := iff_f (not_iff decide_eq_true_iff) h_16
              have hF_25 := cnd_f h_16 hF_23
              have f_78 := Frm.set f_75 61 (v := .bool (!(decide (x_8 = x_9)))) (v' := .bool false) (by kernel_rfl) (congrArg Value.bool h_16)
              refine QV_eq (v := .agg #[.int .i8 5, .bool false, .int .i64 0, S [], .slice A_7 [(⟨d0.fKind, (d0.fBool), d0.fNum, d0.fText, d0.fList, d0.fKeys⟩ : T_api_Value)].length cap_7, .slice A_8 ([d2] : List (List UInt8)).length cap_8]) f_78 (by kernel_rfl) (fun _ pq => X_loadN (cs := [.int .i8 5, .bool false, .int .i64 0, S [], .slice A_7 [(⟨d0.fKind, (d0.fBool), d0.fNum, d0.fText, d0.fList, d0.fKeys⟩ : T_api_Value)].length cap_7, .slice A_8 ([d2] : List (List UInt8)).length cap_8]) rfl (ad := ⟨b_9, 0, none⟩) (by kernel_rfl) (by kernel_rfl) (own_cells (pq.ownCell 1 rfl) 0 rfl)) (fun a_61 f_79 => ?_)
              obtain ⟨x_10, hx_10, hF_26⟩ := bind_some' hF_25
              refine QV_okv f_79 (tree_Depth_ok n _ _ (⟨(5 : Int), (false), (0 : Int), ([] : List UInt8), [(⟨d0.fKind, (d0.fBool), d0.fNum, d0.fText, d0.fList, d0.fKeys⟩ : T_api_Value)], ([d2] : List (List UInt8))⟩ : T_api_Value) (T_api_Value.shut (h_10.mono ((hM_7.trans hM_8).trans hM_9)) (h_11.mono (hM_8.trans hM_9))) x_10 hx_10) (by kernel_rfl) (fun _ => by kernel_rfl) (fun a_62 f_80 => ?_)
              refine QV_eq (v := .agg #[.int .i8 4, .bool false, .int .i64 0, S [], .slice A_5 [(⟨d0.fKind, (d0.fBool), d0.fNum, d0.fText, d0.fList, d0.fKeys⟩ : T_api_Value)].length cap_5, .slice none 0 0]) f_80 (by kernel_rfl) (fun _ pq => X_loadN (cs := [.int .i8 4, .bool false, .int .i64 0, S [], .slice A_5 [(⟨d0.fKind, (d0.fBool), d0.fNum, d0.fText, d0.fList, d0.fKeys⟩ : T_api_Value)].length cap_5, .slice none 0 0]) rfl (ad := ⟨b_4, 0, none⟩) (by kernel_rfl) (by kernel_rfl) (own_cells (pq.ownCell 3 rfl) 0 rfl)) (fun a_63 f_81 => ?_)
              obtain ⟨x_11, hx_11, hF_27⟩ := bind_some' hF_26
              refine QV_okv f_81 (tree_Depth_ok n _ _ (⟨(4 : Int), (false), (0 : Int), ([] : List UInt8), [(⟨d0.fKind, (d0.fBool), d0.fNum, d0.fText, d0.fList, d0.fKeys⟩ : T_api_Value)], ([] : List (List UInt8))⟩ : T_api_Value) (T_api_Value.shut (h_8.mono ((((hM_5.trans hM_6).trans hM_7).trans hM_8).trans hM_9)) Sli.nil) x_11 hx_11) (by kernel_rfl) (fun _ => by kernel_rfl) (fun a_64 f_82 => ?_)
              refine Q_run default f_82 2 (fun _ => by kernel_rfl) (fun a_65 f_83 => ?_)
              refine Q_end rfl ?_
              intro w_32 p_50
              refine T_n ?_
              exact ⟨(!(decide (x_10 = x_11))), (Option.some.inj hF_27).symm, M_9, (Mem.le_refl _), f_83.keep (ks := [3, 4, 7, 8, 9, 10, 67]) (by kernel_rfl), p_50⟩
      · rintro a_66 w_33 ⟨y_2, hq_2, M_10, hM_10, f_84, p_51⟩
        subst j_2
        refine T_n ?_
        refine R_cond f_84 (b := y_2) (by kernel_rfl) (by kernel_rfl) (fun h_17 => ?_) (fun h_17 => ?_)
        · have hF_28 := cnd_t h_17 hF_11
          refine R_seq (R_reg ?_)
          refine V_run f_84 1 (by kernel_rfl) (fun a_67 f_85 => ?_)
          refine W_end rfl (T_n (wp_ret (T_r ?_)))
          refine E_ret1 f_85 rfl (by kernel_rfl : Vc.look _ 6 = some (.bool false)) ?_
          obtain rfl := Option.some.inj hF_28
          exact ⟨_, rfl, M_10, (((((((((hM_1.trans hM_2).trans hM_3).trans hM_4).trans hM_5).trans hM_6).trans hM_7).trans hM_8).trans hM_9).trans hM_10), (p_51.dropN 4), rfl⟩
        · have hF_29 := cnd_f h_17 hF_11
          refine wp_skip (T_n (R_seq (R_seq ?_)))
          obtain ⟨j_3, hj_3, hF_30⟩ := bind_some' hF_29
          refine R_mid (fun a_91 w_44 => ∃ y_3 : Bool, j_3 = y_3 ∧ ∃ M_11 : Mem, M_10.le M_11 ∧ Frm 131 [(3, .pointer (some (⟨b_1, 0, none⟩))), (4, .pointer (some (⟨b_2, 0, none⟩))), (7, .pointer (some (⟨b_4, 0, none⟩))), (9, .pointer (some (⟨b_9, 0, none⟩))), (10, .pointer (some (⟨b_12, 0, none⟩))), (93, .bool y_3)] a_91 ∧ Hp w0 M_11 ((Ent.obj b_12 (.cells #[.int .i8 5, .bool false, .int .i64 0, S [], .slice A_9 [(⟨d1.fKind, (d1.fBool), d1.fNum, d1.fText, d1.fList, d1.fKeys⟩ : T_api_Value)].length cap_9, .slice A_10 ([d2] : List (List UInt8)).length cap_10] 26 (0, 0))) :: (Ent.obj b_9 (.cells #[.int .i8 5, .bool false, .int .i64 0, S [], .slice A_7 [(⟨d0.fKind, (d0.fBool), d0.fNum, d0.fText, d0.fList, d0.fKeys⟩ : T_api_Value)].length cap_7, .slice A_8 ([d2] : List (List UInt8)).length cap_8] 26 (0, 0))) :: (Ent.obj b_6 (.cells #[.int .i8 4, .bool false, .int .i64 0, S [], .slice A_6 [(⟨d1.fKind, (d1.fBool), d1.fNum, d1.fText, d1.fList, d1.fKeys⟩ : T_api_Value)].length cap_6, .slice none 0 0] 26 (0, 0))) :: (Ent.obj b_4 (.cells #[.int .i8 4, .bool false, .int .i64 0, S [], .slice A_5 [(⟨d0.fKind, (d0.fBool), d0.fNum, d0.fText, d0.fList, d0.fKeys⟩ : T_api_Value)].length cap_5, .slice none 0 0] 26 (0, 0))) :: H) w_44) ?_ ?_
          · refine R_draw p_51 (by kernel_rfl) (by kernel_rfl) ?_
            refine QV_eq (v := .agg #[.int .i8 4, .bool false, .int .i64 0, S [], .slice A_5 [(⟨d0.fKind, (d0.fBool), d0.fNum, d0.fText, d0.fList, d0.fKeys⟩ : T_api_Value)].length cap_5, .slice none 0 0]) f_84 (by kernel_rfl) (fun _ pq => X_loadN (cs := [.int .i8 4, .bool false, .int .i64 0, S [], .slice A_5 [(⟨d0.fKind, (d0.fBool), d0.fNum, d0.fText, d0.fList, d0.fKeys⟩ : T_api_Value)].length cap_5, .slice none 0 0]) rfl (ad := ⟨b_4, 0, none⟩) (by kernel_rfl) (by kernel_rfl) (own_cells (pq.ownCell 3 rfl) 0 rfl)) (fun a_68 f_86 => ?_)
            obtain ⟨x_12, hx_12, hF_31⟩ := bind_some' hj_3
            refine QV_okv f_86 (tree_Check_ok n _ (GL.mono (((((((((hM_1.trans hM_2).trans hM_3).trans hM_4).trans hM_5).trans hM_6).trans hM_7).trans hM_8).trans hM_9).trans hM_10) hG) _ (⟨(4 : Int), (false), (0 : Int), ([] : List UInt8), [(⟨d0.fKind, (d0.fBool), d0.fNum, d0.fText, d0.fList, d0.fKeys⟩ : T_api_Value)], ([] : List (List UInt8))⟩ : T_api_Value) (T_api_Value.shut (h_8.mono (((((hM_5.trans hM_6).trans hM_7).trans hM_8).trans hM_9).trans hM_10)) Sli.nil) x_12 hx_12) (by kernel_rfl) (fun _ => by kernel_rfl) (fun a_69 f_87 => ?_)
            refine Q_run default f_87 2 (fun _ => by kernel_rfl) (fun a_70 f_88 => ?_)
            rcases Bool.eq_false_or_eq_true (decide (x_12 = 0)) with h_18 | h_18
            · have k_15 : x_12 = 0 := decide_eq_true_iff.1 h_18
              have hF_32 := cnd_t h_18 hF_31
              have f_89 := Frm.set f_88 71 (v := .bool (decide (x_12 = 0))) (v' := .bool true) (by kernel_rfl) (congrArg Value.bool h_18)
              refine QV_eq (v := .agg #[.int .i8 4, .bool false, .int .i64 0, S [], .slice A_6 [(⟨d1.fKind, (d1.fBool), d1.fNum, d1.fText, d1.fList, d1.fKeys⟩ : T_api_Value)].length cap_6, .slice none 0 0]) f_89 (by kernel_rfl) (fun _ pq => X_loadN (cs := [.int .i8 4, .bool false, .int .i64 0, S [], .slice A_6 [(⟨d1.fKind, (d1.fBool), d1.fNum, d1.fText, d1.fList, d1.fKeys⟩ : T_api_Value)].length cap_6, .slice none 0 0]) rfl (ad := ⟨b_6, 0, none⟩) (by kernel_rfl) (by kernel_rfl) (own_cells (pq.ownCell 2 rfl) 0 rfl)) (fun a_71 f_90 => ?_)
              obtain ⟨x_13, hx_13, hF_33⟩ := bind_some' hF_32
              refine QV_okv f_90 (tree_Check_ok n _ (GL.mono (((((((((hM_1.trans hM_2).trans hM_3).trans hM_4).trans hM_5).trans hM_6).trans hM_7).trans hM_8).trans hM_9).trans hM_10) hG) _ (⟨(4 : Int), (false), (0 : Int), ([] : List UInt8), [(⟨d1.fKind, (d1.fBool), d1.fNum, d1.fText, d1.fList, d1.fKeys⟩ : T_api_Value)], ([] : List (List UInt8))⟩ : T_api_Value) (T_api_Value.shut (h_9.mono ((((hM_6.trans hM_7).trans hM_8).trans hM_9).trans hM_10)) Sli.nil) x_13 hx_13) (by kernel_rfl) (fun _ => by kernel_rfl) (fun a_72 f_91 => ?_)
              refine Q_run default f_91 3 (fun _ => by kernel_rfl) (fun a_73 f_92 => ?_)
              rcases Bool.eq_false_or_eq_true (decide (x_13 = 0)) with h_19 | h_19
              · have k_16 : x_13 = 0 := decide_eq_true_iff.1 h_19
                have hF_34 := cnd_t h_19 hF_33
                have f_93 := Frm.set f_92 76 (v := .bool (decide (x_13 = 0))) (v' := .bool true) (by kernel_rfl) (congrArg Value.bool h_19)
                refine QV_eq (v := .agg #[.int .i8 4, .bool false, .int .i64 0, S [], .slice A_5 [(⟨d0.fKind, (d0.fBool), d0.fNum, d0.fText, d0.fList, d0.fKeys⟩ : T_api_Value)].length cap_5, .slice none 0 0]) f_93 (by kernel_rfl) (fun _ pq => X_loadN (cs := [.int .i8 4, .bool false, .int .i64 0, S [], .slice A_5 [(⟨d0.fKind, (d0.fBool), d0.fNum, d0.fText, d0.fList, d0.fKeys⟩ : T_api_Value)].length cap_5, .slice none 0 0]) rfl (ad := ⟨b_4, 0, none⟩) (by kernel_rfl) (by kernel_rfl) (own_cells (pq.ownCell 3 rfl) 0 rfl)) (fun a_74 f_94 => ?_)
                refine QV_eq (v := .agg #[.int .i8 4, .bool false, .int .i64 0, S [], .slice A_6 [(⟨d1.fKind, (d1.fBool), d1.fNum, d1.fText, d1.fList, d1.fKeys⟩ : T_api_Value)].length cap_6, .slice none 0 0]) f_94 (by kernel_rfl) (fun _ pq => X_loadN (cs := [.int .i8 4, .bool false, .int .i64 0, S [], .slice A_6 [(⟨d1.fKind, (d1.fBool), d1.fNum, d1.fText, d1.fList, d1.fKeys⟩ : T_api_Value)].length cap_6, .slice none 0 0]) rfl (ad := ⟨b_6, 0, none⟩) (by kernel_rfl) (by kernel_rfl) (own_cells (pq.ownCell 2 rfl) 0 rfl)) (fun a_75 f_95 => ?_)
                obtain ⟨x_14, hx_14, hF_35⟩ := bind_some' hF_34
                refine QV_okv f_95 (tree_Less_ok n _ (GL.mono (((((((((hM_1.trans hM_2).trans hM_3).trans hM_4).trans hM_5).trans hM_6).trans hM_7).trans hM_8).trans hM_9).trans hM_10) hG) _ (⟨(4 : Int), (false), (0 : Int), ([] : List UInt8), [(⟨d0.fKind, (d0.fBool), d0.fNum, d0.fText, d0.fList, d0.fKeys⟩ : T_api_Value)], ([] : List (List UInt8))⟩ : T_api_Value) (T_api_Value.shut (h_8.mono (((((hM_5.trans hM_6).trans hM_7).trans hM_8).trans hM_9).trans hM_10)) Sli.nil) _ (⟨(4 : Int), (false), (0 : Int), ([] : List UInt8), [(⟨d1.fKind, (d1.fBool), d1.fNum, d1.fText, d1.fList, d1.fKeys⟩ : T_api_Value)], ([] : List (List UInt8))⟩ : T_api_Value) (T_api_Value.shut (h_9.mono ((((hM_6.trans hM_7).trans hM_8).trans hM_9).trans hM_10)) Sli.nil) x_14 hx_14) (by kernel_rfl) (fun _ => by kernel_rfl) (fun a_76 f_96 => ?_)
                refine QV_eq (v := .agg #[.int .i8 d0.fKind, .bool d0.fBool, .int .i64 d0.fNum, S d0.fText, .slice A_1 d0.fList.length cap_1, .slice A_2 d0.fKeys.length cap_2]) f_96 (by kernel_rfl) (fun _ pq => X_loadN (cs := [.int .i8 d0.fKind, .bool d0.fBool, .int .i64 d0.fNum, S d0.fText, .slice A_1 d0.fList.length cap_1, .slice A_2 d0.fKeys.length cap_2]) rfl (ad := ⟨b_1, 0, none⟩) (by kernel_rfl) (by kernel_rfl) (fun j v h => pq.cell ((fzu ((((((((hM_2.trans hM_3).trans hM_4).trans hM_5).trans hM_6).trans hM_7).trans hM_8).trans hM_9).trans hM_10) hc_2) j v h))) (fun a_77 f_97 => ?_)
                refine QV_eq (v := .agg #[.int .i8 d1.fKind, .bool d1.fBool, .int .i64 d1.fNum, S d1.fText, .slice A_3 d1.fList.length cap_3, .slice A_4 d1.fKeys.length cap_4]) f_97 (by kernel_rfl) (fun _ pq => X_loadN (cs := [.int .i8 d1.fKind, .bool d1.fBool, .int .i64 d1.fNum, S d1.fText, .slice A_3 d1.fList.length cap_3, .slice A_4 d1.fKeys.length cap_4]) rfl (ad := ⟨b_2, 0, none⟩) (by kernel_rfl) (by kernel_rfl) (fun j v h => pq.cell ((fzu (((((((hM_3.trans hM_4).trans hM_5).trans hM_6).trans hM_7).trans hM_8).trans hM_9).trans hM_10) hc_4) j v h))) (fun a_78 f_98 => ?_)
                obtain ⟨x_15, hx_15, hF_36⟩ := bind_some' hF_35
                refine QV_okv f_98 (tree_Less_ok n _ (GL.mono (((((((((hM_1.trans hM_2).trans hM_3).trans hM_4).trans hM_5).trans hM_6).trans hM_7).trans hM_8).trans hM_9).trans hM_10) hG) _ d0 (T_api_Value.shutx (x := d0) (h_1.mono (((((((((hM_1.trans hM_2).trans hM_3).trans hM_4).trans hM_5).trans hM_6).trans hM_7).trans hM_8).trans hM_9).trans hM_10)) (h_2.mono (((((((((hM_1.trans hM_2).trans hM_3).trans hM_4).trans hM_5).trans hM_6).trans hM_7).trans hM_8).trans hM_9).trans hM_10))) _ d1 (T_api_Value.shutx (x := d1) (h_3.mono (((((((((hM_1.trans hM_2).trans hM_3).trans hM_4).trans hM_5).trans hM_6).trans hM_7).trans hM_8).trans hM_9).trans hM_10)) (h_4.mono (((((((((hM_1.trans hM_2).trans hM_3).trans hM_4).trans hM_5).trans hM_6).trans hM_7).trans hM_8).trans hM_9).trans hM_10))) x_15 hx_15) (by kernel_rfl) (fun _ => by kernel_rfl) (fun a_79 f_99 => ?_)
                refine Q_run default f_99 2 (fun _ => by kernel_rfl) (fun a_80 f_100 => ?_)
                rcases Bool.eq_false_or_eq_true (!(x_14 == x_15)) with h_20 | h_20
                · have k_17 : (x_14 == x_15) = false := by simpa using h_20
                  have hF_37 := cnd_t h_20 hF_36
                  have f_101 := Frm.set f_100 84 (v := .bool (!(x_14 == x_15))) (v' := .bool true) (by kernel_rfl) (congrArg Value.bool h_20)
                  refine Q_run default f_101 9 (fun _ => by kernel_rfl) (fun a_81 f_102 => ?_)
                  refine Q_end rfl ?_
                  intro w_38 p_56
                  refine T_n ?_
                  exact ⟨(true), (Option.some.inj hF_37).symm, M_10, (Mem.le_refl _), f_102.keep (ks := [3, 4, 7, 9, 10, 93]) (by kernel_rfl), p_56⟩
                · have k_18 : (x_14 == x_15) = true := by simpa using h_20
                  have hF_38 := cnd_f h_20 hF_36
                  have f_103 := Frm.set f_100 84 (v := .bool (!(x_14 == x_15))) (v' := .bool false) (by kernel_rfl) (congrArg Value.bool h_20)
                  refine QV_eq (v := .agg #[.int .i8 4, .bool false, .int .i64 0, S [], .slice A_5 [(⟨d0.fKind, (d0.fBool), d0.fNum, d0.fText, d0.fList, d0.fKeys⟩ : T_api_Value)].length cap_5, .slice none 0 0]) f_103 (by kernel_rfl) (fun _ pq => X_loadN (cs := [.int .i8 4, .bool false, .int .i64 0, S [], .slice A_5 [(⟨d0.fKind, (d0.fBool), d0.fNum, d0.fText, d0.fList, d0.fKeys⟩ : T_api_Value)].length cap_5, .slice none 0 0]) rfl (ad := ⟨b_4, 0, none⟩) (by kernel_rfl) (by kernel_rfl) (own_cells (pq.ownCell 3 rfl) 0 rfl)) (fun a_82 f_104 => ?_)
                  refine QV_eq (v := .agg #[.int .i8 4, .bool false, .int .i64 0, S [], .slice A_6 [(⟨d1.fKind, (d1.fBool), d1.fNum, d1.fText, d1.fList, d1.fKeys⟩ : T_api_Value)].length cap_6, .slice none 0 0]) f_104 (by kernel_rfl) (fun _ pq => X_loadN (cs := [.int .i8 4, .bool false, .int .i64 0, S [], .slice A_6 [(⟨d1.fKind, (d1.fBool), d1.fNum, d1.fText, d1.fList, d1.fKeys⟩ : T_api_Value)].length cap_6, .slice none 0 0]) rfl (ad := ⟨b_6, 0, none⟩) (by kernel_rfl) (by kernel_rfl) (own_cells (pq.ownCell 2 rfl) 0 rfl)) (fun a_83 f_105 => ?_)
                  obtain ⟨x_16, hx_16, hF_39⟩ := bind_some' hF_38
                  refine QV_okv f_105 (tree_Equal_ok n _ (GL.mono (((((((((hM_1.trans hM_2).trans hM_3).trans hM_4).trans hM_5).trans hM_6).trans hM_7).trans hM_8).trans hM_9).trans hM_10) hG) _ (⟨(4 : Int), (false), (0 : Int), ([] : List UInt8), [(⟨d0.fKind, (d0.fBool), d0.fNum, d0.fText, d0.fList, d0.fKeys⟩ : T_api_Value)], ([] : List (List UInt8))⟩ : T_api_Value) (T_api_Value.shut (h_8.mono (((((hM_5.trans hM_6).trans hM_7).trans hM_8).trans hM_9).trans hM_10)) Sli.nil) _ (⟨(4 : Int), (false), (0 : Int), ([] : List UInt8), [(⟨d1.fKind, (d1.fBool), d1.fNum, d1.fText, d1.fList, d1.fKeys⟩ : T_api_Value)], ([] : List (List UInt8))⟩ : T_api_Value) (T_api_Value.shut (h_9.mono ((((hM_6.trans hM_7).trans hM_8).trans hM_9).trans hM_10)) Sli.nil) x_16 hx_16) (by kernel_rfl) (fun _ => by kernel_rfl) (fun a_84 f_106 => ?_)
                  refine QV_eq (v := .agg #[.int .i8 d0.fKind, .bool d0.fBool, .int .i64 d0.fNum, S d0.fText, .slice A_1 d0.fList.length cap_1, .slice A_2 d0.fKeys.length cap_2]) f_106 (by kernel_rfl) (fun _ pq => X_loadN (cs := [.int .i8 d0.fKind, .bool d0.fBool, .int .i64 d0.fNum, S d0.fText, .slice A_1 d0.fList.length cap_1, .slice A_2 d0.fKeys.length cap_2]) rfl (ad := ⟨b_1, 0, none⟩) (by kernel_rfl) (by kernel_rfl) (fun j v h => pq.cell ((fzu ((((((((hM_2.trans hM_3).trans hM_4).trans hM_5).trans hM_6).trans hM_7).trans hM_8).trans hM_9).trans hM_10) hc_2) j v h))) (fun a_85 f_107 => ?_)
                  refine QV_eq (v := .agg #[.int .i8 d1.fKind, .bool d1.fBool, .int .i64 d1.fNum, S d1.fText, .slice A_3 d1.fList.length cap_3, .slice A_4 d1.fKeys.length cap_4]) f_107 (by kernel_rfl) (fun _ pq => X_loadN (cs := [.int .i8 d1.fKind, .bool d1.fBool, .int .i64 d1.fNum, S d1.fText, .slice A_3 d1.fList.length cap_3, .slice A_4 d1.fKeys.length cap_4]) rfl (ad := ⟨b_2, 0, none⟩) (by kernel_rfl) (by kernel_rfl) (fun j v h => pq.cell ((fzu (((((((hM_3.trans hM_4).trans hM_5).trans hM_6).trans hM_7).trans hM_8).trans hM_9).trans hM_10) hc_4) j v h))) (fun a_86 f_108 => ?_)
                  obtain ⟨x_17, hx_17, hF_40⟩ := bind_some' hF_39
                  refine QV_okv f_108 (tree_Equal_ok n _ (GL.mono (((((((((hM_1.trans hM_2).trans hM_3).trans hM_4).trans hM_5).trans hM_6).trans hM_7).trans hM_8).trans hM_9).trans hM_10) hG) _ d0 (T_api_Value.shutx (x := d0) (h_1.mono (((((((((hM_1.trans hM_2).trans hM_3).trans hM_4).trans hM_5).trans hM_6).trans hM_7).trans hM_8).trans hM_9).trans hM_10)) (h_2.mono (((((((((hM_1.trans hM_2).trans hM_3).trans hM_4).trans hM_5).trans hM_6).trans hM_7).trans hM_8).trans hM_9).trans hM_10))) _ d1 (T_api_Value.shutx (x := d1) (h_3.mono (((((((((hM_1.trans hM_2).trans hM_3).trans hM_4).trans hM_5).trans hM_6).trans hM_7).trans hM_8).trans hM_9).trans hM_10)) (h_4.mono (((((((((hM_1.trans hM_2).trans hM_3).trans hM_4).trans hM_5).trans hM_6).trans hM_7).trans hM_8).trans hM_9).trans hM_10))) x_17 hx_17) (by kernel_rfl) (fun _ => by kernel_rfl) (fun a_87 f_109 => ?_)
                  refine Q_run default f_109 3 (fun _ => by kernel_rfl) (fun a_88 f_110 => ?_)
                  refine Q_end rfl ?_
                  intro w_41 p_59
                  refine T_n ?_
                  exact ⟨(!(x_16 == x_17)), (Option.some.inj hF_40).symm, M_10, (Mem.le_refl _), f_110.keep (ks := [3, 4, 7, 9, 10, 93]) (by kernel_rfl), p_59⟩
              · have k_19 : ¬ (x_13 = 0) := iff_f decide_eq_true_iff h_19
                have hF_41 := cnd_f h_19 hF_33
                have f_111 := Frm.set f_92 76 (v := .bool (decide (x_13 = 0))) (v' := .bool false) (by kernel_rfl) (congrArg Value.bool h_19)
                refine Q_run default f_111 17 (fun _ => by kernel_rfl) (fun a_89 f_112 => ?_)
                refine Q_end rfl ?_
                intro w_42 p_60
                refine T_n ?_
                exact ⟨(false), (Option.some.inj hF_41).symm, M_10, (Mem.le_refl _), f_112.keep (ks := [3, 4, 7, 9, 10, 93]) (by kernel_rfl), p_60⟩
            · have k_20 : ¬ (x_12 = 0) := iff_f decide_eq_true_iff h_18
              have hF_42 := cnd_f h_18 hF_31
              have f_113 := Frm.set f_88 71 (v := .bool (decide (x_12 = 0))) (v' := .bool false) (by kernel_rfl) (congrArg Value.bool h_18)
              refine Q_run default f_113 22 (fun _ => by kernel_rfl) (fun a_90 f_114 => ?_)
              refine Q_end rfl ?_
              intro w_43 p_61
              refine T_n ?_
              exact ⟨(false), (Option.some.inj hF_42).symm, M_10, (Mem.le_refl _), f_114.keep (ks := [3, 4, 7, 9, 10, 93]) (by kernel_rfl), p_61⟩
          · rintro a_91 w_44 ⟨y_3, hq_3, M_11, hM_11, f_115, p_62⟩
            subst j_3
            refine T_n ?_
            refine R_cond f_115 (b := y_3) (by kernel_rfl) (by kernel_rfl) (fun h_21 => ?_) (fun h_21 => ?_)
            · have hF_43 := cnd_t h_21 hF_30
              refine R_seq (R_reg ?_)
              refine V_run f_115 1 (by kernel_rfl) (fun a_92 f_116 => ?_)
              refine W_end rfl (T_n (wp_ret (T_r ?_)))
              refine E_ret1 f_116 rfl (by kernel_rfl : Vc.look _ 6 = some (.bool false)) ?_
              obtain rfl := Option.some.inj hF_43
              exact ⟨_, rfl, M_11, ((((((((((hM_1.trans hM_2).trans hM_3).trans hM_4).trans hM_5).trans hM_6).trans hM_7).trans hM_8).trans hM_9).trans hM_10).trans hM_11), (p_62.dropN 4), rfl⟩
            · have hF_44 := cnd_f h_21 hF_30
              refine wp_skip (T_n (R_seq (R_seq ?_)))
              obtain ⟨j_4, hj_4, hF_45⟩ := bind_some' hF_44
              refine R_mid (fun a_116 w_55 => ∃ y_4 : Bool, j_4 = y_4 ∧ ∃ M_12 : Mem, M_11.le M_12 ∧ Frm 131 [(3, .pointer (some (⟨b_1, 0, none⟩))), (7, .pointer (some (⟨b_4, 0, none⟩))), (119, .bool y_4)] a_116 ∧ Hp w0 M_12 ((Ent.obj b_12 (.cells #[.int .i8 5, .bool false, .int .i64 0, S [], .slice A_9 [(⟨d1.fKind, (d1.fBool), d1.fNum, d1.fText, d1.fList, d1.fKeys⟩ : T_api_Value)].length cap_9, .slice A_10 ([d2] : List (List UInt8)).length cap_10] 26 (0, 0))) :: (Ent.obj b_9 (.cells #[.int .i8 5, .bool false, .int .i64 0, S [], .slice A_7 [(⟨d0.fKind, (d0.fBool), d0.fNum, d0.fText, d0.fList, d0.fKeys⟩ : T_api_Value)].length cap_7, .slice A_8 ([d2] : List (List UInt8)).length cap_8] 26 (0, 0))) :: (Ent.obj b_6 (.cells #[.int .i8 4, .bool false, .int .i64 0, S [], .slice A_6 [(⟨d1.fKind, (d1.fBool), d1.fNum, d1.fText, d1.fList, d1.fKeys⟩ : T_api_Value)].length cap_6, .slice none 0 0] 26 (0, 0))) :: (Ent.obj b_4 (.cells #[.int .i8 4, .bool false, .int .i64 0, S [], .slice A_5 [(⟨d0.fKind, (d0.fBool), d0.fNum, d0.fText, d0.fList, d0.fKeys⟩ : T_api_Value)].length cap_5, .slice none 0 0] 26 (0, 0))) :: H) w_55) ?_ ?_
              · refine R_draw p_62 (by kernel_rfl) (by kernel_rfl) ?_
                refine QV_eq (v := .agg #[.int .i8 5, .bool false, .int .i64 0, S [], .slice A_7 [(⟨d0.fKind, (d0.fBool), d0.fNum, d0.fText, d0.fList, d0.fKeys⟩ : T_api_Value)].length cap_7, .slice A_8 ([d2] : List (List UInt8)).length cap_8]) f_115 (by kernel_rfl) (fun _ pq => X_loadN (cs := [.int .i8 5, .bool false, .int .i64 0, S [], .slice A_7 [(⟨d0.fKind, (d0.fBool), d0.fNum, d0.fText, d0.fList, d0.fKeys⟩ : T_api_Value)].length cap_7, .slice A_8 ([d2] : List (List UInt8)).length cap_8]) rfl (ad := ⟨b_9, 0, none⟩) (by kernel_rfl) (by kernel_rfl) (own_cells (pq.ownCell 1 rfl) 0 rfl)) (fun a_93 f_117 => ?_)
                obtain ⟨x_18, hx_18, hF_46⟩ := bind_some' hj_4
                refine QV_okv f_117 (tree_Check_ok n _ (GL.mono ((((((((((hM_1.trans hM_2).trans hM_3).trans hM_4).trans hM_5).trans hM_6).trans hM_7).trans hM_8).trans hM_9).trans hM_10).trans hM_11) hG) _ (⟨(5 : Int), (false), (0 : Int), ([] : List UInt8), [(⟨d0.fKind, (d0.fBool), d0.fNum, d0.fText, d0.fList, d0.fKeys⟩ : T_api_Value)], ([d2] : List (List UInt8))⟩ : T_api_Value) (T_api_Value.shut (h_10.mono ((((hM_7.trans hM_8).trans hM_9).trans hM_10).trans hM_11)) (h_11.mono (((hM_8.trans hM_9).trans hM_10).trans hM_11))) x_18 hx_18) (by kernel_rfl) (fun _ => by kernel_rfl) (fun a_94 f_118 => ?_)
                refine Q_run default f_118 2 (fun _ => by kernel_rfl) (fun a_95 f_119 => ?_)
                rcases Bool.eq_false_or_eq_true (decide (x_18 = 0)) with h_22 | h_22
                · have k_23 : x_18 = 0 := decide_eq_true_iff.1 h_22
                  have hF_47 := cnd_t h_22 hF_46
                  have f_120 := Frm.set f_119 97 (v := .bool (decide (x_18 = 0))) (v' := .bool true) (by kernel_rfl) (congrArg Value.bool h_22)
                  refine QV_eq (v := .agg #[.int .i8 5, .bool false, .int .i64 0, S [], .slice A_9 [(⟨d1.fKind, (d1.fBool), d1.fNum, d1.fText, d1.fList, d1.fKeys⟩ : T_api_Value)].length cap_9, .slice A_10 ([d2] : List (List UInt8)).length cap_10]) f_120 (by kernel_rfl) (fun _ pq => X_loadN (cs := [.int .i8 5, .bool false, .int .i64 0, S [], .slice A_9 [(⟨d1.fKind, (d1.fBool), d1.fNum, d1.fText, d1.fList, d1.fKeys⟩ : T_api_Value)].length cap_9, .slice A_10 ([d2] : List (List UInt8)).length cap_10]) rfl (ad := ⟨b_12, 0, none⟩) (by kernel_rfl) (by kernel_rfl) (own_cells (pq.ownCell 0 rfl) 0 rfl)) (fun a_96 f_121 => ?_)
                  obtain ⟨x_19, hx_19, hF_48⟩ := bind_some' hF_47
                  refine QV_okv f_121 (tree_Check_ok n _ (GL.mono ((((((((((hM_1.trans hM_2).trans hM_3).trans hM_4).trans hM_5).trans hM_6).trans hM_7).trans hM_8).trans hM_9).trans hM_10).trans hM_11) hG) _ (⟨(5 : Int), (false), (0 : Int), ([] : List UInt8), [(⟨d1.fKind, (d1.fBool), d1.fNum, d1.fText, d1.fList, d1.fKeys⟩ : T_api_Value)], ([d2] : List (List UInt8))⟩ : T_api_Value) (T_api_Value.shut (h_12.mono ((hM_9.trans hM_10).trans hM_11)) (h_13.mono (hM_10.trans hM_11))) x_19 hx_19) (by kernel_rfl) (fun _ => by kernel_rfl) (fun a_97 f_122 => ?_)
                  refine Q_run default f_122 3 (fun _ => by kernel_rfl) (fun a_98 f_123 => ?_)
                  rcases Bool.eq_false_or_eq_true (decide (x_19 = 0)) with h_23 | h_23
                  · have k_24 : x_19 = 0 := decide_eq_true_iff.1 h_23
                    have hF_49 := cnd_t h_23 hF_48
                    have f_124 := Frm.set f_123 102 (v := .bool (decide (x_19 = 0))) (v' := .bool true) (by kernel_rfl) (congrArg Value.bool h_23)
                    refine QV_eq (v := .agg #[.int .i8 5, .bool false, .int .i64 0, S [], .slice A_7 [(⟨d0.fKind, (d0.fBool), d0.fNum, d0.fText, d0.fList, d0.fKeys⟩ : T_api_Value)].length cap_7, .slice A_8 ([d2] : List (List UInt8)).length cap_8]) f_124 (by kernel_rfl) (fun _ pq => X_loadN (cs := [.int .i8 5, .bool false, .int .i64 0, S [], .slice A_7 [(⟨d0.fKind, (d0.fBool), d0.fNum, d0.fText, d0.fList, d0.fKeys⟩ : T_api_Value)].length cap_7, .slice A_8 ([d2] : List (List UInt8)).length cap_8]) rfl (ad := ⟨b_9, 0, none⟩) (by kernel_rfl) (by kernel_rfl) (own_cells (pq.ownCell 1 rfl) 0 rfl)) (fun a_99 f_125 => ?_)
                    refine QV_eq (v := .agg #[.int .i8 5, .bool false, .int .i64 0, S [], .slice A_9 [(⟨d1.fKind, (d1.fBool), d1.fNum, d1.fText, d1.fList, d1.fKeys⟩ : T_api_Value)].length cap_9, .slice A_10 ([d2] : List (List UInt8)).length cap_10]) f_125 (by kernel_rfl) (fun _ pq => X_loadN (cs := [.int .i8 5, .bool false, .int .i64 0, S [], .slice A_9 [(⟨d1.fKind, (d1.fBool), d1.fNum, d1.fText, d1.fList, d1.fKeys⟩ : T_api_Value)].length cap_9, .slice A_10 ([d2] : List (List UInt8)).length cap_10]) rfl (ad := ⟨b_12, 0, none⟩) (by kernel_rfl) (by kernel_rfl) (own_cells (pq.ownCell 0 rfl) 0 rfl)) (fun a_100 f_126 => ?_)
                    obtain ⟨x_20, hx_20, hF_50⟩ := bind_some' hF_49
                    refine QV_okv f_126 (tree_Less_ok n _ (GL.mono ((((((((((hM_1.trans hM_2).trans hM_3).trans hM_4).trans hM_5).trans hM_6).trans hM_7).trans hM_8).trans hM_9).trans hM_10).trans hM_11) hG) _ (⟨(5 : Int), (false), (0 : Int), ([] : List UInt8), [(⟨d0.fKind, (d0.fBool), d0.fNum, d0.fText, d0.fList, d0.fKeys⟩ : T_api_Value)], ([d2] : List (List UInt8))⟩ : T_api_Value) (T_api_Value.shut (h_10.mono ((((hM_7.trans hM_8).trans hM_9).trans hM_10).trans hM_11)) (h_11.mono (((hM_8.trans hM_9).trans hM_10).trans hM_11))) _ (⟨(5 : Int), (false), (0 : Int), ([] : List UInt8), [(⟨d1.fKind, (d1.fBool), d1.fNum, d1.fText, d1.fList, d1.fKeys⟩ : T_api_Value)], ([d2] : List (List UInt8))⟩ : T_api_Value) (T_api_Value.shut (h_12.mono ((hM_9.trans hM_10).trans hM_11)) (h_13.mono (hM_10.trans hM_11))) x_20 hx_20) (by kernel_rfl) (fun _ => by kernel_rfl) (fun a_101 f_127 => ?_)
                    refine QV_eq (v := .agg #[.int .i8 d0.fKind, .bool d0.fBool, .int .i64 d0.fNum, S d0.fText, .slice A_1 d0.fList.length cap_1, .slice A_2 d0.fKeys.length cap_2]) f_127 (by kernel_rfl) (fun _ pq => X_loadN (cs := [.int .i8 d0.fKind, .bool d0.fBool, .int .i64 d0.fNum, S d0.fText, .slice A_1 d0.fList.length cap_1, .slice A_2 d0.fKeys.length cap_2]) rfl (ad := ⟨b_1, 0, none⟩) (by kernel_rfl) (by kernel_rfl) (fun j v h => pq.cell ((fzu (((((((((hM_2.trans hM_3).trans hM_4).trans hM_5).trans hM_6).trans hM_7).trans hM_8).trans hM_9).trans hM_10).trans hM_11) hc_2) j v h))) (fun a_102 f_128 => ?_)
                    refine QV_eq (v := .agg #[.int .i8 d1.fKind, .bool d1.fBool, .int .i64 d1.fNum, S d1.fText, .slice A_3 d1.fList.length cap_3, .slice A_4 d1.fKeys.length cap_4]) f_128 (by kernel_rfl) (fun _ pq => X_loadN (cs := [.int .i8 d1.fKind, .bool d1.fBool, .int .i64 d1.fNum, S d1.fText, .slice A_3 d1.fList.length cap_3, .slice A_4 d1.fKeys.length cap_4]) rfl (ad := ⟨b_2, 0, none⟩) (by kernel_rfl) (by kernel_rfl) (fun j v h => pq.cell ((fzu ((((((((hM_3.trans hM_4).trans hM_5).trans hM_6).trans hM_7).trans hM_8).trans hM_9).trans hM_10).trans hM_11) hc_4) j v h))) (fun a_103 f_129 => ?_)
                    obtain ⟨x_21, hx_21, hF_51⟩ := bind_some' hF_50
                    refine QV_okv f_129 (tree_Less_ok n _ (GL.mono ((((((((((hM_1.trans hM_2).trans hM_3).trans hM_4).trans hM_5).trans hM_6).trans hM_7).trans hM_8).trans hM_9).trans hM_10).trans hM_11) hG) _ d0 (T_api_Value.shutx (x := d0) (h_1.mono ((((((((((hM_1.trans hM_2).trans hM_3).trans hM_4).trans hM_5).trans hM_6).trans hM_7).trans hM_8).trans hM_9).trans hM_10).trans hM_11)) (h_2.mono ((((((((((hM_1.trans hM_2).trans hM_3).trans hM_4).trans hM_5).trans hM_6).trans hM_7).trans hM_8).trans hM_9).trans hM_10).trans hM_11))) _ d1 (T_api_Value.shutx (x := d1) (h_3.mono ((((((((((hM_1.trans hM_2).trans hM_3).trans hM_4).trans hM_5).trans hM_6).trans hM_7).trans hM_8).trans hM_9).trans hM_10).trans hM_11)) (h_4.mono ((((((((((hM_1.trans hM_2).trans hM_3).trans hM_4).trans hM_5).trans hM_6).trans hM_7).trans hM_8).trans hM_9).trans hM_10).trans hM_11))) x_21 hx_21) (by kernel_rfl) (fun _ => by kernel_rfl) (fun a_104 f_130 => ?_)
                    refine Q_run default f_130 2 (fun _ => by kernel_rfl) (fun a_105 f_131 => ?_)
                    rcases Bool.eq_false_or_eq_true (!(x_20 == x_21)) with h_24 | h_24
                    · have k_25 : (x_20 == x_21) = false := by simpa using h_24
                      have hF_52 := cnd_t h_24 hF_51
                      have f_132 := Frm.set f_131 110 (v := .bool (!(x_20 == x_21))) (v' := .bool true) (by kernel_rfl) (congrArg Value.bool h_24)
                      refine Q_run default f_132 9 (fun _ => by kernel_rfl) (fun a_106 f_133 => ?_)
                      refine Q_end rfl ?_
                      intro w_49 p_67
                      refine T_n ?_
                      exact ⟨(true), (Option.some.inj hF_52).symm, M_11, (Mem.le_refl _), f_133.keep (ks := [3, 7, 119]) (by kernel_rfl), p_67⟩
                    · have k_26 : (x_20 == x_21) = true := by simpa using h_24
                      have hF_53 := cnd_f h_24 hF_51
                      have f_134 := Frm.set f_131 110 (v := .bool (!(x_20 == x_21))) (v' := .bool false) (by kernel_rfl) (congrArg Value.bool h_24)
                      refine QV_eq (v := .agg #[.int .i8 5, .bool false, .int .i64 0, S [], .slice A_7 [(⟨d0.fKind, (d0.fBool), d0.fNum, d0.fText, d0.fList, d0.fKeys⟩ : T_api_Value)].length cap_7, .slice A_8 ([d2] : List (List UInt8)).length cap_8]) f_134 (by kernel_rfl) (fun _ pq => X_loadN (cs := [.int .i8 5, .bool false, .int .i64 0, S [], .slice A_7 [(⟨d0.fKind, (d0.fBool), d0.fNum, d0.fText, d0.fList, d0.fKeys⟩ : T_api_Value)].length cap_7, .slice A_8 ([d2] : List (List UInt8)).length cap_8]) rfl (ad := ⟨b_9, 0, none⟩) (by kernel_rfl) (by kernel_rfl) (own_cells (pq.ownCell 1 rfl) 0 rfl)) (fun a_107 f_135 => ?_)
                      refine QV_eq (v := .agg #[.int .i8 5, .bool false, .int .i64 0, S [], .slice A_9 [(⟨d1.fKind, (d1.fBool), d1.fNum, d1.fText, d1.fList, d1.fKeys⟩ : T_api_Value)].length cap_9, .slice A_10 ([d2] : List (List UInt8)).length cap_10]) f_135 (by kernel_rfl) (fun _ pq => X_loadN (cs := [.int .i8 5, .bool false, .int .i64 0, S [], .slice A_9 [(⟨d1.fKind, (d1.fBool), d1.fNum, d1.fText, d1.fList, d1.fKeys⟩ : T_api_Value)].length cap_9, .slice A_10 ([d2] : List (List UInt8)).length cap_10]) rfl (ad := ⟨b_12, 0, none⟩) (by kernel_rfl) (by kernel_rfl) (own_cells (pq.ownCell 0 rfl) 0 rfl)) (fun a_108 f_136 => ?_)
                      obtain ⟨x_22, hx_22, hF_54⟩ := bind_some' hF_53
                      refine QV_okv f_136 (tree_Equal_ok n _ (GL.mono ((((((((((hM_1.trans hM_2).trans hM_3).trans hM_4).trans hM_5).trans hM_6).trans hM_7).trans hM_8).trans hM_9).trans hM_10).trans hM_11) hG) _ (⟨(5 : Int), (false), (0 : Int), ([] : List UInt8), [(⟨d0.fKind, (d0.fBool), d0.fNum, d0.fText, d0.fList, d0.fKeys⟩ : T_api_Value)], ([d2] : List (List UInt8))⟩ : T_api_Value) (T_api_Value.shut (h_10.mono ((((hM_7.trans hM_8).trans hM_9).trans hM_10).trans hM_11)) (h_11.mono (((hM_8.trans hM_9).trans hM_10).trans hM_11))) _ (⟨(5 : Int), (false), (0 : Int), ([] : List UInt8), [(⟨d1.fKind, (d1.fBool), d1.fNum, d1.fText, d1.fList, d1.fKeys⟩ : T_api_Value)], ([d2] : List (List UInt8))⟩ : T_api_Value) (T_api_Value.shut (h_12.mono ((hM_9.trans hM_10).trans hM_11)) (h_13.mono (hM_10.trans hM_11))) x_22 hx_22) (by kernel_rfl) (fun _ => by kernel_rfl) (fun a_109 f_137 => ?_)
                      refine QV_eq (v := .agg #[.int .i8 d0.fKind, .bool d0.fBool, .int .i64 d0.fNum, S d0.fText, .slice A_1 d0.fList.length cap_1, .slice A_2 d0.fKeys.length cap_2]) f_137 (by kernel_rfl) (fun _ pq => X_loadN (cs := [.int .i8 d0.fKind, .bool d0.fBool, .int .i64 d0.fNum, S d0.fText, .slice A_1 d0.fList.length cap_1, .slice A_2 d0.fKeys.length cap_2]) rfl (ad := ⟨b_1, 0, none⟩) (by kernel_rfl) (by kernel_rfl) (fun j v h => pq.cell ((fzu (((((((((hM_2.trans hM_3).trans hM_4).trans hM_5).trans hM_6).trans hM_7).trans hM_8).trans hM_9).trans hM_10).trans hM_11) hc_2) j v h))) (fun a_110 f_138 => ?_)
                      refine QV_eq (v := .agg #[.int .i8 d1.fKind, .bool d1.fBool, .int .i64 d1.fNum, S d1.fText, .slice A_3 d1.fList.length cap_3, .slice A_4 d1.fKeys.length cap_4]) f_138 (by kernel_rfl) (fun _ pq => X_loadN (cs := [.int .i8 d1.fKind, .bool d1.fBool, .int .i64 d1.fNum, S d1.fText, .slice A_3 d1.fList.length cap_3, .slice A_4 d1.fKeys.length cap_4]) rfl (ad := ⟨b_2, 0, none⟩) (by kernel_rfl) (by kernel_rfl) (fun j v h => pq.cell ((fzu ((((((((hM_3.trans hM_4).trans hM_5).trans hM_6).trans hM_7).trans hM_8).trans hM_9).trans hM_10).trans hM_11) hc_4) j v h))) (fun a_111 f_139 => ?_)
                      obtain ⟨x_23, hx_23, hF_55⟩ := bind_some' hF_54
                      refine QV_okv f_139 (tree_Equal_ok n _ (GL.mono ((((((((((hM_1.trans hM_2).trans hM_3).trans hM_4).trans hM_5).trans hM_6).trans hM_7).trans hM_8).trans hM_9).trans hM_10).trans hM_11) hG) _ d0 (T_api_Value.shutx (x := d0) (h_1.mono ((((((((((hM_1.trans hM_2).trans hM_3).trans hM_4).trans hM_5).trans hM_6).trans hM_7).trans hM_8).trans hM_9).trans hM_10).trans hM_11)) (h_2.mono ((((((((((hM_1.trans hM_2).trans hM_3).trans hM_4).trans hM_5).trans hM_6).trans hM_7).trans hM_8).trans hM_9).trans hM_10).trans hM_11))) _ d1 (T_api_Value.shutx (x := d1) (h_3.mono ((((((((((hM_1.trans hM_2).trans hM_3).trans hM_4).trans hM_5).trans hM_6).trans hM_7).trans hM_8).trans hM_9).trans hM_10).trans hM_11)) (h_4.mono ((((((((((hM_1.trans hM_2).trans hM_3).trans hM_4).trans hM_5).trans hM_6).trans hM_7).trans hM_8).trans hM_9).trans hM_10).trans hM_11))) x_23 hx_23) (by kernel_rfl) (fun _ => by kernel_rfl) (fun a_112 f_140 => ?_)
                      refine Q_run default f_140 3 (fun _ => by kernel_rfl) (fun a_113 f_141 => ?_)
                      refine Q_end rfl ?_
                      intro w_52 p_70
                      refine T_n ?_
                      exact ⟨(!(x_22 == x_23)), (Option.some.inj hF_55).symm, M_11, (Mem.le_refl _), f_141.keep (ks := [3, 7, 119]) (by kernel_rfl), p_70⟩
                  · have k_27 : ¬ (x_19 = 0) := iff_f decide_eq_true_iff h_23
                    have hF_56 := cnd_f h_23 hF_48
                    have f_142 := Frm.set f_123 102 (v := .bool (decide (x_19 = 0))) (v' := .bool false) (by kernel_rfl) (congrArg Value.bool h_23)
                    refine Q_run default f_142 17 (fun _ => by kernel_rfl) (fun a_114 f_143 => ?_)
                    refine Q_end rfl ?_
                    intro w_53 p_71
                    refine T_n ?_
                    exact ⟨(false), (Option.some.inj hF_56).symm, M_11, (Mem.le_refl _), f_143.keep (ks := [3, 7, 119]) (by kernel_rfl), p_71⟩
                · have k_28 : ¬ (x_18 = 0) := iff_f decide_eq_true_iff h_22
                  have hF_57 := cnd_f h_22 hF_46
                  have f_144 := Frm.set f_119 97 (v := .bool (decide (x_18 = 0))) (v' := .bool false) (by kernel_rfl) (congrArg Value.bool h_22)
                  refine Q_run default f_144 22 (fun _ => by kernel_rfl) (fun a_115 f_145 => ?_)
                  refine Q_end rfl ?_
                  intro w_54 p_72
                  refine T_n ?_
                  exact ⟨(false), (Option.some.inj hF_57).symm, M_11, (Mem.le_refl _), f_145.keep (ks := [3, 7, 119]) (by kernel_rfl), p_72⟩
              · rintro a_116 w_55 ⟨y_4, hq_4, M_12, hM_12, f_146, p_73⟩
                subst j_4
                refine T_n ?_
                refine R_cond f_146 (b := y_4) (by kernel_rfl) (by kernel_rfl) (fun h_25 => ?_) (fun h_25 => ?_)
                · have hF_58 := cnd_t h_25 hF_45
                  refine R_seq (R_reg ?_)
                  refine V_run f_146 1 (by kernel_rfl) (fun a_117 f_147 => ?_)
                  refine W_end rfl (T_n (wp_ret (T_r ?_)))
                  refine E_ret1 f_147 rfl (by kernel_rfl : Vc.look _ 6 = some (.bool false)) ?_
                  obtain rfl := Option.some.inj hF_58
                  exact ⟨_, rfl, M_12, (((((((((((hM_1.trans hM_2).trans hM_3).trans hM_4).trans hM_5).trans hM_6).trans hM_7).trans hM_8).trans hM_9).trans hM_10).trans hM_11).trans hM_12), (p_73.dropN 4), rfl⟩
                · have hF_59 := cnd_f h_25 hF_45
                  refine wp_skip (T_n (R_seq (R_reg ?_)))
                  refine V_eq (v := .agg #[.int .i8 4, .bool false, .int .i64 0, S [], .slice A_5 [(⟨d0.fKind, (d0.fBool), d0.fNum, d0.fText, d0.fList, d0.fKeys⟩ : T_api_Value)].length cap_5, .slice none 0 0]) f_146 (by kernel_rfl) (X_loadN (cs := [.int .i8 4, .bool false, .int .i64 0, S [], .slice A_5 [(⟨d0.fKind, (d0.fBool), d0.fNum, d0.fText, d0.fList, d0.fKeys⟩ : T_api_Value)].length cap_5, .slice none 0 0]) rfl (ad := ⟨b_4, 0, none⟩) (by kernel_rfl) (by kernel_rfl) (own_cells (p_73.ownCell 3 rfl) 0 rfl)) (fun a_118 f_148 => ?_)
                  obtain ⟨x_24, hx_24, hF_60⟩ := bind_some' hF_59
                  refine V_okv f_148 p_73 (tree_Check_ok n _ (GL.mono (((((((((((hM_1.trans hM_2).trans hM_3).trans hM_4).trans hM_5).trans hM_6).trans hM_7).trans hM_8).trans hM_9).trans hM_10).trans hM_11).trans hM_12) hG) _ (⟨(4 : Int), (false), (0 : Int), ([] : List UInt8), [(⟨d0.fKind, (d0.fBool), d0.fNum, d0.fText, d0.fList, d0.fKeys⟩ : T_api_Value)], ([] : List (List UInt8))⟩ : T_api_Value) (T_api_Value.shut (h_8.mono (((((((hM_5.trans hM_6).trans hM_7).trans hM_8).trans hM_9).trans hM_10).trans hM_11).trans hM_12)) Sli.nil) x_24 hx_24) (by kernel_rfl) (fun _ => by kernel_rfl) (fun w_56 p_74 a_119 f_149 => ?_)
                  refine V_run f_149 2 (by kernel_rfl) (fun a_120 f_150 => ?_)
                  rcases Bool.eq_false_or_eq_true (!(decide (x_24 = 0))) with h_26 | h_26
                  · have k_31 : ¬ (x_24 = 0) := (not_iff decide_eq_true_iff).1 h_26
                    have hF_61 := cnd_t h_26 hF_60
                    have f_151 := Frm.set f_150 123 (v := .bool (!(decide (x_24 = 0)))) (v' := .bool true) (by kernel_rfl) (congrArg Value.bool h_26)
                    refine V_run f_151 5 (by kernel_rfl) (fun a_121 f_152 => ?_)
                    obtain ⟨x_25, hx_25, hF_62⟩ := bind_some' hF_61
                    refine V_okv f_152 p_74 (law03_wakes_ok n _ (GL.mono (((((((((((hM_1.trans hM_2).trans hM_3).trans hM_4).trans hM_5).trans hM_6).trans hM_7).trans hM_8).trans hM_9).trans hM_10).trans hM_11).trans hM_12) hG) x_25 hx_25) (by kernel_rfl) (fun _ => by kernel_rfl) (fun w_57 p_75 a_122 f_153 => ?_)
                    refine V_run f_153 2 (by kernel_rfl) (fun a_123 f_154 => ?_)
                    refine W_end rfl (T_n (wp_ret ?_))
                    refine E_ret1 f_154 rfl (by kernel_rfl : Vc.look _ 6 = some (.bool x_25)) ?_
                    obtain rfl := Option.some.inj hF_62
                    exact ⟨_, rfl, M_12, (((((((((((hM_1.trans hM_2).trans hM_3).trans hM_4).trans hM_5).trans hM_6).trans hM_7).trans hM_8).trans hM_9).trans hM_10).trans hM_11).trans hM_12), (p_75.dropN 4), rfl⟩
                  · have k_32 : ¬ (¬ (x_24 = 0)) := iff_f (not_iff decide_eq_true_iff) h_26
                    have hF_63 := cnd_f h_26 hF_60
                    have f_155 := Frm.set f_150 123 (v := .bool (!(decide (x_24 = 0)))) (v' := .bool false) (by kernel_rfl) (congrArg Value.bool h_26)
                    refine V_eq (v := .agg #[.int .i8 d0.fKind, .bool d0.fBool, .int .i64 d0.fNum, S d0.fText, .slice A_1 d0.fList.length cap_1, .slice A_2 d0.fKeys.length cap_2]) f_155 (by kernel_rfl) (X_loadN (cs := [.int .i8 d0.fKind, .bool d0.fBool, .int .i64 d0.fNum, S d0.fText, .slice A_1 d0.fList.length cap_1, .slice A_2 d0.fKeys.length cap_2]) rfl (ad := ⟨b_1, 0, none⟩) (by kernel_rfl) (by kernel_rfl) (fun j v h => p_74.cell ((fzu ((((((((((hM_2.trans hM_3).trans hM_4).trans hM_5).trans hM_6).trans hM_7).trans hM_8).trans hM_9).trans hM_10).trans hM_11).trans hM_12) hc_2) j v h))) (fun a_124 f_156 => ?_)
                    obtain ⟨x_26, hx_26, hF_64⟩ := bind_some' hF_63
                    refine V_okv f_156 p_74 (tree_Check_ok n _ (GL.mono (((((((((((hM_1.trans hM_2).trans hM_3).trans hM_4).trans hM_5).trans hM_6).trans hM_7).trans hM_8).trans hM_9).trans hM_10).trans hM_11).trans hM_12) hG) _ d0 (T_api_Value.shutx (x := d0) (h_1.mono (((((((((((hM_1.trans hM_2).trans hM_3).trans hM_4).trans hM_5).trans hM_6).trans hM_7).trans hM_8).trans hM_9).trans hM_10).trans hM_11).trans hM_12)) (h_2.mono (((((((((((hM_1.trans hM_2).trans hM_3).trans hM_4).trans hM_5).trans hM_6).trans hM_7).trans hM_8).trans hM_9).trans hM_10).trans hM_11).trans hM_12))) x_26 hx_26) (by kernel_rfl) (fun _ => by kernel_rfl) (fun w_58 p_76 a_125 f_157 => ?_)
                    refine V_run f_157 3 (by kernel_rfl) (fun a_126 f_158 => ?_)
                    rcases Bool.eq_false_or_eq_true (decide (x_26 = 0)) with h_27 | h_27
                    · have k_33 : x_26 = 0 := decide_eq_true_iff.1 h_27
                      have hF_65 := cnd_t h_27 hF_64
                      have f_159 := Frm.set f_158 128 (v := .bool (decide (x_26 = 0))) (v' := .bool true) (by kernel_rfl) (congrArg Value.bool h_27)
                      obtain ⟨x_27, hx_27, hF_66⟩ := bind_some' hF_65
                      refine V_okv f_159 p_76 (law03_wakes_ok n _ (GL.mono (((((((((((hM_1.trans hM_2).trans hM_3).trans hM_4).trans hM_5).trans hM_6).trans hM_7).trans hM_8).trans hM_9).trans hM_10).trans hM_11).trans hM_12) hG) x_27 hx_27) (by kernel_rfl) (fun _ => by kernel_rfl) (fun w_59 p_77 a_127 f_160 => ?_)
                      refine V_run f_160 2 (by kernel_rfl) (fun a_128 f_161 => ?_)
                      refine W_end rfl (T_n (wp_ret ?_))
                      refine E_ret1 f_161 rfl (by kernel_rfl : Vc.look _ 6 = some (.bool x_27)) ?_
                      obtain rfl := Option.some.inj hF_66
                      exact ⟨_, rfl, M_12, (((((((((((hM_1.trans hM_2).trans hM_3).trans hM_4).trans hM_5).trans hM_6).trans hM_7).trans hM_8).trans hM_9).trans hM_10).trans hM_11).trans hM_12), (p_77.dropN 4), rfl⟩
                    · have k_34 : ¬ (x_26 = 0) := iff_f decide_eq_true_iff h_27
                      have hF_67 := cnd_f h_27 hF_64
                      have f_162 := Frm.set f_158 128 (v := .bool (decide (x_26 = 0))) (v' := .bool false) (by kernel_rfl) (congrArg Value.bool h_27)
                      refine V_run f_162 3 (by kernel_rfl) (fun a_129 f_163 => ?_)
                      refine W_end rfl (T_n (wp_ret ?_))
                      refine E_ret1 f_163 rfl (by kernel_rfl : Vc.look _ 6 = some (.bool false)) ?_
                      obtain rfl := Option.some.inj hF_67
                      exact ⟨_, rfl, M_12, (((((((((((hM_1.trans hM_2).trans hM_3).trans hM_4).trans hM_5).trans hM_6).trans hM_7).trans hM_8).trans hM_9).trans hM_10).trans hM_11).trans hM_12), (p_76.dropN 4), rfl⟩
end Go.Proofs.YtekkifakjkhjiaaDoor
