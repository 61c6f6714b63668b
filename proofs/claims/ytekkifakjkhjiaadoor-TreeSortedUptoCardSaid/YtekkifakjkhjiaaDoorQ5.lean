/-
  Printed by a program: of each function its shallow reading, and the proof that the function gives what the reading gives. No condition.
-/
import Derived.Test.YtekkifakjkhjiaaDoorQ4e
import Derived.Test.YtekkifakjkhjiaaDoorQ3b
import Derived.Test.YtekkifakjkhjiaaDoorQ4f
import Derived.Test.YtekkifakjkhjiaaDoorQ4a
set_option linter.unusedVariables false
set_option linter.unusedSimpArgs false
namespace Go.Proofs.YtekkifakjkhjiaaDoor
open Go Go.Vc Go.RowKit
def law03_wakes (n : Nat) : Option Bool :=
  (tree_Num n (1 : Int)).bind fun x_1 =>
  (tree_Num n (2 : Int)).bind fun x_2 =>
  (tree_Num n (2 : Int)).bind fun x_3 =>
  (tree_Num n (1 : Int)).bind fun x_4 =>
  (tree_Equal n (⟨(5 : Int), (false), (0 : Int), ([] : List UInt8), [(⟨x_1.fKind, (x_1.fBool), x_1.fNum, x_1.fText, x_1.fList, x_1.fKeys⟩ : T_api_Value), (⟨x_2.fKind, (x_2.fBool), x_2.fNum, x_2.fText, x_2.fList, x_2.fKeys⟩ : T_api_Value)], ([[97], [98]] : List (List UInt8))⟩ : T_api_Value) (⟨(5 : Int), (false), (0 : Int), ([] : List UInt8), [(⟨x_3.fKind, (x_3.fBool), x_3.fNum, x_3.fText, x_3.fList, x_3.fKeys⟩ : T_api_Value), (⟨x_4.fKind, (x_4.fBool), x_4.fNum, x_4.fText, x_4.fList, x_4.fKeys⟩ : T_api_Value)], ([[98], [97]] : List (List UInt8))⟩ : T_api_Value)).bind fun x_5 =>
  bif x_5 then
    ((tree_Num n (2 : Int)).bind fun x_6 =>
    (tree_Text n [97]).bind fun x_7 =>
    (tree_Less n x_6 x_7).bind fun x_8 =>
    bif x_8 then
      ((tree_Count n (⟨(5 : Int), (false), (0 : Int), ([] : List UInt8), [(⟨x_1.fKind, (x_1.fBool), x_1.fNum, x_1.fText, x_1.fList, x_1.fKeys⟩ : T_api_Value), (⟨x_2.fKind, (x_2.fBool), x_2.fNum, x_2.fText, x_2.fList, x_2.fKeys⟩ : T_api_Value)], ([[97], [98]] : List (List UInt8))⟩ : T_api_Value)).bind fun x_9 =>
      bif (decide (x_9 = 3)) then
        ((tree_Depth n (⟨(5 : Int), (false), (0 : Int), ([] : List UInt8), [(⟨x_1.fKind, (x_1.fBool), x_1.fNum, x_1.fText, x_1.fList, x_1.fKeys⟩ : T_api_Value), (⟨x_2.fKind, (x_2.fBool), x_2.fNum, x_2.fText, x_2.fList, x_2.fKeys⟩ : T_api_Value)], ([[97], [98]] : List (List UInt8))⟩ : T_api_Value)).bind fun x_10 =>
        some ((decide (x_10 = 2))))
      else
        some ((false)))
    else
      some ((false)))
  else
    some ((false))
theorem law03_wakes_ok (n : Nat) (M : Mem) (hG : GL M) (r : Bool) (hF : law03_wakes n = some r) : Ok Tryd.prog M 14 [] (fun _ v => v = .bool r) := by
  unfold law03_wakes at hF
  intro M1 hM0 w0 H w p0
  replace hG := GL.mono hM0 hG
  refine R_enter 31 Tryd.func14 rfl rfl (by simp) (fun a0 f0 => ?_)
  refine R_seq (R_reg ?_)
  refine V_run f0 1 (by kernel_rfl) (fun a_1 f_1 => ?_)
  refine W_end rfl (T_n (R_seq (R_reg ?_)))
  refine V_allocS (k := 2) (c := 2) f_1 p0 (.cells #[S [97], S [98]] 9 (0, 0)) (by kernel_rfl) (fun _ => by kernel_rfl) (fun b_1 w_1 p_1 a_2 f_2 => ?_)
  obtain ⟨x_1, hx_1, hF_1⟩ := bind_some' hF
  refine V_ok f_2 p_1 (tree_Num_ok n _ (1 : Int) x_1 hx_1) (by kernel_rfl) (fun _ => by kernel_rfl) (fun u_1 M_1 w_2 hM_1 p_2 q_1 a_3 f_3 => ?_)
  obtain ⟨c_1, rfl, hr_1⟩ := q_1
  obtain ⟨A_1, cap_1, A_2, cap_2, rfl, h_1, h_2⟩ := T_api_Value.opn hr_1
  obtain ⟨x_2, hx_2, hF_2⟩ := bind_some' hF_1
  refine V_ok f_3 p_2 (tree_Num_ok n _ (2 : Int) x_2 hx_2) (by kernel_rfl) (fun _ => by kernel_rfl) (fun u_2 M_2 w_3 hM_2 p_3 q_2 a_4 f_4 => ?_)
  obtain ⟨c_2, rfl, hr_2⟩ := q_2
  obtain ⟨A_3, cap_3, A_4, cap_4, rfl, h_3, h_4⟩ := T_api_Value.opn hr_2
  refine V_allocS (k := 2) (c := 2) f_4 p_3 (.cells #[.int .i8 x_1.fKind, .bool x_1.fBool, .int .i64 x_1.fNum, S x_1.fText, .slice A_1 x_1.fList.length cap_1, .slice A_2 x_1.fKeys.length cap_2, .int .i8 x_2.fKind, .bool x_2.fBool, .int .i64 x_2.fNum, S x_2.fText, .slice A_3 x_2.fList.length cap_3, .slice A_4 x_2.fKeys.length cap_4] 26 (0, 0)) (by kernel_rfl) (fun _ => by kernel_rfl) (fun b_2 w_4 p_4 a_5 f_5 => ?_)
  refine V_run f_5 1 (by kernel_rfl) (fun a_6 f_6 => ?_)
  refine V_alloc f_6 p_4 (.cells #[.int .i8 0, .bool false, .int .i64 0, S [], .slice none 0 0, .slice none 0 0] 26 (0, 0)) (by kernel_rfl) (fun _ => by kernel_rfl) (fun b_3 w_5 p_5 a_7 f_7 => ?_)
  have p_6 := p_5.pl [1]
  have hr_3 : RepSeq M_2 ([(⟨x_1.fKind, (x_1.fBool), x_1.fNum, x_1.fText, x_1.fList, x_1.fKeys⟩ : T_api_Value), (⟨x_2.fKind, (x_2.fBool), x_2.fNum, x_2.fText, x_2.fList, x_2.fKeys⟩ : T_api_Value)].map emb_T_api_Value) [.int .i8 x_1.fKind, .bool x_1.fBool, .int .i64 x_1.fNum, S x_1.fText, .slice A_1 x_1.fList.length cap_1, .slice A_2 x_1.fKeys.length cap_2, .int .i8 x_2.fKind, .bool x_2.fBool, .int .i64 x_2.fNum, S x_2.fText, .slice A_3 x_2.fList.length cap_3, .slice A_4 x_2.fKeys.length cap_4] := ⟨_, _, rfl, T_api_Value.shut (h_1.mono hM_2) (h_2.mono hM_2), ⟨_, _, rfl, T_api_Value.shut h_3 h_4, rfl⟩⟩
  have p_7 : Hp w0 M_2 ((Ent.row 26 6 (.slice (some ⟨b_2, 0, none⟩) 2 2) [(⟨x_1.fKind, (x_1.fBool), x_1.fNum, x_1.fText, x_1.fList, x_1.fKeys⟩ : T_api_Value), (⟨x_2.fKind, (x_2.fBool), x_2.fNum, x_2.fText, x_2.fList, x_2.fKeys⟩ : T_api_Value)].length [.int .i8 x_1.fKind, .bool x_1.fBool, .int .i64 x_1.fNum, S x_1.fText, .slice A_1 x_1.fList.length cap_1, .slice A_2 x_1.fKeys.length cap_2, .int .i8 x_2.fKind, .bool x_2.fBool, .int .i64 x_2.fNum, S x_2.fText, .slice A_3 x_2.fList.length cap_3, .slice A_4 x_2.fKeys.length cap_4]) :: (Ent.obj b_3 (.cells #[.int .i8 0, .bool false, .int .i64 0, S [], .slice none 0 0, .slice none 0 0] 26 (0, 0))) :: (Ent.obj b_1 (.cells #[S [97], S [98]] 9 (0, 0))) :: H) w_5 := p_6.objRow (n := 2) (cap := 2) (size := 6) (by decide) (by decide) rfl rfl rfl
  obtain ⟨A_5, cap_5, M_3, hv_1, hM_3, p_8, h_5⟩ := p_7.rowSli (f := emb_T_api_Value) (xs := [(⟨x_1.fKind, (x_1.fBool), x_1.fNum, x_1.fText, x_1.fList, x_1.fKeys⟩ : T_api_Value), (⟨x_2.fKind, (x_2.fBool), x_2.fNum, x_2.fText, x_2.fList, x_2.fKeys⟩ : T_api_Value)]) szd_T_api_Value hr_3
  have f_8 := Frm.set f_7 7 (v := .agg #[.int .i8 5, .bool false, .int .i64 0, S [], .slice (some ⟨b_2, 0, none⟩) 2 2, .slice (some ⟨b_1, 0, none⟩) 2 2]) (v' := .agg #[.int .i8 5, .bool false, .int .i64 0, S [], .slice A_5 [(⟨x_1.fKind, (x_1.fBool), x_1.fNum, x_1.fText, x_1.fList, x_1.fKeys⟩ : T_api_Value), (⟨x_2.fKind, (x_2.fBool), x_2.fNum, x_2.fText, x_2.fList, x_2.fKeys⟩ : T_api_Value)].length cap_5, .slice (some ⟨b_1, 0, none⟩) 2 2]) (by kernel_rfl) (by rw [hv_1])
  have p_9 := p_8.pl [1]
  have hr_4 : RepSeq M_3 (([[97], [98]] : List (List UInt8)).map Dat.str) [S [97], S [98]] := ⟨_, _, rfl, rfl, ⟨_, _, rfl, rfl, rfl⟩⟩
  have p_10 : Hp w0 M_3 ((Ent.row 9 1 (.slice (some ⟨b_1, 0, none⟩) 2 2) ([[97], [98]] : List (List UInt8)).length [S [97], S [98]]) :: (Ent.obj b_3 (.cells #[.int .i8 0, .bool false, .int .i64 0, S [], .slice none 0 0, .slice none 0 0] 26 (0, 0))) :: H) w_5 := p_9.objRow (n := 2) (cap := 2) (size := 1) (by decide) (by decide) rfl rfl rfl
  obtain ⟨A_6, cap_6, M_4, hv_2, hM_4, p_11, h_6⟩ := p_10.rowSli (f := Dat.str) (xs := ([[97], [98]] : List (List UInt8))) szd_str hr_4
  have f_9 := Frm.set f_8 7 (v := .agg #[.int .i8 5, .bool false, .int .i64 0, S [], .slice A_5 [(⟨x_1.fKind, (x_1.fBool), x_1.fNum, x_1.fText, x_1.fList, x_1.fKeys⟩ : T_api_Value), (⟨x_2.fKind, (x_2.fBool), x_2.fNum, x_2.fText, x_2.fList, x_2.fKeys⟩ : T_api_Value)].length cap_5, .slice (some ⟨b_1, 0, none⟩) 2 2]) (v' := .agg #[.int .i8 5, .bool false, .int .i64 0, S [], .slice A_5 [(⟨x_1.fKind, (x_1.fBool), x_1.fNum, x_1.fText, x_1.fList, x_1.fKeys⟩ : T_api_Value), (⟨x_2.fKind, (x_2.fBool), x_2.fNum, x_2.fText, x_2.fList, x_2.fKeys⟩ : T_api_Value)].length cap_5, .slice A_6 ([[97], [98]] : List (List UInt8)).length cap_6]) (by kernel_rfl) (by rw [hv_2])
  refine W_storeN (vs := [.int .i8 5, .bool false, .int .i64 0, S [], .slice A_5 [(⟨x_1.fKind, (x_1.fBool), x_1.fNum, x_1.fText, x_1.fList, x_1.fKeys⟩ : T_api_Value), (⟨x_2.fKind, (x_2.fBool), x_2.fNum, x_2.fText, x_2.fList, x_2.fKeys⟩ : T_api_Value)].length cap_5, .slice A_6 ([[97], [98]] : List (List UInt8)).length cap_6]) (j := 0) f_9 p_11 (by kernel_rfl) (by kernel_rfl) rfl rfl (by kernel_rfl) (by kernel_rfl) (by simp [Value.oneCell', S]) (by kernel_rfl) (by simp) (by decide) (cs' := #[.int .i8 5, .bool false, .int .i64 0, S [], .slice A_5 [(⟨x_1.fKind, (x_1.fBool), x_1.fNum, x_1.fText, x_1.fList, x_1.fKeys⟩ : T_api_Value), (⟨x_2.fKind, (x_2.fBool), x_2.fNum, x_2.fText, x_2.fList, x_2.fKeys⟩ : T_api_Value)].length cap_5, .slice A_6 ([[97], [98]] : List (List UInt8)).length cap_6]) rfl (fun w_6 p_12 a_8 f_10 => ?_)
  refine W_end rfl (T_n (R_seq (R_reg ?_)))
  refine V_allocS (k := 2) (c := 2) f_10 p_12 (.cells #[S [98], S [97]] 9 (0, 0)) (by kernel_rfl) (fun _ => by kernel_rfl) (fun b_4 w_7 p_13 a_9 f_11 => ?_)
  obtain ⟨x_3, hx_3, hF_3⟩ := bind_some' hF_2
  refine V_ok f_11 p_13 (tree_Num_ok n _ (2 : Int) x_3 hx_3) (by kernel_rfl) (fun _ => by kernel_rfl) (fun u_3 M_5 w_8 hM_5 p_14 q_3 a_10 f_12 => ?_)
  obtain ⟨c_3, rfl, hr_5⟩ := q_3
  obtain ⟨A_7, cap_7, A_8, cap_8, rfl, h_7, h_8⟩ := T_api_Value.opn hr_5
  obtain ⟨x_4, hx_4, hF_4⟩ := bind_some' hF_3
  refine V_ok f_12 p_14 (tree_Num_ok n _ (1 : Int) x_4 hx_4) (by kernel_rfl) (fun _ => by kernel_rfl) (fun u_4 M_6 w_9 hM_6 p_15 q_4 a_11 f_13 => ?_)
  obtain ⟨c_4, rfl, hr_6⟩ := q_4
  obtain ⟨A_9, cap_9, A_10, cap_10, rfl, h_9, h_10⟩ := T_api_Value.opn hr_6
  refine V_allocS (k := 2) (c := 2) f_13 p_15 (.cells #[.int .i8 x_3.fKind, .bool x_3.fBool, .int .i64 x_3.fNum, S x_3.fText, .slice A_7 x_3.fList.length cap_7, .slice A_8 x_3.fKeys.length cap_8, .int .i8 x_4.fKind, .bool x_4.fBool, .int .i64 x_4.fNum, S x_4.fText, .slice A_9 x_4.fList.length cap_9, .slice A_10 x_4.fKeys.length cap_10] 26 (0, 0)) (by kernel_rfl) (fun _ => by kernel_rfl) (fun b_5 w_10 p_16 a_12 f_14 => ?_)
  refine V_run f_14 1 (by kernel_rfl) (fun a_13 f_15 => ?_)
  refine V_alloc f_15 p_16 (.cells #[.int .i8 0, .bool false, .int .i64 0, S [], .slice none 0 0, .slice none 0 0] 26 (0, 0)) (by kernel_rfl) (fun _ => by kernel_rfl) (fun b_6 w_11 p_17 a_14 f_16 => ?_)
  have p_18 := p_17.pl [1]
  have hr_7 : RepSeq M_6 ([(⟨x_3.fKind, (x_3.fBool), x_3.fNum, x_3.fText, x_3.fList, x_3.fKeys⟩ : T_api_Value), (⟨x_4.fKind, (x_4.fBool), x_4.fNum, x_4.fText, x_4.fList, x_4.fKeys⟩ : T_api_Value)].map emb_T_api_Value) [.int .i8 x_3.fKind, .bool x_3.fBool, .int .i64 x_3.fNum, S x_3.fText, .slice A_7 x_3.fList.length cap_7, .slice A_8 x_3.fKeys.length cap_8, .int .i8 x_4.fKind, .bool x_4.fBool, .int .i64 x_4.fNum, S x_4.fText, .slice A_9 x_4.fList.length cap_9, .slice A_10 x_4.fKeys.length cap_10] := ⟨_, _, rfl, T_api_Value.shut (h_7.mono hM_6) (h_8.mono hM_6), ⟨_, _, rfl, T_api_Value.shut h_9 h_10, rfl⟩⟩
  have p_19 : Hp w0 M_6 ((Ent.row 26 6 (.slice (some ⟨b_5, 0, none⟩) 2 2) [(⟨x_3.fKind, (x_3.fBool), x_3.fNum, x_3.fText, x_3.fList, x_3.fKeys⟩ : T_api_Value), (⟨x_4.fKind, (x_4.fBool), x_4.fNum, x_4.fText, x_4.fList, x_4.fKeys⟩ : T_api_Value)].length [.int .i8 x_3.fKind, .bool x_3.fBool, .int .i64 x_3.fNum, S x_3.fText, .slice A_7 x_3.fList.length cap_7, .slice A_8 x_3.fKeys.length cap_8, .int .i8 x_4.fKind, .bool x_4.fBool, .int .i64 x_4.fNum, S x_4.fText, .slice A_9 x_4.fList.length cap_9, .slice A_10 x_4.fKeys.length cap_10]) :: (Ent.obj b_6 (.cells #[.int .i8 0, .bool false, .int .i64 0, S [], .slice none 0 0, .slice none 0 0] 26 (0, 0))) :: (Ent.obj b_4 (.cells #[S [98], S [97]] 9 (0, 0))) :: (Ent.obj b_3 (.cells #[.int .i8 5, .bool false, .int .i64 0, S [], .slice A_5 [(⟨x_1.fKind, (x_1.fBool), x_1.fNum, x_1.fText, x_1.fList, x_1.fKeys⟩ : T_api_Value), (⟨x_2.fKind, (x_2.fBool), x_2.fNum, x_2.fText, x_2.fList, x_2.fKeys⟩ : T_api_Value)].length cap_5, .slice A_6 ([[97], [98]] : List (List UInt8)).length cap_6] 26 (0, 0))) :: H) w_11 := p_18.objRow (n := 2) (cap := 2) (size := 6) (by decide) (by decide) rfl rfl rfl
  obtain ⟨A_11, cap_11, M_7, hv_3, hM_7, p_20, h_11⟩ := p_19.rowSli (f := emb_T_api_Value) (xs := [(⟨x_3.fKind, (x_3.fBool), x_3.fNum, x_3.fText, x_3.fList, x_3.fKeys⟩ : T_api_Value), (⟨x_4.fKind, (x_4.fBool), x_4.fNum, x_4.fText, x_4.fList, x_4.fKeys⟩ : T_api_Value)]) szd_T_api_Value hr_7
  have f_17 := Frm.set f_16 12 (v := .agg #[.int .i8 5, .bool false, .int .i64 0, S [], .slice (some ⟨b_5, 0, none⟩) 2 2, .slice (some ⟨b_4, 0, none⟩) 2 2]) (v' := .agg #[.int .i8 5, .bool false, .int .i64 0, S [], .slice A_11 [(⟨x_3.fKind, (x_3.fBool), x_3.fNum, x_3.fText, x_3.fList, x_3.fKeys⟩ : T_api_Value), (⟨x_4.fKind, (x_4.fBool), x_4.fNum, x_4.fText, x_4.fList, x_4.fKeys⟩ : T_api_Value)].length cap_11, .slice (some ⟨b_4, 0, none⟩) 2 2]) (by kernel_rfl) (by rw [hv_3])
  have p_21 := p_20.pl [1]
  have hr_8 : RepSeq M_7 (([[98], [97]] : List (List UInt8)).map Dat.str) [S [98], S [97]] := ⟨_, _, rfl, rfl, ⟨_, _, rfl, rfl, rfl⟩⟩
  have p_22 : Hp w0 M_7 ((Ent.row 9 1 (.slice (some ⟨b_4, 0, none⟩) 2 2) ([[98], [97]] : List (List UInt8)).length [S [98], S [97]]) :: (Ent.obj b_6 (.cells #[.int .i8 0, .bool false, .int .i64 0, S [], .slice none 0 0, .slice none 0 0] 26 (0, 0))) :: (Ent.obj b_3 (.cells #[.int .i8 5, .bool false, .int .i64 0, S [], .slice A_5 [(⟨x_1.fKind, (x_1.fBool), x_1.fNum, x_1.fText, x_1.fList, x_1.fKeys⟩ : T_api_Value), (⟨x_2.fKind, (x_2.fBool), x_2.fNum, x_2.fText, x_2.fList, x_2.fKeys⟩ : T_api_Value)].length cap_5, .slice A_6 ([[97], [98]] : List (List UInt8)).length cap_6] 26 (0, 0))) :: H) w_11 := p_21.objRow (n := 2) (cap := 2) (size := 1) (by decide) (by decide) rfl rfl rfl
  obtain ⟨A_12, cap_12, M_8, hv_4, hM_8, p_23, h_12⟩ := p_22.rowSli (f := Dat.str) (xs := ([[98], [97]] : List (List UInt8))) szd_str hr_8
  have f_18 := Frm.set f_17 12 (v := .agg #[.int .i8 5, .bool false, .int .i64 0, S [], .slice A_11 [(⟨x_3.fKind, (x_3.fBool), x_3.fNum, x_3.fText, x_3.fList, x_3.fKeys⟩ : T_api_Value), (⟨x_4.fKind, (x_4.fBool), x_4.fNum, x_4.fText, x_4.fList, x_4.fKeys⟩ : T_api_Value)].length cap_11, .slice (some ⟨b_4, 0, none⟩) 2 2]) (v' := .agg #[.int .i8 5, .bool false, .int .i64 0, S [], .slice A_11 [(⟨x_3.fKind, (x_3.fBool), x_3.fNum, x_3.fText, x_3.fList, x_3.fKeys⟩ : T_api_Value), (⟨x_4.fKind, (x_4.fBool), x_4.fNum, x_4.fText, x_4.fList, x_4.fKeys⟩ : T_api_Value)].length cap_11, .slice A_12 ([[98], [97]] : List (List UInt8)).length cap_12]) (by kernel_rfl) (by rw [hv_4])
  refine W_storeN (vs := [.int .i8 5, .bool false, .int .i64 0, S [], .slice A_11 [(⟨x_3.fKind, (x_3.fBool), x_3.fNum, x_3.fText, x_3.fList, x_3.fKeys⟩ : T_api_Value), (⟨x_4.fKind, (x_4.fBool), x_4.fNum, x_4.fText, x_4.fList, x_4.fKeys⟩ : T_api_Value)].length cap_11, .slice A_12 ([[98], [97]] : List (List UInt8)).length cap_12]) (j := 0) f_18 p_23 (by kernel_rfl) (by kernel_rfl) rfl rfl (by kernel_rfl) (by kernel_rfl) (by simp [Value.oneCell', S]) (by kernel_rfl) (by simp) (by decide) (cs' := #[.int .i8 5, .bool false, .int .i64 0, S [], .slice A_11 [(⟨x_3.fKind, (x_3.fBool), x_3.fNum, x_3.fText, x_3.fList, x_3.fKeys⟩ : T_api_Value), (⟨x_4.fKind, (x_4.fBool), x_4.fNum, x_4.fText, x_4.fList, x_4.fKeys⟩ : T_api_Value)].length cap_11, .slice A_12 ([[98], [97]] : List (List UInt8)).length cap_12]) rfl (fun w_12 p_24 a_15 f_19 => ?_)
  refine W_end rfl (T_n (R_seq (R_reg ?_)))
  refine V_eq (v := .agg #[.int .i8 5, .bool false, .int .i64 0, S [], .slice A_5 [(⟨x_1.fKind, (x_1.fBool), x_1.fNum, x_1.fText, x_1.fList, x_1.fKeys⟩ : T_api_Value), (⟨x_2.fKind, (x_2.fBool), x_2.fNum, x_2.fText, x_2.fList, x_2.fKeys⟩ : T_api_Value)].length cap_5, .slice A_6 ([[97], [98]] : List (List UInt8)).length cap_6]) f_19 (by kernel_rfl) (X_loadN (cs := [.int .i8 5, .bool false, .int .i64 0, S [], .slice A_5 [(⟨x_1.fKind, (x_1.fBool), x_1.fNum, x_1.fText, x_1.fList, x_1.fKeys⟩ : T_api_Value), (⟨x_2.fKind, (x_2.fBool), x_2.fNum, x_2.fText, x_2.fList, x_2.fKeys⟩ : T_api_Value)].length cap_5, .slice A_6 ([[97], [98]] : List (List UInt8)).length cap_6]) rfl (ad := ⟨b_3, 0, none⟩) (by kernel_rfl) (by kernel_rfl) (own_cells (p_24.ownCell 1 rfl) 0 rfl)) (fun a_16 f_20 => ?_)
  refine V_eq (v := .agg #[.int .i8 5, .bool false, .int .i64 0, S [], .slice A_11 [(⟨x_3.fKind, (x_3.fBool), x_3.fNum, x_3.fText, x_3.fList, x_3.fKeys⟩ : T_api_Value), (⟨x_4.fKind, (x_4.fBool), x_4.fNum, x_4.fText, x_4.fList, x_4.fKeys⟩ : T_api_Value)].length cap_11, .slice A_12 ([[98], [97]] : List (List UInt8)).length cap_12]) f_20 (by kernel_rfl) (X_loadN (cs := [.int .i8 5, .bool false, .int .i64 0, S [], .slice A_11 [(⟨x_3.fKind, (x_3.fBool), x_3.fNum, x_3.fText, x_3.fList, x_3.fKeys⟩ : T_api_Value), (⟨x_4.fKind, (x_4.fBool), x_4.fNum, x_4.fText, x_4.fList, x_4.fKeys⟩ : T_api_Value)].length cap_11, .slice A_12 ([[98], [97]] : List (List UInt8)).length cap_12]) rfl (ad := ⟨b_6, 0, none⟩) (by kernel_rfl) (by kernel_rfl) (own_cells (p_24.ownCell 0 rfl) 0 rfl)) (fun a_17 f_21 => ?_)
  obtain ⟨x_5, hx_5, hF_5⟩ := bind_some' hF_4
  refine V_okv f_21 p_24 (tree_Equal_ok n _ (GL.mono (((((((hM_1.trans hM_2).trans hM_3).trans hM_4).trans hM_5).trans hM_6).trans hM_7).trans hM_8) hG) _ (⟨(5 : Int), (false), (0 : Int), ([] : List UInt8), [(⟨x_1.fKind, (x_1.fBool), x_1.fNum, x_1.fText, x_1.fList, x_1.fKeys⟩ : T_api_Value), (⟨x_2.fKind, (x_2.fBool), x_2.fNum, x_2.fText, x_2.fList, x_2.fKeys⟩ : T_api_Value)], ([[97], [98]] : List (List UInt8))⟩ : T_api_Value) (T_api_Value.shut (h_5.mono ((((hM_4.trans hM_5).trans hM_6).trans hM_7).trans hM_8)) (h_6.mono (((hM_5.trans hM_6).trans hM_7).trans hM_8))) _ (⟨(5 : Int), (false), (0 : Int), ([] : List UInt8), [(⟨x_3.fKind, (x_3.fBool), x_3.fNum, x_3.fText, x_3.fList, x_3.fKeys⟩ : T_api_Value), (⟨x_4.fKind, (x_4.fBool), x_4.fNum, x_4.fText, x_4.fList, x_4.fKeys⟩ : T_api_Value)], ([[98], [97]] : List (List UInt8))⟩ : T_api_Value) (T_api_Value.shut (h_11.mono hM_8) h_12) x_5 hx_5) (by kernel_rfl) (fun _ => by kernel_rfl) (fun w_13 p_25 a_18 f_22 => ?_)
  refine V_run f_22 1 (by kernel_rfl) (fun a_19 f_23 => ?_)
  rcases Bool.eq_false_or_eq_true (x_5) with h_13 | h_13
  · have hF_6 := cnd_t h_13 hF_5
    have f_24 := Frm.set f_23 16 (v := .bool x_5) (v' := .bool true) (by kernel_rfl) (congrArg Value.bool h_13)
    obtain ⟨x_6, hx_6, hF_7⟩ := bind_some' hF_6
    refine V_ok f_24 p_25 (tree_Num_ok n _ (2 : Int) x_6 hx_6) (by kernel_rfl) (fun _ => by kernel_rfl) (fun u_5 M_9 w_14 hM_9 p_26 q_5 a_20 f_25 => ?_)
    obtain ⟨c_5, rfl, hr_9⟩ := q_5
    obtain ⟨A_13, cap_13, A_14, cap_14, rfl, h_14, h_15⟩ := T_api_Value.opn hr_9
    obtain ⟨x_7, hx_7, hF_8⟩ := bind_some' hF_7
    refine V_ok f_25 p_26 (tree_Text_ok n _ [97] x_7 hx_7) (by kernel_rfl) (fun _ => by kernel_rfl) (fun u_6 M_10 w_15 hM_10 p_27 q_6 a_21 f_26 => ?_)
    obtain ⟨c_6, rfl, hr_10⟩ := q_6
    obtain ⟨A_15, cap_15, A_16, cap_16, rfl, h_16, h_17⟩ := T_api_Value.opn hr_10
    obtain ⟨x_8, hx_8, hF_9⟩ := bind_some' hF_8
    refine V_okv f_26 p_27 (tree_Less_ok n _ (GL.mono (((((((((hM_1.trans hM_2).trans hM_3).trans hM_4).trans hM_5).trans hM_6).trans hM_7).trans hM_8).trans hM_9).trans hM_10) hG) _ x_6 (T_api_Value.shutx (x := x_6) (h_14.mono hM_10) (h_15.mono hM_10)) _ x_7 (T_api_Value.shutx (x := x_7) h_16 h_17) x_8 hx_8) (by kernel_rfl) (fun _ => by kernel_rfl) (fun w_16 p_28 a_22 f_27 => ?_)
    refine V_run f_27 2 (by kernel_rfl) (fun a_23 f_28 => ?_)
    rcases Bool.eq_false_or_eq_true (x_8) with h_18 | h_18
    · have hF_10 := cnd_t h_18 hF_9
      have f_29 := Frm.set f_28 21 (v := .bool x_8) (v' := .bool true) (by kernel_rfl) (congrArg Value.bool h_18)
      refine V_eq (v := .agg #[.int .i8 5, .bool false, .int .i64 0, S [], .slice A_5 [(⟨x_1.fKind, (x_1.fBool), x_1.fNum, x_1.fText, x_1.fList, x_1.fKeys⟩ : T_api_Value), (⟨x_2.fKind, (x_2.fBool), x_2.fNum, x_2.fText, x_2.fList, x_2.fKeys⟩ : T_api_Value)].length cap_5, .slice A_6 ([[97], [98]] : List (List UInt8)).length cap_6]) f_29 (by kernel_rfl) (X_loadN (cs := [.int .i8 5, .bool false, .int .i64 0, S [], .slice A_5 [(⟨x_1.fKind, (x_1.fBool), x_1.fNum, x_1.fText, x_1.fList, x_1.fKeys⟩ : T_api_Value), (⟨x_2.fKind, (x_2.fBool), x_2.fNum, x_2.fText, x_2.fList, x_2.fKeys⟩ : T_api_Value)].length cap_5, .slice A_6 ([[97], [98]] : List (List UInt8)).length cap_6]) rfl (ad := ⟨b_3, 0, none⟩) (by kernel_rfl) (by kernel_rfl) (own_cells (p_28.ownCell 1 rfl) 0 rfl)) (fun a_24 f_30 => ?_)
      obtain ⟨x_9, hx_9, hF_11⟩ := bind_some' hF_10
      refine V_okv f_30 p_28 (tree_Count_ok n _ _ (⟨(5 : Int), (false), (0 : Int), ([] : List UInt8), [(⟨x_1.fKind, (x_1.fBool), x_1.fNum, x_1.fText, x_1.fList, x_1.fKeys⟩ : T_api_Value), (⟨x_2.fKind, (x_2.fBool), x_2.fNum, x_2.fText, x_2.fList, x_2.fKeys⟩ : T_api_Value)], ([[97], [98]] : List (List UInt8))⟩ : T_api_Value) (T_api_Value.shut (h_5.mono ((((((hM_4.trans hM_5).trans hM_6).trans hM_7).trans hM_8).trans hM_9).trans hM_10)) (h_6.mono (((((hM_5.trans hM_6).trans hM_7).trans hM_8).trans hM_9).trans hM_10))) x_9 hx_9) (by kernel_rfl) (fun _ => by kernel_rfl) (fun w_17 p_29 a_25 f_31 => ?_)
      refine V_run f_31 3 (by kernel_rfl) (fun a_26 f_32 => ?_)
      rcases Bool.eq_false_or_eq_true (decide (x_9 = 3)) with h_19 | h_19
      · have k_3 : x_9 = 3 := decide_eq_true_iff.1 h_19
        have hF_12 := cnd_t h_19 hF_11
        have f_33 := Frm.set f_32 26 (v := .bool (decide (x_9 = 3))) (v' := .bool true) (by kernel_rfl) (congrArg Value.bool h_19)
        refine V_eq (v := .agg #[.int .i8 5, .bool false, .int .i64 0, S [], .slice A_5 [(⟨x_1.fKind, (x_1.fBool), x_1.fNum, x_1.fText, x_1.fList, x_1.fKeys⟩ : T_api_Value), (⟨x_2.fKind, (x_2.fBool), x_2.fNum, x_2.fText, x_2.fList, x_2.fKeys⟩ : T_api_Value)].length cap_5, .slice A_6 ([[97], [98]] : List (List UInt8)).length cap_6]) f_33 (by kernel_rfl) (X_loadN (cs := [.int .i8 5, .bool false, .int .i64 0, S [], .slice A_5 [(⟨x_1.fKind, (x_1.fBool), x_1.fNum, x_1.fText, x_1.fList, x_1.fKeys⟩ : T_api_Value), (⟨x_2.fKind, (x_2.fBool), x_2.fNum, x_2.fText, x_2.fList, x_2.fKeys⟩ : T_api_Value)].length cap_5, .slice A_6 ([[97], [98]] : List (List UInt8)).length cap_6]) rfl (ad := ⟨b_3, 0, none⟩) (by kernel_rfl) (by kernel_rfl) (own_cells (p_29.ownCell 1 rfl) 0 rfl)) (fun a_27 f_34 => ?_)
        obtain ⟨x_10, hx_10, hF_13⟩ := bind_some' hF_12
        refine V_okv f_34 p_29 (tree_Depth_ok n _ _ (⟨(5 : Int), (false), (0 : Int), ([] : List UInt8), [(⟨x_1.fKind, (x_1.fBool), x_1.fNum, x_1.fText, x_1.fList, x_1.fKeys⟩ : T_api_Value), (⟨x_2.fKind, (x_2.fBool), x_2.fNum, x_2.fText, x_2.fList, x_2.fKeys⟩ : T_api_Value)], ([[97], [98]] : List (List UInt8))⟩ : T_api_Value) (T_api_Value.shut (h_5.mono ((((((hM_4.trans hM_5).trans hM_6).trans hM_7).trans hM_8).trans hM_9).trans hM_10)) (h_6.mono (((((hM_5.trans hM_6).trans hM_7).trans hM_8).trans hM_9).trans hM_10))) x_10 hx_10) (by kernel_rfl) (fun _ => by kernel_rfl) (fun w_18 p_30 a_28 f_35 => ?_)
        refine V_run f_35 3 (by kernel_rfl) (fun a_29 f_36 => ?_)
        refine W_end rfl (T_n (wp_ret ?_))
        refine E_ret1 f_36 rfl (by kernel_rfl : Vc.look _ 0 = some (.bool (decide (x_10 = 2)))) ?_
        obtain rfl := Option.some.inj hF_13
        exact ⟨_, rfl, M_10, (((((((((hM_1.trans hM_2).trans hM_3).trans hM_4).trans hM_5).trans hM_6).trans hM_7).trans hM_8).trans hM_9).trans hM_10), (p_30.dropN 2), rfl⟩
      · have k_4 : ¬ (x_9 = 3) := iff_f decide_eq_true_iff h_19
        have hF_14 := cnd_f h_19 hF_11
        have f_37 := Frm.set f_32 26 (v := .bool (decide (x_9 = 3))) (v' := .bool false) (by kernel_rfl) (congrArg Value.bool h_19)
        refine V_run f_37 5 (by kernel_rfl) (fun a_30 f_38 => ?_)
        refine W_end rfl (T_n (wp_ret ?_))
        refine E_ret1 f_38 rfl (by kernel_rfl : Vc.look _ 0 = some (.bool false)) ?_
        obtain rfl := Option.some.inj hF_14
        exact ⟨_, rfl, M_10, (((((((((hM_1.trans hM_2).trans hM_3).trans hM_4).trans hM_5).trans hM_6).trans hM_7).trans hM_8).trans hM_9).trans hM_10), (p_29.dropN 2), rfl⟩
    · have hF_15 := cnd_f h_18 hF_9
      have f_39 := Frm.set f_28 21 (v := .bool x_8) (v' := .bool false) (by kernel_rfl) (congrArg Value.bool h_18)
      refine V_run f_39 10 (by kernel_rfl) (fun a_31 f_40 => ?_)
      refine W_end rfl (T_n (wp_ret ?_))
      refine E_ret1 f_40 rfl (by kernel_rfl : Vc.look _ 0 = some (.bool false)) ?_
      obtain rfl := Option.some.inj hF_15
      exact ⟨_, rfl, M_10, (((((((((hM_1.trans hM_2).trans hM_3).trans hM_4).trans hM_5).trans hM_6).trans hM_7).trans hM_8).trans hM_9).trans hM_10), (p_28.dropN 2), rfl⟩
  · have hF_16 := cnd_f h_13 hF_5
    have f_41 := Frm.set f_23 16 (v := .bool x_5) (v' := .bool false) (by kernel_rfl) (congrArg Value.bool h_13)
    refine V_run f_41 15 (by kernel_rfl) (fun a_32 f_42 => ?_)
    refine W_end rfl (T_n (wp_ret ?_))
    refine E_ret1 f_42 rfl (by kernel_rfl : Vc.look _ 0 = some (.bool false)) ?_
    obtain rfl := Option.some.inj hF_16
    exact ⟨_, rfl, M_8, (((((((hM_1.trans hM_2).trans hM_3).trans hM_4).trans hM_5).trans hM_6).trans hM_7).trans hM_8), (p_25.dropN 2), rfl⟩
end Go.Proofs.YtekkifakjkhjiaaDoor
