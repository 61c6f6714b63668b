/-
  Printed by a program: of each function its shallow reading, and the proof that the function gives what the reading gives. No condition.
-/
import Derived.Test.YtalifkcchfkgmaaDoorS5
set_option linter.unusedVariables false
set_option linter.unusedSimpArgs false
namespace Go.Proofs.YtalifkcchfkgmaaDoor
open Go Go.Vc Go.RowKit
def law09_wakes (n : Nat) : Option Bool :=
  (schema_Attr n [68, 105, 115, 107] [112, 55] [65, 114, 110]).bind fun x_1 =>
  (schema_Differ n [68, 105, 115, 107] [(⟨[83, 105, 122, 101], (false), (⟨(2 : Int), (false), (1 : Int), ([] : List UInt8), ([] : List T_api_Value), ([] : List (List UInt8))⟩ : T_api_Value)⟩ : T_api_Given)] [(⟨[83, 105, 122, 101], (false), (⟨(2 : Int), (false), (2 : Int), ([] : List UInt8), ([] : List T_api_Value), ([] : List (List UInt8))⟩ : T_api_Value)⟩ : T_api_Given)]).bind fun x_2 =>
  bif (decide (x_1.2 = 0)) then
    (bif (decide (x_1.1 = [68, 105, 115, 107, 58, 112, 55])) then
      (bif (decide (x_2.2 = 0)) then
        (bif (decide (x_2.1 = 2)) then
          ((schema_Types n).bind fun x_3 =>
          some ((decide (((x_3.length : Nat) : Int) = 4))))
        else
          some ((false)))
      else
        some ((false)))
    else
      some ((false)))
  else
    some ((false))
set_option maxHeartbeats 2000000 in
theorem law09_wakes_ok (n : Nat) (M : Mem) (hG : GL M) (r : Bool) (hF : law09_wakes n = some r) : Ok Tryd.prog M 16 [] (fun _ v => v = .bool r) := by
  unfold law09_wakes at hF
  intro M1 hM0 w0 H w p0
  replace hG := GL.mono hM0 hG
  refine R_enter 42 Tryd.func16 rfl rfl (by simp) (fun a0 f0 => ?_)
  refine R_seq (R_reg ?_)
  refine V_run f0 1 (by kernel_rfl) (fun a_1 f_1 => ?_)
  refine W_end rfl (T_n (R_seq (R_reg ?_)))
  obtain ⟨x_1, hx_1, hF_1⟩ := bind_some' hF
  refine V_okv f_1 p0 (schema_Attr_ok n _ hG [68, 105, 115, 107] [112, 55] [65, 114, 110] x_1 hx_1) (by kernel_rfl) (fun _ => by kernel_rfl) (fun w_1 p_1 a_2 f_2 => ?_)
  refine V_run f_2 5 (by kernel_rfl) (fun a_3 f_3 => ?_)
  refine W_end rfl (T_n (R_seq (R_reg ?_)))
  refine V_run f_3 2 (by kernel_rfl) (fun a_4 f_4 => ?_)
  refine V_allocS (k := 1) (c := 1) f_4 p_1 (.cells #[S [83, 105, 122, 101], .bool false, .int .i8 2, .bool false, .int .i64 1, S [], .slice none 0 0, .slice none 0 0] 35 (0, 0)) (by kernel_rfl) (fun _ => by kernel_rfl) (fun b_1 w_2 p_2 a_5 f_5 => ?_)
  refine V_run f_5 1 (by kernel_rfl) (fun a_6 f_6 => ?_)
  refine W_end rfl (T_n (R_seq (R_reg ?_)))
  refine V_run f_6 2 (by kernel_rfl) (fun a_7 f_7 => ?_)
  refine V_allocS (k := 1) (c := 1) f_7 p_2 (.cells #[S [83, 105, 122, 101], .bool false, .int .i8 2, .bool false, .int .i64 2, S [], .slice none 0 0, .slice none 0 0] 35 (0, 0)) (by kernel_rfl) (fun _ => by kernel_rfl) (fun b_2 w_3 p_3 a_8 f_8 => ?_)
  refine V_run f_8 1 (by kernel_rfl) (fun a_9 f_9 => ?_)
  refine W_end rfl (T_n (R_seq (R_reg ?_)))
  refine V_run f_9 2 (by kernel_rfl) (fun a_10 f_10 => ?_)
  have p_4 := p_3.pl [1]
  have hr_1 : RepSeq M1 ([(⟨[83, 105, 122, 101], (false), (⟨(2 : Int), (false), (1 : Int), ([] : List UInt8), ([] : List T_api_Value), ([] : List (List UInt8))⟩ : T_api_Value)⟩ : T_api_Given)].map emb_T_api_Given) [S [83, 105, 122, 101], .bool false, .int .i8 2, .bool false, .int .i64 1, S [], .slice none 0 0, .slice none 0 0] := ⟨_, _, rfl, T_api_Given.shut Sli.nil Sli.nil, rfl⟩
  have p_5 : Hp w0 M1 ((Ent.row 35 8 (.slice (some ⟨b_1, 0, none⟩) 1 1) [(⟨[83, 105, 122, 101], (false), (⟨(2 : Int), (false), (1 : Int), ([] : List UInt8), ([] : List T_api_Value), ([] : List (List UInt8))⟩ : T_api_Value)⟩ : T_api_Given)].length [S [83, 105, 122, 101], .bool false, .int .i8 2, .bool false, .int .i64 1, S [], .slice none 0 0, .slice none 0 0]) :: (Ent.obj b_2 (.cells #[S [83, 105, 122, 101], .bool false, .int .i8 2, .bool false, .int .i64 2, S [], .slice none 0 0, .slice none 0 0] 35 (0, 0))) :: H) w_3 := p_4.objRow (n := 1) (cap := 1) (size := 8) (by decide) (by decide) rfl rfl rfl
  obtain ⟨M_1, A_1, cap_1, hM_1, hv_1, p_6, h_1, hb_1⟩ := p_5.lend (f := emb_T_api_Given) (xs := [(⟨[83, 105, 122, 101], (false), (⟨(2 : Int), (false), (1 : Int), ([] : List UInt8), ([] : List T_api_Value), ([] : List (List UInt8))⟩ : T_api_Value)⟩ : T_api_Given)]) szd_T_api_Given hr_1
  have f_11 := Frm.set f_10 18 (v := .slice (some ⟨b_1, 0, none⟩) 1 1) (v' := .slice A_1 [(⟨[83, 105, 122, 101], (false), (⟨(2 : Int), (false), (1 : Int), ([] : List UInt8), ([] : List T_api_Value), ([] : List (List UInt8))⟩ : T_api_Value)⟩ : T_api_Given)].length cap_1) (by kernel_rfl) (hv_1)
  have hr_2 : RepSeq M_1 ([(⟨[83, 105, 122, 101], (false), (⟨(2 : Int), (false), (2 : Int), ([] : List UInt8), ([] : List T_api_Value), ([] : List (List UInt8))⟩ : T_api_Value)⟩ : T_api_Given)].map emb_T_api_Given) [S [83, 105, 122, 101], .bool false, .int .i8 2, .bool false, .int .i64 2, S [], .slice none 0 0, .slice none 0 0] := ⟨_, _, rfl, T_api_Given.shut Sli.nil Sli.nil, rfl⟩
  have p_7 : Hp w0 M_1 ((Ent.row 35 8 (.slice (some ⟨b_2, 0, none⟩) 1 1) [(⟨[83, 105, 122, 101], (false), (⟨(2 : Int), (false), (2 : Int), ([] : List UInt8), ([] : List T_api_Value), ([] : List (List UInt8))⟩ : T_api_Value)⟩ : T_api_Given)].length [S [83, 105, 122, 101], .bool false, .int .i8 2, .bool false, .int .i64 2, S [], .slice none 0 0, .slice none 0 0]) :: H) w_3 := p_6.objRow (n := 1) (cap := 1) (size := 8) (by decide) (by decide) rfl rfl rfl
  obtain ⟨M_2, A_2, cap_2, hM_2, hv_2, p_8, h_2, hb_2⟩ := p_7.lend (f := emb_T_api_Given) (xs := [(⟨[83, 105, 122, 101], (false), (⟨(2 : Int), (false), (2 : Int), ([] : List UInt8), ([] : List T_api_Value), ([] : List (List UInt8))⟩ : T_api_Value)⟩ : T_api_Given)]) szd_T_api_Given hr_2
  have f_12 := Frm.set f_11 19 (v := .slice (some ⟨b_2, 0, none⟩) 1 1) (v' := .slice A_2 [(⟨[83, 105, 122, 101], (false), (⟨(2 : Int), (false), (2 : Int), ([] : List UInt8), ([] : List T_api_Value), ([] : List (List UInt8))⟩ : T_api_Value)⟩ : T_api_Given)].length cap_2) (by kernel_rfl) (hv_2)
  obtain ⟨x_2, hx_2, hF_2⟩ := bind_some' hF_1
  refine V_okv f_12 p_8 (schema_Differ_ok n _ (GL.mono (hM_1.trans hM_2) hG) [68, 105, 115, 107] A_1 cap_1 [(⟨[83, 105, 122, 101], (false), (⟨(2 : Int), (false), (1 : Int), ([] : List UInt8), ([] : List T_api_Value), ([] : List (List UInt8))⟩ : T_api_Value)⟩ : T_api_Given)] (h_1.mono hM_2) A_2 cap_2 [(⟨[83, 105, 122, 101], (false), (⟨(2 : Int), (false), (2 : Int), ([] : List UInt8), ([] : List T_api_Value), ([] : List (List UInt8))⟩ : T_api_Value)⟩ : T_api_Given)] h_2 x_2 hx_2) (by kernel_rfl) (fun _ => by kernel_rfl) (fun w_4 p_9 a_11 f_13 => ?_)
  obtain ⟨M_3, hM_3, p_10⟩ := hb_2 _ _ _ (Mem.le_refl _) p_9
  have f_14 := Frm.set f_13 19 (v := .slice A_2 [(⟨[83, 105, 122, 101], (false), (⟨(2 : Int), (false), (2 : Int), ([] : List UInt8), ([] : List T_api_Value), ([] : List (List UInt8))⟩ : T_api_Value)⟩ : T_api_Given)].length cap_2) (v' := .slice (some ⟨b_2, 0, none⟩) 1 1) (by kernel_rfl) (hv_2.symm)
  obtain ⟨M_4, hM_4, p_11⟩ := hb_1 _ _ _ hM_3 p_10
  have f_15 := Frm.set f_14 18 (v := .slice A_1 [(⟨[83, 105, 122, 101], (false), (⟨(2 : Int), (false), (1 : Int), ([] : List UInt8), ([] : List T_api_Value), ([] : List (List UInt8))⟩ : T_api_Value)⟩ : T_api_Given)].length cap_1) (v' := .slice (some ⟨b_1, 0, none⟩) 1 1) (by kernel_rfl) (hv_1.symm)
  refine V_run f_15 5 (by kernel_rfl) (fun a_12 f_16 => ?_)
  refine W_end rfl (T_n (R_seq (R_reg ?_)))
  refine V_run f_16 3 (by kernel_rfl) (fun a_13 f_17 => ?_)
  rcases Bool.eq_false_or_eq_true (decide (x_1.2 = 0)) with h_3 | h_3
  · have k_1 : x_1.2 = 0 := decide_eq_true_iff.1 h_3
    have hF_3 := cnd_t h_3 hF_2
    have f_18 := Frm.set f_17 25 (v := .bool (decide (x_1.2 = 0))) (v' := .bool true) (by kernel_rfl) (congrArg Value.bool h_3)
    refine V_run f_18 1 (by kernel_rfl) (fun a_14 f_19 => ?_)
    refine V_eq (v := .bool (decide (x_1.1 = [68, 105, 115, 107, 58, 112, 55]))) f_19 (by kernel_rfl) (X_streq rfl (l := x_1.1) (m := [68, 105, 115, 107, 58, 112, 55]) (by kernel_rfl) (by kernel_rfl)) (fun a_15 f_20 => ?_)
    refine V_run f_20 2 (by kernel_rfl) (fun a_16 f_21 => ?_)
    rcases Bool.eq_false_or_eq_true (decide (x_1.1 = [68, 105, 115, 107, 58, 112, 55])) with h_4 | h_4
    · have k_2 : x_1.1 = [68, 105, 115, 107, 58, 112, 55] := decide_eq_true_iff.1 h_4
      have hF_4 := cnd_t h_4 hF_3
      have f_22 := Frm.set f_21 29 (v := .bool (decide (x_1.1 = [68, 105, 115, 107, 58, 112, 55]))) (v' := .bool true) (by kernel_rfl) (congrArg Value.bool h_4)
      refine V_run f_22 4 (by kernel_rfl) (fun a_17 f_23 => ?_)
      rcases Bool.eq_false_or_eq_true (decide (x_2.2 = 0)) with h_5 | h_5
      · have k_3 : x_2.2 = 0 := decide_eq_true_iff.1 h_5
        have hF_5 := cnd_t h_5 hF_4
        have f_24 := Frm.set f_23 33 (v := .bool (decide (x_2.2 = 0))) (v' := .bool true) (by kernel_rfl) (congrArg Value.bool h_5)
        refine V_run f_24 4 (by kernel_rfl) (fun a_18 f_25 => ?_)
        rcases Bool.eq_false_or_eq_true (decide (x_2.1 = 2)) with h_6 | h_6
        · have k_4 : x_2.1 = 2 := decide_eq_true_iff.1 h_6
          have hF_6 := cnd_t h_6 hF_5
          have f_26 := Frm.set f_25 37 (v := .bool (decide (x_2.1 = 2))) (v' := .bool true) (by kernel_rfl) (congrArg Value.bool h_6)
          obtain ⟨x_3, hx_3, hF_7⟩ := bind_some' hF_6
          refine V_ok f_26 p_11 (schema_Types_ok n _ (GL.mono hM_4 hG) x_3 hx_3) (by kernel_rfl) (fun _ => by kernel_rfl) (fun u_1 M_5 w_5 hM_5 p_12 q_1 a_19 f_27 => ?_)
          obtain ⟨A_3, cap_3, rfl, h_7⟩ := q_1
          refine V_run f_27 4 (by kernel_rfl) (fun a_20 f_28 => ?_)
          refine W_end rfl (T_n (wp_ret ?_))
          refine E_ret1 f_28 rfl (by kernel_rfl : Vc.look _ 0 = some (.bool (decide (((x_3.length : Nat) : Int) = 4)))) ?_
          obtain rfl := Option.some.inj hF_7
          exact ⟨_, rfl, M_5, (hM_4.trans hM_5), (p_12.dropN 2), rfl⟩
        · have k_5 : ¬ (x_2.1 = 2) := iff_f decide_eq_true_iff h_6
          have hF_8 := cnd_f h_6 hF_5
          have f_29 := Frm.set f_25 37 (v := .bool (decide (x_2.1 = 2))) (v' := .bool false) (by kernel_rfl) (congrArg Value.bool h_6)
          refine V_run f_29 5 (by kernel_rfl) (fun a_21 f_30 => ?_)
          refine W_end rfl (T_n (wp_ret ?_))
          refine E_ret1 f_30 rfl (by kernel_rfl : Vc.look _ 0 = some (.bool false)) ?_
          obtain rfl := Option.some.inj hF_8
          exact ⟨_, rfl, M_4, hM_4, (p_11.dropN 2), rfl⟩
      · have k_6 : ¬ (x_2.2 = 0) := iff_f decide_eq_true_iff h_5
        have hF_9 := cnd_f h_5 hF_4
        have f_31 := Frm.set f_23 33 (v := .bool (decide (x_2.2 = 0))) (v' := .bool false) (by kernel_rfl) (congrArg Value.bool h_5)
        refine V_run f_31 9 (by kernel_rfl) (fun a_22 f_32 => ?_)
        refine W_end rfl (T_n (wp_ret ?_))
        refine E_ret1 f_32 rfl (by kernel_rfl : Vc.look _ 0 = some (.bool false)) ?_
        obtain rfl := Option.some.inj hF_9
        exact ⟨_, rfl, M_4, hM_4, (p_11.dropN 2), rfl⟩
    · have k_7 : ¬ (x_1.1 = [68, 105, 115, 107, 58, 112, 55]) := iff_f decide_eq_true_iff h_4
      have hF_10 := cnd_f h_4 hF_3
      have f_33 := Frm.set f_21 29 (v := .bool (decide (x_1.1 = [68, 105, 115, 107, 58, 112, 55]))) (v' := .bool false) (by kernel_rfl) (congrArg Value.bool h_4)
      refine V_run f_33 13 (by kernel_rfl) (fun a_23 f_34 => ?_)
      refine W_end rfl (T_n (wp_ret ?_))
      refine E_ret1 f_34 rfl (by kernel_rfl : Vc.look _ 0 = some (.bool false)) ?_
      obtain rfl := Option.some.inj hF_10
      exact ⟨_, rfl, M_4, hM_4, (p_11.dropN 2), rfl⟩
  · have k_8 : ¬ (x_1.2 = 0) := iff_f decide_eq_true_iff h_3
    have hF_11 := cnd_f h_3 hF_2
    have f_35 := Frm.set f_17 25 (v := .bool (decide (x_1.2 = 0))) (v' := .bool false) (by kernel_rfl) (congrArg Value.bool h_3)
    refine V_run f_35 17 (by kernel_rfl) (fun a_24 f_36 => ?_)
    refine W_end rfl (T_n (wp_ret ?_))
    refine E_ret1 f_36 rfl (by kernel_rfl : Vc.look _ 0 = some (.bool false)) ?_
    obtain rfl := Option.some.inj hF_11
    exact ⟨_, rfl, M_4, hM_4, (p_11.dropN 2), rfl⟩
end Go.Proofs.YtalifkcchfkgmaaDoor
