/-
  Printed by a program: of each function its shallow reading, and the proof that the function gives what the reading gives. No condition.
-/
import Derived.Test.YtekkifakjkhjiaaDoorQ2h
import Derived.Test.YtekkifakjkhjiaaDoorQ2c
import Derived.Test.YtekkifakjkhjiaaDoorQ2b
set_option linter.unusedVariables false
set_option linter.unusedSimpArgs false
namespace Go.Proofs.YtekkifakjkhjiaaDoor
open Go Go.Vc Go.RowKit
def ref03_Equal (n : Nat) (d0 : T_api_Value) (d1 : T_api_Value) : Option Bool :=
  (ref03_Check n d0).bind fun x_1 =>
  bif (decide (x_1 = 0)) then
    ((ref03_Check n d1).bind fun x_2 =>
    bif (decide (x_2 = 0)) then
      ((ref03_sorted n d0).bind fun x_3 =>
      (ref03_sorted n d1).bind fun x_4 =>
      (ref03_compare n x_3 x_4).bind fun x_5 =>
      some ((decide (x_5 = 0))))
    else
      some ((false)))
  else
    some ((false))
theorem ref03_Equal_ok (n : Nat) (M : Mem) (c0 : List Value) (d0 : T_api_Value) (h0 : Rep M (emb_T_api_Value d0) c0) (c1 : List Value) (d1 : T_api_Value) (h1 : Rep M (emb_T_api_Value d1) c1) (r : Bool) (hF : ref03_Equal n d0 d1 = some r) : Ok Tryd.prog M 29 [.agg c0.toArray, .agg c1.toArray] (fun _ v => v = .bool r) := by
  unfold ref03_Equal at hF
  intro M1 hM0 w0 H w p0
  replace h0 := Rep.mono hM0 _ _ h0
  replace h1 := Rep.mono hM0 _ _ h1
  obtain ⟨A_1, cap_1, A_2, cap_2, rfl, h_1, h_2⟩ := T_api_Value.opn h0
  obtain ⟨A_3, cap_3, A_4, cap_4, rfl, h_3, h_4⟩ := T_api_Value.opn h1
  refine R_enter 21 Tryd.func29 rfl rfl (by simp) (fun a0 f0 => ?_)
  refine R_seq (R_reg ?_)
  refine V_box (cs := #[.int .i8 d0.fKind, .bool d0.fBool, .int .i64 d0.fNum, S d0.fText, .slice A_1 d0.fList.length cap_1, .slice A_2 d0.fKeys.length cap_2]) (T := 26) f0 p0 (by kernel_rfl) (fun _ => by kernel_rfl) (fun b_1 M_1 w_1 hM_1 hc_1 p_1 a_1 f_1 => ?_)
  have hc_2 := fz_box hc_1
  refine V_box (cs := #[.int .i8 d1.fKind, .bool d1.fBool, .int .i64 d1.fNum, S d1.fText, .slice A_3 d1.fList.length cap_3, .slice A_4 d1.fKeys.length cap_4]) (T := 26) f_1 p_1 (by kernel_rfl) (fun _ => by kernel_rfl) (fun b_2 M_2 w_2 hM_2 hc_3 p_2 a_2 f_2 => ?_)
  have hc_4 := fz_box hc_3
  refine V_run f_2 1 (by kernel_rfl) (fun a_3 f_3 => ?_)
  refine W_end rfl (T_n (R_seq ?_))
  refine R_mix (E := []) (Hr := (H)) [(0, true), (1, true), (2, true), (3, true), (4, true), (5, true), (6, true), (7, true), (8, true), (9, true), (11, true), (10, false), (12, false), (13, false), (14, true), (15, true), (16, true)] p_2 (by kernel_rfl) (by kernel_rfl) rfl (by kernel_rfl) ?_
  refine M_eq (v := .agg #[.int .i8 d0.fKind, .bool d0.fBool, .int .i64 d0.fNum, S d0.fText, .slice A_1 d0.fList.length cap_1, .slice A_2 d0.fKeys.length cap_2]) f_3 (by kernel_rfl) (by kernel_rfl) rfl rfl (fun _ pq => X_loadN (cs := [.int .i8 d0.fKind, .bool d0.fBool, .int .i64 d0.fNum, S d0.fText, .slice A_1 d0.fList.length cap_1, .slice A_2 d0.fKeys.length cap_2]) rfl (ad := ⟨b_1, 0, none⟩) (by kernel_rfl) (by kernel_rfl) (fun j v h => pq.cell ((fzu hM_2 hc_2) j v h))) (fun a_4 f_4 => ?_)
  obtain ⟨x_1, hx_1, hF_1⟩ := bind_some' hF
  refine M_okv (v := .int .i64 x_1) f_4 (by kernel_rfl) (by kernel_rfl) rfl rfl (fun _ => by kernel_rfl) (ref03_Check_ok n _ _ d0 (T_api_Value.shutx (x := d0) (h_1.mono (hM_1.trans hM_2)) (h_2.mono (hM_1.trans hM_2))) x_1 hx_1) (fun a_5 f_5 => ?_)
  refine M_run default f_5 2 (by kernel_rfl) (fun _ => by kernel_rfl) (fun a_6 f_6 => ?_)
  rcases Bool.eq_false_or_eq_true (decide (x_1 = 0)) with h_5 | h_5
  · have k_1 : x_1 = 0 := decide_eq_true_iff.1 h_5
    have hF_2 := cnd_t h_5 hF_1
    have f_7 := Frm.set f_6 8 (v := .bool (decide (x_1 = 0))) (v' := .bool true) (by kernel_rfl) (congrArg Value.bool h_5)
    refine M_eq (v := .agg #[.int .i8 d1.fKind, .bool d1.fBool, .int .i64 d1.fNum, S d1.fText, .slice A_3 d1.fList.length cap_3, .slice A_4 d1.fKeys.length cap_4]) f_7 (by kernel_rfl) (by kernel_rfl) rfl rfl (fun _ pq => X_loadN (cs := [.int .i8 d1.fKind, .bool d1.fBool, .int .i64 d1.fNum, S d1.fText, .slice A_3 d1.fList.length cap_3, .slice A_4 d1.fKeys.length cap_4]) rfl (ad := ⟨b_2, 0, none⟩) (by kernel_rfl) (by kernel_rfl) (fun j v h => pq.cell (hc_4 j v h))) (fun a_7 f_8 => ?_)
    obtain ⟨x_2, hx_2, hF_3⟩ := bind_some' hF_2
    refine M_okv (v := .int .i64 x_2) f_8 (by kernel_rfl) (by kernel_rfl) rfl rfl (fun _ => by kernel_rfl) (ref03_Check_ok n _ _ d1 (T_api_Value.shutx (x := d1) (h_3.mono (hM_1.trans hM_2)) (h_4.mono (hM_1.trans hM_2))) x_2 hx_2) (fun a_8 f_9 => ?_)
    refine M_run default f_9 3 (by kernel_rfl) (fun _ => by kernel_rfl) (fun a_9 f_10 => ?_)
    rcases Bool.eq_false_or_eq_true (decide (x_2 = 0)) with h_6 | h_6
    · have k_2 : x_2 = 0 := decide_eq_true_iff.1 h_6
      have hF_4 := cnd_t h_6 hF_3
      have f_11 := Frm.set f_10 13 (v := .bool (decide (x_2 = 0))) (v' := .bool true) (by kernel_rfl) (congrArg Value.bool h_6)
      refine M_eq (v := .agg #[.int .i8 d0.fKind, .bool d0.fBool, .int .i64 d0.fNum, S d0.fText, .slice A_1 d0.fList.length cap_1, .slice A_2 d0.fKeys.length cap_2]) f_11 (by kernel_rfl) (by kernel_rfl) rfl rfl (fun _ pq => X_loadN (cs := [.int .i8 d0.fKind, .bool d0.fBool, .int .i64 d0.fNum, S d0.fText, .slice A_1 d0.fList.length cap_1, .slice A_2 d0.fKeys.length cap_2]) rfl (ad := ⟨b_1, 0, none⟩) (by kernel_rfl) (by kernel_rfl) (fun j v h => pq.cell ((fzu hM_2 hc_2) j v h))) (fun a_10 f_12 => ?_)
      refine M_eq (v := .agg #[.int .i8 d1.fKind, .bool d1.fBool, .int .i64 d1.fNum, S d1.fText, .slice A_3 d1.fList.length cap_3, .slice A_4 d1.fKeys.length cap_4]) f_12 (by kernel_rfl) (by kernel_rfl) rfl rfl (fun _ pq => X_loadN (cs := [.int .i8 d1.fKind, .bool d1.fBool, .int .i64 d1.fNum, S d1.fText, .slice A_3 d1.fList.length cap_3, .slice A_4 d1.fKeys.length cap_4]) rfl (ad := ⟨b_2, 0, none⟩) (by kernel_rfl) (by kernel_rfl) (fun j v h => pq.cell (hc_4 j v h))) (fun a_11 f_13 => ?_)
      refine M_fix (E := []) (fun w_5 p_5 => ?_)
      obtain ⟨x_3, hx_3, hF_5⟩ := bind_some' hF_4
      refine V_ok f_13 p_5 (ref03_sorted_ok n _ _ d0 (T_api_Value.shutx (x := d0) (h_1.mono (hM_1.trans hM_2)) (h_2.mono (hM_1.trans hM_2))) x_3 hx_3) (by kernel_rfl) (fun _ => by kernel_rfl) (fun u_1 M_3 w_6 hM_3 p_6 q_1 a_12 f_14 => ?_)
      obtain ⟨c_1, rfl, hr_1⟩ := q_1
      obtain ⟨A_5, cap_5, A_6, cap_6, rfl, h_7, h_8⟩ := T_api_Value.opn hr_1
      refine W_end rfl ?_
      refine M_go (M1 := M_3) (E := []) hM_3 p_6 ?_
      refine M_fix (E := []) (fun w_7 p_7 => ?_)
      obtain ⟨x_4, hx_4, hF_6⟩ := bind_some' hF_5
      refine V_ok f_14 p_7 (ref03_sorted_ok n _ _ d1 (T_api_Value.shutx (x := d1) (h_3.mono ((hM_1.trans hM_2).trans hM_3)) (h_4.mono ((hM_1.trans hM_2).trans hM_3))) x_4 hx_4) (by kernel_rfl) (fun _ => by kernel_rfl) (fun u_2 M_4 w_8 hM_4 p_8 q_2 a_13 f_15 => ?_)
      obtain ⟨c_2, rfl, hr_2⟩ := q_2
      obtain ⟨A_7, cap_7, A_8, cap_8, rfl, h_9, h_10⟩ := T_api_Value.opn hr_2
      refine W_end rfl ?_
      refine M_go (M1 := M_4) (E := []) (hM_3.trans hM_4) p_8 ?_
      refine M_fix (E := []) (fun w_9 p_9 => ?_)
      obtain ⟨x_5, hx_5, hF_7⟩ := bind_some' hF_6
      refine V_okv f_15 p_9 (ref03_compare_ok n _ _ x_3 (T_api_Value.shutx (x := x_3) (h_7.mono hM_4) (h_8.mono hM_4)) _ x_4 (T_api_Value.shutx (x := x_4) h_9 h_10) x_5 hx_5) (by kernel_rfl) (fun _ => by kernel_rfl) (fun w_10 p_10 a_14 f_16 => ?_)
      refine W_end rfl ?_
      refine M_go (M1 := M_4) (E := []) (hM_3.trans hM_4) p_10 ?_
      refine M_run default f_16 3 (by kernel_rfl) (fun _ => by kernel_rfl) (fun a_15 f_17 => ?_)
      refine M_end rfl (fun w_11 p_11 => ?_)
      refine T_n (wp_ret ?_)
      refine E_ret1 f_17 rfl (by kernel_rfl : Vc.look _ 4 = some (.bool (decide (x_5 = 0)))) ?_
      obtain rfl := Option.some.inj hF_7
      exact ⟨_, rfl, M_4, (((hM_1.trans hM_2).trans hM_3).trans hM_4), p_11, rfl⟩
    · have k_3 : ¬ (x_2 = 0) := iff_f decide_eq_true_iff h_6
      have hF_8 := cnd_f h_6 hF_3
      have f_18 := Frm.set f_10 13 (v := .bool (decide (x_2 = 0))) (v' := .bool false) (by kernel_rfl) (congrArg Value.bool h_6)
      refine M_run default f_18 2 (by kernel_rfl) (fun _ => by kernel_rfl) (fun a_16 f_19 => ?_)
      refine M_fix (E := []) (fun w_12 p_12 => ?_)
      refine V_run f_19 1 (by kernel_rfl) (fun a_17 f_20 => ?_)
      refine W_end rfl ?_
      refine M_go (M1 := M_2) (E := []) (Mem.le_refl _) p_12 ?_
      refine M_fix (E := []) (fun w_13 p_13 => ?_)
      refine V_run f_20 1 (by kernel_rfl) (fun a_18 f_21 => ?_)
      refine W_end rfl ?_
      refine M_go (M1 := M_2) (E := []) (Mem.le_refl _) p_13 ?_
      refine M_fix (E := []) (fun w_14 p_14 => ?_)
      refine V_run f_21 1 (by kernel_rfl) (fun a_19 f_22 => ?_)
      refine W_end rfl ?_
      refine M_go (M1 := M_2) (E := []) (Mem.le_refl _) p_14 ?_
      refine M_run default f_22 3 (by kernel_rfl) (fun _ => by kernel_rfl) (fun a_20 f_23 => ?_)
      refine M_end rfl (fun w_15 p_15 => ?_)
      refine T_n (wp_ret ?_)
      refine E_ret1 f_23 rfl (by kernel_rfl : Vc.look _ 4 = some (.bool false)) ?_
      obtain rfl := Option.some.inj hF_8
      exact ⟨_, rfl, M_2, (hM_1.trans hM_2), p_15, rfl⟩
  · have k_4 : ¬ (x_1 = 0) := iff_f decide_eq_true_iff h_5
    have hF_9 := cnd_f h_5 hF_1
    have f_24 := Frm.set f_6 8 (v := .bool (decide (x_1 = 0))) (v' := .bool false) (by kernel_rfl) (congrArg Value.bool h_5)
    refine M_run default f_24 7 (by kernel_rfl) (fun _ => by kernel_rfl) (fun a_21 f_25 => ?_)
    refine M_fix (E := []) (fun w_16 p_16 => ?_)
    refine V_run f_25 1 (by kernel_rfl) (fun a_22 f_26 => ?_)
    refine W_end rfl ?_
    refine M_go (M1 := M_2) (E := []) (Mem.le_refl _) p_16 ?_
    refine M_fix (E := []) (fun w_17 p_17 => ?_)
    refine V_run f_26 1 (by kernel_rfl) (fun a_23 f_27 => ?_)
    refine W_end rfl ?_
    refine M_go (M1 := M_2) (E := []) (Mem.le_refl _) p_17 ?_
    refine M_fix (E := []) (fun w_18 p_18 => ?_)
    refine V_run f_27 1 (by kernel_rfl) (fun a_24 f_28 => ?_)
    refine W_end rfl ?_
    refine M_go (M1 := M_2) (E := []) (Mem.le_refl _) p_18 ?_
    refine M_run default f_28 3 (by kernel_rfl) (fun _ => by kernel_rfl) (fun a_25 f_29 => ?_)
    refine M_end rfl (fun w_19 p_19 => ?_)
    refine T_n (wp_ret ?_)
    refine E_ret1 f_29 rfl (by kernel_rfl : Vc.look _ 4 = some (.bool false)) ?_
    obtain rfl := Option.some.inj hF_9
    exact ⟨_, rfl, M_2, (hM_1.trans hM_2), p_19, rfl⟩

def ref03_Less (n : Nat) (d0 : T_api_Value) (d1 : T_api_Value) : Option Bool :=
  (ref03_Check n d0).bind fun x_1 =>
  bif (decide (x_1 = 0)) then
    ((ref03_Check n d1).bind fun x_2 =>
    bif (decide (x_2 = 0)) then
      ((ref03_sorted n d0).bind fun x_3 =>
      (ref03_sorted n d1).bind fun x_4 =>
      (ref03_compare n x_3 x_4).bind fun x_5 =>
      some ((decide (x_5 < 0))))
    else
      some ((false)))
  else
    some ((false))
theorem ref03_Less_ok (n : Nat) (M : Mem) (c0 : List Value) (d0 : T_api_Value) (h0 : Rep M (emb_T_api_Value d0) c0) (c1 : List Value) (d1 : T_api_Value) (h1 : Rep M (emb_T_api_Value d1) c1) (r : Bool) (hF : ref03_Less n d0 d1 = some r) : Ok Tryd.prog M 30 [.agg c0.toArray, .agg c1.toArray] (fun _ v => v = .bool r) := by
  unfold ref03_Less at hF
  intro M1 hM0 w0 H w p0
  replace h0 := Rep.mono hM0 _ _ h0
  replace h1 := Rep.mono hM0 _ _ h1
  obtain ⟨A_1, cap_1, A_2, cap_2, rfl, h_1, h_2⟩ := T_api_Value.opn h0
  obtain ⟨A_3, cap_3, A_4, cap_4, rfl, h_3, h_4⟩ := T_api_Value.opn h1
  refine R_enter 21 Tryd.func30 rfl rfl (by simp) (fun a0 f0 => ?_)
  refine R_seq (R_reg ?_)
  refine V_box (cs := #[.int .i8 d0.fKind, .bool d0.fBool, .int .i64 d0.fNum, S d0.fText, .slice A_1 d0.fList.length cap_1, .slice A_2 d0.fKeys.length cap_2]) (T := 26) f0 p0 (by kernel_rfl) (fun _ => by kernel_rfl) (fun b_1 M_1 w_1 hM_1 hc_1 p_1 a_1 f_1 => ?_)
  have hc_2 := fz_box hc_1
  refine V_box (cs := #[.int .i8 d1.fKind, .bool d1.fBool, .int .i64 d1.fNum, S d1.fText, .slice A_3 d1.fList.length cap_3, .slice A_4 d1.fKeys.length cap_4]) (T := 26) f_1 p_1 (by kernel_rfl) (fun _ => by kernel_rfl) (fun b_2 M_2 w_2 hM_2 hc_3 p_2 a_2 f_2 => ?_)
  have hc_4 := fz_box hc_3
  refine V_run f_2 1 (by kernel_rfl) (fun a_3 f_3 => ?_)
  refine W_end rfl (T_n (R_seq ?_))
  refine R_mix (E := []) (Hr := (H)) [(0, true), (1, true), (2, true), (3, true), (4, true), (5, true), (6, true), (7, true), (8, true), (9, true), (11, true), (10, false), (12, false), (13, false), (14, true), (15, true), (16, true)] p_2 (by kernel_rfl) (by kernel_rfl) rfl (by kernel_rfl) ?_
  refine M_eq (v := .agg #[.int .i8 d0.fKind, .bool d0.fBool, .int .i64 d0.fNum, S d0.fText, .slice A_1 d0.fList.length cap_1, .slice A_2 d0.fKeys.length cap_2]) f_3 (by kernel_rfl) (by kernel_rfl) rfl rfl (fun _ pq => X_loadN (cs := [.int .i8 d0.fKind, .bool d0.fBool, .int .i64 d0.fNum, S d0.fText, .slice A_1 d0.fList.length cap_1, .slice A_2 d0.fKeys.length cap_2]) rfl (ad := ⟨b_1, 0, none⟩) (by kernel_rfl) (by kernel_rfl) (fun j v h => pq.cell ((fzu hM_2 hc_2) j v h))) (fun a_4 f_4 => ?_)
  obtain ⟨x_1, hx_1, hF_1⟩ := bind_some' hF
  refine M_okv (v := .int .i64 x_1) f_4 (by kernel_rfl) (by kernel_rfl) rfl rfl (fun _ => by kernel_rfl) (ref03_Check_ok n _ _ d0 (T_api_Value.shutx (x := d0) (h_1.mono (hM_1.trans hM_2)) (h_2.mono (hM_1.trans hM_2))) x_1 hx_1) (fun a_5 f_5 => ?_)
  refine M_run default f_5 2 (by kernel_rfl) (fun _ => by kernel_rfl) (fun a_6 f_6 => ?_)
  rcases Bool.eq_false_or_eq_true (decide (x_1 = 0)) with h_5 | h_5
  · have k_1 : x_1 = 0 := decide_eq_true_iff.1 h_5
    have hF_2 := cnd_t h_5 hF_1
    have f_7 := Frm.set f_6 8 (v := .bool (decide (x_1 = 0))) (v' := .bool true) (by kernel_rfl) (congrArg Value.bool h_5)
    refine M_eq (v := .agg #[.int .i8 d1.fKind, .bool d1.fBool, .int .i64 d1.fNum, S d1.fText, .slice A_3 d1.fList.length cap_3, .slice A_4 d1.fKeys.length cap_4]) f_7 (by kernel_rfl) (by kernel_rfl) rfl rfl (fun _ pq => X_loadN (cs := [.int .i8 d1.fKind, .bool d1.fBool, .int .i64 d1.fNum, S d1.fText, .slice A_3 d1.fList.length cap_3, .slice A_4 d1.fKeys.length cap_4]) rfl (ad := ⟨b_2, 0, none⟩) (by kernel_rfl) (by kernel_rfl) (fun j v h => pq.cell (hc_4 j v h))) (fun a_7 f_8 => ?_)
    obtain ⟨x_2, hx_2, hF_3⟩ := bind_some' hF_2
    refine M_okv (v := .int .i64 x_2) f_8 (by kernel_rfl) (by kernel_rfl) rfl rfl (fun _ => by kernel_rfl) (ref03_Check_ok n _ _ d1 (T_api_Value.shutx (x := d1) (h_3.mono (hM_1.trans hM_2)) (h_4.mono (hM_1.trans hM_2))) x_2 hx_2) (fun a_8 f_9 => ?_)
    refine M_run default f_9 3 (by kernel_rfl) (fun _ => by kernel_rfl) (fun a_9 f_10 => ?_)
    rcases Bool.eq_false_or_eq_true (decide (x_2 = 0)) with h_6 | h_6
    · have k_2 : x_2 = 0 := decide_eq_true_iff.1 h_6
      have hF_4 := cnd_t h_6 hF_3
      have f_11 := Frm.set f_10 13 (v := .bool (decide (x_2 = 0))) (v' := .bool true) (by kernel_rfl) (congrArg Value.bool h_6)
      refine M_eq (v := .agg #[.int .i8 d0.fKind, .bool d0.fBool, .int .i64 d0.fNum, S d0.fText, .slice A_1 d0.fList.length cap_1, .slice A_2 d0.fKeys.length cap_2]) f_11 (by kernel_rfl) (by kernel_rfl) rfl rfl (fun _ pq => X_loadN (cs := [.int .i8 d0.fKind, .bool d0.fBool, .int .i64 d0.fNum, S d0.fText, .slice A_1 d0.fList.length cap_1, .slice A_2 d0.fKeys.length cap_2]) rfl (ad := ⟨b_1, 0, none⟩) (by kernel_rfl) (by kernel_rfl) (fun j v h => pq.cell ((fzu hM_2 hc_2) j v h))) (fun a_10 f_12 => ?_)
      refine M_eq (v := .agg #[.int .i8 d1.fKind, .bool d1.fBool, .int .i64 d1.fNum, S d1.fText, .slice A_3 d1.fList.length cap_3, .slice A_4 d1.fKeys.length cap_4]) f_12 (by kernel_rfl) (by kernel_rfl) rfl rfl (fun _ pq => X_loadN (cs := [.int .i8 d1.fKind, .bool d1.fBool, .int .i64 d1.fNum, S d1.fText, .slice A_3 d1.fList.length cap_3, .slice A_4 d1.fKeys.length cap_4]) rfl (ad := ⟨b_2, 0, none⟩) (by kernel_rfl) (by kernel_rfl) (fun j v h => pq.cell (hc_4 j v h))) (fun a_11 f_13 => ?_)
      refine M_fix (E := []) (fun w_5 p_5 => ?_)
      obtain ⟨x_3, hx_3, hF_5⟩ := bind_some' hF_4
      refine V_ok f_13 p_5 (ref03_sorted_ok n _ _ d0 (T_api_Value.shutx (x := d0) (h_1.mono (hM_1.trans hM_2)) (h_2.mono (hM_1.trans hM_2))) x_3 hx_3) (by kernel_rfl) (fun _ => by kernel_rfl) (fun u_1 M_3 w_6 hM_3 p_6 q_1 a_12 f_14 => ?_)
      obtain ⟨c_1, rfl, hr_1⟩ := q_1
      obtain ⟨A_5, cap_5, A_6, cap_6, rfl, h_7, h_8⟩ := T_api_Value.opn hr_1
      refine W_end rfl ?_
      refine M_go (M1 := M_3) (E := []) hM_3 p_6 ?_
      refine M_fix (E := []) (fun w_7 p_7 => ?_)
      obtain ⟨x_4, hx_4, hF_6⟩ := bind_some' hF_5
      refine V_ok f_14 p_7 (ref03_sorted_ok n _ _ d1 (T_api_Value.shutx (x := d1) (h_3.mono ((hM_1.trans hM_2).trans hM_3)) (h_4.mono ((hM_1.trans hM_2).trans hM_3))) x_4 hx_4) (by kernel_rfl) (fun _ => by kernel_rfl) (fun u_2 M_4 w_8 hM_4 p_8 q_2 a_13 f_15 => ?_)
      obtain ⟨c_2, rfl, hr_2⟩ := q_2
      obtain ⟨A_7, cap_7, A_8, cap_8, rfl, h_9, h_10⟩ := T_api_Value.opn hr_2
      refine W_end rfl ?_
      refine M_go (M1 := M_4) (E := []) (hM_3.trans hM_4) p_8 ?_
      refine M_fix (E := []) (fun w_9 p_9 => ?_)
      obtain ⟨x_5, hx_5, hF_7⟩ := bind_some' hF_6
      refine V_okv f_15 p_9 (ref03_compare_ok n _ _ x_3 (T_api_Value.shutx (x := x_3) (h_7.mono hM_4) (h_8.mono hM_4)) _ x_4 (T_api_Value.shutx (x := x_4) h_9 h_10) x_5 hx_5) (by kernel_rfl) (fun _ => by kernel_rfl) (fun w_10 p_10 a_14 f_16 => ?_)
      refine W_end rfl ?_
      refine M_go (M1 := M_4) (E := []) (hM_3.trans hM_4) p_10 ?_
      refine M_run default f_16 3 (by kernel_rfl) (fun _ => by kernel_rfl) (fun a_15 f_17 => ?_)
      refine M_end rfl (fun w_11 p_11 => ?_)
      refine T_n (wp_ret ?_)
      refine E_ret1 f_17 rfl (by kernel_rfl : Vc.look _ 4 = some (.bool (decide (x_5 < 0)))) ?_
      obtain rfl := Option.some.inj hF_7
      exact ⟨_, rfl, M_4, (((hM_1.trans hM_2).trans hM_3).trans hM_4), p_11, rfl⟩
    · have k_3 : ¬ (x_2 = 0) := iff_f decide_eq_true_iff h_6
      have hF_8 := cnd_f h_6 hF_3
      have f_18 := Frm.set f_10 13 (v := .bool (decide (x_2 = 0))) (v' := .bool false) (by kernel_rfl) (congrArg Value.bool h_6)
      refine M_run default f_18 2 (by kernel_rfl) (fun _ => by kernel_rfl) (fun a_16 f_19 => ?_)
      refine M_fix (E := []) (fun w_12 p_12 => ?_)
      refine V_run f_19 1 (by kernel_rfl) (fun a_17 f_20 => ?_)
      refine W_end rfl ?_
      refine M_go (M1 := M_2) (E := []) (Mem.le_refl _) p_12 ?_
      refine M_fix (E := []) (fun w_13 p_13 => ?_)
      refine V_run f_20 1 (by kernel_rfl) (fun a_18 f_21 => ?_)
      refine W_end rfl ?_
      refine M_go (M1 := M_2) (E := []) (Mem.le_refl _) p_13 ?_
      refine M_fix (E := []) (fun w_14 p_14 => ?_)
      refine V_run f_21 1 (by kernel_rfl) (fun a_19 f_22 => ?_)
      refine W_end rfl ?_
      refine M_go (M1 := M_2) (E := []) (Mem.le_refl _) p_14 ?_
      refine M_run default f_22 3 (by kernel_rfl) (fun _ => by kernel_rfl) (fun a_20 f_23 => ?_)
      refine M_end rfl (fun w_15 p_15 => ?_)
      refine T_n (wp_ret ?_)
      refine E_ret1 f_23 rfl (by kernel_rfl : Vc.look _ 4 = some (.bool false)) ?_
      obtain rfl := Option.some.inj hF_8
      exact ⟨_, rfl, M_2, (hM_1.trans hM_2), p_15, rfl⟩
  · have k_4 : ¬ (x_1 = 0) := iff_f decide_eq_true_iff h_5
    have hF_9 := cnd_f h_5 hF_1
    have f_24 := Frm.set f_6 8 (v := .bool (decide (x_1 = 0))) (v' := .bool false) (by kernel_rfl) (congrArg Value.bool h_5)
    refine M_run default f_24 7 (by kernel_rfl) (fun _ => by kernel_rfl) (fun a_21 f_25 => ?_)
    refine M_fix (E := []) (fun w_16 p_16 => ?_)
    refine V_run f_25 1 (by kernel_rfl) (fun a_22 f_26 => ?_)
    refine W_end rfl ?_
    refine M_go (M1 := M_2) (E := []) (Mem.le_refl _) p_16 ?_
    refine M_fix (E := []) (fun w_17 p_17 => ?_)
    refine V_run f_26 1 (by kernel_rfl) (fun a_23 f_27 => ?_)
    refine W_end rfl ?_
    refine M_go (M1 := M_2) (E := []) (Mem.le_refl _) p_17 ?_
    refine M_fix (E := []) (fun w_18 p_18 => ?_)
    refine V_run f_27 1 (by kernel_rfl) (fun a_24 f_28 => ?_)
    refine W_end rfl ?_
    refine M_go (M1 := M_2) (E := []) (Mem.le_refl _) p_18 ?_
    refine M_run default f_28 3 (by kernel_rfl) (fun _ => by kernel_rfl) (fun a_25 f_29 => ?_)
    refine M_end rfl (fun w_19 p_19 => ?_)
    refine T_n (wp_ret ?_)
    refine E_ret1 f_29 rfl (by kernel_rfl : Vc.look _ 4 = some (.bool false)) ?_
    obtain rfl := Option.some.inj hF_9
    exact ⟨_, rfl, M_2, (hM_1.trans hM_2), p_19, rfl⟩

def ref03_Get_s1 (n : Nat) (d0 : T_api_Value) (d1 : List UInt8) (s_1 : Int × Int × Bool × Int × List UInt8 × List T_api_Value × List (List UInt8)) : Option (Lp (Int × Int × Bool × Int × List UInt8 × List T_api_Value × List (List UInt8)) (Sum (Int × Bool × Int × List UInt8 × List T_api_Value × List (List UInt8)) (Int × Bool × Int × List UInt8 × List T_api_Value × List (List UInt8)))) :=
    bif (decide (s_1.1 < ((d0.fKeys.length : Nat) : Int))) then
      ((getI d0.fKeys s_1.1).bind fun x_1 =>
      bif (decide (x_1 = d1)) then
        ((getI d0.fList s_1.1).bind fun x_2 =>
        some (.br (.inl (x_2.fKind, (x_2.fBool), x_2.fNum, x_2.fText, x_2.fList, x_2.fKeys))))
      else
        need (inR .i64 (s_1.1 + 1)) <|
        some (.nx (s_1.1 + 1, s_1.2.1, (s_1.2.2.1), s_1.2.2.2.1, s_1.2.2.2.2.1, s_1.2.2.2.2.2.1, s_1.2.2.2.2.2.2)))
    else
      some (.br (.inr (s_1.2.1, (s_1.2.2.1), s_1.2.2.2.1, s_1.2.2.2.2.1, s_1.2.2.2.2.2.1, s_1.2.2.2.2.2.2)))
def ref03_Get (n : Nat) (d0 : T_api_Value) (d1 : List UInt8) : Option (T_api_Value × Bool) :=
  ((bif (!(decide (d0.fKind = 5))) then
      (some ((true)))
    else
      some ((!(decide (((d0.fKeys.length : Nat) : Int) = ((d0.fList.length : Nat) : Int))))) : Option Bool)).bind fun y_1 =>
  bif y_1 then
    (some ((z_T_api_Value, (false))))
  else
    (loopF (ref03_Get_s1 n d0 d1) n ((0 : Int), (0 : Int), (false), (0 : Int), ([] : List UInt8), ([] : List T_api_Value), ([] : List (List UInt8)))).bind fun b_3 =>
    (match b_3 with 
    | .inl y_2 => some (((⟨y_2.1, (y_2.2.1), y_2.2.2.1, y_2.2.2.2.1, y_2.2.2.2.2.1, y_2.2.2.2.2.2⟩ : T_api_Value), (true))) 
    | .inr y_3 => some ((z_T_api_Value, (false))))
theorem ref03_Get_ok (n : Nat) (M : Mem) (c0 : List Value) (d0 : T_api_Value) (h0 : Rep M (emb_T_api_Value d0) c0) (d1 : List UInt8) (r : T_api_Value × Bool) (hF : ref03_Get n d0 d1 = some r) : Ok Tryd.prog M 26 [.agg c0.toArray, S d1] (fun M' v => ∃ (c0 : List Value), v = .tuple #[.agg c0.toArray, .bool r.2] ∧ Rep M' (emb_T_api_Value r.1) c0) := by
  unfold ref03_Get at hF
  intro M1 hM0 w0 H w p0
  replace h0 := Rep.mono hM0 _ _ h0
  obtain ⟨A_1, cap_1, A_2, cap_2, rfl, h_1, h_2⟩ := T_api_Value.opn h0
  refine R_enter 40 Tryd.func26 rfl rfl (by simp) (fun a0 f0 => ?_)
  refine R_seq (R_reg ?_)
  refine V_box (cs := #[.int .i8 d0.fKind, .bool d0.fBool, .int .i64 d0.fNum, S d0.fText, .slice A_1 d0.fList.length cap_1, .slice A_2 d0.fKeys.length cap_2]) (T := 26) f0 p0 (by kernel_rfl) (fun _ => by kernel_rfl) (fun b_1 M_1 w_1 hM_1 hc_1 p_1 a_1 f_1 => ?_)
  have hc_2 := fz_box hc_1
  refine V_alloc f_1 p_1 (.cells #[.int .i8 0, .bool false, .int .i64 0, S [], .slice none 0 0, .slice none 0 0] 26 (0, 0)) (by kernel_rfl) (fun _ => by kernel_rfl) (fun b_2 w_2 p_2 a_2 f_2 => ?_)
  refine V_run f_2 1 (by kernel_rfl) (fun a_3 f_3 => ?_)
  refine W_end rfl (T_n (R_seq (R_seq ?_)))
  obtain ⟨j_1, hj_1, hF_1⟩ := bind_some' hF
  refine R_mid (fun a_13 w_3 => ∃ y_1 : Bool, j_1 = y_1 ∧ ∃ M_2 : Mem, M_1.le M_2 ∧ Frm 40 [(1, S d1), (2, .pointer (some (⟨b_1, 0, none⟩))), (4, .pointer (some (⟨b_2, 0, none⟩))), (18, .bool y_1)] a_13 ∧ Hp w0 M_2 ((Ent.obj b_2 (.cells #[.int .i8 0, .bool false, .int .i64 0, S [], .slice none 0 0, .slice none 0 0] 26 (0, 0))) :: H) w_3) ?_ ?_
  · refine R_reg ?_
    refine V_run f_3 1 (by kernel_rfl) (fun a_4 f_4 => ?_)
    refine V_ld f_4 p_2 hc_2 0 rfl (by kernel_rfl) (by kernel_rfl) (fun a_5 f_5 => ?_)
    refine V_run f_5 2 (by kernel_rfl) (fun a_6 f_6 => ?_)
    rcases Bool.eq_false_or_eq_true (!(decide (d0.fKind = 5))) with h_3 | h_3
    · have k_1 : ¬ (d0.fKind = 5) := (not_iff decide_eq_true_iff).1 h_3
      have hF_2 := cnd_t h_3 hj_1
      have f_7 := Frm.set f_6 10 (v := .bool (!(decide (d0.fKind = 5)))) (v' := .bool true) (by kernel_rfl) (congrArg Value.bool h_3)
      refine V_run f_7 8 (by kernel_rfl) (fun a_7 f_8 => ?_)
      refine W_end rfl (T_n ?_)
      exact ⟨(true), (Option.some.inj hF_2).symm, M_1, (Mem.le_refl _), f_8.keep (ks := [1, 2, 4, 18]) (by kernel_rfl), p_2⟩
    · have k_2 : ¬ (¬ (d0.fKind = 5)) := iff_f (not_iff decide_eq_true_iff) h_3
      have hF_3 := cnd_f h_3 hj_1
      have f_9 := Frm.set f_6 10 (v := .bool (!(decide (d0.fKind = 5)))) (v' := .bool false) (by kernel_rfl) (congrArg Value.bool h_3)
      refine V_run f_9 1 (by kernel_rfl) (fun a_8 f_10 => ?_)
      refine V_ld f_10 p_2 hc_2 5 rfl (by kernel_rfl) (by kernel_rfl) (fun a_9 f_11 => ?_)
      refine V_run f_11 2 (by kernel_rfl) (fun a_10 f_12 => ?_)
      refine V_ld f_12 p_2 hc_2 4 rfl (by kernel_rfl) (by kernel_rfl) (fun a_11 f_13 => ?_)
      refine V_run f_13 3 (by kernel_rfl) (fun a_12 f_14 => ?_)
      refine W_end rfl (T_n ?_)
      exact ⟨(!(decide (((d0.fKeys.length : Nat) : Int) = ((d0.fList.length : Nat) : Int)))), (Option.some.inj hF_3).symm, M_1, (Mem.le_refl _), f_14.keep (ks := [1, 2, 4, 18]) (by kernel_rfl), p_2⟩
  · rintro a_13 w_3 ⟨y_1, hq_1, M_2, hM_2, f_15, p_3⟩
    subst j_1
    refine T_n ?_
    refine R_cond f_15 (b := y_1) (by kernel_rfl) (by kernel_rfl) (fun h_4 => ?_) (fun h_4 => ?_)
    · have hF_4 := cnd_t h_4 hF_1
      refine R_seq (R_reg ?_)
      refine V_run f_15 1 (by kernel_rfl) (fun a_14 f_16 => ?_)
      refine W_storeN (vs := [.int .i8 0, .bool false, .int .i64 0, S [], .slice none 0 0, .slice none 0 0]) (j := 0) f_16 p_3 (by kernel_rfl) (by kernel_rfl) rfl rfl (by kernel_rfl) (by kernel_rfl) (by simp [Value.oneCell', S]) (by kernel_rfl) (by simp) (by decide) (cs' := #[.int .i8 0, .bool false, .int .i64 0, S [], .slice none 0 0, .slice none 0 0]) rfl (fun w_4 p_4 a_15 f_17 => ?_)
      refine V_run f_17 1 (by kernel_rfl) (fun a_16 f_18 => ?_)
      refine W_end rfl (T_n (wp_ret (T_r ?_)))
      refine E_rv2 f_18 rfl (Rv.cellN (cs := [.int .i8 0, .bool false, .int .i64 0, S [], .slice none 0 0, .slice none 0 0]) (ad := ⟨b_2, 0, none⟩) f_18 (by kernel_rfl) (by kernel_rfl) (own_cells (p_4.ownCell 0 rfl) 0 rfl)) (Rv.slot (v := .bool false) f_18 (by kernel_rfl)) ?_
      obtain rfl := Option.some.inj hF_4
      exact ⟨_, rfl, M_2, (hM_1.trans hM_2), (p_4.dropN 1), ⟨[.int .i8 0, .bool false, .int .i64 0, S [], .slice none 0 0, .slice none 0 0], rfl, (T_api_Value.shut Sli.nil Sli.nil)⟩⟩
    · have hF_5 := cnd_f h_4 hF_1
      refine wp_skip (T_n (R_seq (R_seq (R_reg ?_))))
      refine V_run f_15 1 (by kernel_rfl) (fun a_17 f_19 => ?_)
      refine W_end rfl (T_n (wp_block ?_))
      obtain ⟨b_3, hL_1, hF_6⟩ := bind_some' hF_5
      refine wp_mono (Q := fun e a w => (e = .ret ∧ (∃ y_2 : Int × Bool × Int × List UInt8 × List T_api_Value × List (List UInt8), b_3 = .inl y_2 ∧ ∃ M_4 : Mem, M_2.le M_4 ∧ ∃ (A_7 : Option Addr), ∃ (cap_7 : Nat), ∃ (A_8 : Option Addr), ∃ (cap_8 : Nat), Sli M_4 6 emb_T_api_Value A_7 cap_7 y_2.2.2.2.2.1 ∧ Sli M_4 1 Dat.str A_8 cap_8 y_2.2.2.2.2.2 ∧ Frm 40 [(4, .pointer (some (⟨b_2, 0, none⟩))), (5, .bool true)] a ∧ Hp w0 M_4 ((Ent.obj b_2 (.cells #[.int .i8 y_2.1, .bool y_2.2.1, .int .i64 y_2.2.2.1, S y_2.2.2.2.1, .slice A_7 y_2.2.2.2.2.1.length cap_7, .slice A_8 y_2.2.2.2.2.2.length cap_8] 26 (0, 0))) :: H) w)) ∨ (e = .exit 0 ∧ (∃ y_3 : Int × Bool × Int × List UInt8 × List T_api_Value × List (List UInt8), b_3 = .inr y_3 ∧ ∃ M_5 : Mem, M_2.le M_5 ∧ ∃ (A_9 : Option Addr), ∃ (cap_9 : Nat), ∃ (A_10 : Option Addr), ∃ (cap_10 : Nat), Sli M_5 6 emb_T_api_Value A_9 cap_9 y_3.2.2.2.2.1 ∧ Sli M_5 1 Dat.str A_10 cap_10 y_3.2.2.2.2.2 ∧ Frm 40 [(4, .pointer (some (⟨b_2, 0, none⟩)))] a ∧ Hp w0 M_5 ((Ent.obj b_2 (.cells #[.int .i8 y_3.1, .bool y_3.2.1, .int .i64 y_3.2.2.1, S y_3.2.2.2.1, .slice A_9 y_3.2.2.2.2.1.length cap_9, .slice A_10 y_3.2.2.2.2.2.length cap_10] 26 (0, 0))) :: H) w))) (R_loop (n := 40) (w0 := w0) (M := M_2) (fun (x : Nat × (Int × Int × Bool × Int × List UInt8 × List T_api_Value × List (List UInt8)) × (Option Addr) × Nat × (Option Addr) × Nat) => match x with | (m_1, s_1, A_3, cap_3, A_4, cap_4) => [(1, S d1), (2, .pointer (some (⟨b_1, 0, none⟩))), (4, .pointer (some (⟨b_2, 0, none⟩))), (6, .int .i64 s_1.1)]) (fun (x : Nat × (Int × Int × Bool × Int × List UInt8 × List T_api_Value × List (List UInt8)) × (Option Addr) × Nat × (Option Addr) × Nat) => match x with | (m_1, s_1, A_3, cap_3, A_4, cap_4) => ((Ent.obj b_2 (.cells #[.int .i8 s_1.2.1, .bool s_1.2.2.1, .int .i64 s_1.2.2.2.1, S s_1.2.2.2.2.1, .slice A_3 s_1.2.2.2.2.2.1.length cap_3, .slice A_4 s_1.2.2.2.2.2.2.length cap_4] 26 (0, 0))) :: H)) (fun (x : Nat × (Int × Int × Bool × Int × List UInt8 × List T_api_Value × List (List UInt8)) × (Option Addr) × Nat × (Option Addr) × Nat) (MM : Mem) => match x with | (m_1, s_1, A_3, cap_3, A_4, cap_4) => loopF (ref03_Get_s1 n d0 d1) m_1 s_1 = some b_3 ∧ Sli MM 6 emb_T_api_Value A_3 cap_3 s_1.2.2.2.2.2.1 ∧ Sli MM 1 Dat.str A_4 cap_4 s_1.2.2.2.2.2.2) (fun (x : Nat × (Int × Int × Bool × Int × List UInt8 × List T_api_Value × List (List UInt8)) × (Option Addr) × Nat × (Option Addr) × Nat) => match x with | (m_1, s_1, A_3, cap_3, A_4, cap_4) => m_1) (n, ((0 : Int), (0 : Int), (false), (0 : Int), ([] : List UInt8), ([] : List T_api_Value), ([] : List (List UInt8))), none, 0, none, 0) (f_19.keep (ks := [1, 2, 4, 6]) (by kernel_rfl)) p_3 ⟨hL_1, Sli.nil, Sli.nil⟩ ?_) ?_
      · rintro ⟨m_1, s_1, A_3, cap_3, A_4, cap_4⟩ M_3 a_18 w_5 hM_3 I_1 f_20 p_5
        obtain ⟨I_1L, h_5, h_6⟩ := I_1
        obtain ⟨m_2, r_1, rfl, hs_1, hn_1⟩ := loop_step I_1L
        unfold ref03_Get_s1 at hs_1
        refine R_seq (R_seq (R_reg ?_))
        refine V_run f_20 2 (by kernel_rfl) (fun a_19 f_21 => ?_)
        refine V_ld f_21 p_5 (fzu (hM_2.trans hM_3) hc_2) 5 rfl (by kernel_rfl) (by kernel_rfl) (fun a_20 f_22 => ?_)
        refine V_run f_22 2 (by kernel_rfl) (fun a_21 f_23 => ?_)
        refine W_end rfl (T_n ?_)
        refine R_cond f_23 (b := decide (s_1.1 < ((d0.fKeys.length : Nat) : Int))) (by kernel_rfl) (by kernel_rfl) (fun h_7 => ?_) (fun h_7 => ?_)
        · have k_5 : s_1.1 < ((d0.fKeys.length : Nat) : Int) := decide_eq_true_iff.1 h_7
          have hF_7 := cnd_t h_7 hs_1
          refine wp_skip (T_n (R_seq (wp_block (R_seq (R_reg ?_)))))
          refine V_run f_23 1 (by kernel_rfl) (fun a_22 f_24 => ?_)
          refine V_ld f_24 p_5 (fzu (hM_2.trans hM_3) hc_2) 5 rfl (by kernel_rfl) (by kernel_rfl) (fun a_23 f_25 => ?_)
          refine V_run f_25 1 (by kernel_rfl) (fun a_24 f_26 => ?_)
          obtain ⟨x_1, hx_1, hF_8⟩ := bind_some' hF_7
          obtain ⟨ad_1, c_1, e_1, hl_1, hr_1, hc_3⟩ := Sli.at_ (h_2.mono ((hM_1.trans hM_2).trans hM_3)) hx_1
          clear hl_1
          obtain rfl : c_1 = [S x_1] := hr_1
          refine V_eq (v := .pointer (some (ad_1.add (s_1.1.toNat * 1)))) f_26 (by kernel_rfl) (X_indexAddrA e_1 rfl (len := d0.fKeys.length) (cap := cap_2) (k := .i64) (i := s_1.1) (by kernel_rfl) (by kernel_rfl) (e := 9) (by kernel_rfl) (sz := 1) (by kernel_rfl) (getI_nn hx_1) (getI_lt hx_1)) (fun a_25 f_27 => ?_)
          refine V_ld f_27 p_5 hc_3 0 rfl (by kernel_rfl) (by kernel_rfl) (fun a_26 f_28 => ?_)
          refine V_run f_28 1 (by kernel_rfl) (fun a_27 f_29 => ?_)
          refine V_eq (v := .bool (decide (x_1 = d1))) f_29 (by kernel_rfl) (X_streq rfl (l := x_1) (m := d1) (by kernel_rfl) (by kernel_rfl)) (fun a_28 f_30 => ?_)
          refine W_end rfl (T_n ?_)
          refine R_cond f_30 (b := decide (x_1 = d1)) (by kernel_rfl) (by kernel_rfl) (fun h_8 => ?_) (fun h_8 => ?_)
          · have k_6 : x_1 = d1 := decide_eq_true_iff.1 h_8
            have hF_9 := cnd_t h_8 hF_8
            refine R_seq (R_reg ?_)
            refine V_run f_30 1 (by kernel_rfl) (fun a_29 f_31 => ?_)
            refine V_ld f_31 p_5 (fzu (hM_2.trans hM_3) hc_2) 4 rfl (by kernel_rfl) (by kernel_rfl) (fun a_30 f_32 => ?_)
            refine V_run f_32 1 (by kernel_rfl) (fun a_31 f_33 => ?_)
            obtain ⟨x_2, hx_2, hF_10⟩ := bind_some' hF_9
            obtain ⟨ad_2, c_2, e_2, hl_2, hr_2, hc_4⟩ := Sli.at_ (h_1.mono ((hM_1.trans hM_2).trans hM_3)) hx_2
            clear hl_2
            obtain ⟨A_5, cap_5, A_6, cap_6, rfl, h_9, h_10⟩ := T_api_Value.opn hr_2
            refine V_eq (v := .pointer (some (ad_2.add (s_1.1.toNat * 6)))) f_33 (by kernel_rfl) (X_indexAddrA e_2 rfl (len := d0.fList.length) (cap := cap_1) (k := .i64) (i := s_1.1) (by kernel_rfl) (by kernel_rfl) (e := 26) (by kernel_rfl) (sz := 6) (by kernel_rfl) (getI_nn hx_2) (getI_lt hx_2)) (fun a_32 f_34 => ?_)
            refine V_eq (v := .agg #[.int .i8 x_2.fKind, .bool x_2.fBool, .int .i64 x_2.fNum, S x_2.fText, .slice A_5 x_2.fList.length cap_5, .slice A_6 x_2.fKeys.length cap_6]) f_34 (by kernel_rfl) (X_loadN (cs := [.int .i8 x_2.fKind, .bool x_2.fBool, .int .i64 x_2.fNum, S x_2.fText, .slice A_5 x_2.fList.length cap_5, .slice A_6 x_2.fKeys.length cap_6]) rfl (ad := ad_2.add (s_1.1.toNat * 6)) (by kernel_rfl) (by kernel_rfl) (fun j v h => p_5.cell (hc_4 j v h))) (fun a_33 f_35 => ?_)
            refine W_storeN (vs := [.int .i8 x_2.fKind, .bool x_2.fBool, .int .i64 x_2.fNum, S x_2.fText, .slice A_5 x_2.fList.length cap_5, .slice A_6 x_2.fKeys.length cap_6]) (j := 0) f_35 p_5 (by kernel_rfl) (by kernel_rfl) rfl rfl (by kernel_rfl) (by kernel_rfl) (by simp [Value.oneCell', S]) (by kernel_rfl) (by simp) (by decide) (cs' := #[.int .i8 x_2.fKind, .bool x_2.fBool, .int .i64 x_2.fNum, S x_2.fText, .slice A_5 x_2.fList.length cap_5, .slice A_6 x_2.fKeys.length cap_6]) rfl (fun w_6 p_6 a_34 f_36 => ?_)
            refine V_run f_36 1 (by kernel_rfl) (fun a_35 f_37 => ?_)
            refine W_end rfl (T_n (wp_ret (B_r (T_r (T_r ?_)))))
            obtain rfl := Option.some.inj hF_10
            exact .inl ⟨rfl, (x_2.fKind, (x_2.fBool), x_2.fNum, x_2.fText, x_2.fList, x_2.fKeys), (Option.some.inj hn_1).symm, M_3, hM_3, A_5, cap_5, A_6, cap_6, h_9, h_10, f_37.keep (ks := [4, 5]) (by kernel_rfl), p_6⟩
          · have k_7 : ¬ (x_1 = d1) := iff_f decide_eq_true_iff h_8
            have hF_11 := cnd_f h_8 hF_8
            refine wp_skip (B_n (T_n (R_reg ?_)))
            refine V_run f_30 1 (by kernel_rfl) (fun a_36 f_38 => ?_)
            obtain ⟨g_1, hF_12⟩ := need_some hF_11
            refine V_run f_38 1 (by kernel_rfl) (fun a_37 f_39 => ?_)
            have f_40 := Frm.set f_39 26 (v := .int .i64 (IntKind.wrap .i64 (s_1.1 + 1))) (v' := .int .i64 (s_1.1 + 1)) (by kernel_rfl) (congrArg (Value.int .i64) (inR_wrap g_1))
            refine V_run f_40 1 (by kernel_rfl) (fun a_38 f_41 => ?_)
            refine W_end rfl (T_n ?_)
            obtain rfl := Option.some.inj hF_12
            exact ⟨⟨m_2, (s_1.1 + 1, s_1.2.1, (s_1.2.2.1), s_1.2.2.2.1, s_1.2.2.2.2.1, s_1.2.2.2.2.2.1, s_1.2.2.2.2.2.2), A_3, cap_3, A_4, cap_4⟩, Nat.lt_succ_self _, M_3, hM_3, ⟨hn_1, h_5, h_6⟩, f_41.keep (ks := [1, 2, 4, 6]) (by kernel_rfl), p_5⟩
        · have k_8 : ¬ (s_1.1 < ((d0.fKeys.length : Nat) : Int)) := iff_f decide_eq_true_iff h_7
          have hF_13 := cnd_f h_7 hs_1
          refine wp_exit (T_x (T_x ?_))
          obtain rfl := Option.some.inj hF_13
          exact .inr ⟨rfl, (s_1.2.1, (s_1.2.2.1), s_1.2.2.2.1, s_1.2.2.2.2.1, s_1.2.2.2.2.2.1, s_1.2.2.2.2.2.2), (Option.some.inj hn_1).symm, M_3, hM_3, A_3, cap_3, A_4, cap_4, h_5, h_6, f_23.keep (ks := [4]) (by kernel_rfl), p_5⟩
      · rintro _ a_41 w_9 (⟨rfl, y_2, rfl, M_4, hM_4, A_7, cap_7, A_8, cap_8, h_11, h_12, f_42, p_7⟩ | ⟨rfl, y_3, rfl, M_5, hM_5, A_9, cap_9, A_10, cap_10, h_13, h_14, f_43, p_8⟩)
        · refine B_r (T_r ?_)
          refine E_rv2 f_42 rfl (Rv.cellN (cs := [.int .i8 y_2.1, .bool y_2.2.1, .int .i64 y_2.2.2.1, S y_2.2.2.2.1, .slice A_7 y_2.2.2.2.2.1.length cap_7, .slice A_8 y_2.2.2.2.2.2.length cap_8]) (ad := ⟨b_2, 0, none⟩) f_42 (by kernel_rfl) (by kernel_rfl) (own_cells (p_7.ownCell 0 rfl) 0 rfl)) (Rv.slot (v := .bool true) f_42 (by kernel_rfl)) ?_
          obtain rfl := Option.some.inj hF_6
          exact ⟨_, rfl, M_4, ((hM_1.trans hM_2).trans hM_4), (p_7.dropN 1), ⟨[.int .i8 y_2.1, .bool y_2.2.1, .int .i64 y_2.2.2.1, S y_2.2.2.2.1, .slice A_7 y_2.2.2.2.2.1.length cap_7, .slice A_8 y_2.2.2.2.2.2.length cap_8], rfl, (T_api_Value.shut h_11 h_12)⟩⟩
        · refine B_x (T_n (R_seq (R_reg ?_)))
          refine V_run f_43 1 (by kernel_rfl) (fun a_42 f_44 => ?_)
          refine W_storeN (vs := [.int .i8 0, .bool false, .int .i64 0, S [], .slice none 0 0, .slice none 0 0]) (j := 0) f_44 p_8 (by kernel_rfl) (by kernel_rfl) rfl rfl (by kernel_rfl) (by kernel_rfl) (by simp [Value.oneCell', S]) (by kernel_rfl) (by simp) (by decide) (cs' := #[.int .i8 0, .bool false, .int .i64 0, S [], .slice none 0 0, .slice none 0 0]) rfl (fun w_10 p_9 a_43 f_45 => ?_)
          refine V_run f_45 1 (by kernel_rfl) (fun a_44 f_46 => ?_)
          refine W_end rfl (T_n (wp_ret ?_))
          refine E_rv2 f_46 rfl (Rv.cellN (cs := [.int .i8 0, .bool false, .int .i64 0, S [], .slice none 0 0, .slice none 0 0]) (ad := ⟨b_2, 0, none⟩) f_46 (by kernel_rfl) (by kernel_rfl) (own_cells (p_9.ownCell 0 rfl) 0 rfl)) (Rv.slot (v := .bool false) f_46 (by kernel_rfl)) ?_
          obtain rfl := Option.some.inj hF_6
          exact ⟨_, rfl, M_5, ((hM_1.trans hM_2).trans hM_5), (p_9.dropN 1), ⟨[.int .i8 0, .bool false, .int .i64 0, S [], .slice none 0 0, .slice none 0 0], rfl, (T_api_Value.shut Sli.nil Sli.nil)⟩⟩

def ref03_Text (n : Nat) (d0 : List UInt8) : Option T_api_Value :=
  some ((⟨(3 : Int), (false), (0 : Int), d0, ([] : List T_api_Value), ([] : List (List UInt8))⟩ : T_api_Value))
theorem ref03_Text_ok (n : Nat) (M : Mem) (d0 : List UInt8) (r : T_api_Value) (hF : ref03_Text n d0 = some r) : Ok Tryd.prog M 33 [S d0] (fun M' v => ∃ (c0 : List Value), v = .agg c0.toArray ∧ Rep M' (emb_T_api_Value r) c0) := by
  unfold ref03_Text at hF
  intro M1 hM0 w0 H w p0
  refine R_enter 5 Tryd.func33 rfl rfl (by simp) (fun a0 f0 => ?_)
  refine R_seq (R_reg ?_)
  refine V_alloc f0 p0 (.cells #[.int .i8 0, .bool false, .int .i64 0, S [], .slice none 0 0, .slice none 0 0] 26 (0, 0)) (by kernel_rfl) (fun _ => by kernel_rfl) (fun b_1 w_1 p_1 a_1 f_1 => ?_)
  refine W_end rfl (T_n (R_seq (R_reg ?_)))
  refine V_run f_1 2 (by kernel_rfl) (fun a_2 f_2 => ?_)
  refine W_storeN (vs := [.int .i8 3, .bool false, .int .i64 0, S d0, .slice none 0 0, .slice none 0 0]) (j := 0) f_2 p_1 (by kernel_rfl) (by kernel_rfl) rfl rfl (by kernel_rfl) (by kernel_rfl) (by simp [Value.oneCell', S]) (by kernel_rfl) (by simp) (by decide) (cs' := #[.int .i8 3, .bool false, .int .i64 0, S d0, .slice none 0 0, .slice none 0 0]) rfl (fun w_2 p_2 a_3 f_3 => ?_)
  refine W_end rfl (T_n (wp_ret ?_))
  refine E_rv1 f_3 rfl (Rv.cellN (cs := [.int .i8 3, .bool false, .int .i64 0, S d0, .slice none 0 0, .slice none 0 0]) (ad := ⟨b_1, 0, none⟩) f_3 (by kernel_rfl) (by kernel_rfl) (own_cells (p_2.ownCell 0 rfl) 0 rfl)) ?_
  obtain rfl := Option.some.inj hF
  exact ⟨_, rfl, M1, (Mem.le_refl _), (p_2.dropN 1), ⟨[.int .i8 3, .bool false, .int .i64 0, S d0, .slice none 0 0, .slice none 0 0], rfl, (T_api_Value.shut Sli.nil Sli.nil)⟩⟩

def ref03_Num (n : Nat) (d0 : Int) : Option T_api_Value :=
  some ((⟨(2 : Int), (false), d0, ([] : List UInt8), ([] : List T_api_Value), ([] : List (List UInt8))⟩ : T_api_Value))
theorem ref03_Num_ok (n : Nat) (M : Mem) (d0 : Int) (r : T_api_Value) (hF : ref03_Num n d0 = some r) : Ok Tryd.prog M 35 [.int .i64 d0] (fun M' v => ∃ (c0 : List Value), v = .agg c0.toArray ∧ Rep M' (emb_T_api_Value r) c0) := by
  unfold ref03_Num at hF
  intro M1 hM0 w0 H w p0
  refine R_enter 5 Tryd.func35 rfl rfl (by simp) (fun a0 f0 => ?_)
  refine R_seq (R_reg ?_)
  refine V_alloc f0 p0 (.cells #[.int .i8 0, .bool false, .int .i64 0, S [], .slice none 0 0, .slice none 0 0] 26 (0, 0)) (by kernel_rfl) (fun _ => by kernel_rfl) (fun b_1 w_1 p_1 a_1 f_1 => ?_)
  refine W_end rfl (T_n (R_seq (R_reg ?_)))
  refine V_run f_1 2 (by kernel_rfl) (fun a_2 f_2 => ?_)
  refine W_storeN (vs := [.int .i8 2, .bool false, .int .i64 d0, S [], .slice none 0 0, .slice none 0 0]) (j := 0) f_2 p_1 (by kernel_rfl) (by kernel_rfl) rfl rfl (by kernel_rfl) (by kernel_rfl) (by simp [Value.oneCell', S]) (by kernel_rfl) (by simp) (by decide) (cs' := #[.int .i8 2, .bool false, .int .i64 d0, S [], .slice none 0 0, .slice none 0 0]) rfl (fun w_2 p_2 a_3 f_3 => ?_)
  refine W_end rfl (T_n (wp_ret ?_))
  refine E_rv1 f_3 rfl (Rv.cellN (cs := [.int .i8 2, .bool false, .int .i64 d0, S [], .slice none 0 0, .slice none 0 0]) (ad := ⟨b_1, 0, none⟩) f_3 (by kernel_rfl) (by kernel_rfl) (own_cells (p_2.ownCell 0 rfl) 0 rfl)) ?_
  obtain rfl := Option.some.inj hF
  exact ⟨_, rfl, M1, (Mem.le_refl _), (p_2.dropN 1), ⟨[.int .i8 2, .bool false, .int .i64 d0, S [], .slice none 0 0, .slice none 0 0], rfl, (T_api_Value.shut Sli.nil Sli.nil)⟩⟩
end Go.Proofs.YtekkifakjkhjiaaDoor
