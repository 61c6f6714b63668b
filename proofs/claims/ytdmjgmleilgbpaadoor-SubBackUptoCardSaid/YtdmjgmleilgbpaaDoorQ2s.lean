/-
  Printed by a program: of each function its shallow reading, and the proof that the function gives what the reading gives. No condition.
-/
import Derived.Test.YtdmjgmleilgbpaaDoorTy
import Derived.Test.YtdmjgmleilgbpaaDoorRows
set_option linter.unusedVariables false
set_option linter.unusedSimpArgs false
namespace Go.Proofs.YtdmjgmleilgbpaaDoor
open Go Go.Vc Go.RowKit
def ref12_Same_2 (n : Nat) (rec_ref12_SameAll : (List T_api_Expr) → (List T_api_Expr) → Option Bool) (d0 : T_api_Expr) (d1 : T_api_Expr) : Option Bool :=
  bif (decide (d0.fKind = d1.fKind)) then
    (bif (decide (d0.fText = d1.fText)) then
      (bif (decide (d0.fNum = d1.fNum)) then
        (bif (decide (d0.fName = d1.fName)) then
          (bif (decide (d0.fAttr = d1.fAttr)) then
            ((rec_ref12_SameAll d0.fL d1.fL).bind fun x_1 =>
            some ((x_1)))
          else
            some ((false)))
        else
          some ((false)))
      else
        some ((false)))
    else
      some ((false)))
  else
    some ((false))
theorem ref12_Same_2_ok (n : Nat) (rec_ref12_SameAll : (List T_api_Expr) → (List T_api_Expr) → Option Bool) (hrec_ref12_SameAll : ∀ (M : Mem) (A0 : Option Addr) (cap0 : Nat) (d0 : List T_api_Expr) (h0 : Sli M 6 emb_T_api_Expr A0 cap0 d0) (A1 : Option Addr) (cap1 : Nat) (d1 : List T_api_Expr) (h1 : Sli M 6 emb_T_api_Expr A1 cap1 d1) (r : Bool) (hF : rec_ref12_SameAll d0 d1 = some r), Ok Tryd.prog M 10 [.slice A0 d0.length cap0, .slice A1 d1.length cap1] (fun _ v => v = .bool r)) (M : Mem) (c0 : List Value) (d0 : T_api_Expr) (h0 : Rep M (emb_T_api_Expr d0) c0) (c1 : List Value) (d1 : T_api_Expr) (h1 : Rep M (emb_T_api_Expr d1) c1) (r : Bool) (hF : ref12_Same_2 n rec_ref12_SameAll d0 d1 = some r) : Ok Tryd.prog M 29 [.agg c0.toArray, .agg c1.toArray] (fun _ v => v = .bool r) := by
  unfold ref12_Same_2 at hF
  intro M1 hM0 w0 H w p0
  replace h0 := Rep.mono hM0 _ _ h0
  replace h1 := Rep.mono hM0 _ _ h1
  obtain ⟨A_1, cap_1, rfl, h_1⟩ := T_api_Expr.opn h0
  obtain ⟨A_2, cap_2, rfl, h_2⟩ := T_api_Expr.opn h1
  refine R_enter 45 Tryd.func29 rfl rfl (by simp) (fun a0 f0 => ?_)
  replace f0 : Frm 45 [(0, .agg #[.int .i8 d0.fKind, S d0.fText, .int .i64 d0.fNum, S d0.fName, S d0.fAttr, .slice A_1 d0.fL.length cap_1]), (1, .agg #[.int .i8 d1.fKind, S d1.fText, .int .i64 d1.fNum, S d1.fName, S d1.fAttr, .slice A_2 d1.fL.length cap_2])] a0 := f0
  refine R_seq ?_
  refine R_reg ?_
  refine W_box (cs := #[.int .i8 d0.fKind, S d0.fText, .int .i64 d0.fNum, S d0.fName, S d0.fAttr, .slice A_1 d0.fL.length cap_1]) (T := 29) f0 p0 1 [0, 1, 2] (fun b_1 => [(0, .agg #[.int .i8 d0.fKind, S d0.fText, .int .i64 d0.fNum, S d0.fName, S d0.fAttr, .slice A_1 d0.fL.length cap_1]), (1, .agg #[.int .i8 d1.fKind, S d1.fText, .int .i64 d1.fNum, S d1.fName, S d1.fAttr, .slice A_2 d1.fL.length cap_2]), (2, .pointer (some (⟨b_1, 0, none⟩)))]) (fun _ => by kernel_rfl) (fun b_1 M_1 w_1 hM_1 hc_1 p_1 a_1 f_1 => ?_)
  replace f_1 : Frm 45 [(0, .agg #[.int .i8 d0.fKind, S d0.fText, .int .i64 d0.fNum, S d0.fName, S d0.fAttr, .slice A_1 d0.fL.length cap_1]), (1, .agg #[.int .i8 d1.fKind, S d1.fText, .int .i64 d1.fNum, S d1.fName, S d1.fAttr, .slice A_2 d1.fL.length cap_2]), (2, .pointer (some (⟨b_1, 0, none⟩)))] a_1 := f_1
  have hc_2 := fz_box hc_1
  refine W_box (cs := #[.int .i8 d1.fKind, S d1.fText, .int .i64 d1.fNum, S d1.fName, S d1.fAttr, .slice A_2 d1.fL.length cap_2]) (T := 29) f_1 p_1 1 [0, 1, 2, 3] (fun b_2 => [(0, .agg #[.int .i8 d0.fKind, S d0.fText, .int .i64 d0.fNum, S d0.fName, S d0.fAttr, .slice A_1 d0.fL.length cap_1]), (1, .agg #[.int .i8 d1.fKind, S d1.fText, .int .i64 d1.fNum, S d1.fName, S d1.fAttr, .slice A_2 d1.fL.length cap_2]), (2, .pointer (some (⟨b_1, 0, none⟩))), (3, .pointer (some (⟨b_2, 0, none⟩)))]) (fun _ => by kernel_rfl) (fun b_2 M_2 w_2 hM_2 hc_3 p_2 a_2 f_2 => ?_)
  replace f_2 : Frm 45 [(0, .agg #[.int .i8 d0.fKind, S d0.fText, .int .i64 d0.fNum, S d0.fName, S d0.fAttr, .slice A_1 d0.fL.length cap_1]), (1, .agg #[.int .i8 d1.fKind, S d1.fText, .int .i64 d1.fNum, S d1.fName, S d1.fAttr, .slice A_2 d1.fL.length cap_2]), (2, .pointer (some (⟨b_1, 0, none⟩))), (3, .pointer (some (⟨b_2, 0, none⟩)))] a_2 := f_2
  have hc_4 := fz_box hc_3
  refine W_run (L' := [(2, .pointer (some (⟨b_1, 0, none⟩))), (3, .pointer (some (⟨b_2, 0, none⟩)))]) (w' := w_2) f_2 1 [2, 3] (by kernel_rfl) (fun a_3 f_3 => ?_)
  refine W_end rfl ?_
  refine T_n ?_
  refine R_seq ?_
  refine R_reg ?_
  refine W_run (L' := [(2, .pointer (some (⟨b_1, 0, none⟩))), (3, .pointer (some (⟨b_2, 0, none⟩))), (5, .pointer (some ((⟨b_1, 0, none⟩ : Addr).add 0)))]) (w' := w_2) f_3 1 [2, 3, 5] (by kernel_rfl) (fun a_4 f_4 => ?_)
  refine W_eq (v := .int .i8 d0.fKind) f_4 (by kernel_rfl) (by kernel_rfl) rfl rfl (X_load1 (v := .int .i8 d0.fKind) rfl (ad := (⟨b_1, 0, none⟩ : Addr).add 0) (by kernel_rfl) (by kernel_rfl) (p_2.cell ((fun j v h => hM_2.cell (hc_2 j v h)) 0 _ rfl))) (fun a_5 f_5 => ?_)
  refine W_run (L' := [(2, .pointer (some (⟨b_1, 0, none⟩))), (3, .pointer (some (⟨b_2, 0, none⟩))), (6, .int .i8 d0.fKind), (7, .pointer (some ((⟨b_2, 0, none⟩ : Addr).add 0)))]) (w' := w_2) f_5 1 [2, 3, 6, 7] (by kernel_rfl) (fun a_6 f_6 => ?_)
  refine W_eq (v := .int .i8 d1.fKind) f_6 (by kernel_rfl) (by kernel_rfl) rfl rfl (X_load1 (v := .int .i8 d1.fKind) rfl (ad := (⟨b_2, 0, none⟩ : Addr).add 0) (by kernel_rfl) (by kernel_rfl) (p_2.cell (hc_4 0 _ rfl))) (fun a_7 f_7 => ?_)
  refine W_run (L' := [(2, .pointer (some (⟨b_1, 0, none⟩))), (3, .pointer (some (⟨b_2, 0, none⟩))), (10, .bool (decide (d0.fKind = d1.fKind)))]) (w' := w_2) f_7 2 [2, 3, 10] (by kernel_rfl) (fun a_8 f_8 => ?_)
  rcases Bool.eq_false_or_eq_true (decide (d0.fKind = d1.fKind)) with h_3 | h_3
  · have k_1 : d0.fKind = d1.fKind := decide_eq_true_iff.1 h_3
    have hF_1 := cnd_t h_3 hF
    have f_9 := Frm.set f_8 10 (v := .bool (decide (d0.fKind = d1.fKind))) (v' := .bool true) (by kernel_rfl) (congrArg Value.bool h_3)
    have f_10 : Frm 45 [(2, .pointer (some (⟨b_1, 0, none⟩))), (3, .pointer (some (⟨b_2, 0, none⟩))), (10, .bool true)] a_8 := f_9.keep (ks := [2, 3, 10]) (by kernel_rfl)
    refine W_run (L' := [(2, .pointer (some (⟨b_1, 0, none⟩))), (3, .pointer (some (⟨b_2, 0, none⟩))), (10, .bool true), (11, .pointer (some ((⟨b_1, 0, none⟩ : Addr).add 1)))]) (w' := w_2) f_10 1 [2, 3, 10, 11] (by kernel_rfl) (fun a_9 f_11 => ?_)
    refine W_eq (v := S d0.fText) f_11 (by kernel_rfl) (by kernel_rfl) rfl rfl (X_load1 (v := S d0.fText) rfl (ad := (⟨b_1, 0, none⟩ : Addr).add 1) (by kernel_rfl) (by kernel_rfl) (p_2.cell ((fun j v h => hM_2.cell (hc_2 j v h)) 1 _ rfl))) (fun a_10 f_12 => ?_)
    refine W_run (L' := [(2, .pointer (some (⟨b_1, 0, none⟩))), (3, .pointer (some (⟨b_2, 0, none⟩))), (10, .bool true), (12, S d0.fText), (13, .pointer (some ((⟨b_2, 0, none⟩ : Addr).add 1)))]) (w' := w_2) f_12 1 [2, 3, 10, 12, 13] (by kernel_rfl) (fun a_11 f_13 => ?_)
    refine W_eq (v := S d1.fText) f_13 (by kernel_rfl) (by kernel_rfl) rfl rfl (X_load1 (v := S d1.fText) rfl (ad := (⟨b_2, 0, none⟩ : Addr).add 1) (by kernel_rfl) (by kernel_rfl) (p_2.cell (hc_4 1 _ rfl))) (fun a_12 f_14 => ?_)
    refine W_eq (v := .bool (decide (d0.fText = d1.fText))) f_14 (by kernel_rfl) (by kernel_rfl) rfl rfl (X_streq rfl (l := d0.fText) (m := d1.fText) (by kernel_rfl) (by kernel_rfl)) (fun a_13 f_15 => ?_)
    refine W_run (L' := [(2, .pointer (some (⟨b_1, 0, none⟩))), (3, .pointer (some (⟨b_2, 0, none⟩))), (17, .bool (decide (d0.fText = d1.fText)))]) (w' := w_2) f_15 2 [2, 3, 17] (by kernel_rfl) (fun a_14 f_16 => ?_)
    rcases Bool.eq_false_or_eq_true (decide (d0.fText = d1.fText)) with h_4 | h_4
    · have k_2 : d0.fText = d1.fText := decide_eq_true_iff.1 h_4
      have hF_2 := cnd_t h_4 hF_1
      have f_17 := Frm.set f_16 17 (v := .bool (decide (d0.fText = d1.fText))) (v' := .bool true) (by kernel_rfl) (congrArg Value.bool h_4)
      have f_18 : Frm 45 [(2, .pointer (some (⟨b_1, 0, none⟩))), (3, .pointer (some (⟨b_2, 0, none⟩))), (17, .bool true)] a_14 := f_17.keep (ks := [2, 3, 17]) (by kernel_rfl)
      refine W_run (L' := [(2, .pointer (some (⟨b_1, 0, none⟩))), (3, .pointer (some (⟨b_2, 0, none⟩))), (17, .bool true), (18, .pointer (some ((⟨b_1, 0, none⟩ : Addr).add 2)))]) (w' := w_2) f_18 1 [2, 3, 17, 18] (by kernel_rfl) (fun a_15 f_19 => ?_)
      refine W_eq (v := .int .i64 d0.fNum) f_19 (by kernel_rfl) (by kernel_rfl) rfl rfl (X_load1 (v := .int .i64 d0.fNum) rfl (ad := (⟨b_1, 0, none⟩ : Addr).add 2) (by kernel_rfl) (by kernel_rfl) (p_2.cell ((fun j v h => hM_2.cell (hc_2 j v h)) 2 _ rfl))) (fun a_16 f_20 => ?_)
      refine W_run (L' := [(2, .pointer (some (⟨b_1, 0, none⟩))), (3, .pointer (some (⟨b_2, 0, none⟩))), (17, .bool true), (19, .int .i64 d0.fNum), (20, .pointer (some ((⟨b_2, 0, none⟩ : Addr).add 2)))]) (w' := w_2) f_20 1 [2, 3, 17, 19, 20] (by kernel_rfl) (fun a_17 f_21 => ?_)
      refine W_eq (v := .int .i64 d1.fNum) f_21 (by kernel_rfl) (by kernel_rfl) rfl rfl (X_load1 (v := .int .i64 d1.fNum) rfl (ad := (⟨b_2, 0, none⟩ : Addr).add 2) (by kernel_rfl) (by kernel_rfl) (p_2.cell (hc_4 2 _ rfl))) (fun a_18 f_22 => ?_)
      refine W_run (L' := [(2, .pointer (some (⟨b_1, 0, none⟩))), (3, .pointer (some (⟨b_2, 0, none⟩))), (24, .bool (decide (d0.fNum = d1.fNum)))]) (w' := w_2) f_22 3 [2, 3, 24] (by kernel_rfl) (fun a_19 f_23 => ?_)
      rcases Bool.eq_false_or_eq_true (decide (d0.fNum = d1.fNum)) with h_5 | h_5
      · have k_3 : d0.fNum = d1.fNum := decide_eq_true_iff.1 h_5
        have hF_3 := cnd_t h_5 hF_2
        have f_24 := Frm.set f_23 24 (v := .bool (decide (d0.fNum = d1.fNum))) (v' := .bool true) (by kernel_rfl) (congrArg Value.bool h_5)
        have f_25 : Frm 45 [(2, .pointer (some (⟨b_1, 0, none⟩))), (3, .pointer (some (⟨b_2, 0, none⟩))), (24, .bool true)] a_19 := f_24.keep (ks := [2, 3, 24]) (by kernel_rfl)
        refine W_run (L' := [(2, .pointer (some (⟨b_1, 0, none⟩))), (3, .pointer (some (⟨b_2, 0, none⟩))), (24, .bool true), (25, .pointer (some ((⟨b_1, 0, none⟩ : Addr).add 3)))]) (w' := w_2) f_25 1 [2, 3, 24, 25] (by kernel_rfl) (fun a_20 f_26 => ?_)
        refine W_eq (v := S d0.fName) f_26 (by kernel_rfl) (by kernel_rfl) rfl rfl (X_load1 (v := S d0.fName) rfl (ad := (⟨b_1, 0, none⟩ : Addr).add 3) (by kernel_rfl) (by kernel_rfl) (p_2.cell ((fun j v h => hM_2.cell (hc_2 j v h)) 3 _ rfl))) (fun a_21 f_27 => ?_)
        refine W_run (L' := [(2, .pointer (some (⟨b_1, 0, none⟩))), (3, .pointer (some (⟨b_2, 0, none⟩))), (24, .bool true), (26, S d0.fName), (27, .pointer (some ((⟨b_2, 0, none⟩ : Addr).add 3)))]) (w' := w_2) f_27 1 [2, 3, 24, 26, 27] (by kernel_rfl) (fun a_22 f_28 => ?_)
        refine W_eq (v := S d1.fName) f_28 (by kernel_rfl) (by kernel_rfl) rfl rfl (X_load1 (v := S d1.fName) rfl (ad := (⟨b_2, 0, none⟩ : Addr).add 3) (by kernel_rfl) (by kernel_rfl) (p_2.cell (hc_4 3 _ rfl))) (fun a_23 f_29 => ?_)
        refine W_eq (v := .bool (decide (d0.fName = d1.fName))) f_29 (by kernel_rfl) (by kernel_rfl) rfl rfl (X_streq rfl (l := d0.fName) (m := d1.fName) (by kernel_rfl) (by kernel_rfl)) (fun a_24 f_30 => ?_)
        refine W_run (L' := [(2, .pointer (some (⟨b_1, 0, none⟩))), (3, .pointer (some (⟨b_2, 0, none⟩))), (31, .bool (decide (d0.fName = d1.fName)))]) (w' := w_2) f_30 2 [2, 3, 31] (by kernel_rfl) (fun a_25 f_31 => ?_)
        rcases Bool.eq_false_or_eq_true (decide (d0.fName = d1.fName)) with h_6 | h_6
        · have k_4 : d0.fName = d1.fName := decide_eq_true_iff.1 h_6
          have hF_4 := cnd_t h_6 hF_3
          have f_32 := Frm.set f_31 31 (v := .bool (decide (d0.fName = d1.fName))) (v' := .bool true) (by kernel_rfl) (congrArg Value.bool h_6)
          have f_33 : Frm 45 [(2, .pointer (some (⟨b_1, 0, none⟩))), (3, .pointer (some (⟨b_2, 0, none⟩))), (31, .bool true)] a_25 := f_32.keep (ks := [2, 3, 31]) (by kernel_rfl)
          refine W_run (L' := [(2, .pointer (some (⟨b_1, 0, none⟩))), (3, .pointer (some (⟨b_2, 0, none⟩))), (31, .bool true), (32, .pointer (some ((⟨b_1, 0, none⟩ : Addr).add 4)))]) (w' := w_2) f_33 1 [2, 3, 31, 32] (by kernel_rfl) (fun a_26 f_34 => ?_)
          refine W_eq (v := S d0.fAttr) f_34 (by kernel_rfl) (by kernel_rfl) rfl rfl (X_load1 (v := S d0.fAttr) rfl (ad := (⟨b_1, 0, none⟩ : Addr).add 4) (by kernel_rfl) (by kernel_rfl) (p_2.cell ((fun j v h => hM_2.cell (hc_2 j v h)) 4 _ rfl))) (fun a_27 f_35 => ?_)
          refine W_run (L' := [(2, .pointer (some (⟨b_1, 0, none⟩))), (3, .pointer (some (⟨b_2, 0, none⟩))), (31, .bool true), (33, S d0.fAttr), (34, .pointer (some ((⟨b_2, 0, none⟩ : Addr).add 4)))]) (w' := w_2) f_35 1 [2, 3, 31, 33, 34] (by kernel_rfl) (fun a_28 f_36 => ?_)
          refine W_eq (v := S d1.fAttr) f_36 (by kernel_rfl) (by kernel_rfl) rfl rfl (X_load1 (v := S d1.fAttr) rfl (ad := (⟨b_2, 0, none⟩ : Addr).add 4) (by kernel_rfl) (by kernel_rfl) (p_2.cell (hc_4 4 _ rfl))) (fun a_29 f_37 => ?_)
          refine W_eq (v := .bool (decide (d0.fAttr = d1.fAttr))) f_37 (by kernel_rfl) (by kernel_rfl) rfl rfl (X_streq rfl (l := d0.fAttr) (m := d1.fAttr) (by kernel_rfl) (by kernel_rfl)) (fun a_30 f_38 => ?_)
          refine W_run (L' := [(2, .pointer (some (⟨b_1, 0, none⟩))), (3, .pointer (some (⟨b_2, 0, none⟩))), (38, .bool (decide (d0.fAttr = d1.fAttr)))]) (w' := w_2) f_38 2 [2, 3, 38] (by kernel_rfl) (fun a_31 f_39 => ?_)
          rcases Bool.eq_false_or_eq_true (decide (d0.fAttr = d1.fAttr)) with h_7 | h_7
          · have k_5 : d0.fAttr = d1.fAttr := decide_eq_true_iff.1 h_7
            have hF_5 := cnd_t h_7 hF_4
            have f_40 := Frm.set f_39 38 (v := .bool (decide (d0.fAttr = d1.fAttr))) (v' := .bool true) (by kernel_rfl) (congrArg Value.bool h_7)
            have f_41 : Frm 45 [(2, .pointer (some (⟨b_1, 0, none⟩))), (3, .pointer (some (⟨b_2, 0, none⟩))), (38, .bool true)] a_31 := f_40.keep (ks := [2, 3, 38]) (by kernel_rfl)
            refine W_run (L' := [(3, .pointer (some (⟨b_2, 0, none⟩))), (38, .bool true), (39, .pointer (some ((⟨b_1, 0, none⟩ : Addr).add 5)))]) (w' := w_2) f_41 1 [3, 38, 39] (by kernel_rfl) (fun a_32 f_42 => ?_)
            refine W_eq (v := .slice A_1 d0.fL.length cap_1) f_42 (by kernel_rfl) (by kernel_rfl) rfl rfl (X_load1 (v := .slice A_1 d0.fL.length cap_1) rfl (ad := (⟨b_1, 0, none⟩ : Addr).add 5) (by kernel_rfl) (by kernel_rfl) (p_2.cell ((fun j v h => hM_2.cell (hc_2 j v h)) 5 _ rfl))) (fun a_33 f_43 => ?_)
            refine W_run (L' := [(38, .bool true), (40, .slice A_1 d0.fL.length cap_1), (41, .pointer (some ((⟨b_2, 0, none⟩ : Addr).add 5)))]) (w' := w_2) f_43 1 [38, 40, 41] (by kernel_rfl) (fun a_34 f_44 => ?_)
            refine W_eq (v := .slice A_2 d1.fL.length cap_2) f_44 (by kernel_rfl) (by kernel_rfl) rfl rfl (X_load1 (v := .slice A_2 d1.fL.length cap_2) rfl (ad := (⟨b_2, 0, none⟩ : Addr).add 5) (by kernel_rfl) (by kernel_rfl) (p_2.cell (hc_4 5 _ rfl))) (fun a_35 f_45 => ?_)
            obtain ⟨x_1, hx_1, hF_6⟩ := bind_some' hF_5
            refine W_okv (v := .bool x_1) f_45 p_2 (by kernel_rfl) (by kernel_rfl) rfl rfl (fun _ => by kernel_rfl) (hrec_ref12_SameAll _ A_1 cap_1 d0.fL (h_1.mono (hM_1.trans hM_2)) A_2 cap_2 d1.fL (h_2.mono (hM_1.trans hM_2)) x_1 hx_1) (fun w_3 p_3 a_36 f_46 => ?_)
            refine W_run (L' := [(4, .bool x_1)]) (w' := w_3) f_46 2 [4] (by kernel_rfl) (fun a_37 f_47 => ?_)
            refine W_end rfl ?_
            refine T_n ?_
            refine wp_ret ?_
            refine E_ret1 f_47 rfl (by kernel_rfl : Vc.look _ 4 = some (.bool x_1)) ?_
            obtain rfl := Option.some.inj hF_6
            exact ⟨_, rfl, M_2, (hM_1.trans hM_2), p_3, rfl⟩
          · have k_6 : ¬ (d0.fAttr = d1.fAttr) := iff_f decide_eq_true_iff h_7
            have hF_7 := cnd_f h_7 hF_4
            have f_48 := Frm.set f_39 38 (v := .bool (decide (d0.fAttr = d1.fAttr))) (v' := .bool false) (by kernel_rfl) (congrArg Value.bool h_7)
            have f_49 : Frm 45 [(2, .pointer (some (⟨b_1, 0, none⟩))), (3, .pointer (some (⟨b_2, 0, none⟩))), (38, .bool false)] a_31 := f_48.keep (ks := [2, 3, 38]) (by kernel_rfl)
            refine W_run (L' := [(4, .bool false)]) (w' := w_2) f_49 7 [4] (by kernel_rfl) (fun a_38 f_50 => ?_)
            refine W_end rfl ?_
            refine T_n ?_
            refine wp_ret ?_
            refine E_ret1 f_50 rfl (by kernel_rfl : Vc.look _ 4 = some (.bool false)) ?_
            obtain rfl := Option.some.inj hF_7
            exact ⟨_, rfl, M_2, (hM_1.trans hM_2), p_2, rfl⟩
        · have k_7 : ¬ (d0.fName = d1.fName) := iff_f decide_eq_true_iff h_6
          have hF_8 := cnd_f h_6 hF_3
          have f_51 := Frm.set f_31 31 (v := .bool (decide (d0.fName = d1.fName))) (v' := .bool false) (by kernel_rfl) (congrArg Value.bool h_6)
          have f_52 : Frm 45 [(2, .pointer (some (⟨b_1, 0, none⟩))), (3, .pointer (some (⟨b_2, 0, none⟩))), (31, .bool false)] a_25 := f_51.keep (ks := [2, 3, 31]) (by kernel_rfl)
          refine W_run (L' := [(4, .bool false)]) (w' := w_2) f_52 14 [4] (by kernel_rfl) (fun a_39 f_53 => ?_)
          refine W_end rfl ?_
          refine T_n ?_
          refine wp_ret ?_
          refine E_ret1 f_53 rfl (by kernel_rfl : Vc.look _ 4 = some (.bool false)) ?_
          obtain rfl := Option.some.inj hF_8
          exact ⟨_, rfl, M_2, (hM_1.trans hM_2), p_2, rfl⟩
      · have k_8 : ¬ (d0.fNum = d1.fNum) := iff_f decide_eq_true_iff h_5
        have hF_9 := cnd_f h_5 hF_2
        have f_54 := Frm.set f_23 24 (v := .bool (decide (d0.fNum = d1.fNum))) (v' := .bool false) (by kernel_rfl) (congrArg Value.bool h_5)
        have f_55 : Frm 45 [(2, .pointer (some (⟨b_1, 0, none⟩))), (3, .pointer (some (⟨b_2, 0, none⟩))), (24, .bool false)] a_19 := f_54.keep (ks := [2, 3, 24]) (by kernel_rfl)
        refine W_run (L' := [(4, .bool false)]) (w' := w_2) f_55 21 [4] (by kernel_rfl) (fun a_40 f_56 => ?_)
        refine W_end rfl ?_
        refine T_n ?_
        refine wp_ret ?_
        refine E_ret1 f_56 rfl (by kernel_rfl : Vc.look _ 4 = some (.bool false)) ?_
        obtain rfl := Option.some.inj hF_9
        exact ⟨_, rfl, M_2, (hM_1.trans hM_2), p_2, rfl⟩
    · have k_9 : ¬ (d0.fText = d1.fText) := iff_f decide_eq_true_iff h_4
      have hF_10 := cnd_f h_4 hF_1
      have f_57 := Frm.set f_16 17 (v := .bool (decide (d0.fText = d1.fText))) (v' := .bool false) (by kernel_rfl) (congrArg Value.bool h_4)
      have f_58 : Frm 45 [(2, .pointer (some (⟨b_1, 0, none⟩))), (3, .pointer (some (⟨b_2, 0, none⟩))), (17, .bool false)] a_14 := f_57.keep (ks := [2, 3, 17]) (by kernel_rfl)
      refine W_run (L' := [(4, .bool false)]) (w' := w_2) f_58 28 [4] (by kernel_rfl) (fun a_41 f_59 => ?_)
      refine W_end rfl ?_
      refine T_n ?_
      refine wp_ret ?_
      refine E_ret1 f_59 rfl (by kernel_rfl : Vc.look _ 4 = some (.bool false)) ?_
      obtain rfl := Option.some.inj hF_10
      exact ⟨_, rfl, M_2, (hM_1.trans hM_2), p_2, rfl⟩
  · have k_10 : ¬ (d0.fKind = d1.fKind) := iff_f decide_eq_true_iff h_3
    have hF_11 := cnd_f h_3 hF
    have f_60 := Frm.set f_8 10 (v := .bool (decide (d0.fKind = d1.fKind))) (v' := .bool false) (by kernel_rfl) (congrArg Value.bool h_3)
    have f_61 : Frm 45 [(2, .pointer (some (⟨b_1, 0, none⟩))), (3, .pointer (some (⟨b_2, 0, none⟩))), (10, .bool false)] a_8 := f_60.keep (ks := [2, 3, 10]) (by kernel_rfl)
    refine W_run (L' := [(4, .bool false)]) (w' := w_2) f_61 35 [4] (by kernel_rfl) (fun a_42 f_62 => ?_)
    refine W_end rfl ?_
    refine T_n ?_
    refine wp_ret ?_
    refine E_ret1 f_62 rfl (by kernel_rfl : Vc.look _ 4 = some (.bool false)) ?_
    obtain rfl := Option.some.inj hF_11
    exact ⟨_, rfl, M_2, (hM_1.trans hM_2), p_2, rfl⟩

def ref12_SameAll_s1 (n : Nat) (rec_ref12_SameAll : (List T_api_Expr) → (List T_api_Expr) → Option Bool) (d0 : List T_api_Expr) (d1 : List T_api_Expr) (s_1 : Int) : Option (Lp Int (Sum Unit Unit)) :=
    bif (decide (s_1 < ((d0.length : Nat) : Int))) then
      ((getI d0 s_1).bind fun x_1 =>
      (getI d1 s_1).bind fun x_2 =>
      (ref12_Same_2 n rec_ref12_SameAll x_1 x_2).bind fun x_3 =>
      bif !x_3 then
        (some (.br (.inl ())))
      else
        need (inR .i64 (s_1 + 1)) <|
        some (.nx (s_1 + 1)))
    else
      some (.br (.inr ()))
def ref12_SameAll_b (n : Nat) (rec_ref12_SameAll : (List T_api_Expr) → (List T_api_Expr) → Option Bool) (d0 : List T_api_Expr) (d1 : List T_api_Expr) : Option Bool :=
  bif (!(decide (((d0.length : Nat) : Int) = ((d1.length : Nat) : Int)))) then
    (some ((false)))
  else
    (loopF (ref12_SameAll_s1 n rec_ref12_SameAll d0 d1) n (0 : Int)).bind fun b_1 =>
    (match b_1 with 
    | .inl y_1 => some ((false)) 
    | .inr y_2 => some ((true)))
theorem ref12_SameAll_b_ok (n : Nat) (rec_ref12_SameAll : (List T_api_Expr) → (List T_api_Expr) → Option Bool) (hrec_ref12_SameAll : ∀ (M : Mem) (A0 : Option Addr) (cap0 : Nat) (d0 : List T_api_Expr) (h0 : Sli M 6 emb_T_api_Expr A0 cap0 d0) (A1 : Option Addr) (cap1 : Nat) (d1 : List T_api_Expr) (h1 : Sli M 6 emb_T_api_Expr A1 cap1 d1) (r : Bool) (hF : rec_ref12_SameAll d0 d1 = some r), Ok Tryd.prog M 10 [.slice A0 d0.length cap0, .slice A1 d1.length cap1] (fun _ v => v = .bool r)) (M : Mem) (A0 : Option Addr) (cap0 : Nat) (d0 : List T_api_Expr) (h0 : Sli M 6 emb_T_api_Expr A0 cap0 d0) (A1 : Option Addr) (cap1 : Nat) (d1 : List T_api_Expr) (h1 : Sli M 6 emb_T_api_Expr A1 cap1 d1) (r : Bool) (hF : ref12_SameAll_b n rec_ref12_SameAll d0 d1 = some r) : Ok Tryd.prog M 10 [.slice A0 d0.length cap0, .slice A1 d1.length cap1] (fun _ v => v = .bool r) := by
  unfold ref12_SameAll_b at hF
  intro M1 hM0 w0 H w p0
  replace h0 := h0.mono hM0
  replace h1 := h1.mono hM0
  refine R_enter 27 Tryd.func10 rfl rfl (by simp) (fun a0 f0 => ?_)
  replace f0 : Frm 27 [(0, .slice A0 d0.length cap0), (1, .slice A1 d1.length cap1)] a0 := f0
  refine R_seq ?_
  refine R_reg ?_
  refine W_run (L' := [(0, .slice A0 d0.length cap0), (1, .slice A1 d1.length cap1)]) (w' := w) f0 1 [0, 1] (by kernel_rfl) (fun a_1 f_1 => ?_)
  refine W_end rfl ?_
  refine T_n ?_
  refine R_seq ?_
  refine R_seq ?_
  refine R_reg ?_
  refine W_run (L' := [(0, .slice A0 d0.length cap0), (1, .slice A1 d1.length cap1), (10, .bool (!(decide (((d0.length : Nat) : Int) = ((d1.length : Nat) : Int)))))]) (w' := w) f_1 5 [0, 1, 10] (by kernel_rfl) (fun a_2 f_2 => ?_)
  refine W_end rfl ?_
  refine T_n ?_
  refine R_cond f_2 (b := !(decide (((d0.length : Nat) : Int) = ((d1.length : Nat) : Int)))) (by kernel_rfl) (by kernel_rfl) (fun h_1 => ?_) (fun h_1 => ?_)
  · have k_1 : ¬ (((d0.length : Nat) : Int) = ((d1.length : Nat) : Int)) := (not_iff decide_eq_true_iff).1 h_1
    have hF_1 := cnd_t h_1 hF
    refine R_seq ?_
    refine R_reg ?_
    refine W_run (L' := [(4, .bool false)]) (w' := w) f_2 1 [4] (by kernel_rfl) (fun a_3 f_3 => ?_)
    refine W_end rfl ?_
    refine T_n ?_
    refine wp_ret ?_
    refine T_r ?_
    refine E_ret1 f_3 rfl (by kernel_rfl : Vc.look _ 4 = some (.bool false)) ?_
    obtain rfl := Option.some.inj hF_1
    exact ⟨_, rfl, M1, (Mem.le_refl _), p0, rfl⟩
  · have k_2 : ¬ (¬ (((d0.length : Nat) : Int) = ((d1.length : Nat) : Int))) := iff_f (not_iff decide_eq_true_iff) h_1
    have hF_2 := cnd_f h_1 hF
    refine wp_skip ?_
    refine T_n ?_
    refine R_seq ?_
    refine R_seq ?_
    refine R_reg ?_
    refine W_run (L' := [(0, .slice A0 d0.length cap0), (1, .slice A1 d1.length cap1), (5, .int .i64 0)]) (w' := w) f_2 1 [0, 1, 5] (by kernel_rfl) (fun a_4 f_4 => ?_)
    refine W_end rfl ?_
    refine T_n ?_
    refine wp_block ?_
    obtain ⟨b_1, hL_1, hF_3⟩ := bind_some' hF_2
    refine wp_mono (Q := fun e a w => (e = .ret ∧ (∃ y_1 : Unit, b_1 = .inl y_1 ∧ ∃ M_2 : Mem, M1.le M_2 ∧ Frm 27 [(4, .bool false)] a ∧ Hp w0 M_2 (H) w)) ∨ (e = .exit 0 ∧ (∃ y_2 : Unit, b_1 = .inr y_2 ∧ ∃ M_3 : Mem, M1.le M_3 ∧ Frm 27 [] a ∧ Hp w0 M_3 (H) w))) (R_loop (n := 27) (w0 := w0) (M := M1) (fun (x : Nat × Int) => match x with | (m_1, s_1) => [(0, .slice A0 d0.length cap0), (1, .slice A1 d1.length cap1), (5, .int .i64 s_1)]) (fun (x : Nat × Int) => match x with | (m_1, s_1) => (H)) (fun (x : Nat × Int) (MM : Mem) => match x with | (m_1, s_1) => loopF (ref12_SameAll_s1 n rec_ref12_SameAll d0 d1) m_1 s_1 = some b_1) (fun (x : Nat × Int) => match x with | (m_1, s_1) => m_1) (n, (0 : Int)) (f_4.keep (ks := [0, 1, 5]) (by kernel_rfl)) p0 hL_1 ?_) ?_
    · rintro ⟨m_1, s_1⟩ M_1 a_5 w_1 hM_1 I_1 f_5 p_1
      replace f_5 : Frm 27 [(0, .slice A0 d0.length cap0), (1, .slice A1 d1.length cap1), (5, .int .i64 s_1)] a_5 := f_5
      replace p_1 : Hp w0 M_1 (H) w_1 := p_1
      have I_1L := I_1
      obtain ⟨m_2, r_1, rfl, hs_1, hn_1⟩ := loop_step I_1L
      unfold ref12_SameAll_s1 at hs_1
      refine R_seq ?_
      refine R_seq ?_
      refine R_reg ?_
      refine W_run (L' := [(0, .slice A0 d0.length cap0), (1, .slice A1 d1.length cap1), (5, .int .i64 s_1), (14, .bool (decide (s_1 < ((d0.length : Nat) : Int))))]) (w' := w_1) f_5 4 [0, 1, 5, 14] (by kernel_rfl) (fun a_6 f_6 => ?_)
      refine W_end rfl ?_
      refine T_n ?_
      refine R_cond f_6 (b := decide (s_1 < ((d0.length : Nat) : Int))) (by kernel_rfl) (by kernel_rfl) (fun h_2 => ?_) (fun h_2 => ?_)
      · have k_3 : s_1 < ((d0.length : Nat) : Int) := decide_eq_true_iff.1 h_2
        have hF_4 := cnd_t h_2 hs_1
        refine wp_skip ?_
        refine T_n ?_
        refine R_seq ?_
        refine wp_block ?_
        refine R_seq ?_
        refine R_draw p_1 (by kernel_rfl) (by kernel_rfl) ?_
        refine Q_eq (v := .slice A0 d0.length cap0) f_6 (by kernel_rfl) (by kernel_rfl) rfl rfl (fun _ _ => by kernel_rfl) (fun a_7 f_7 => ?_)
        refine Q_eq (v := .int .i64 s_1) f_7 (by kernel_rfl) (by kernel_rfl) rfl rfl (fun _ _ => by kernel_rfl) (fun a_8 f_8 => ?_)
        have f_9 : Frm 27 [(0, .slice A0 d0.length cap0), (1, .slice A1 d1.length cap1), (5, .int .i64 s_1), (17, .slice A0 d0.length cap0), (18, .int .i64 s_1)] a_8 := f_8.keep (ks := [0, 1, 5, 17, 18]) (by kernel_rfl)
        obtain ⟨x_1, hx_1, hF_5⟩ := bind_some' hF_4
        obtain ⟨ad_1, c_1, e_1, hl_1, hr_1, hc_1⟩ := Sli.at_ (h0.mono hM_1) hx_1
        clear hl_1
        obtain ⟨A_1, cap_1, rfl, h_3⟩ := T_api_Expr.opn hr_1
        refine Q_eq (v := .pointer (some (ad_1.add (s_1.toNat * 6)))) f_9 (by kernel_rfl) (by kernel_rfl) rfl rfl (fun _ pq => X_indexAddrA e_1 rfl (len := d0.length) (cap := cap0) (k := .i64) (i := s_1) (by kernel_rfl) (by kernel_rfl) (e := 29) (by kernel_rfl) (sz := 6) (by kernel_rfl) (getI_nn hx_1) (getI_lt hx_1)) (fun a_9 f_10 => ?_)
        refine Q_eq (v := .agg #[.int .i8 x_1.fKind, S x_1.fText, .int .i64 x_1.fNum, S x_1.fName, S x_1.fAttr, .slice A_1 x_1.fL.length cap_1]) f_10 (by kernel_rfl) (by kernel_rfl) rfl rfl (fun _ pq => X_loadN (cs := [.int .i8 x_1.fKind, S x_1.fText, .int .i64 x_1.fNum, S x_1.fName, S x_1.fAttr, .slice A_1 x_1.fL.length cap_1]) rfl (ad := ad_1.add (s_1.toNat * 6)) (by kernel_rfl) (by kernel_rfl) (fun j v h => pq.cell (hc_1 j v h))) (fun a_10 f_11 => ?_)
        refine Q_eq (v := .slice A1 d1.length cap1) f_11 (by kernel_rfl) (by kernel_rfl) rfl rfl (fun _ _ => by kernel_rfl) (fun a_11 f_12 => ?_)
        refine Q_eq (v := .int .i64 s_1) f_12 (by kernel_rfl) (by kernel_rfl) rfl rfl (fun _ _ => by kernel_rfl) (fun a_12 f_13 => ?_)
        have f_14 : Frm 27 [(0, .slice A0 d0.length cap0), (1, .slice A1 d1.length cap1), (5, .int .i64 s_1), (20, .agg #[.int .i8 x_1.fKind, S x_1.fText, .int .i64 x_1.fNum, S x_1.fName, S x_1.fAttr, .slice A_1 x_1.fL.length cap_1]), (21, .slice A1 d1.length cap1), (22, .int .i64 s_1)] a_12 := f_13.keep (ks := [0, 1, 5, 20, 21, 22]) (by kernel_rfl)
        obtain ⟨x_2, hx_2, hF_6⟩ := bind_some' hF_5
        obtain ⟨ad_2, c_2, e_2, hl_2, hr_2, hc_2⟩ := Sli.at_ (h1.mono hM_1) hx_2
        clear hl_2
        obtain ⟨A_2, cap_2, rfl, h_4⟩ := T_api_Expr.opn hr_2
        refine Q_eq (v := .pointer (some (ad_2.add (s_1.toNat * 6)))) f_14 (by kernel_rfl) (by kernel_rfl) rfl rfl (fun _ pq => X_indexAddrA e_2 rfl (len := d1.length) (cap := cap1) (k := .i64) (i := s_1) (by kernel_rfl) (by kernel_rfl) (e := 29) (by kernel_rfl) (sz := 6) (by kernel_rfl) (getI_nn hx_2) (getI_lt hx_2)) (fun a_13 f_15 => ?_)
        refine Q_eq (v := .agg #[.int .i8 x_2.fKind, S x_2.fText, .int .i64 x_2.fNum, S x_2.fName, S x_2.fAttr, .slice A_2 x_2.fL.length cap_2]) f_15 (by kernel_rfl) (by kernel_rfl) rfl rfl (fun _ pq => X_loadN (cs := [.int .i8 x_2.fKind, S x_2.fText, .int .i64 x_2.fNum, S x_2.fName, S x_2.fAttr, .slice A_2 x_2.fL.length cap_2]) rfl (ad := ad_2.add (s_1.toNat * 6)) (by kernel_rfl) (by kernel_rfl) (fun j v h => pq.cell (hc_2 j v h))) (fun a_14 f_16 => ?_)
        obtain ⟨x_3, hx_3, hF_7⟩ := bind_some' hF_6
        refine Q_okv (v := .bool x_3) f_16 (by kernel_rfl) (by kernel_rfl) rfl rfl (fun _ => by kernel_rfl) (ref12_Same_2_ok n rec_ref12_SameAll hrec_ref12_SameAll _ [.int .i8 x_1.fKind, S x_1.fText, .int .i64 x_1.fNum, S x_1.fName, S x_1.fAttr, .slice A_1 x_1.fL.length cap_1] x_1 (T_api_Expr.shutx (x := x_1) h_3) [.int .i8 x_2.fKind, S x_2.fText, .int .i64 x_2.fNum, S x_2.fName, S x_2.fAttr, .slice A_2 x_2.fL.length cap_2] x_2 (T_api_Expr.shutx (x := x_2) h_4) x_3 hx_3) (fun a_15 f_17 => ?_)
        refine Q_eq (v := .bool !x_3) f_17 (by kernel_rfl) (by kernel_rfl) rfl rfl (fun _ _ => by kernel_rfl) (fun a_16 f_18 => ?_)
        have f_19 : Frm 27 [(0, .slice A0 d0.length cap0), (1, .slice A1 d1.length cap1), (5, .int .i64 s_1), (26, .bool !x_3)] a_16 := f_18.keep (ks := [0, 1, 5, 26]) (by kernel_rfl)
        refine Q_end rfl ?_
        intro w_3 p_3
        refine T_n ?_
        refine R_cond f_19 (b := !x_3) (by kernel_rfl) (by kernel_rfl) (fun h_5 => ?_) (fun h_5 => ?_)
        · have k_4 : (x_3) = false := by simpa using h_5
          have hF_8 := cnd_t h_5 hF_7
          refine R_seq ?_
          refine R_reg ?_
          refine W_run (L' := [(4, .bool false)]) (w' := w_3) f_19 1 [4] (by kernel_rfl) (fun a_17 f_20 => ?_)
          refine W_end rfl ?_
          refine T_n ?_
          refine wp_ret ?_
          refine B_r ?_
          refine T_r ?_
          refine T_r ?_
          obtain rfl := Option.some.inj hF_8
          exact .inl ⟨rfl, (), (Option.some.inj hn_1).symm, M_1, hM_1, f_20.keep (ks := [4]) (by kernel_rfl), p_3⟩
        · have k_5 : (x_3) = true := by simpa using h_5
          have hF_9 := cnd_f h_5 hF_7
          refine wp_skip ?_
          refine B_n ?_
          refine T_n ?_
          refine R_reg ?_
          refine W_run (L' := [(0, .slice A0 d0.length cap0), (1, .slice A1 d1.length cap1), (15, .int .i64 s_1)]) (w' := w_3) f_19 1 [0, 1, 15] (by kernel_rfl) (fun a_18 f_21 => ?_)
          obtain ⟨g_1, hF_10⟩ := need_some hF_9
          refine W_run (L' := [(0, .slice A0 d0.length cap0), (1, .slice A1 d1.length cap1), (15, .int .i64 s_1), (16, .int .i64 (IntKind.wrap .i64 (s_1 + 1)))]) (w' := w_3) f_21 1 [0, 1, 15, 16] (by kernel_rfl) (fun a_19 f_22 => ?_)
          have f_23 := Frm.set f_22 16 (v := .int .i64 (IntKind.wrap .i64 (s_1 + 1))) (v' := .int .i64 (s_1 + 1)) (by kernel_rfl) (congrArg (Value.int .i64) (inR_wrap g_1))
          have f_24 : Frm 27 [(0, .slice A0 d0.length cap0), (1, .slice A1 d1.length cap1), (15, .int .i64 s_1), (16, .int .i64 (s_1 + 1))] a_19 := f_23.keep (ks := [0, 1, 15, 16]) (by kernel_rfl)
          refine W_run (L' := [(0, .slice A0 d0.length cap0), (1, .slice A1 d1.length cap1), (5, .int .i64 (s_1 + 1))]) (w' := w_3) f_24 1 [0, 1, 5] (by kernel_rfl) (fun a_20 f_25 => ?_)
          refine W_end rfl ?_
          refine T_n ?_
          obtain rfl := Option.some.inj hF_10
          exact ⟨⟨m_2, s_1 + 1⟩, Nat.lt_succ_self _, M_1, hM_1, hn_1, f_25.keep (ks := [0, 1, 5]) (by kernel_rfl), p_3⟩
      · have k_6 : ¬ (s_1 < ((d0.length : Nat) : Int)) := iff_f decide_eq_true_iff h_2
        have hF_11 := cnd_f h_2 hs_1
        refine wp_exit ?_
        refine T_x ?_
        refine T_x ?_
        obtain rfl := Option.some.inj hF_11
        exact .inr ⟨rfl, (), (Option.some.inj hn_1).symm, M_1, hM_1, f_6.keep (ks := []) (by kernel_rfl), p_1⟩
    · rintro _ a_23 w_6 (⟨rfl, y_1, rfl, M_2, hM_2, f_26, p_4⟩ | ⟨rfl, y_2, rfl, M_3, hM_3, f_27, p_5⟩)
      · refine B_r ?_
        refine T_r ?_
        refine E_ret1 f_26 rfl (by kernel_rfl : Vc.look _ 4 = some (.bool false)) ?_
        obtain rfl := Option.some.inj hF_3
        exact ⟨_, rfl, M_2, hM_2, p_4, rfl⟩
      · refine B_x ?_
        refine T_n ?_
        refine R_seq ?_
        refine R_reg ?_
        refine W_run (L' := [(4, .bool true)]) (w' := w_6) f_27 1 [4] (by kernel_rfl) (fun a_24 f_28 => ?_)
        refine W_end rfl ?_
        refine T_n ?_
        refine wp_ret ?_
        refine E_ret1 f_28 rfl (by kernel_rfl : Vc.look _ 4 = some (.bool true)) ?_
        obtain rfl := Option.some.inj hF_3
        exact ⟨_, rfl, M_3, hM_3, p_5, rfl⟩
def ref12_SameAll_k (n : Nat) : Nat → (List T_api_Expr) → (List T_api_Expr) → Option Bool
  | 0 => fun _ _ => none
  | k + 1 => ref12_SameAll_b n (ref12_SameAll_k n k)
def ref12_SameAll (n : Nat) (d0 : List T_api_Expr) (d1 : List T_api_Expr) : Option Bool := ref12_SameAll_k n n d0 d1
theorem ref12_SameAll_ok (n : Nat) (M : Mem) (A0 : Option Addr) (cap0 : Nat) (d0 : List T_api_Expr) (h0 : Sli M 6 emb_T_api_Expr A0 cap0 d0) (A1 : Option Addr) (cap1 : Nat) (d1 : List T_api_Expr) (h1 : Sli M 6 emb_T_api_Expr A1 cap1 d1) (r : Bool) (hF : ref12_SameAll n d0 d1 = some r) : Ok Tryd.prog M 10 [.slice A0 d0.length cap0, .slice A1 d1.length cap1] (fun _ v => v = .bool r) := by
  have key : ∀ (k : Nat) (M : Mem) (A0 : Option Addr) (cap0 : Nat) (d0 : List T_api_Expr) (h0 : Sli M 6 emb_T_api_Expr A0 cap0 d0) (A1 : Option Addr) (cap1 : Nat) (d1 : List T_api_Expr) (h1 : Sli M 6 emb_T_api_Expr A1 cap1 d1) (r : Bool) (hF : ref12_SameAll_k n k d0 d1 = some r), Ok Tryd.prog M 10 [.slice A0 d0.length cap0, .slice A1 d1.length cap1] (fun _ v => v = .bool r) := by
    intro k
    induction k with
    | zero => intro M A0 cap0 d0 h0 A1 cap1 d1 h1 r hF; simp [ref12_SameAll_k] at hF
    | succ k ih => intro M A0 cap0 d0 h0 A1 cap1 d1 h1 r hF; exact ref12_SameAll_b_ok n (ref12_SameAll_k n k) ih M A0 cap0 d0 h0 A1 cap1 d1 h1 r hF
  exact key n M A0 cap0 d0 h0 A1 cap1 d1 h1 r hF
end Go.Proofs.YtdmjgmleilgbpaaDoor
