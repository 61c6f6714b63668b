/-
  Printed by a program: of each function its shallow reading, and the proof that the function gives what the reading gives. No condition.
-/
import Derived.Test.YtekkifakjkhjiaaDoorQ1
import Derived.Test.YtekkifakjkhjiaaDoorTy
import Derived.Test.YtekkifakjkhjiaaDoorRows
set_option linter.unusedVariables false
set_option linter.unusedSimpArgs false
namespace Go.Proofs.YtekkifakjkhjiaaDoor
open Go Go.Vc Go.RowKit
def ref03_Same_s1 (n : Nat) (d0 : T_api_Value) (d1 : T_api_Value) (s_1 : Int) : Option (Lp Int (Sum Unit Unit)) :=
    bif (decide (s_1 < ((d0.fKeys.length : Nat) : Int))) then
      ((getI d0.fKeys s_1).bind fun x_1 =>
      (getI d1.fKeys s_1).bind fun x_2 =>
      bif (!(decide (x_1 = x_2))) then
        (some (.br (.inl ())))
      else
        need (inR .i64 (s_1 + 1)) <|
        some (.nx (s_1 + 1)))
    else
      some (.br (.inr ()))
def ref03_Same_s2 (n : Nat) (rec_ref03_Same : T_api_Value → T_api_Value → Option Bool) (d0 : T_api_Value) (d1 : T_api_Value) (s_2 : Int) : Option (Lp Int (Sum Unit Unit)) :=
    bif (decide (s_2 < ((d0.fList.length : Nat) : Int))) then
      ((getI d0.fList s_2).bind fun x_3 =>
      (getI d1.fList s_2).bind fun x_4 =>
      (rec_ref03_Same x_3 x_4).bind fun x_5 =>
      bif !x_5 then
        (some (.br (.inl ())))
      else
        need (inR .i64 (s_2 + 1)) <|
        some (.nx (s_2 + 1)))
    else
      some (.br (.inr ()))
def ref03_Same_b (n : Nat) (rec_ref03_Same : T_api_Value → T_api_Value → Option Bool) (d0 : T_api_Value) (d1 : T_api_Value) : Option Bool :=
  ((bif (!(decide (d0.fKind = d1.fKind))) then
      (some ((true)))
    else
      bif (!(d0.fBool == d1.fBool)) then
        (some ((true)))
      else
        bif (!(decide (d0.fNum = d1.fNum))) then
          (some ((true)))
        else
          bif (!(decide (d0.fText = d1.fText))) then
            (some ((true)))
          else
            bif (!(decide (((d0.fList.length : Nat) : Int) = ((d1.fList.length : Nat) : Int)))) then
              (some ((true)))
            else
              some ((!(decide (((d0.fKeys.length : Nat) : Int) = ((d1.fKeys.length : Nat) : Int))))) : Option Bool)).bind fun y_1 =>
  bif y_1 then
    (some ((false)))
  else
    (loopF (ref03_Same_s1 n d0 d1) n (0 : Int)).bind fun b_3 =>
    (match b_3 with 
    | .inl y_2 => some ((false)) 
    | .inr y_3 => (loopF (ref03_Same_s2 n rec_ref03_Same d0 d1) n (0 : Int)).bind fun b_4 =>
      (match b_4 with 
      | .inl y_4 => some ((false)) 
      | .inr y_5 => some ((true))))
theorem ref03_Same_b_ok (n : Nat) (rec_ref03_Same : T_api_Value → T_api_Value → Option Bool) (hrec_ref03_Same : ∀ (M : Mem) (c0 : List Value) (d0 : T_api_Value) (h0 : Rep M (emb_T_api_Value d0) c0) (c1 : List Value) (d1 : T_api_Value) (h1 : Rep M (emb_T_api_Value d1) c1) (r : Bool) (hF : rec_ref03_Same d0 d1 = some r), Ok Tryd.prog M 17 [.agg c0.toArray, .agg c1.toArray] (fun _ v => v = .bool r)) (M : Mem) (c0 : List Value) (d0 : T_api_Value) (h0 : Rep M (emb_T_api_Value d0) c0) (c1 : List Value) (d1 : T_api_Value) (h1 : Rep M (emb_T_api_Value d1) c1) (r : Bool) (hF : ref03_Same_b n rec_ref03_Same d0 d1 = some r) : Ok Tryd.prog M 17 [.agg c0.toArray, .agg c1.toArray] (fun _ v => v = .bool r) := by
  unfold ref03_Same_b at hF
  intro M1 hM0 w0 H w p0
  replace h0 := Rep.mono hM0 _ _ h0
  replace h1 := Rep.mono hM0 _ _ h1
  obtain ⟨A_1, cap_1, A_2, cap_2, rfl, h_1, h_2⟩ := T_api_Value.opn h0
  obtain ⟨A_3, cap_3, A_4, cap_4, rfl, h_3, h_4⟩ := T_api_Value.opn h1
  refine R_enter 88 Tryd.func17 rfl rfl (by simp) (fun a0 f0 => ?_)
  replace f0 : Frm 88 [(0, .agg #[.int .i8 d0.fKind, .bool d0.fBool, .int .i64 d0.fNum, S d0.fText, .slice A_1 d0.fList.length cap_1, .slice A_2 d0.fKeys.length cap_2]), (1, .agg #[.int .i8 d1.fKind, .bool d1.fBool, .int .i64 d1.fNum, S d1.fText, .slice A_3 d1.fList.length cap_3, .slice A_4 d1.fKeys.length cap_4])] a0 := f0
  refine R_seq ?_
  refine R_reg ?_
  refine W_box (cs := #[.int .i8 d0.fKind, .bool d0.fBool, .int .i64 d0.fNum, S d0.fText, .slice A_1 d0.fList.length cap_1, .slice A_2 d0.fKeys.length cap_2]) (T := 26) f0 p0 1 [0, 1, 2] (fun b_1 => [(0, .agg #[.int .i8 d0.fKind, .bool d0.fBool, .int .i64 d0.fNum, S d0.fText, .slice A_1 d0.fList.length cap_1, .slice A_2 d0.fKeys.length cap_2]), (1, .agg #[.int .i8 d1.fKind, .bool d1.fBool, .int .i64 d1.fNum, S d1.fText, .slice A_3 d1.fList.length cap_3, .slice A_4 d1.fKeys.length cap_4]), (2, .pointer (some (⟨b_1, 0, none⟩)))]) (fun _ => by kernel_rfl) (fun b_1 M_1 w_1 hM_1 hc_1 p_1 a_1 f_1 => ?_)
  replace f_1 : Frm 88 [(0, .agg #[.int .i8 d0.fKind, .bool d0.fBool, .int .i64 d0.fNum, S d0.fText, .slice A_1 d0.fList.length cap_1, .slice A_2 d0.fKeys.length cap_2]), (1, .agg #[.int .i8 d1.fKind, .bool d1.fBool, .int .i64 d1.fNum, S d1.fText, .slice A_3 d1.fList.length cap_3, .slice A_4 d1.fKeys.length cap_4]), (2, .pointer (some (⟨b_1, 0, none⟩)))] a_1 := f_1
  have hc_2 := fz_box hc_1
  refine W_box (cs := #[.int .i8 d1.fKind, .bool d1.fBool, .int .i64 d1.fNum, S d1.fText, .slice A_3 d1.fList.length cap_3, .slice A_4 d1.fKeys.length cap_4]) (T := 26) f_1 p_1 1 [0, 1, 2, 3] (fun b_2 => [(0, .agg #[.int .i8 d0.fKind, .bool d0.fBool, .int .i64 d0.fNum, S d0.fText, .slice A_1 d0.fList.length cap_1, .slice A_2 d0.fKeys.length cap_2]), (1, .agg #[.int .i8 d1.fKind, .bool d1.fBool, .int .i64 d1.fNum, S d1.fText, .slice A_3 d1.fList.length cap_3, .slice A_4 d1.fKeys.length cap_4]), (2, .pointer (some (⟨b_1, 0, none⟩))), (3, .pointer (some (⟨b_2, 0, none⟩)))]) (fun _ => by kernel_rfl) (fun b_2 M_2 w_2 hM_2 hc_3 p_2 a_2 f_2 => ?_)
  replace f_2 : Frm 88 [(0, .agg #[.int .i8 d0.fKind, .bool d0.fBool, .int .i64 d0.fNum, S d0.fText, .slice A_1 d0.fList.length cap_1, .slice A_2 d0.fKeys.length cap_2]), (1, .agg #[.int .i8 d1.fKind, .bool d1.fBool, .int .i64 d1.fNum, S d1.fText, .slice A_3 d1.fList.length cap_3, .slice A_4 d1.fKeys.length cap_4]), (2, .pointer (some (⟨b_1, 0, none⟩))), (3, .pointer (some (⟨b_2, 0, none⟩)))] a_2 := f_2
  have hc_4 := fz_box hc_3
  refine W_run (L' := [(2, .pointer (some (⟨b_1, 0, none⟩))), (3, .pointer (some (⟨b_2, 0, none⟩)))]) (w' := w_2) f_2 1 [2, 3] (by kernel_rfl) (fun a_3 f_3 => ?_)
  refine W_end rfl ?_
  refine T_n ?_
  refine R_seq ?_
  refine R_seq ?_
  obtain ⟨j_1, hj_1, hF_1⟩ := bind_some' hF
  refine R_mid (fun a_40 w_3 => ∃ y_1 : Bool, j_1 = y_1 ∧ ∃ M_3 : Mem, M_2.le M_3 ∧ Frm 88 [(2, .pointer (some (⟨b_1, 0, none⟩))), (3, .pointer (some (⟨b_2, 0, none⟩))), (50, .bool y_1)] a_40 ∧ Hp w0 M_3 (H) w_3) ?_ ?_
  · refine R_reg ?_
    refine W_run (L' := [(2, .pointer (some (⟨b_1, 0, none⟩))), (3, .pointer (some (⟨b_2, 0, none⟩))), (7, .pointer (some ((⟨b_1, 0, none⟩ : Addr).add 0)))]) (w' := w_2) f_3 1 [2, 3, 7] (by kernel_rfl) (fun a_4 f_4 => ?_)
    refine W_eq (v := .int .i8 d0.fKind) f_4 (by kernel_rfl) (by kernel_rfl) rfl rfl (X_load1 (v := .int .i8 d0.fKind) rfl (ad := (⟨b_1, 0, none⟩ : Addr).add 0) (by kernel_rfl) (by kernel_rfl) (p_2.cell ((fun j v h => hM_2.cell (hc_2 j v h)) 0 _ rfl))) (fun a_5 f_5 => ?_)
    refine W_run (L' := [(2, .pointer (some (⟨b_1, 0, none⟩))), (3, .pointer (some (⟨b_2, 0, none⟩))), (8, .int .i8 d0.fKind), (9, .pointer (some ((⟨b_2, 0, none⟩ : Addr).add 0)))]) (w' := w_2) f_5 1 [2, 3, 8, 9] (by kernel_rfl) (fun a_6 f_6 => ?_)
    refine W_eq (v := .int .i8 d1.fKind) f_6 (by kernel_rfl) (by kernel_rfl) rfl rfl (X_load1 (v := .int .i8 d1.fKind) rfl (ad := (⟨b_2, 0, none⟩ : Addr).add 0) (by kernel_rfl) (by kernel_rfl) (p_2.cell (hc_4 0 _ rfl))) (fun a_7 f_7 => ?_)
    refine W_run (L' := [(2, .pointer (some (⟨b_1, 0, none⟩))), (3, .pointer (some (⟨b_2, 0, none⟩))), (12, .bool (!(decide (d0.fKind = d1.fKind))))]) (w' := w_2) f_7 2 [2, 3, 12] (by kernel_rfl) (fun a_8 f_8 => ?_)
    rcases Bool.eq_false_or_eq_true (!(decide (d0.fKind = d1.fKind))) with h_5 | h_5
    · have k_1 : ¬ (d0.fKind = d1.fKind) := (not_iff decide_eq_true_iff).1 h_5
      have hF_2 := cnd_t h_5 hj_1
      have f_9 := Frm.set f_8 12 (v := .bool (!(decide (d0.fKind = d1.fKind)))) (v' := .bool true) (by kernel_rfl) (congrArg Value.bool h_5)
      have f_10 : Frm 88 [(2, .pointer (some (⟨b_1, 0, none⟩))), (3, .pointer (some (⟨b_2, 0, none⟩))), (12, .bool true)] a_8 := f_9.keep (ks := [2, 3, 12]) (by kernel_rfl)
      refine W_run (L' := [(2, .pointer (some (⟨b_1, 0, none⟩))), (3, .pointer (some (⟨b_2, 0, none⟩))), (50, .bool true)]) (w' := w_2) f_10 38 [2, 3, 50] (by kernel_rfl) (fun a_9 f_11 => ?_)
      refine W_end rfl ?_
      refine T_n ?_
      exact ⟨(true), (Option.some.inj hF_2).symm, M_2, (Mem.le_refl _), f_11.keep (ks := [2, 3, 50]) (by kernel_rfl), p_2⟩
    · have k_2 : ¬ (¬ (d0.fKind = d1.fKind)) := iff_f (not_iff decide_eq_true_iff) h_5
      have hF_3 := cnd_f h_5 hj_1
      have f_12 := Frm.set f_8 12 (v := .bool (!(decide (d0.fKind = d1.fKind)))) (v' := .bool false) (by kernel_rfl) (congrArg Value.bool h_5)
      have f_13 : Frm 88 [(2, .pointer (some (⟨b_1, 0, none⟩))), (3, .pointer (some (⟨b_2, 0, none⟩))), (12, .bool false)] a_8 := f_12.keep (ks := [2, 3, 12]) (by kernel_rfl)
      refine W_run (L' := [(2, .pointer (some (⟨b_1, 0, none⟩))), (3, .pointer (some (⟨b_2, 0, none⟩))), (12, .bool false), (13, .pointer (some ((⟨b_1, 0, none⟩ : Addr).add 1)))]) (w' := w_2) f_13 1 [2, 3, 12, 13] (by kernel_rfl) (fun a_10 f_14 => ?_)
      refine W_eq (v := .bool d0.fBool) f_14 (by kernel_rfl) (by kernel_rfl) rfl rfl (X_load1 (v := .bool d0.fBool) rfl (ad := (⟨b_1, 0, none⟩ : Addr).add 1) (by kernel_rfl) (by kernel_rfl) (p_2.cell ((fun j v h => hM_2.cell (hc_2 j v h)) 1 _ rfl))) (fun a_11 f_15 => ?_)
      refine W_run (L' := [(2, .pointer (some (⟨b_1, 0, none⟩))), (3, .pointer (some (⟨b_2, 0, none⟩))), (12, .bool false), (14, .bool d0.fBool), (15, .pointer (some ((⟨b_2, 0, none⟩ : Addr).add 1)))]) (w' := w_2) f_15 1 [2, 3, 12, 14, 15] (by kernel_rfl) (fun a_12 f_16 => ?_)
      refine W_eq (v := .bool d1.fBool) f_16 (by kernel_rfl) (by kernel_rfl) rfl rfl (X_load1 (v := .bool d1.fBool) rfl (ad := (⟨b_2, 0, none⟩ : Addr).add 1) (by kernel_rfl) (by kernel_rfl) (p_2.cell (hc_4 1 _ rfl))) (fun a_13 f_17 => ?_)
      refine W_run (L' := [(2, .pointer (some (⟨b_1, 0, none⟩))), (3, .pointer (some (⟨b_2, 0, none⟩))), (19, .bool (!(d0.fBool == d1.fBool)))]) (w' := w_2) f_17 3 [2, 3, 19] (by kernel_rfl) (fun a_14 f_18 => ?_)
      rcases Bool.eq_false_or_eq_true (!(d0.fBool == d1.fBool)) with h_6 | h_6
      · have k_3 : (d0.fBool == d1.fBool) = false := by simpa using h_6
        have hF_4 := cnd_t h_6 hF_3
        have f_19 := Frm.set f_18 19 (v := .bool (!(d0.fBool == d1.fBool))) (v' := .bool true) (by kernel_rfl) (congrArg Value.bool h_6)
        have f_20 : Frm 88 [(2, .pointer (some (⟨b_1, 0, none⟩))), (3, .pointer (some (⟨b_2, 0, none⟩))), (19, .bool true)] a_14 := f_19.keep (ks := [2, 3, 19]) (by kernel_rfl)
        refine W_run (L' := [(2, .pointer (some (⟨b_1, 0, none⟩))), (3, .pointer (some (⟨b_2, 0, none⟩))), (50, .bool true)]) (w' := w_2) f_20 31 [2, 3, 50] (by kernel_rfl) (fun a_15 f_21 => ?_)
        refine W_end rfl ?_
        refine T_n ?_
        exact ⟨(true), (Option.some.inj hF_4).symm, M_2, (Mem.le_refl _), f_21.keep (ks := [2, 3, 50]) (by kernel_rfl), p_2⟩
      · have k_4 : (d0.fBool == d1.fBool) = true := by simpa using h_6
        have hF_5 := cnd_f h_6 hF_3
        have f_22 := Frm.set f_18 19 (v := .bool (!(d0.fBool == d1.fBool))) (v' := .bool false) (by kernel_rfl) (congrArg Value.bool h_6)
        have f_23 : Frm 88 [(2, .pointer (some (⟨b_1, 0, none⟩))), (3, .pointer (some (⟨b_2, 0, none⟩))), (19, .bool false)] a_14 := f_22.keep (ks := [2, 3, 19]) (by kernel_rfl)
        refine W_run (L' := [(2, .pointer (some (⟨b_1, 0, none⟩))), (3, .pointer (some (⟨b_2, 0, none⟩))), (19, .bool false), (20, .pointer (some ((⟨b_1, 0, none⟩ : Addr).add 2)))]) (w' := w_2) f_23 1 [2, 3, 19, 20] (by kernel_rfl) (fun a_16 f_24 => ?_)
        refine W_eq (v := .int .i64 d0.fNum) f_24 (by kernel_rfl) (by kernel_rfl) rfl rfl (X_load1 (v := .int .i64 d0.fNum) rfl (ad := (⟨b_1, 0, none⟩ : Addr).add 2) (by kernel_rfl) (by kernel_rfl) (p_2.cell ((fun j v h => hM_2.cell (hc_2 j v h)) 2 _ rfl))) (fun a_17 f_25 => ?_)
        refine W_run (L' := [(2, .pointer (some (⟨b_1, 0, none⟩))), (3, .pointer (some (⟨b_2, 0, none⟩))), (19, .bool false), (21, .int .i64 d0.fNum), (22, .pointer (some ((⟨b_2, 0, none⟩ : Addr).add 2)))]) (w' := w_2) f_25 1 [2, 3, 19, 21, 22] (by kernel_rfl) (fun a_18 f_26 => ?_)
        refine W_eq (v := .int .i64 d1.fNum) f_26 (by kernel_rfl) (by kernel_rfl) rfl rfl (X_load1 (v := .int .i64 d1.fNum) rfl (ad := (⟨b_2, 0, none⟩ : Addr).add 2) (by kernel_rfl) (by kernel_rfl) (p_2.cell (hc_4 2 _ rfl))) (fun a_19 f_27 => ?_)
        refine W_run (L' := [(2, .pointer (some (⟨b_1, 0, none⟩))), (3, .pointer (some (⟨b_2, 0, none⟩))), (26, .bool (!(decide (d0.fNum = d1.fNum))))]) (w' := w_2) f_27 3 [2, 3, 26] (by kernel_rfl) (fun a_20 f_28 => ?_)
        rcases Bool.eq_false_or_eq_true (!(decide (d0.fNum = d1.fNum))) with h_7 | h_7
        · have k_5 : ¬ (d0.fNum = d1.fNum) := (not_iff decide_eq_true_iff).1 h_7
          have hF_6 := cnd_t h_7 hF_5
          have f_29 := Frm.set f_28 26 (v := .bool (!(decide (d0.fNum = d1.fNum)))) (v' := .bool true) (by kernel_rfl) (congrArg Value.bool h_7)
          have f_30 : Frm 88 [(2, .pointer (some (⟨b_1, 0, none⟩))), (3, .pointer (some (⟨b_2, 0, none⟩))), (26, .bool true)] a_20 := f_29.keep (ks := [2, 3, 26]) (by kernel_rfl)
          refine W_run (L' := [(2, .pointer (some (⟨b_1, 0, none⟩))), (3, .pointer (some (⟨b_2, 0, none⟩))), (50, .bool true)]) (w' := w_2) f_30 24 [2, 3, 50] (by kernel_rfl) (fun a_21 f_31 => ?_)
          refine W_end rfl ?_
          refine T_n ?_
          exact ⟨(true), (Option.some.inj hF_6).symm, M_2, (Mem.le_refl _), f_31.keep (ks := [2, 3, 50]) (by kernel_rfl), p_2⟩
        · have k_6 : ¬ (¬ (d0.fNum = d1.fNum)) := iff_f (not_iff decide_eq_true_iff) h_7
          have hF_7 := cnd_f h_7 hF_5
          have f_32 := Frm.set f_28 26 (v := .bool (!(decide (d0.fNum = d1.fNum)))) (v' := .bool false) (by kernel_rfl) (congrArg Value.bool h_7)
          have f_33 : Frm 88 [(2, .pointer (some (⟨b_1, 0, none⟩))), (3, .pointer (some (⟨b_2, 0, none⟩))), (26, .bool false)] a_20 := f_32.keep (ks := [2, 3, 26]) (by kernel_rfl)
          refine W_run (L' := [(2, .pointer (some (⟨b_1, 0, none⟩))), (3, .pointer (some (⟨b_2, 0, none⟩))), (26, .bool false), (27, .pointer (some ((⟨b_1, 0, none⟩ : Addr).add 3)))]) (w' := w_2) f_33 1 [2, 3, 26, 27] (by kernel_rfl) (fun a_22 f_34 => ?_)
          refine W_eq (v := S d0.fText) f_34 (by kernel_rfl) (by kernel_rfl) rfl rfl (X_load1 (v := S d0.fText) rfl (ad := (⟨b_1, 0, none⟩ : Addr).add 3) (by kernel_rfl) (by kernel_rfl) (p_2.cell ((fun j v h => hM_2.cell (hc_2 j v h)) 3 _ rfl))) (fun a_23 f_35 => ?_)
          refine W_run (L' := [(2, .pointer (some (⟨b_1, 0, none⟩))), (3, .pointer (some (⟨b_2, 0, none⟩))), (26, .bool false), (28, S d0.fText), (29, .pointer (some ((⟨b_2, 0, none⟩ : Addr).add 3)))]) (w' := w_2) f_35 1 [2, 3, 26, 28, 29] (by kernel_rfl) (fun a_24 f_36 => ?_)
          refine W_eq (v := S d1.fText) f_36 (by kernel_rfl) (by kernel_rfl) rfl rfl (X_load1 (v := S d1.fText) rfl (ad := (⟨b_2, 0, none⟩ : Addr).add 3) (by kernel_rfl) (by kernel_rfl) (p_2.cell (hc_4 3 _ rfl))) (fun a_25 f_37 => ?_)
          refine W_eq (v := .bool (!(decide (d0.fText = d1.fText)))) f_37 (by kernel_rfl) (by kernel_rfl) rfl rfl (X_strne rfl (l := d0.fText) (m := d1.fText) (by kernel_rfl) (by kernel_rfl)) (fun a_26 f_38 => ?_)
          refine W_run (L' := [(2, .pointer (some (⟨b_1, 0, none⟩))), (3, .pointer (some (⟨b_2, 0, none⟩))), (33, .bool (!(decide (d0.fText = d1.fText))))]) (w' := w_2) f_38 2 [2, 3, 33] (by kernel_rfl) (fun a_27 f_39 => ?_)
          rcases Bool.eq_false_or_eq_true (!(decide (d0.fText = d1.fText))) with h_8 | h_8
          · have k_7 : ¬ (d0.fText = d1.fText) := (not_iff decide_eq_true_iff).1 h_8
            have hF_8 := cnd_t h_8 hF_7
            have f_40 := Frm.set f_39 33 (v := .bool (!(decide (d0.fText = d1.fText)))) (v' := .bool true) (by kernel_rfl) (congrArg Value.bool h_8)
            have f_41 : Frm 88 [(2, .pointer (some (⟨b_1, 0, none⟩))), (3, .pointer (some (⟨b_2, 0, none⟩))), (33, .bool true)] a_27 := f_40.keep (ks := [2, 3, 33]) (by kernel_rfl)
            refine W_run (L' := [(2, .pointer (some (⟨b_1, 0, none⟩))), (3, .pointer (some (⟨b_2, 0, none⟩))), (50, .bool true)]) (w' := w_2) f_41 17 [2, 3, 50] (by kernel_rfl) (fun a_28 f_42 => ?_)
            refine W_end rfl ?_
            refine T_n ?_
            exact ⟨(true), (Option.some.inj hF_8).symm, M_2, (Mem.le_refl _), f_42.keep (ks := [2, 3, 50]) (by kernel_rfl), p_2⟩
          · have k_8 : ¬ (¬ (d0.fText = d1.fText)) := iff_f (not_iff decide_eq_true_iff) h_8
            have hF_9 := cnd_f h_8 hF_7
            have f_43 := Frm.set f_39 33 (v := .bool (!(decide (d0.fText = d1.fText)))) (v' := .bool false) (by kernel_rfl) (congrArg Value.bool h_8)
            have f_44 : Frm 88 [(2, .pointer (some (⟨b_1, 0, none⟩))), (3, .pointer (some (⟨b_2, 0, none⟩))), (33, .bool false)] a_27 := f_43.keep (ks := [2, 3, 33]) (by kernel_rfl)
            refine W_run (L' := [(2, .pointer (some (⟨b_1, 0, none⟩))), (3, .pointer (some (⟨b_2, 0, none⟩))), (33, .bool false), (34, .pointer (some ((⟨b_1, 0, none⟩ : Addr).add 4)))]) (w' := w_2) f_44 1 [2, 3, 33, 34] (by kernel_rfl) (fun a_29 f_45 => ?_)
            refine W_eq (v := .slice A_1 d0.fList.length cap_1) f_45 (by kernel_rfl) (by kernel_rfl) rfl rfl (X_load1 (v := .slice A_1 d0.fList.length cap_1) rfl (ad := (⟨b_1, 0, none⟩ : Addr).add 4) (by kernel_rfl) (by kernel_rfl) (p_2.cell ((fun j v h => hM_2.cell (hc_2 j v h)) 4 _ rfl))) (fun a_30 f_46 => ?_)
            refine W_run (L' := [(2, .pointer (some (⟨b_1, 0, none⟩))), (3, .pointer (some (⟨b_2, 0, none⟩))), (33, .bool false), (36, .int .i64 ((d0.fList.length : Nat) : Int)), (37, .pointer (some ((⟨b_2, 0, none⟩ : Addr).add 4)))]) (w' := w_2) f_46 2 [2, 3, 33, 36, 37] (by kernel_rfl) (fun a_31 f_47 => ?_)
            refine W_eq (v := .slice A_3 d1.fList.length cap_3) f_47 (by kernel_rfl) (by kernel_rfl) rfl rfl (X_load1 (v := .slice A_3 d1.fList.length cap_3) rfl (ad := (⟨b_2, 0, none⟩ : Addr).add 4) (by kernel_rfl) (by kernel_rfl) (p_2.cell (hc_4 4 _ rfl))) (fun a_32 f_48 => ?_)
            refine W_run (L' := [(2, .pointer (some (⟨b_1, 0, none⟩))), (3, .pointer (some (⟨b_2, 0, none⟩))), (42, .bool (!(decide (((d0.fList.length : Nat) : Int) = ((d1.fList.length : Nat) : Int)))))]) (w' := w_2) f_48 4 [2, 3, 42] (by kernel_rfl) (fun a_33 f_49 => ?_)
            rcases Bool.eq_false_or_eq_true (!(decide (((d0.fList.length : Nat) : Int) = ((d1.fList.length : Nat) : Int)))) with h_9 | h_9
            · have k_9 : ¬ (((d0.fList.length : Nat) : Int) = ((d1.fList.length : Nat) : Int)) := (not_iff decide_eq_true_iff).1 h_9
              have hF_10 := cnd_t h_9 hF_9
              have f_50 := Frm.set f_49 42 (v := .bool (!(decide (((d0.fList.length : Nat) : Int) = ((d1.fList.length : Nat) : Int))))) (v' := .bool true) (by kernel_rfl) (congrArg Value.bool h_9)
              have f_51 : Frm 88 [(2, .pointer (some (⟨b_1, 0, none⟩))), (3, .pointer (some (⟨b_2, 0, none⟩))), (42, .bool true)] a_33 := f_50.keep (ks := [2, 3, 42]) (by kernel_rfl)
              refine W_run (L' := [(2, .pointer (some (⟨b_1, 0, none⟩))), (3, .pointer (some (⟨b_2, 0, none⟩))), (50, .bool true)]) (w' := w_2) f_51 8 [2, 3, 50] (by kernel_rfl) (fun a_34 f_52 => ?_)
              refine W_end rfl ?_
              refine T_n ?_
              exact ⟨(true), (Option.some.inj hF_10).symm, M_2, (Mem.le_refl _), f_52.keep (ks := [2, 3, 50]) (by kernel_rfl), p_2⟩
            · have k_10 : ¬ (¬ (((d0.fList.length : Nat) : Int) = ((d1.fList.length : Nat) : Int))) := iff_f (not_iff decide_eq_true_iff) h_9
              have hF_11 := cnd_f h_9 hF_9
              have f_53 := Frm.set f_49 42 (v := .bool (!(decide (((d0.fList.length : Nat) : Int) = ((d1.fList.length : Nat) : Int))))) (v' := .bool false) (by kernel_rfl) (congrArg Value.bool h_9)
              have f_54 : Frm 88 [(2, .pointer (some (⟨b_1, 0, none⟩))), (3, .pointer (some (⟨b_2, 0, none⟩))), (42, .bool false)] a_33 := f_53.keep (ks := [2, 3, 42]) (by kernel_rfl)
              refine W_run (L' := [(2, .pointer (some (⟨b_1, 0, none⟩))), (3, .pointer (some (⟨b_2, 0, none⟩))), (42, .bool false), (43, .pointer (some ((⟨b_1, 0, none⟩ : Addr).add 5)))]) (w' := w_2) f_54 1 [2, 3, 42, 43] (by kernel_rfl) (fun a_35 f_55 => ?_)
              refine W_eq (v := .slice A_2 d0.fKeys.length cap_2) f_55 (by kernel_rfl) (by kernel_rfl) rfl rfl (X_load1 (v := .slice A_2 d0.fKeys.length cap_2) rfl (ad := (⟨b_1, 0, none⟩ : Addr).add 5) (by kernel_rfl) (by kernel_rfl) (p_2.cell ((fun j v h => hM_2.cell (hc_2 j v h)) 5 _ rfl))) (fun a_36 f_56 => ?_)
              refine W_run (L' := [(2, .pointer (some (⟨b_1, 0, none⟩))), (3, .pointer (some (⟨b_2, 0, none⟩))), (42, .bool false), (45, .int .i64 ((d0.fKeys.length : Nat) : Int)), (46, .pointer (some ((⟨b_2, 0, none⟩ : Addr).add 5)))]) (w' := w_2) f_56 2 [2, 3, 42, 45, 46] (by kernel_rfl) (fun a_37 f_57 => ?_)
              refine W_eq (v := .slice A_4 d1.fKeys.length cap_4) f_57 (by kernel_rfl) (by kernel_rfl) rfl rfl (X_load1 (v := .slice A_4 d1.fKeys.length cap_4) rfl (ad := (⟨b_2, 0, none⟩ : Addr).add 5) (by kernel_rfl) (by kernel_rfl) (p_2.cell (hc_4 5 _ rfl))) (fun a_38 f_58 => ?_)
              refine W_run (L' := [(2, .pointer (some (⟨b_1, 0, none⟩))), (3, .pointer (some (⟨b_2, 0, none⟩))), (50, .bool (!(decide (((d0.fKeys.length : Nat) : Int) = ((d1.fKeys.length : Nat) : Int)))))]) (w' := w_2) f_58 3 [2, 3, 50] (by kernel_rfl) (fun a_39 f_59 => ?_)
              refine W_end rfl ?_
              refine T_n ?_
              exact ⟨(!(decide (((d0.fKeys.length : Nat) : Int) = ((d1.fKeys.length : Nat) : Int)))), (Option.some.inj hF_11).symm, M_2, (Mem.le_refl _), f_59.keep (ks := [2, 3, 50]) (by kernel_rfl), p_2⟩
  · rintro a_40 w_3 ⟨y_1, hq_1, M_3, hM_3, f_60, p_3⟩
    subst j_1
    refine T_n ?_
    refine R_cond f_60 (b := y_1) (by kernel_rfl) (by kernel_rfl) (fun h_10 => ?_) (fun h_10 => ?_)
    · have hF_12 := cnd_t h_10 hF_1
      refine R_seq ?_
      refine R_reg ?_
      refine W_run (L' := [(4, .bool false)]) (w' := w_3) f_60 1 [4] (by kernel_rfl) (fun a_41 f_61 => ?_)
      refine W_end rfl ?_
      refine T_n ?_
      refine wp_ret ?_
      refine T_r ?_
      refine E_ret1 f_61 rfl (by kernel_rfl : Vc.look _ 4 = some (.bool false)) ?_
      obtain rfl := Option.some.inj hF_12
      exact ⟨_, rfl, M_3, ((hM_1.trans hM_2).trans hM_3), p_3, rfl⟩
    · have hF_13 := cnd_f h_10 hF_1
      refine wp_skip ?_
      refine T_n ?_
      refine R_seq ?_
      refine R_seq ?_
      refine R_reg ?_
      refine W_run (L' := [(2, .pointer (some (⟨b_1, 0, none⟩))), (3, .pointer (some (⟨b_2, 0, none⟩))), (5, .int .i64 0)]) (w' := w_3) f_60 1 [2, 3, 5] (by kernel_rfl) (fun a_42 f_62 => ?_)
      refine W_end rfl ?_
      refine T_n ?_
      refine wp_block ?_
      obtain ⟨b_3, hL_1, hF_14⟩ := bind_some' hF_13
      refine wp_mono (Q := fun e a w => (e = .ret ∧ (∃ y_2 : Unit, b_3 = .inl y_2 ∧ ∃ M_5 : Mem, M_3.le M_5 ∧ Frm 88 [(4, .bool false)] a ∧ Hp w0 M_5 (H) w)) ∨ (e = .exit 0 ∧ (∃ y_3 : Unit, b_3 = .inr y_3 ∧ ∃ M_6 : Mem, M_3.le M_6 ∧ Frm 88 [(2, .pointer (some (⟨b_1, 0, none⟩))), (3, .pointer (some (⟨b_2, 0, none⟩)))] a ∧ Hp w0 M_6 (H) w))) (R_loop (n := 88) (w0 := w0) (M := M_3) (fun (x : Nat × Int) => match x with | (m_1, s_1) => [(2, .pointer (some (⟨b_1, 0, none⟩))), (3, .pointer (some (⟨b_2, 0, none⟩))), (5, .int .i64 s_1)]) (fun (x : Nat × Int) => match x with | (m_1, s_1) => (H)) (fun (x : Nat × Int) (MM : Mem) => match x with | (m_1, s_1) => loopF (ref03_Same_s1 n d0 d1) m_1 s_1 = some b_3) (fun (x : Nat × Int) => match x with | (m_1, s_1) => m_1) (n, (0 : Int)) (f_62.keep (ks := [2, 3, 5]) (by kernel_rfl)) p_3 hL_1 ?_) ?_
      · rintro ⟨m_1, s_1⟩ M_4 a_43 w_4 hM_4 I_1 f_63 p_4
        replace f_63 : Frm 88 [(2, .pointer (some (⟨b_1, 0, none⟩))), (3, .pointer (some (⟨b_2, 0, none⟩))), (5, .int .i64 s_1)] a_43 := f_63
        replace p_4 : Hp w0 M_4 (H) w_4 := p_4
        have I_1L := I_1
        obtain ⟨m_2, r_1, rfl, hs_1, hn_1⟩ := loop_step I_1L
        unfold ref03_Same_s1 at hs_1
        refine R_seq ?_
        refine R_seq ?_
        refine R_reg ?_
        refine W_run (L' := [(2, .pointer (some (⟨b_1, 0, none⟩))), (3, .pointer (some (⟨b_2, 0, none⟩))), (5, .int .i64 s_1), (51, .int .i64 s_1), (52, .pointer (some ((⟨b_1, 0, none⟩ : Addr).add 5)))]) (w' := w_4) f_63 2 [2, 3, 5, 51, 52] (by kernel_rfl) (fun a_44 f_64 => ?_)
        refine W_eq (v := .slice A_2 d0.fKeys.length cap_2) f_64 (by kernel_rfl) (by kernel_rfl) rfl rfl (X_load1 (v := .slice A_2 d0.fKeys.length cap_2) rfl (ad := (⟨b_1, 0, none⟩ : Addr).add 5) (by kernel_rfl) (by kernel_rfl) (p_4.cell ((fun j v h => ((hM_2.trans hM_3).trans hM_4).cell (hc_2 j v h)) 5 _ rfl))) (fun a_45 f_65 => ?_)
        refine W_run (L' := [(2, .pointer (some (⟨b_1, 0, none⟩))), (3, .pointer (some (⟨b_2, 0, none⟩))), (5, .int .i64 s_1), (55, .bool (decide (s_1 < ((d0.fKeys.length : Nat) : Int))))]) (w' := w_4) f_65 2 [2, 3, 5, 55] (by kernel_rfl) (fun a_46 f_66 => ?_)
        refine W_end rfl ?_
        refine T_n ?_
        refine R_cond f_66 (b := decide (s_1 < ((d0.fKeys.length : Nat) : Int))) (by kernel_rfl) (by kernel_rfl) (fun h_11 => ?_) (fun h_11 => ?_)
        · have k_13 : s_1 < ((d0.fKeys.length : Nat) : Int) := decide_eq_true_iff.1 h_11
          have hF_15 := cnd_t h_11 hs_1
          refine wp_skip ?_
          refine T_n ?_
          refine R_seq ?_
          refine wp_block ?_
          refine R_seq ?_
          refine R_draw p_4 (by kernel_rfl) (by kernel_rfl) ?_
          refine Q_eq (v := .pointer (some ((⟨b_1, 0, none⟩ : Addr).add 5))) f_66 (by kernel_rfl) (by kernel_rfl) rfl rfl (fun _ _ => by kernel_rfl) (fun a_47 f_67 => ?_)
          have f_68 : Frm 88 [(2, .pointer (some (⟨b_1, 0, none⟩))), (3, .pointer (some (⟨b_2, 0, none⟩))), (5, .int .i64 s_1), (58, .pointer (some ((⟨b_1, 0, none⟩ : Addr).add 5)))] a_47 := f_67.keep (ks := [2, 3, 5, 58]) (by kernel_rfl)
          refine Q_eq (v := .slice A_2 d0.fKeys.length cap_2) f_68 (by kernel_rfl) (by kernel_rfl) rfl rfl (fun _ pq => X_load1 (v := .slice A_2 d0.fKeys.length cap_2) rfl (ad := (⟨b_1, 0, none⟩ : Addr).add 5) (by kernel_rfl) (by kernel_rfl) (pq.cell ((fun j v h => ((hM_2.trans hM_3).trans hM_4).cell (hc_2 j v h)) 5 _ rfl))) (fun a_48 f_69 => ?_)
          refine Q_eq (v := .int .i64 s_1) f_69 (by kernel_rfl) (by kernel_rfl) rfl rfl (fun _ _ => by kernel_rfl) (fun a_49 f_70 => ?_)
          have f_71 : Frm 88 [(2, .pointer (some (⟨b_1, 0, none⟩))), (3, .pointer (some (⟨b_2, 0, none⟩))), (5, .int .i64 s_1), (59, .slice A_2 d0.fKeys.length cap_2), (60, .int .i64 s_1)] a_49 := f_70.keep (ks := [2, 3, 5, 59, 60]) (by kernel_rfl)
          obtain ⟨x_1, hx_1, hF_16⟩ := bind_some' hF_15
          obtain ⟨ad_1, c_1, e_1, hl_1, hr_1, hc_5⟩ := Sli.at_ (h_2.mono (((hM_1.trans hM_2).trans hM_3).trans hM_4)) hx_1
          clear hl_1
          obtain rfl : c_1 = [S x_1] := hr_1
          refine Q_eq (v := .pointer (some (ad_1.add (s_1.toNat * 1)))) f_71 (by kernel_rfl) (by kernel_rfl) rfl rfl (fun _ pq => X_indexAddrA e_1 rfl (len := d0.fKeys.length) (cap := cap_2) (k := .i64) (i := s_1) (by kernel_rfl) (by kernel_rfl) (e := 9) (by kernel_rfl) (sz := 1) (by kernel_rfl) (getI_nn hx_1) (getI_lt hx_1)) (fun a_50 f_72 => ?_)
          refine Q_eq (v := S x_1) f_72 (by kernel_rfl) (by kernel_rfl) rfl rfl (fun _ pq => X_load1 (v := S x_1) rfl (ad := ad_1.add (s_1.toNat * 1)) (by kernel_rfl) (by kernel_rfl) (pq.cell (hc_5 0 _ rfl))) (fun a_51 f_73 => ?_)
          refine Q_eq (v := .pointer (some ((⟨b_2, 0, none⟩ : Addr).add 5))) f_73 (by kernel_rfl) (by kernel_rfl) rfl rfl (fun _ _ => by kernel_rfl) (fun a_52 f_74 => ?_)
          have f_75 : Frm 88 [(2, .pointer (some (⟨b_1, 0, none⟩))), (3, .pointer (some (⟨b_2, 0, none⟩))), (5, .int .i64 s_1), (62, S x_1), (63, .pointer (some ((⟨b_2, 0, none⟩ : Addr).add 5)))] a_52 := f_74.keep (ks := [2, 3, 5, 62, 63]) (by kernel_rfl)
          refine Q_eq (v := .slice A_4 d1.fKeys.length cap_4) f_75 (by kernel_rfl) (by kernel_rfl) rfl rfl (fun _ pq => X_load1 (v := .slice A_4 d1.fKeys.length cap_4) rfl (ad := (⟨b_2, 0, none⟩ : Addr).add 5) (by kernel_rfl) (by kernel_rfl) (pq.cell ((fun j v h => (hM_3.trans hM_4).cell (hc_4 j v h)) 5 _ rfl))) (fun a_53 f_76 => ?_)
          refine Q_eq (v := .int .i64 s_1) f_76 (by kernel_rfl) (by kernel_rfl) rfl rfl (fun _ _ => by kernel_rfl) (fun a_54 f_77 => ?_)
          have f_78 : Frm 88 [(2, .pointer (some (⟨b_1, 0, none⟩))), (3, .pointer (some (⟨b_2, 0, none⟩))), (5, .int .i64 s_1), (62, S x_1), (64, .slice A_4 d1.fKeys.length cap_4), (65, .int .i64 s_1)] a_54 := f_77.keep (ks := [2, 3, 5, 62, 64, 65]) (by kernel_rfl)
          obtain ⟨x_2, hx_2, hF_17⟩ := bind_some' hF_16
          obtain ⟨ad_2, c_2, e_2, hl_2, hr_2, hc_6⟩ := Sli.at_ (h_4.mono (((hM_1.trans hM_2).trans hM_3).trans hM_4)) hx_2
          clear hl_2
          obtain rfl : c_2 = [S x_2] := hr_2
          refine Q_eq (v := .pointer (some (ad_2.add (s_1.toNat * 1)))) f_78 (by kernel_rfl) (by kernel_rfl) rfl rfl (fun _ pq => X_indexAddrA e_2 rfl (len := d1.fKeys.length) (cap := cap_4) (k := .i64) (i := s_1) (by kernel_rfl) (by kernel_rfl) (e := 9) (by kernel_rfl) (sz := 1) (by kernel_rfl) (getI_nn hx_2) (getI_lt hx_2)) (fun a_55 f_79 => ?_)
          refine Q_eq (v := S x_2) f_79 (by kernel_rfl) (by kernel_rfl) rfl rfl (fun _ pq => X_load1 (v := S x_2) rfl (ad := ad_2.add (s_1.toNat * 1)) (by kernel_rfl) (by kernel_rfl) (pq.cell (hc_6 0 _ rfl))) (fun a_56 f_80 => ?_)
          refine Q_eq (v := .bool (!(decide (x_1 = x_2)))) f_80 (by kernel_rfl) (by kernel_rfl) rfl rfl (fun _ pq => X_strne rfl (l := x_1) (m := x_2) (by kernel_rfl) (by kernel_rfl)) (fun a_57 f_81 => ?_)
          refine Q_end rfl ?_
          intro w_5 p_5
          refine T_n ?_
          refine R_cond f_81 (b := !(decide (x_1 = x_2))) (by kernel_rfl) (by kernel_rfl) (fun h_12 => ?_) (fun h_12 => ?_)
          · have k_14 : ¬ (x_1 = x_2) := (not_iff decide_eq_true_iff).1 h_12
            have hF_18 := cnd_t h_12 hF_17
            refine R_seq ?_
            refine R_reg ?_
            refine W_run (L' := [(4, .bool false)]) (w' := w_5) f_81 1 [4] (by kernel_rfl) (fun a_58 f_82 => ?_)
            refine W_end rfl ?_
            refine T_n ?_
            refine wp_ret ?_
            refine B_r ?_
            refine T_r ?_
            refine T_r ?_
            obtain rfl := Option.some.inj hF_18
            exact .inl ⟨rfl, (), (Option.some.inj hn_1).symm, M_4, hM_4, f_82.keep (ks := [4]) (by kernel_rfl), p_5⟩
          · have k_15 : ¬ (¬ (x_1 = x_2)) := iff_f (not_iff decide_eq_true_iff) h_12
            have hF_19 := cnd_f h_12 hF_17
            refine wp_skip ?_
            refine B_n ?_
            refine T_n ?_
            refine R_reg ?_
            refine W_run (L' := [(2, .pointer (some (⟨b_1, 0, none⟩))), (3, .pointer (some (⟨b_2, 0, none⟩))), (56, .int .i64 s_1)]) (w' := w_5) f_81 1 [2, 3, 56] (by kernel_rfl) (fun a_59 f_83 => ?_)
            obtain ⟨g_1, hF_20⟩ := need_some hF_19
            refine W_run (L' := [(2, .pointer (some (⟨b_1, 0, none⟩))), (3, .pointer (some (⟨b_2, 0, none⟩))), (56, .int .i64 s_1), (57, .int .i64 (IntKind.wrap .i64 (s_1 + 1)))]) (w' := w_5) f_83 1 [2, 3, 56, 57] (by kernel_rfl) (fun a_60 f_84 => ?_)
            have f_85 := Frm.set f_84 57 (v := .int .i64 (IntKind.wrap .i64 (s_1 + 1))) (v' := .int .i64 (s_1 + 1)) (by kernel_rfl) (congrArg (Value.int .i64) (inR_wrap g_1))
            have f_86 : Frm 88 [(2, .pointer (some (⟨b_1, 0, none⟩))), (3, .pointer (some (⟨b_2, 0, none⟩))), (56, .int .i64 s_1), (57, .int .i64 (s_1 + 1))] a_60 := f_85.keep (ks := [2, 3, 56, 57]) (by kernel_rfl)
            refine W_run (L' := [(2, .pointer (some (⟨b_1, 0, none⟩))), (3, .pointer (some (⟨b_2, 0, none⟩))), (5, .int .i64 (s_1 + 1))]) (w' := w_5) f_86 1 [2, 3, 5] (by kernel_rfl) (fun a_61 f_87 => ?_)
            refine W_end rfl ?_
            refine T_n ?_
            obtain rfl := Option.some.inj hF_20
            exact ⟨⟨m_2, s_1 + 1⟩, Nat.lt_succ_self _, M_4, hM_4, hn_1, f_87.keep (ks := [2, 3, 5]) (by kernel_rfl), p_5⟩
        · have k_16 : ¬ (s_1 < ((d0.fKeys.length : Nat) : Int)) := iff_f decide_eq_true_iff h_11
          have hF_21 := cnd_f h_11 hs_1
          refine wp_exit ?_
          refine T_x ?_
          refine T_x ?_
          obtain rfl := Option.some.inj hF_21
          exact .inr ⟨rfl, (), (Option.some.inj hn_1).symm, M_4, hM_4, f_66.keep (ks := [2, 3]) (by kernel_rfl), p_4⟩
      · rintro _ a_64 w_8 (⟨rfl, y_2, rfl, M_5, hM_5, f_88, p_6⟩ | ⟨rfl, y_3, rfl, M_6, hM_6, f_89, p_7⟩)
        · refine B_r ?_
          refine T_r ?_
          refine E_ret1 f_88 rfl (by kernel_rfl : Vc.look _ 4 = some (.bool false)) ?_
          obtain rfl := Option.some.inj hF_14
          exact ⟨_, rfl, M_5, (((hM_1.trans hM_2).trans hM_3).trans hM_5), p_6, rfl⟩
        · refine B_x ?_
          refine T_n ?_
          refine R_seq ?_
          refine R_seq ?_
          refine R_reg ?_
          refine W_run (L' := [(2, .pointer (some (⟨b_1, 0, none⟩))), (3, .pointer (some (⟨b_2, 0, none⟩))), (6, .int .i64 0)]) (w' := w_8) f_89 1 [2, 3, 6] (by kernel_rfl) (fun a_65 f_90 => ?_)
          refine W_end rfl ?_
          refine T_n ?_
          refine wp_block ?_
          obtain ⟨b_4, hL_2, hF_22⟩ := bind_some' hF_14
          refine wp_mono (Q := fun e a w => (e = .ret ∧ (∃ y_4 : Unit, b_4 = .inl y_4 ∧ ∃ M_8 : Mem, M_6.le M_8 ∧ Frm 88 [(4, .bool false)] a ∧ Hp w0 M_8 (H) w)) ∨ (e = .exit 2 ∧ (∃ y_5 : Unit, b_4 = .inr y_5 ∧ ∃ M_9 : Mem, M_6.le M_9 ∧ Frm 88 [] a ∧ Hp w0 M_9 (H) w))) (R_loop (n := 88) (w0 := w0) (M := M_6) (fun (x : Nat × Int) => match x with | (m_3, s_2) => [(2, .pointer (some (⟨b_1, 0, none⟩))), (3, .pointer (some (⟨b_2, 0, none⟩))), (6, .int .i64 s_2)]) (fun (x : Nat × Int) => match x with | (m_3, s_2) => (H)) (fun (x : Nat × Int) (MM : Mem) => match x with | (m_3, s_2) => loopF (ref03_Same_s2 n rec_ref03_Same d0 d1) m_3 s_2 = some b_4) (fun (x : Nat × Int) => match x with | (m_3, s_2) => m_3) (n, (0 : Int)) (f_90.keep (ks := [2, 3, 6]) (by kernel_rfl)) p_7 hL_2 ?_) ?_
          · rintro ⟨m_3, s_2⟩ M_7 a_66 w_9 hM_7 I_2 f_91 p_8
            replace f_91 : Frm 88 [(2, .pointer (some (⟨b_1, 0, none⟩))), (3, .pointer (some (⟨b_2, 0, none⟩))), (6, .int .i64 s_2)] a_66 := f_91
            replace p_8 : Hp w0 M_7 (H) w_9 := p_8
            have I_2L := I_2
            obtain ⟨m_4, r_2, rfl, hs_2, hn_2⟩ := loop_step I_2L
            unfold ref03_Same_s2 at hs_2
            refine R_seq ?_
            refine R_seq ?_
            refine R_reg ?_
            refine W_run (L' := [(2, .pointer (some (⟨b_1, 0, none⟩))), (3, .pointer (some (⟨b_2, 0, none⟩))), (6, .int .i64 s_2), (69, .int .i64 s_2), (70, .pointer (some ((⟨b_1, 0, none⟩ : Addr).add 4)))]) (w' := w_9) f_91 2 [2, 3, 6, 69, 70] (by kernel_rfl) (fun a_67 f_92 => ?_)
            refine W_eq (v := .slice A_1 d0.fList.length cap_1) f_92 (by kernel_rfl) (by kernel_rfl) rfl rfl (X_load1 (v := .slice A_1 d0.fList.length cap_1) rfl (ad := (⟨b_1, 0, none⟩ : Addr).add 4) (by kernel_rfl) (by kernel_rfl) (p_8.cell ((fun j v h => (((hM_2.trans hM_3).trans hM_6).trans hM_7).cell (hc_2 j v h)) 4 _ rfl))) (fun a_68 f_93 => ?_)
            refine W_run (L' := [(2, .pointer (some (⟨b_1, 0, none⟩))), (3, .pointer (some (⟨b_2, 0, none⟩))), (6, .int .i64 s_2), (73, .bool (decide (s_2 < ((d0.fList.length : Nat) : Int))))]) (w' := w_9) f_93 2 [2, 3, 6, 73] (by kernel_rfl) (fun a_69 f_94 => ?_)
            refine W_end rfl ?_
            refine T_n ?_
            refine R_cond f_94 (b := decide (s_2 < ((d0.fList.length : Nat) : Int))) (by kernel_rfl) (by kernel_rfl) (fun h_13 => ?_) (fun h_13 => ?_)
            · have k_17 : s_2 < ((d0.fList.length : Nat) : Int) := decide_eq_true_iff.1 h_13
              have hF_23 := cnd_t h_13 hs_2
              refine wp_skip ?_
              refine T_n ?_
              refine R_seq ?_
              refine wp_block ?_
              refine R_seq ?_
              refine R_draw p_8 (by kernel_rfl) (by kernel_rfl) ?_
              refine Q_eq (v := .pointer (some ((⟨b_1, 0, none⟩ : Addr).add 4))) f_94 (by kernel_rfl) (by kernel_rfl) rfl rfl (fun _ _ => by kernel_rfl) (fun a_70 f_95 => ?_)
              have f_96 : Frm 88 [(2, .pointer (some (⟨b_1, 0, none⟩))), (3, .pointer (some (⟨b_2, 0, none⟩))), (6, .int .i64 s_2), (76, .pointer (some ((⟨b_1, 0, none⟩ : Addr).add 4)))] a_70 := f_95.keep (ks := [2, 3, 6, 76]) (by kernel_rfl)
              refine Q_eq (v := .slice A_1 d0.fList.length cap_1) f_96 (by kernel_rfl) (by kernel_rfl) rfl rfl (fun _ pq => X_load1 (v := .slice A_1 d0.fList.length cap_1) rfl (ad := (⟨b_1, 0, none⟩ : Addr).add 4) (by kernel_rfl) (by kernel_rfl) (pq.cell ((fun j v h => (((hM_2.trans hM_3).trans hM_6).trans hM_7).cell (hc_2 j v h)) 4 _ rfl))) (fun a_71 f_97 => ?_)
              refine Q_eq (v := .int .i64 s_2) f_97 (by kernel_rfl) (by kernel_rfl) rfl rfl (fun _ _ => by kernel_rfl) (fun a_72 f_98 => ?_)
              have f_99 : Frm 88 [(2, .pointer (some (⟨b_1, 0, none⟩))), (3, .pointer (some (⟨b_2, 0, none⟩))), (6, .int .i64 s_2), (77, .slice A_1 d0.fList.length cap_1), (78, .int .i64 s_2)] a_72 := f_98.keep (ks := [2, 3, 6, 77, 78]) (by kernel_rfl)
              obtain ⟨x_3, hx_3, hF_24⟩ := bind_some' hF_23
              obtain ⟨ad_3, c_3, e_3, hl_3, hr_3, hc_7⟩ := Sli.at_ (h_1.mono ((((hM_1.trans hM_2).trans hM_3).trans hM_6).trans hM_7)) hx_3
              clear hl_3
              obtain ⟨A_5, cap_5, A_6, cap_6, rfl, h_14, h_15⟩ := T_api_Value.opn hr_3
              refine Q_eq (v := .pointer (some (ad_3.add (s_2.toNat * 6)))) f_99 (by kernel_rfl) (by kernel_rfl) rfl rfl (fun _ pq => X_indexAddrA e_3 rfl (len := d0.fList.length) (cap := cap_1) (k := .i64) (i := s_2) (by kernel_rfl) (by kernel_rfl) (e := 26) (by kernel_rfl) (sz := 6) (by kernel_rfl) (getI_nn hx_3) (getI_lt hx_3)) (fun a_73 f_100 => ?_)
              refine Q_eq (v := .agg #[.int .i8 x_3.fKind, .bool x_3.fBool, .int .i64 x_3.fNum, S x_3.fText, .slice A_5 x_3.fList.length cap_5, .slice A_6 x_3.fKeys.length cap_6]) f_100 (by kernel_rfl) (by kernel_rfl) rfl rfl (fun _ pq => X_loadN (cs := [.int .i8 x_3.fKind, .bool x_3.fBool, .int .i64 x_3.fNum, S x_3.fText, .slice A_5 x_3.fList.length cap_5, .slice A_6 x_3.fKeys.length cap_6]) rfl (ad := ad_3.add (s_2.toNat * 6)) (by kernel_rfl) (by kernel_rfl) (fun j v h => pq.cell (hc_7 j v h))) (fun a_74 f_101 => ?_)
              refine Q_eq (v := .pointer (some ((⟨b_2, 0, none⟩ : Addr).add 4))) f_101 (by kernel_rfl) (by kernel_rfl) rfl rfl (fun _ _ => by kernel_rfl) (fun a_75 f_102 => ?_)
              have f_103 : Frm 88 [(2, .pointer (some (⟨b_1, 0, none⟩))), (3, .pointer (some (⟨b_2, 0, none⟩))), (6, .int .i64 s_2), (80, .agg #[.int .i8 x_3.fKind, .bool x_3.fBool, .int .i64 x_3.fNum, S x_3.fText, .slice A_5 x_3.fList.length cap_5, .slice A_6 x_3.fKeys.length cap_6]), (81, .pointer (some ((⟨b_2, 0, none⟩ : Addr).add 4)))] a_75 := f_102.keep (ks := [2, 3, 6, 80, 81]) (by kernel_rfl)
              refine Q_eq (v := .slice A_3 d1.fList.length cap_3) f_103 (by kernel_rfl) (by kernel_rfl) rfl rfl (fun _ pq => X_load1 (v := .slice A_3 d1.fList.length cap_3) rfl (ad := (⟨b_2, 0, none⟩ : Addr).add 4) (by kernel_rfl) (by kernel_rfl) (pq.cell ((fun j v h => ((hM_3.trans hM_6).trans hM_7).cell (hc_4 j v h)) 4 _ rfl))) (fun a_76 f_104 => ?_)
              refine Q_eq (v := .int .i64 s_2) f_104 (by kernel_rfl) (by kernel_rfl) rfl rfl (fun _ _ => by kernel_rfl) (fun a_77 f_105 => ?_)
              have f_106 : Frm 88 [(2, .pointer (some (⟨b_1, 0, none⟩))), (3, .pointer (some (⟨b_2, 0, none⟩))), (6, .int .i64 s_2), (80, .agg #[.int .i8 x_3.fKind, .bool x_3.fBool, .int .i64 x_3.fNum, S x_3.fText, .slice A_5 x_3.fList.length cap_5, .slice A_6 x_3.fKeys.length cap_6]), (82, .slice A_3 d1.fList.length cap_3), (83, .int .i64 s_2)] a_77 := f_105.keep (ks := [2, 3, 6, 80, 82, 83]) (by kernel_rfl)
              obtain ⟨x_4, hx_4, hF_25⟩ := bind_some' hF_24
              obtain ⟨ad_4, c_4, e_4, hl_4, hr_4, hc_8⟩ := Sli.at_ (h_3.mono ((((hM_1.trans hM_2).trans hM_3).trans hM_6).trans hM_7)) hx_4
              clear hl_4
              obtain ⟨A_7, cap_7, A_8, cap_8, rfl, h_16, h_17⟩ := T_api_Value.opn hr_4
              refine Q_eq (v := .pointer (some (ad_4.add (s_2.toNat * 6)))) f_106 (by kernel_rfl) (by kernel_rfl) rfl rfl (fun _ pq => X_indexAddrA e_4 rfl (len := d1.fList.length) (cap := cap_3) (k := .i64) (i := s_2) (by kernel_rfl) (by kernel_rfl) (e := 26) (by kernel_rfl) (sz := 6) (by kernel_rfl) (getI_nn hx_4) (getI_lt hx_4)) (fun a_78 f_107 => ?_)
              refine Q_eq (v := .agg #[.int .i8 x_4.fKind, .bool x_4.fBool, .int .i64 x_4.fNum, S x_4.fText, .slice A_7 x_4.fList.length cap_7, .slice A_8 x_4.fKeys.length cap_8]) f_107 (by kernel_rfl) (by kernel_rfl) rfl rfl (fun _ pq => X_loadN (cs := [.int .i8 x_4.fKind, .bool x_4.fBool, .int .i64 x_4.fNum, S x_4.fText, .slice A_7 x_4.fList.length cap_7, .slice A_8 x_4.fKeys.length cap_8]) rfl (ad := ad_4.add (s_2.toNat * 6)) (by kernel_rfl) (by kernel_rfl) (fun j v h => pq.cell (hc_8 j v h))) (fun a_79 f_108 => ?_)
              obtain ⟨x_5, hx_5, hF_26⟩ := bind_some' hF_25
              refine Q_okv (v := .bool x_5) f_108 (by kernel_rfl) (by kernel_rfl) rfl rfl (fun _ => by kernel_rfl) (hrec_ref03_Same _ [.int .i8 x_3.fKind, .bool x_3.fBool, .int .i64 x_3.fNum, S x_3.fText, .slice A_5 x_3.fList.length cap_5, .slice A_6 x_3.fKeys.length cap_6] x_3 (T_api_Value.shutx (x := x_3) h_14 h_15) [.int .i8 x_4.fKind, .bool x_4.fBool, .int .i64 x_4.fNum, S x_4.fText, .slice A_7 x_4.fList.length cap_7, .slice A_8 x_4.fKeys.length cap_8] x_4 (T_api_Value.shutx (x := x_4) h_16 h_17) x_5 hx_5) (fun a_80 f_109 => ?_)
              refine Q_eq (v := .bool !x_5) f_109 (by kernel_rfl) (by kernel_rfl) rfl rfl (fun _ _ => by kernel_rfl) (fun a_81 f_110 => ?_)
              have f_111 : Frm 88 [(2, .pointer (some (⟨b_1, 0, none⟩))), (3, .pointer (some (⟨b_2, 0, none⟩))), (6, .int .i64 s_2), (87, .bool !x_5)] a_81 := f_110.keep (ks := [2, 3, 6, 87]) (by kernel_rfl)
              refine Q_end rfl ?_
              intro w_11 p_10
              refine T_n ?_
              refine R_cond f_111 (b := !x_5) (by kernel_rfl) (by kernel_rfl) (fun h_18 => ?_) (fun h_18 => ?_)
              · have k_18 : (x_5) = false := by simpa using h_18
                have hF_27 := cnd_t h_18 hF_26
                refine R_seq ?_
                refine R_reg ?_
                refine W_run (L' := [(4, .bool false)]) (w' := w_11) f_111 1 [4] (by kernel_rfl) (fun a_82 f_112 => ?_)
                refine W_end rfl ?_
                refine T_n ?_
                refine wp_ret ?_
                refine B_r ?_
                refine T_r ?_
                refine T_r ?_
                obtain rfl := Option.some.inj hF_27
                exact .inl ⟨rfl, (), (Option.some.inj hn_2).symm, M_7, hM_7, f_112.keep (ks := [4]) (by kernel_rfl), p_10⟩
              · have k_19 : (x_5) = true := by simpa using h_18
                have hF_28 := cnd_f h_18 hF_26
                refine wp_skip ?_
                refine B_n ?_
                refine T_n ?_
                refine R_reg ?_
                refine W_run (L' := [(2, .pointer (some (⟨b_1, 0, none⟩))), (3, .pointer (some (⟨b_2, 0, none⟩))), (74, .int .i64 s_2)]) (w' := w_11) f_111 1 [2, 3, 74] (by kernel_rfl) (fun a_83 f_113 => ?_)
                obtain ⟨g_2, hF_29⟩ := need_some hF_28
                refine W_run (L' := [(2, .pointer (some (⟨b_1, 0, none⟩))), (3, .pointer (some (⟨b_2, 0, none⟩))), (74, .int .i64 s_2), (75, .int .i64 (IntKind.wrap .i64 (s_2 + 1)))]) (w' := w_11) f_113 1 [2, 3, 74, 75] (by kernel_rfl) (fun a_84 f_114 => ?_)
                have f_115 := Frm.set f_114 75 (v := .int .i64 (IntKind.wrap .i64 (s_2 + 1))) (v' := .int .i64 (s_2 + 1)) (by kernel_rfl) (congrArg (Value.int .i64) (inR_wrap g_2))
                have f_116 : Frm 88 [(2, .pointer (some (⟨b_1, 0, none⟩))), (3, .pointer (some (⟨b_2, 0, none⟩))), (74, .int .i64 s_2), (75, .int .i64 (s_2 + 1))] a_84 := f_115.keep (ks := [2, 3, 74, 75]) (by kernel_rfl)
                refine W_run (L' := [(2, .pointer (some (⟨b_1, 0, none⟩))), (3, .pointer (some (⟨b_2, 0, none⟩))), (6, .int .i64 (s_2 + 1))]) (w' := w_11) f_116 1 [2, 3, 6] (by kernel_rfl) (fun a_85 f_117 => ?_)
                refine W_end rfl ?_
                refine T_n ?_
                obtain rfl := Option.some.inj hF_29
                exact ⟨⟨m_4, s_2 + 1⟩, Nat.lt_succ_self _, M_7, hM_7, hn_2, f_117.keep (ks := [2, 3, 6]) (by kernel_rfl), p_10⟩
            · have k_20 : ¬ (s_2 < ((d0.fList.length : Nat) : Int)) := iff_f decide_eq_true_iff h_13
              have hF_30 := cnd_f h_13 hs_2
              refine wp_exit ?_
              refine T_x ?_
              refine T_x ?_
              obtain rfl := Option.some.inj hF_30
              exact .inr ⟨rfl, (), (Option.some.inj hn_2).symm, M_7, hM_7, f_94.keep (ks := []) (by kernel_rfl), p_8⟩
          · rintro _ a_88 w_14 (⟨rfl, y_4, rfl, M_8, hM_8, f_118, p_11⟩ | ⟨rfl, y_5, rfl, M_9, hM_9, f_119, p_12⟩)
            · refine B_r ?_
              refine T_r ?_
              refine E_ret1 f_118 rfl (by kernel_rfl : Vc.look _ 4 = some (.bool false)) ?_
              obtain rfl := Option.some.inj hF_22
              exact ⟨_, rfl, M_8, ((((hM_1.trans hM_2).trans hM_3).trans hM_6).trans hM_8), p_11, rfl⟩
            · refine B_x ?_
              refine T_n ?_
              refine R_seq ?_
              refine R_reg ?_
              refine W_run (L' := [(4, .bool true)]) (w' := w_14) f_119 1 [4] (by kernel_rfl) (fun a_89 f_120 => ?_)
              refine W_end rfl ?_
              refine T_n ?_
              refine wp_ret ?_
              refine E_ret1 f_120 rfl (by kernel_rfl : Vc.look _ 4 = some (.bool true)) ?_
              obtain rfl := Option.some.inj hF_22
              exact ⟨_, rfl, M_9, ((((hM_1.trans hM_2).trans hM_3).trans hM_6).trans hM_9), p_12, rfl⟩
def ref03_Same_k (n : Nat) : Nat → T_api_Value → T_api_Value → Option Bool
  | 0 => fun _ _ => none
  | k + 1 => ref03_Same_b n (ref03_Same_k n k)
def ref03_Same (n : Nat) (d0 : T_api_Value) (d1 : T_api_Value) : Option Bool := ref03_Same_k n n d0 d1
theorem ref03_Same_ok (n : Nat) (M : Mem) (c0 : List Value) (d0 : T_api_Value) (h0 : Rep M (emb_T_api_Value d0) c0) (c1 : List Value) (d1 : T_api_Value) (h1 : Rep M (emb_T_api_Value d1) c1) (r : Bool) (hF : ref03_Same n d0 d1 = some r) : Ok Tryd.prog M 17 [.agg c0.toArray, .agg c1.toArray] (fun _ v => v = .bool r) := by
  have key : ∀ (k : Nat) (M : Mem) (c0 : List Value) (d0 : T_api_Value) (h0 : Rep M (emb_T_api_Value d0) c0) (c1 : List Value) (d1 : T_api_Value) (h1 : Rep M (emb_T_api_Value d1) c1) (r : Bool) (hF : ref03_Same_k n k d0 d1 = some r), Ok Tryd.prog M 17 [.agg c0.toArray, .agg c1.toArray] (fun _ v => v = .bool r) := by
    intro k
    induction k with
    | zero => intro M c0 d0 h0 c1 d1 h1 r hF; simp [ref03_Same_k] at hF
    | succ k ih => intro M c0 d0 h0 c1 d1 h1 r hF; exact ref03_Same_b_ok n (ref03_Same_k n k) ih M c0 d0 h0 c1 d1 h1 r hF
  exact key n M c0 d0 h0 c1 d1 h1 r hF
end Go.Proofs.YtekkifakjkhjiaaDoor
