/-
  Printed by a program: of each function its shallow reading, and the proof that the function gives what the reading gives. No condition.
-/
import Derived.Test.YtdmjgmleilgbpaaDoorQ6
set_option linter.unusedVariables false
set_option linter.unusedSimpArgs false
namespace Go.Proofs.YtdmjgmleilgbpaaDoor
open Go Go.Vc Go.RowKit
def law12_wakes (n : Nat) : Option Bool :=
  (sub_Lex n [97, 45, 36, 123, 66, 125, 45, 36, 123, 67, 46, 65, 114, 110, 125]).bind fun x_1 =>
  (sub_Lex n [36, 123, 33, 120, 125]).bind fun x_2 =>
  bif (decide (x_1.2.2 = 0)) then
    (bif (decide (x_1.2.1 = 0)) then
      (bif (decide (((x_1.1.length : Nat) : Int) = 4)) then
        ((getI x_1.1 (1 : Int)).bind fun x_3 =>
        bif (decide (x_3.fName = [66])) then
          ((getI x_1.1 (3 : Int)).bind fun x_4 =>
          bif (decide (x_4.fAttr = [65, 114, 110])) then
            (bif (decide (x_2.2.2 = 0)) then
              (bif (decide (((x_2.1.length : Nat) : Int) = 1)) then
                ((getI x_2.1 (0 : Int)).bind fun x_5 =>
                some ((decide (x_5.fText = [36, 123, 120, 125]))))
              else
                some ((false)))
            else
              some ((false)))
          else
            some ((false)))
        else
          some ((false)))
      else
        some ((false)))
    else
      some ((false)))
  else
    some ((false))
theorem law12_wakes_ok (n : Nat) (M : Mem) (hG : GL M) (r : Bool) (hF : law12_wakes n = some r) : Ok Tryd.prog M 8 [] (fun _ v => v = .bool r) := by
  unfold law12_wakes at hF
  intro M1 hM0 w0 H w p0
  replace hG := GL.mono hM0 hG
  refine R_enter 58 Tryd.func8 rfl rfl (by simp) (fun a0 f0 => ?_)
  replace f0 : Frm 58 [] a0 := f0
  refine R_seq ?_
  refine R_reg ?_
  refine W_run (L' := []) (w' := w) f0 1 [] (by kernel_rfl) (fun a_1 f_1 => ?_)
  refine W_end rfl ?_
  refine T_n ?_
  refine R_seq ?_
  refine R_reg ?_
  obtain ⟨x_1, hx_1, hF_1⟩ := bind_some' hF
  refine W_okH (E := []) (H := (H)) f_1 p0 (by kernel_rfl) (by kernel_rfl) rfl rfl (fun _ => by kernel_rfl) (sub_Lex_ok n _ hG [97, 45, 36, 123, 66, 125, 45, 36, 123, 67, 46, 65, 114, 110, 125] x_1 hx_1) (fun u_1 M_1 E_1 w_1 hM_1 p_1 q_1 a_2 f_2 => ?_)
  obtain ⟨A_1, cap_1, cs_1, rfl, rfl, hr_1⟩ := q_1
  replace p_1 : Hp w0 M_1 ((Ent.row 29 6 (.slice A_1 x_1.1.length cap_1) x_1.1.length cs_1) :: H) w_1 := p_1
  refine W_run (L' := [(1, .slice A_1 x_1.1.length cap_1), (2, .int .i64 x_1.2.1), (3, .int .i64 x_1.2.2)]) (w' := w_1) f_2 7 [1, 2, 3] (by kernel_rfl) (fun a_3 f_3 => ?_)
  refine W_end rfl ?_
  refine T_n ?_
  refine R_seq ?_
  refine R_reg ?_
  obtain ⟨x_2, hx_2, hF_2⟩ := bind_some' hF_1
  refine W_okH (E := []) (H := ((Ent.row 29 6 (.slice A_1 x_1.1.length cap_1) x_1.1.length cs_1) :: H)) f_3 p_1 (by kernel_rfl) (by kernel_rfl) rfl rfl (fun _ => by kernel_rfl) (sub_Lex_ok n _ (GL.mono hM_1 hG) [36, 123, 33, 120, 125] x_2 hx_2) (fun u_2 M_2 E_2 w_2 hM_2 p_2 q_2 a_4 f_4 => ?_)
  obtain ⟨A_2, cap_2, cs_2, rfl, rfl, hr_2⟩ := q_2
  replace p_2 : Hp w0 M_2 ((Ent.row 29 6 (.slice A_2 x_2.1.length cap_2) x_2.1.length cs_2) :: (Ent.row 29 6 (.slice A_1 x_1.1.length cap_1) x_1.1.length cs_1) :: H) w_2 := p_2
  refine W_run (L' := [(1, .slice A_1 x_1.1.length cap_1), (2, .int .i64 x_1.2.1), (3, .int .i64 x_1.2.2), (4, .slice A_2 x_2.1.length cap_2), (6, .int .i64 x_2.2.2)]) (w' := w_2) f_4 7 [1, 2, 3, 4, 6] (by kernel_rfl) (fun a_5 f_5 => ?_)
  refine W_end rfl ?_
  refine T_n ?_
  refine R_seq ?_
  refine R_reg ?_
  refine W_run (L' := [(1, .slice A_1 x_1.1.length cap_1), (2, .int .i64 x_1.2.1), (4, .slice A_2 x_2.1.length cap_2), (6, .int .i64 x_2.2.2), (19, .bool (decide (x_1.2.2 = 0)))]) (w' := w_2) f_5 3 [1, 2, 4, 6, 19] (by kernel_rfl) (fun a_6 f_6 => ?_)
  rcases Bool.eq_false_or_eq_true (decide (x_1.2.2 = 0)) with h_1 | h_1
  · have k_1 : x_1.2.2 = 0 := decide_eq_true_iff.1 h_1
    have hF_3 := cnd_t h_1 hF_2
    have f_7 := Frm.set f_6 19 (v := .bool (decide (x_1.2.2 = 0))) (v' := .bool true) (by kernel_rfl) (congrArg Value.bool h_1)
    have f_8 : Frm 58 [(1, .slice A_1 x_1.1.length cap_1), (2, .int .i64 x_1.2.1), (4, .slice A_2 x_2.1.length cap_2), (6, .int .i64 x_2.2.2), (19, .bool true)] a_6 := f_7.keep (ks := [1, 2, 4, 6, 19]) (by kernel_rfl)
    refine W_run (L' := [(1, .slice A_1 x_1.1.length cap_1), (4, .slice A_2 x_2.1.length cap_2), (6, .int .i64 x_2.2.2), (23, .bool (decide (x_1.2.1 = 0)))]) (w' := w_2) f_8 4 [1, 4, 6, 23] (by kernel_rfl) (fun a_7 f_9 => ?_)
    rcases Bool.eq_false_or_eq_true (decide (x_1.2.1 = 0)) with h_2 | h_2
    · have k_2 : x_1.2.1 = 0 := decide_eq_true_iff.1 h_2
      have hF_4 := cnd_t h_2 hF_3
      have f_10 := Frm.set f_9 23 (v := .bool (decide (x_1.2.1 = 0))) (v' := .bool true) (by kernel_rfl) (congrArg Value.bool h_2)
      have f_11 : Frm 58 [(1, .slice A_1 x_1.1.length cap_1), (4, .slice A_2 x_2.1.length cap_2), (6, .int .i64 x_2.2.2), (23, .bool true)] a_7 := f_10.keep (ks := [1, 4, 6, 23]) (by kernel_rfl)
      refine W_run (L' := [(1, .slice A_1 x_1.1.length cap_1), (4, .slice A_2 x_2.1.length cap_2), (6, .int .i64 x_2.2.2), (28, .bool (decide (((x_1.1.length : Nat) : Int) = 4)))]) (w' := w_2) f_11 5 [1, 4, 6, 28] (by kernel_rfl) (fun a_8 f_12 => ?_)
      rcases Bool.eq_false_or_eq_true (decide (((x_1.1.length : Nat) : Int) = 4)) with h_3 | h_3
      · have k_3 : ((x_1.1.length : Nat) : Int) = 4 := decide_eq_true_iff.1 h_3
        have hF_5 := cnd_t h_3 hF_4
        have f_13 := Frm.set f_12 28 (v := .bool (decide (((x_1.1.length : Nat) : Int) = 4))) (v' := .bool true) (by kernel_rfl) (congrArg Value.bool h_3)
        have f_14 : Frm 58 [(1, .slice A_1 x_1.1.length cap_1), (4, .slice A_2 x_2.1.length cap_2), (6, .int .i64 x_2.2.2), (28, .bool true)] a_8 := f_13.keep (ks := [1, 4, 6, 28]) (by kernel_rfl)
        refine W_run (L' := [(1, .slice A_1 x_1.1.length cap_1), (4, .slice A_2 x_2.1.length cap_2), (6, .int .i64 x_2.2.2), (28, .bool true), (29, .slice A_1 x_1.1.length cap_1)]) (w' := w_2) f_14 1 [1, 4, 6, 28, 29] (by kernel_rfl) (fun a_9 f_15 => ?_)
        obtain ⟨x_3, hx_3, hF_6⟩ := bind_some' hF_5
        obtain ⟨b_1, cap_3, hv_1, hcap_1⟩ := p_2.rowAddr 1 rfl (getI_pos hx_3)
        have f_16 := Frm.set f_15 29 (v := .slice A_1 x_1.1.length cap_1) (v' := .slice (some ⟨b_1, 0, none⟩) x_1.1.length cap_3) (by kernel_rfl) (hv_1)
        have f_17 : Frm 58 [(1, .slice A_1 x_1.1.length cap_1), (4, .slice A_2 x_2.1.length cap_2), (6, .int .i64 x_2.2.2), (28, .bool true), (29, .slice (some ⟨b_1, 0, none⟩) x_1.1.length cap_3)] a_9 := f_16.keep (ks := [1, 4, 6, 28, 29]) (by kernel_rfl)
        refine W_eq (v := .pointer (some ((⟨b_1, 0, none⟩ : Addr).add ((1 : Int).toNat * 6)))) f_17 (by kernel_rfl) (by kernel_rfl) rfl rfl (X_indexAddr rfl (ad := ⟨b_1, 0, none⟩) (len := x_1.1.length) (cap := cap_3) (k := .i64) (i := (1 : Int)) (by kernel_rfl) (by kernel_rfl) (e := 29) (by kernel_rfl) (sz := 6) (by kernel_rfl) (getI_nn hx_3) (getI_lt hx_3)) (fun a_10 f_18 => ?_)
        have f_19 := Frm.set f_18 29 (v := .slice (some ⟨b_1, 0, none⟩) x_1.1.length cap_3) (v' := .slice A_1 x_1.1.length cap_1) (by kernel_rfl) (hv_1.symm)
        have f_20 : Frm 58 [(1, .slice A_1 x_1.1.length cap_1), (4, .slice A_2 x_2.1.length cap_2), (6, .int .i64 x_2.2.2), (28, .bool true), (29, .slice A_1 x_1.1.length cap_1), (30, .pointer (some ((⟨b_1, 0, none⟩ : Addr).add ((1 : Int).toNat * 6))))] a_10 := f_19.keep (ks := [1, 4, 6, 28, 29, 30]) (by kernel_rfl)
        refine W_run (L' := [(1, .slice A_1 x_1.1.length cap_1), (4, .slice A_2 x_2.1.length cap_2), (6, .int .i64 x_2.2.2), (28, .bool true), (31, .pointer (some (((⟨b_1, 0, none⟩ : Addr).add ((1 : Int).toNat * 6)).add 3)))]) (w' := w_2) f_20 1 [1, 4, 6, 28, 31] (by kernel_rfl) (fun a_11 f_21 => ?_)
        obtain ⟨c_1, hl_1, hr_3, hc_1⟩ := RepSeq.get (1 : Int).toNat (szd_all szd_T_api_Expr) (RepSeq.mono hM_2 _ _ hr_1) (getI_map hx_3)
        clear hl_1
        obtain ⟨A_3, cap_4, rfl, h_4⟩ := T_api_Expr.opn hr_3
        refine W_eq (v := S x_3.fName) f_21 (by kernel_rfl) (by kernel_rfl) rfl rfl (X_load1 (v := S x_3.fName) rfl (ad := ((⟨b_1, 0, none⟩ : Addr).add ((1 : Int).toNat * 6)).add 3) (by kernel_rfl) (by kernel_rfl) ((fun j v h => row_at (p_2.rowCell 1 rfl hv_1) hc_1 j v h) 3 _ rfl)) (fun a_12 f_22 => ?_)
        refine W_eq (v := .bool (decide (x_3.fName = [66]))) f_22 (by kernel_rfl) (by kernel_rfl) rfl rfl (X_streq rfl (l := x_3.fName) (m := [66]) (by kernel_rfl) (by kernel_rfl)) (fun a_13 f_23 => ?_)
        refine W_run (L' := [(1, .slice A_1 x_1.1.length cap_1), (4, .slice A_2 x_2.1.length cap_2), (6, .int .i64 x_2.2.2), (35, .bool (decide (x_3.fName = [66])))]) (w' := w_2) f_23 2 [1, 4, 6, 35] (by kernel_rfl) (fun a_14 f_24 => ?_)
        rcases Bool.eq_false_or_eq_true (decide (x_3.fName = [66])) with h_5 | h_5
        · have k_4 : x_3.fName = [66] := decide_eq_true_iff.1 h_5
          have hF_7 := cnd_t h_5 hF_6
          have f_25 := Frm.set f_24 35 (v := .bool (decide (x_3.fName = [66]))) (v' := .bool true) (by kernel_rfl) (congrArg Value.bool h_5)
          have f_26 : Frm 58 [(1, .slice A_1 x_1.1.length cap_1), (4, .slice A_2 x_2.1.length cap_2), (6, .int .i64 x_2.2.2), (35, .bool true)] a_14 := f_25.keep (ks := [1, 4, 6, 35]) (by kernel_rfl)
          refine W_run (L' := [(4, .slice A_2 x_2.1.length cap_2), (6, .int .i64 x_2.2.2), (35, .bool true), (36, .slice A_1 x_1.1.length cap_1)]) (w' := w_2) f_26 1 [4, 6, 35, 36] (by kernel_rfl) (fun a_15 f_27 => ?_)
          obtain ⟨x_4, hx_4, hF_8⟩ := bind_some' hF_7
          obtain ⟨b_2, cap_5, hv_2, hcap_2⟩ := p_2.rowAddr 1 rfl (getI_pos hx_4)
          have f_28 := Frm.set f_27 36 (v := .slice A_1 x_1.1.length cap_1) (v' := .slice (some ⟨b_2, 0, none⟩) x_1.1.length cap_5) (by kernel_rfl) (hv_2)
          have f_29 : Frm 58 [(4, .slice A_2 x_2.1.length cap_2), (6, .int .i64 x_2.2.2), (35, .bool true), (36, .slice (some ⟨b_2, 0, none⟩) x_1.1.length cap_5)] a_15 := f_28.keep (ks := [4, 6, 35, 36]) (by kernel_rfl)
          refine W_eq (v := .pointer (some ((⟨b_2, 0, none⟩ : Addr).add ((3 : Int).toNat * 6)))) f_29 (by kernel_rfl) (by kernel_rfl) rfl rfl (X_indexAddr rfl (ad := ⟨b_2, 0, none⟩) (len := x_1.1.length) (cap := cap_5) (k := .i64) (i := (3 : Int)) (by kernel_rfl) (by kernel_rfl) (e := 29) (by kernel_rfl) (sz := 6) (by kernel_rfl) (getI_nn hx_4) (getI_lt hx_4)) (fun a_16 f_30 => ?_)
          have f_31 := Frm.set f_30 36 (v := .slice (some ⟨b_2, 0, none⟩) x_1.1.length cap_5) (v' := .slice A_1 x_1.1.length cap_1) (by kernel_rfl) (hv_2.symm)
          have f_32 : Frm 58 [(4, .slice A_2 x_2.1.length cap_2), (6, .int .i64 x_2.2.2), (35, .bool true), (36, .slice A_1 x_1.1.length cap_1), (37, .pointer (some ((⟨b_2, 0, none⟩ : Addr).add ((3 : Int).toNat * 6))))] a_16 := f_31.keep (ks := [4, 6, 35, 36, 37]) (by kernel_rfl)
          refine W_run (L' := [(4, .slice A_2 x_2.1.length cap_2), (6, .int .i64 x_2.2.2), (35, .bool true), (38, .pointer (some (((⟨b_2, 0, none⟩ : Addr).add ((3 : Int).toNat * 6)).add 4)))]) (w' := w_2) f_32 1 [4, 6, 35, 38] (by kernel_rfl) (fun a_17 f_33 => ?_)
          obtain ⟨c_2, hl_2, hr_4, hc_2⟩ := RepSeq.get (3 : Int).toNat (szd_all szd_T_api_Expr) (RepSeq.mono hM_2 _ _ hr_1) (getI_map hx_4)
          clear hl_2
          obtain ⟨A_4, cap_6, rfl, h_6⟩ := T_api_Expr.opn hr_4
          refine W_eq (v := S x_4.fAttr) f_33 (by kernel_rfl) (by kernel_rfl) rfl rfl (X_load1 (v := S x_4.fAttr) rfl (ad := ((⟨b_2, 0, none⟩ : Addr).add ((3 : Int).toNat * 6)).add 4) (by kernel_rfl) (by kernel_rfl) ((fun j v h => row_at (p_2.rowCell 1 rfl hv_2) hc_2 j v h) 4 _ rfl)) (fun a_18 f_34 => ?_)
          refine W_eq (v := .bool (decide (x_4.fAttr = [65, 114, 110]))) f_34 (by kernel_rfl) (by kernel_rfl) rfl rfl (X_streq rfl (l := x_4.fAttr) (m := [65, 114, 110]) (by kernel_rfl) (by kernel_rfl)) (fun a_19 f_35 => ?_)
          refine W_run (L' := [(4, .slice A_2 x_2.1.length cap_2), (6, .int .i64 x_2.2.2), (42, .bool (decide (x_4.fAttr = [65, 114, 110])))]) (w' := w_2) f_35 2 [4, 6, 42] (by kernel_rfl) (fun a_20 f_36 => ?_)
          rcases Bool.eq_false_or_eq_true (decide (x_4.fAttr = [65, 114, 110])) with h_7 | h_7
          · have k_5 : x_4.fAttr = [65, 114, 110] := decide_eq_true_iff.1 h_7
            have hF_9 := cnd_t h_7 hF_8
            have f_37 := Frm.set f_36 42 (v := .bool (decide (x_4.fAttr = [65, 114, 110]))) (v' := .bool true) (by kernel_rfl) (congrArg Value.bool h_7)
            have f_38 : Frm 58 [(4, .slice A_2 x_2.1.length cap_2), (6, .int .i64 x_2.2.2), (42, .bool true)] a_20 := f_37.keep (ks := [4, 6, 42]) (by kernel_rfl)
            refine W_run (L' := [(4, .slice A_2 x_2.1.length cap_2), (46, .bool (decide (x_2.2.2 = 0)))]) (w' := w_2) f_38 4 [4, 46] (by kernel_rfl) (fun a_21 f_39 => ?_)
            rcases Bool.eq_false_or_eq_true (decide (x_2.2.2 = 0)) with h_8 | h_8
            · have k_6 : x_2.2.2 = 0 := decide_eq_true_iff.1 h_8
              have hF_10 := cnd_t h_8 hF_9
              have f_40 := Frm.set f_39 46 (v := .bool (decide (x_2.2.2 = 0))) (v' := .bool true) (by kernel_rfl) (congrArg Value.bool h_8)
              have f_41 : Frm 58 [(4, .slice A_2 x_2.1.length cap_2), (46, .bool true)] a_21 := f_40.keep (ks := [4, 46]) (by kernel_rfl)
              refine W_run (L' := [(4, .slice A_2 x_2.1.length cap_2), (51, .bool (decide (((x_2.1.length : Nat) : Int) = 1)))]) (w' := w_2) f_41 5 [4, 51] (by kernel_rfl) (fun a_22 f_42 => ?_)
              rcases Bool.eq_false_or_eq_true (decide (((x_2.1.length : Nat) : Int) = 1)) with h_9 | h_9
              · have k_7 : ((x_2.1.length : Nat) : Int) = 1 := decide_eq_true_iff.1 h_9
                have hF_11 := cnd_t h_9 hF_10
                have f_43 := Frm.set f_42 51 (v := .bool (decide (((x_2.1.length : Nat) : Int) = 1))) (v' := .bool true) (by kernel_rfl) (congrArg Value.bool h_9)
                have f_44 : Frm 58 [(4, .slice A_2 x_2.1.length cap_2), (51, .bool true)] a_22 := f_43.keep (ks := [4, 51]) (by kernel_rfl)
                refine W_run (L' := [(51, .bool true), (52, .slice A_2 x_2.1.length cap_2)]) (w' := w_2) f_44 1 [51, 52] (by kernel_rfl) (fun a_23 f_45 => ?_)
                obtain ⟨x_5, hx_5, hF_12⟩ := bind_some' hF_11
                obtain ⟨b_3, cap_7, hv_3, hcap_3⟩ := p_2.rowAddr 0 rfl (getI_pos hx_5)
                have f_46 := Frm.set f_45 52 (v := .slice A_2 x_2.1.length cap_2) (v' := .slice (some ⟨b_3, 0, none⟩) x_2.1.length cap_7) (by kernel_rfl) (hv_3)
                have f_47 : Frm 58 [(51, .bool true), (52, .slice (some ⟨b_3, 0, none⟩) x_2.1.length cap_7)] a_23 := f_46.keep (ks := [51, 52]) (by kernel_rfl)
                refine W_eq (v := .pointer (some ((⟨b_3, 0, none⟩ : Addr).add ((0 : Int).toNat * 6)))) f_47 (by kernel_rfl) (by kernel_rfl) rfl rfl (X_indexAddr rfl (ad := ⟨b_3, 0, none⟩) (len := x_2.1.length) (cap := cap_7) (k := .i64) (i := (0 : Int)) (by kernel_rfl) (by kernel_rfl) (e := 29) (by kernel_rfl) (sz := 6) (by kernel_rfl) (getI_nn hx_5) (getI_lt hx_5)) (fun a_24 f_48 => ?_)
                have f_49 := Frm.set f_48 52 (v := .slice (some ⟨b_3, 0, none⟩) x_2.1.length cap_7) (v' := .slice A_2 x_2.1.length cap_2) (by kernel_rfl) (hv_3.symm)
                have f_50 : Frm 58 [(51, .bool true), (52, .slice A_2 x_2.1.length cap_2), (53, .pointer (some ((⟨b_3, 0, none⟩ : Addr).add ((0 : Int).toNat * 6))))] a_24 := f_49.keep (ks := [51, 52, 53]) (by kernel_rfl)
                refine W_run (L' := [(51, .bool true), (54, .pointer (some (((⟨b_3, 0, none⟩ : Addr).add ((0 : Int).toNat * 6)).add 1)))]) (w' := w_2) f_50 1 [51, 54] (by kernel_rfl) (fun a_25 f_51 => ?_)
                obtain ⟨c_3, hl_3, hr_5, hc_3⟩ := RepSeq.get (0 : Int).toNat (szd_all szd_T_api_Expr) hr_2 (getI_map hx_5)
                clear hl_3
                obtain ⟨A_5, cap_8, rfl, h_10⟩ := T_api_Expr.opn hr_5
                refine W_eq (v := S x_5.fText) f_51 (by kernel_rfl) (by kernel_rfl) rfl rfl (X_load1 (v := S x_5.fText) rfl (ad := ((⟨b_3, 0, none⟩ : Addr).add ((0 : Int).toNat * 6)).add 1) (by kernel_rfl) (by kernel_rfl) ((fun j v h => row_at (p_2.rowCell 0 rfl hv_3) hc_3 j v h) 1 _ rfl)) (fun a_26 f_52 => ?_)
                refine W_eq (v := .bool (decide (x_5.fText = [36, 123, 120, 125]))) f_52 (by kernel_rfl) (by kernel_rfl) rfl rfl (X_streq rfl (l := x_5.fText) (m := [36, 123, 120, 125]) (by kernel_rfl) (by kernel_rfl)) (fun a_27 f_53 => ?_)
                refine W_run (L' := [(0, .bool (decide (x_5.fText = [36, 123, 120, 125])))]) (w' := w_2) f_53 2 [0] (by kernel_rfl) (fun a_28 f_54 => ?_)
                refine W_end rfl ?_
                refine T_n ?_
                refine wp_ret ?_
                refine E_ret1 f_54 rfl (by kernel_rfl : Vc.look _ 0 = some (.bool (decide (x_5.fText = [36, 123, 120, 125])))) ?_
                obtain rfl := Option.some.inj hF_12
                exact ⟨_, rfl, M_2, (hM_1.trans hM_2), (p_2.dropN 2), rfl⟩
              · have k_8 : ¬ (((x_2.1.length : Nat) : Int) = 1) := iff_f decide_eq_true_iff h_9
                have hF_13 := cnd_f h_9 hF_10
                have f_55 := Frm.set f_42 51 (v := .bool (decide (((x_2.1.length : Nat) : Int) = 1))) (v' := .bool false) (by kernel_rfl) (congrArg Value.bool h_9)
                have f_56 : Frm 58 [(4, .slice A_2 x_2.1.length cap_2), (51, .bool false)] a_22 := f_55.keep (ks := [4, 51]) (by kernel_rfl)
                refine W_run (L' := [(0, .bool false)]) (w' := w_2) f_56 7 [0] (by kernel_rfl) (fun a_29 f_57 => ?_)
                refine W_end rfl ?_
                refine T_n ?_
                refine wp_ret ?_
                refine E_ret1 f_57 rfl (by kernel_rfl : Vc.look _ 0 = some (.bool false)) ?_
                obtain rfl := Option.some.inj hF_13
                exact ⟨_, rfl, M_2, (hM_1.trans hM_2), (p_2.dropN 2), rfl⟩
            · have k_9 : ¬ (x_2.2.2 = 0) := iff_f decide_eq_true_iff h_8
              have hF_14 := cnd_f h_8 hF_9
              have f_58 := Frm.set f_39 46 (v := .bool (decide (x_2.2.2 = 0))) (v' := .bool false) (by kernel_rfl) (congrArg Value.bool h_8)
              have f_59 : Frm 58 [(4, .slice A_2 x_2.1.length cap_2), (46, .bool false)] a_21 := f_58.keep (ks := [4, 46]) (by kernel_rfl)
              refine W_run (L' := [(0, .bool false)]) (w' := w_2) f_59 12 [0] (by kernel_rfl) (fun a_30 f_60 => ?_)
              refine W_end rfl ?_
              refine T_n ?_
              refine wp_ret ?_
              refine E_ret1 f_60 rfl (by kernel_rfl : Vc.look _ 0 = some (.bool false)) ?_
              obtain rfl := Option.some.inj hF_14
              exact ⟨_, rfl, M_2, (hM_1.trans hM_2), (p_2.dropN 2), rfl⟩
          · have k_10 : ¬ (x_4.fAttr = [65, 114, 110]) := iff_f decide_eq_true_iff h_7
            have hF_15 := cnd_f h_7 hF_8
            have f_61 := Frm.set f_36 42 (v := .bool (decide (x_4.fAttr = [65, 114, 110]))) (v' := .bool false) (by kernel_rfl) (congrArg Value.bool h_7)
            have f_62 : Frm 58 [(4, .slice A_2 x_2.1.length cap_2), (6, .int .i64 x_2.2.2), (42, .bool false)] a_20 := f_61.keep (ks := [4, 6, 42]) (by kernel_rfl)
            refine W_run (L' := [(0, .bool false)]) (w' := w_2) f_62 16 [0] (by kernel_rfl) (fun a_31 f_63 => ?_)
            refine W_end rfl ?_
            refine T_n ?_
            refine wp_ret ?_
            refine E_ret1 f_63 rfl (by kernel_rfl : Vc.look _ 0 = some (.bool false)) ?_
            obtain rfl := Option.some.inj hF_15
            exact ⟨_, rfl, M_2, (hM_1.trans hM_2), (p_2.dropN 2), rfl⟩
        · have k_11 : ¬ (x_3.fName = [66]) := iff_f decide_eq_true_iff h_5
          have hF_16 := cnd_f h_5 hF_6
          have f_64 := Frm.set f_24 35 (v := .bool (decide (x_3.fName = [66]))) (v' := .bool false) (by kernel_rfl) (congrArg Value.bool h_5)
          have f_65 : Frm 58 [(1, .slice A_1 x_1.1.length cap_1), (4, .slice A_2 x_2.1.length cap_2), (6, .int .i64 x_2.2.2), (35, .bool false)] a_14 := f_64.keep (ks := [1, 4, 6, 35]) (by kernel_rfl)
          refine W_run (L' := [(0, .bool false)]) (w' := w_2) f_65 23 [0] (by kernel_rfl) (fun a_32 f_66 => ?_)
          refine W_end rfl ?_
          refine T_n ?_
          refine wp_ret ?_
          refine E_ret1 f_66 rfl (by kernel_rfl : Vc.look _ 0 = some (.bool false)) ?_
          obtain rfl := Option.some.inj hF_16
          exact ⟨_, rfl, M_2, (hM_1.trans hM_2), (p_2.dropN 2), rfl⟩
      · have k_12 : ¬ (((x_1.1.length : Nat) : Int) = 4) := iff_f decide_eq_true_iff h_3
        have hF_17 := cnd_f h_3 hF_4
        have f_67 := Frm.set f_12 28 (v := .bool (decide (((x_1.1.length : Nat) : Int) = 4))) (v' := .bool false) (by kernel_rfl) (congrArg Value.bool h_3)
        have f_68 : Frm 58 [(1, .slice A_1 x_1.1.length cap_1), (4, .slice A_2 x_2.1.length cap_2), (6, .int .i64 x_2.2.2), (28, .bool false)] a_8 := f_67.keep (ks := [1, 4, 6, 28]) (by kernel_rfl)
        refine W_run (L' := [(0, .bool false)]) (w' := w_2) f_68 30 [0] (by kernel_rfl) (fun a_33 f_69 => ?_)
        refine W_end rfl ?_
        refine T_n ?_
        refine wp_ret ?_
        refine E_ret1 f_69 rfl (by kernel_rfl : Vc.look _ 0 = some (.bool false)) ?_
        obtain rfl := Option.some.inj hF_17
        exact ⟨_, rfl, M_2, (hM_1.trans hM_2), (p_2.dropN 2), rfl⟩
    · have k_13 : ¬ (x_1.2.1 = 0) := iff_f decide_eq_true_iff h_2
      have hF_18 := cnd_f h_2 hF_3
      have f_70 := Frm.set f_9 23 (v := .bool (decide (x_1.2.1 = 0))) (v' := .bool false) (by kernel_rfl) (congrArg Value.bool h_2)
      have f_71 : Frm 58 [(1, .slice A_1 x_1.1.length cap_1), (4, .slice A_2 x_2.1.length cap_2), (6, .int .i64 x_2.2.2), (23, .bool false)] a_7 := f_70.keep (ks := [1, 4, 6, 23]) (by kernel_rfl)
      refine W_run (L' := [(0, .bool false)]) (w' := w_2) f_71 35 [0] (by kernel_rfl) (fun a_34 f_72 => ?_)
      refine W_end rfl ?_
      refine T_n ?_
      refine wp_ret ?_
      refine E_ret1 f_72 rfl (by kernel_rfl : Vc.look _ 0 = some (.bool false)) ?_
      obtain rfl := Option.some.inj hF_18
      exact ⟨_, rfl, M_2, (hM_1.trans hM_2), (p_2.dropN 2), rfl⟩
  · have k_14 : ¬ (x_1.2.2 = 0) := iff_f decide_eq_true_iff h_1
    have hF_19 := cnd_f h_1 hF_2
    have f_73 := Frm.set f_6 19 (v := .bool (decide (x_1.2.2 = 0))) (v' := .bool false) (by kernel_rfl) (congrArg Value.bool h_1)
    have f_74 : Frm 58 [(1, .slice A_1 x_1.1.length cap_1), (2, .int .i64 x_1.2.1), (4, .slice A_2 x_2.1.length cap_2), (6, .int .i64 x_2.2.2), (19, .bool false)] a_6 := f_73.keep (ks := [1, 2, 4, 6, 19]) (by kernel_rfl)
    refine W_run (L' := [(0, .bool false)]) (w' := w_2) f_74 39 [0] (by kernel_rfl) (fun a_35 f_75 => ?_)
    refine W_end rfl ?_
    refine T_n ?_
    refine wp_ret ?_
    refine E_ret1 f_75 rfl (by kernel_rfl : Vc.look _ 0 = some (.bool false)) ?_
    obtain rfl := Option.some.inj hF_19
    exact ⟨_, rfl, M_2, (hM_1.trans hM_2), (p_2.dropN 2), rfl⟩
end Go.Proofs.YtdmjgmleilgbpaaDoor
