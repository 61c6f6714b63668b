/-
  Printed by a program: of each function its shallow reading, and the proof that the function gives what the reading gives. No condition.
-/
import Derived.Test.YtalifkcchfkgmaaDoorS6
import Derived.Test.YtalifkcchfkgmaaDoorS7
import Derived.Test.YtalifkcchfkgmaaDoorQ4h
set_option linter.unusedVariables false
set_option linter.unusedSimpArgs false
namespace Go.Proofs.YtalifkcchfkgmaaDoor
open Go Go.Vc Go.RowKit
def law09_SchemaKnown (n : Nat) (d0 : List UInt8) (d1 : List T_api_Given) (d2 : List T_api_Given) (d3 : Int) (d4 : T_api_Value) : Option Bool :=
  ((bif (decide ((200 : Int) < (d0.length : Int))) then
      (some ((true)))
    else
      (ref09_Great n d1).bind fun x_1 =>
      bif x_1 then
        (some ((true)))
      else
        (ref09_Great n d2).bind fun x_2 =>
        bif x_2 then
          (some ((true)))
        else
          (ref03_Great n d4).bind fun x_3 =>
          bif x_3 then
            (some ((true)))
          else
            some ((decide (((d2.length : Nat) : Int) = 0))) : Option Bool)).bind fun y_1 =>
  bif y_1 then
    ((law09_wakes n).bind fun x_4 =>
    some ((x_4)))
  else
    need (((d2.length : Nat) : Int) ≠ 0) <|
    need (inR .i64 ((d3.tmod ((d2.length : Nat) : Int)) + ((d2.length : Nat) : Int))) <|
    need (((d2.length : Nat) : Int) ≠ 0) <|
    need ((([] : List T_api_Given).length + d2.length) * 104 ≤ 140737488355328) <|
    (getI (([] : List T_api_Given) ++ d2) (((d3.tmod ((d2.length : Nat) : Int)) + ((d2.length : Nat) : Int)).tmod ((d2.length : Nat) : Int))).bind fun x_5 =>
    bif !x_5.fUnknown then
      ((law09_wakes n).bind fun x_6 =>
      some ((x_6)))
    else
      (getI (([] : List T_api_Given) ++ d2) (((d3.tmod ((d2.length : Nat) : Int)) + ((d2.length : Nat) : Int)).tmod ((d2.length : Nat) : Int))).bind fun x_7 =>
      (getI (([] : List T_api_Given) ++ d2) (((d3.tmod ((d2.length : Nat) : Int)) + ((d2.length : Nat) : Int)).tmod ((d2.length : Nat) : Int))).bind fun x_8 =>
      (schema_Differ n d0 d1 d2).bind fun x_9 =>
      (schema_Differ n d0 d1 ((([] : List T_api_Given) ++ d2).set (((d3.tmod ((d2.length : Nat) : Int)) + ((d2.length : Nat) : Int)).tmod ((d2.length : Nat) : Int)).toNat (⟨x_7.fName, (false), (⟨d4.fKind, (d4.fBool), d4.fNum, d4.fText, d4.fList, d4.fKeys⟩ : T_api_Value)⟩ : T_api_Given))).bind fun x_10 =>
      ((bif (!(decide (x_9.2 = 0))) then
          (some ((true)))
        else
          some ((!(decide (x_10.2 = 0)))) : Option Bool)).bind fun y_2 =>
      bif y_2 then
        ((law09_wakes n).bind fun x_11 =>
        some ((x_11)))
      else
        bif (decide (x_9.1 = 3)) then
          (bif (decide (x_10.1 = x_9.1)) then
            ((law09_wakes n).bind fun x_12 =>
            some ((x_12)))
          else
            (law09_wakes n).bind fun x_13 =>
            some ((x_13)))
        else
          bif (decide (x_9.1 = 2)) then
            (bif (decide (x_10.1 = x_9.1)) then
              ((law09_wakes n).bind fun x_14 =>
              some ((x_14)))
            else
              bif (decide (x_10.1 = 0)) then
                ((law09_wakes n).bind fun x_15 =>
                some ((x_15)))
              else
                some ((false)))
          else
            some ((false))
set_option maxHeartbeats 2000000 in
set_option maxRecDepth 20000 in
theorem law09_SchemaKnown_ok (n : Nat) (M : Mem) (hG : GL M) (d0 : List UInt8) (A1 : Option Addr) (cap1 : Nat) (d1 : List T_api_Given) (h1 : Sli M 8 emb_T_api_Given A1 cap1 d1) (A2 : Option Addr) (cap2 : Nat) (d2 : List T_api_Given) (h2 : Sli M 8 emb_T_api_Given A2 cap2 d2) (d3 : Int) (c4 : List Value) (d4 : T_api_Value) (h4 : Rep M (emb_T_api_Value d4) c4) (r : Bool) (hF : law09_SchemaKnown n d0 d1 d2 d3 d4 = some r) : Ok Tryd.prog M 6 [S d0, .slice A1 d1.length cap1, .slice A2 d2.length cap2, .int .i64 d3, .agg c4.toArray] (fun _ v => v = .bool r) := by
  unfold law09_SchemaKnown at hF
  intro M1 hM0 w0 H w p0
  replace hG := GL.mono hM0 hG
  replace h1 := h1.mono hM0
  replace h2 := h2.mono hM0
  replace h4 := Rep.mono hM0 _ _ h4
  obtain ⟨A_1, cap_1, A_2, cap_2, rfl, h_1, h_2⟩ := T_api_Value.opn h4
  refine R_enter 110 Tryd.func6 rfl rfl (by simp) (fun a0 f0 => ?_)
  refine R_seq (R_reg ?_)
  refine V_box (cs := #[.int .i8 d4.fKind, .bool d4.fBool, .int .i64 d4.fNum, S d4.fText, .slice A_1 d4.fList.length cap_1, .slice A_2 d4.fKeys.length cap_2]) (T := 33) f0 p0 (by kernel_rfl) (fun _ => by kernel_rfl) (fun b_1 M_1 w_1 hM_1 hc_1 p_1 a_1 f_1 => ?_)
  have hc_2 := fz_box hc_1
  refine V_run f_1 1 (by kernel_rfl) (fun a_2 f_2 => ?_)
  refine W_end rfl (T_n (R_seq (R_seq ?_)))
  obtain ⟨j_1, hj_1, hF_1⟩ := bind_some' hF
  refine R_mid (fun a_18 w_5 => ∃ y_1 : Bool, j_1 = y_1 ∧ ∃ M_2 : Mem, M_1.le M_2 ∧ Frm 110 [(0, S d0), (1, .slice A1 d1.length cap1), (2, .slice A2 d2.length cap2), (3, .int .i64 d3), (9, .pointer (some (⟨b_1, 0, none⟩))), (36, .bool y_1)] a_18 ∧ Hp w0 M_2 (H) w_5) ?_ ?_
  · refine R_reg ?_
    refine V_run f_2 4 (by kernel_rfl) (fun a_3 f_3 => ?_)
    rcases Bool.eq_false_or_eq_true (decide ((200 : Int) < (d0.length : Int))) with h_3 | h_3
    · have k_1 : (200 : Int) < (d0.length : Int) := decide_eq_true_iff.1 h_3
      have hF_2 := cnd_t h_3 hj_1
      have f_4 := Frm.set f_3 20 (v := .bool (decide ((200 : Int) < (d0.length : Int)))) (v' := .bool true) (by kernel_rfl) (congrArg Value.bool h_3)
      refine V_run f_4 16 (by kernel_rfl) (fun a_4 f_5 => ?_)
      refine W_end rfl (T_n ?_)
      exact ⟨(true), (Option.some.inj hF_2).symm, M_1, (Mem.le_refl _), f_5.keep (ks := [0, 1, 2, 3, 9, 36]) (by kernel_rfl), p_1⟩
    · have k_2 : ¬ ((200 : Int) < (d0.length : Int)) := iff_f decide_eq_true_iff h_3
      have hF_3 := cnd_f h_3 hj_1
      have f_6 := Frm.set f_3 20 (v := .bool (decide ((200 : Int) < (d0.length : Int)))) (v' := .bool false) (by kernel_rfl) (congrArg Value.bool h_3)
      refine V_run f_6 1 (by kernel_rfl) (fun a_5 f_7 => ?_)
      obtain ⟨x_1, hx_1, hF_4⟩ := bind_some' hF_3
      refine V_okv f_7 p_1 (ref09_Great_ok n _ (GL.mono hM_1 hG) A1 cap1 d1 (h1.mono hM_1) x_1 hx_1) (by kernel_rfl) (fun _ => by kernel_rfl) (fun w_2 p_2 a_6 f_8 => ?_)
      refine V_run f_8 2 (by kernel_rfl) (fun a_7 f_9 => ?_)
      rcases Bool.eq_false_or_eq_true (x_1) with h_4 | h_4
      · have hF_5 := cnd_t h_4 hF_4
        have f_10 := Frm.set f_9 24 (v := .bool x_1) (v' := .bool true) (by kernel_rfl) (congrArg Value.bool h_4)
        refine V_run f_10 12 (by kernel_rfl) (fun a_8 f_11 => ?_)
        refine W_end rfl (T_n ?_)
        exact ⟨(true), (Option.some.inj hF_5).symm, M_1, (Mem.le_refl _), f_11.keep (ks := [0, 1, 2, 3, 9, 36]) (by kernel_rfl), p_2⟩
      · have hF_6 := cnd_f h_4 hF_4
        have f_12 := Frm.set f_9 24 (v := .bool x_1) (v' := .bool false) (by kernel_rfl) (congrArg Value.bool h_4)
        refine V_run f_12 1 (by kernel_rfl) (fun a_9 f_13 => ?_)
        obtain ⟨x_2, hx_2, hF_7⟩ := bind_some' hF_6
        refine V_okv f_13 p_2 (ref09_Great_ok n _ (GL.mono hM_1 hG) A2 cap2 d2 (h2.mono hM_1) x_2 hx_2) (by kernel_rfl) (fun _ => by kernel_rfl) (fun w_3 p_3 a_10 f_14 => ?_)
        refine V_run f_14 2 (by kernel_rfl) (fun a_11 f_15 => ?_)
        rcases Bool.eq_false_or_eq_true (x_2) with h_5 | h_5
        · have hF_8 := cnd_t h_5 hF_7
          have f_16 := Frm.set f_15 28 (v := .bool x_2) (v' := .bool true) (by kernel_rfl) (congrArg Value.bool h_5)
          refine V_run f_16 8 (by kernel_rfl) (fun a_12 f_17 => ?_)
          refine W_end rfl (T_n ?_)
          exact ⟨(true), (Option.some.inj hF_8).symm, M_1, (Mem.le_refl _), f_17.keep (ks := [0, 1, 2, 3, 9, 36]) (by kernel_rfl), p_3⟩
        · have hF_9 := cnd_f h_5 hF_7
          have f_18 := Frm.set f_15 28 (v := .bool x_2) (v' := .bool false) (by kernel_rfl) (congrArg Value.bool h_5)
          refine V_eq (v := .agg #[.int .i8 d4.fKind, .bool d4.fBool, .int .i64 d4.fNum, S d4.fText, .slice A_1 d4.fList.length cap_1, .slice A_2 d4.fKeys.length cap_2]) f_18 (by kernel_rfl) (X_loadN (cs := [.int .i8 d4.fKind, .bool d4.fBool, .int .i64 d4.fNum, S d4.fText, .slice A_1 d4.fList.length cap_1, .slice A_2 d4.fKeys.length cap_2]) rfl (ad := ⟨b_1, 0, none⟩) (by kernel_rfl) (by kernel_rfl) (fun j v h => p_3.cell (hc_2 j v h))) (fun a_13 f_19 => ?_)
          obtain ⟨x_3, hx_3, hF_10⟩ := bind_some' hF_9
          refine V_okv f_19 p_3 (ref03_Great_ok n _ _ d4 (T_api_Value.shutx (x := d4) (h_1.mono hM_1) (h_2.mono hM_1)) x_3 hx_3) (by kernel_rfl) (fun _ => by kernel_rfl) (fun w_4 p_4 a_14 f_20 => ?_)
          refine V_run f_20 2 (by kernel_rfl) (fun a_15 f_21 => ?_)
          rcases Bool.eq_false_or_eq_true (x_3) with h_6 | h_6
          · have hF_11 := cnd_t h_6 hF_10
            have f_22 := Frm.set f_21 32 (v := .bool x_3) (v' := .bool true) (by kernel_rfl) (congrArg Value.bool h_6)
            refine V_run f_22 4 (by kernel_rfl) (fun a_16 f_23 => ?_)
            refine W_end rfl (T_n ?_)
            exact ⟨(true), (Option.some.inj hF_11).symm, M_1, (Mem.le_refl _), f_23.keep (ks := [0, 1, 2, 3, 9, 36]) (by kernel_rfl), p_4⟩
          · have hF_12 := cnd_f h_6 hF_10
            have f_24 := Frm.set f_21 32 (v := .bool x_3) (v' := .bool false) (by kernel_rfl) (congrArg Value.bool h_6)
            refine V_run f_24 4 (by kernel_rfl) (fun a_17 f_25 => ?_)
            refine W_end rfl (T_n ?_)
            exact ⟨(decide (((d2.length : Nat) : Int) = 0)), (Option.some.inj hF_12).symm, M_1, (Mem.le_refl _), f_25.keep (ks := [0, 1, 2, 3, 9, 36]) (by kernel_rfl), p_4⟩
  · rintro a_18 w_5 ⟨y_1, hq_1, M_2, hM_2, f_26, p_5⟩
    subst j_1
    refine T_n ?_
    refine R_cond f_26 (b := y_1) (by kernel_rfl) (by kernel_rfl) (fun h_7 => ?_) (fun h_7 => ?_)
    · have hF_13 := cnd_t h_7 hF_1
      refine R_seq (R_reg ?_)
      obtain ⟨x_4, hx_4, hF_14⟩ := bind_some' hF_13
      refine V_okv f_26 p_5 (law09_wakes_ok n _ (GL.mono (hM_1.trans hM_2) hG) x_4 hx_4) (by kernel_rfl) (fun _ => by kernel_rfl) (fun w_6 p_6 a_19 f_27 => ?_)
      refine V_run f_27 1 (by kernel_rfl) (fun a_20 f_28 => ?_)
      refine W_end rfl (T_n (wp_ret (T_r ?_)))
      refine E_ret1 f_28 rfl (by kernel_rfl : Vc.look _ 10 = some (.bool x_4)) ?_
      obtain rfl := Option.some.inj hF_14
      exact ⟨_, rfl, M_2, (hM_1.trans hM_2), p_6, rfl⟩
    · have hF_15 := cnd_f h_7 hF_1
      refine wp_skip (T_n (R_seq (R_reg ?_)))
      refine V_run f_26 3 (by kernel_rfl) (fun a_21 f_29 => ?_)
      refine W_end rfl (T_n (R_seq (R_reg ?_)))
      refine V_run f_29 2 (by kernel_rfl) (fun a_22 f_30 => ?_)
      obtain ⟨g_1, hF_16⟩ := need_some hF_15
      refine V_eq (v := .int .i64 (d3.tmod ((d2.length : Nat) : Int))) f_30 (by kernel_rfl) (X_rem rfl (a := d3) (b := ((d2.length : Nat) : Int)) (by kernel_rfl) (by kernel_rfl) g_1) (fun a_23 f_31 => ?_)
      refine V_run f_31 1 (by kernel_rfl) (fun a_24 f_32 => ?_)
      obtain ⟨g_2, hF_17⟩ := need_some hF_16
      refine V_run f_32 1 (by kernel_rfl) (fun a_25 f_33 => ?_)
      have f_34 := Frm.set f_33 44 (v := .int .i64 (IntKind.wrap .i64 ((d3.tmod ((d2.length : Nat) : Int)) + ((d2.length : Nat) : Int)))) (v' := .int .i64 ((d3.tmod ((d2.length : Nat) : Int)) + ((d2.length : Nat) : Int))) (by kernel_rfl) (congrArg (Value.int .i64) (inR_wrap g_2))
      refine V_run f_34 1 (by kernel_rfl) (fun a_26 f_35 => ?_)
      obtain ⟨g_3, hF_18⟩ := need_some hF_17
      refine V_eq (v := .int .i64 (((d3.tmod ((d2.length : Nat) : Int)) + ((d2.length : Nat) : Int)).tmod ((d2.length : Nat) : Int))) f_35 (by kernel_rfl) (X_rem rfl (a := (d3.tmod ((d2.length : Nat) : Int)) + ((d2.length : Nat) : Int)) (b := ((d2.length : Nat) : Int)) (by kernel_rfl) (by kernel_rfl) g_3) (fun a_27 f_36 => ?_)
      refine V_run f_36 1 (by kernel_rfl) (fun a_28 f_37 => ?_)
      refine W_end rfl (T_n (R_seq (R_reg ?_)))
      refine V_allocS (k := 0) (c := 0) f_37 p_5 (.cells #[] 35 (0, 0)) (by kernel_rfl) (fun _ => by kernel_rfl) (fun b_2 w_7 p_7 a_29 f_38 => ?_)
      refine V_run f_38 1 (by kernel_rfl) (fun a_30 f_39 => ?_)
      have hr_1 : RepSeq M_2 (([] : List T_api_Given).map emb_T_api_Given) [] := rfl
      have p_8 : Hp w0 M_2 ((Ent.row 35 8 (.slice (some ⟨b_2, 0, none⟩) 0 0) ([] : List T_api_Given).length []) :: H) w_7 := p_7.objRow (n := 0) (cap := 0) (size := 8) (by decide) (by decide) rfl rfl rfl
      obtain ⟨g_4, hF_19⟩ := need_some hF_18
      refine W_appendS (z := .agg #[S [], .bool false, .int .i8 0, .bool false, .int .i64 0, S [], .slice none 0 0, .slice none 0 0]) (f := emb_T_api_Given) (xs := ([] : List T_api_Given)) (ys := d2) (c := cap2) f_39 p_8 hr_1 (h2.mono (hM_1.trans hM_2)) (by kernel_rfl) (by kernel_rfl) rfl rfl rfl (by kernel_rfl) (by kernel_rfl) (by kernel_rfl) (by kernel_rfl) g_4 (by omega) (fun A_3 cap_3 cs_1 w_8 p_9 hr_2 a_31 f_40 => ?_)
      refine V_run f_40 1 (by kernel_rfl) (fun a_32 f_41 => ?_)
      refine W_end rfl (T_n (R_seq (R_seq (R_reg ?_))))
      refine V_run f_41 2 (by kernel_rfl) (fun a_33 f_42 => ?_)
      obtain ⟨x_5, hx_5, hF_20⟩ := bind_some' hF_19
      obtain ⟨b_3, cap_4, hv_1, hcap_1⟩ := p_9.rowAddr 0 rfl (getI_pos hx_5)
      have f_43 := Frm.set f_42 50 (v := .slice A_3 (([] : List T_api_Given) ++ d2).length cap_3) (v' := .slice (some ⟨b_3, 0, none⟩) (([] : List T_api_Given) ++ d2).length cap_4) (by kernel_rfl) (hv_1)
      refine V_eq (v := .pointer (some ((⟨b_3, 0, none⟩ : Addr).add ((((d3.tmod ((d2.length : Nat) : Int)) + ((d2.length : Nat) : Int)).tmod ((d2.length : Nat) : Int)).toNat * 8)))) f_43 (by kernel_rfl) (X_indexAddr rfl (ad := ⟨b_3, 0, none⟩) (len := (([] : List T_api_Given) ++ d2).length) (cap := cap_4) (k := .i64) (i := ((d3.tmod ((d2.length : Nat) : Int)) + ((d2.length : Nat) : Int)).tmod ((d2.length : Nat) : Int)) (by kernel_rfl) (by kernel_rfl) (e := 35) (by kernel_rfl) (sz := 8) (by kernel_rfl) (getI_nn hx_5) (getI_lt hx_5)) (fun a_34 f_44 => ?_)
      have f_45 := Frm.set f_44 50 (v := .slice (some ⟨b_3, 0, none⟩) (([] : List T_api_Given) ++ d2).length cap_4) (v' := .slice A_3 (([] : List T_api_Given) ++ d2).length cap_3) (by kernel_rfl) (hv_1.symm)
      refine V_run f_45 1 (by kernel_rfl) (fun a_35 f_46 => ?_)
      obtain ⟨c_1, hl_1, hr_3, hc_3⟩ := RepSeq.get (((d3.tmod ((d2.length : Nat) : Int)) + ((d2.length : Nat) : Int)).tmod ((d2.length : Nat) : Int)).toNat (szd_all szd_T_api_Given) hr_2 (getI_map hx_5)
      clear hl_1
      obtain ⟨A_4, cap_5, A_5, cap_6, rfl, h_8, h_9⟩ := T_api_Given.opn hr_3
      refine V_eq (v := .bool x_5.fUnknown) f_46 (by kernel_rfl) (X_load1 (v := .bool x_5.fUnknown) rfl (ad := ((⟨b_3, 0, none⟩ : Addr).add ((((d3.tmod ((d2.length : Nat) : Int)) + ((d2.length : Nat) : Int)).tmod ((d2.length : Nat) : Int)).toNat * 8)).add 1) (by kernel_rfl) (by kernel_rfl) ((fun j v h => row_at (p_9.rowCell 0 rfl hv_1) hc_3 j v h) 1 _ rfl)) (fun a_36 f_47 => ?_)
      refine V_run f_47 1 (by kernel_rfl) (fun a_37 f_48 => ?_)
      refine W_end rfl (T_n ?_)
      refine R_cond f_48 (b := !x_5.fUnknown) (by kernel_rfl) (by kernel_rfl) (fun h_10 => ?_) (fun h_10 => ?_)
      · have k_11 : (x_5.fUnknown) = false := by simpa using h_10
        have hF_21 := cnd_t h_10 hF_20
        refine R_seq (R_reg ?_)
        obtain ⟨x_6, hx_6, hF_22⟩ := bind_some' hF_21
        refine V_okv f_48 p_9 (law09_wakes_ok n _ (GL.mono (hM_1.trans hM_2) hG) x_6 hx_6) (by kernel_rfl) (fun _ => by kernel_rfl) (fun w_9 p_10 a_38 f_49 => ?_)
        refine V_run f_49 1 (by kernel_rfl) (fun a_39 f_50 => ?_)
        refine W_end rfl (T_n (wp_ret (T_r ?_)))
        refine E_ret1 f_50 rfl (by kernel_rfl : Vc.look _ 10 = some (.bool x_6)) ?_
        obtain rfl := Option.some.inj hF_22
        exact ⟨_, rfl, M_2, (hM_1.trans hM_2), (p_10.dropN 1), rfl⟩
      · have k_12 : (x_5.fUnknown) = true := by simpa using h_10
        have hF_23 := cnd_f h_10 hF_20
        refine wp_skip (T_n (R_seq ?_))
        refine R_drawT 10 p_9 (by kernel_rfl) (by kernel_rfl) (fun w_10 p_11 => ?_)
        refine ST_eq (v := .slice A_3 (([] : List T_api_Given) ++ d2).length cap_3) f_48 (by kernel_rfl) (by kernel_rfl) rfl rfl (by kernel_rfl) (fun a_40 f_51 => ?_)
        refine ST_eq (v := .int .i64 (((d3.tmod ((d2.length : Nat) : Int)) + ((d2.length : Nat) : Int)).tmod ((d2.length : Nat) : Int))) f_51 (by kernel_rfl) (by kernel_rfl) rfl rfl (by kernel_rfl) (fun a_41 f_52 => ?_)
        refine ST_eq (v := .slice A_3 (([] : List T_api_Given) ++ d2).length cap_3) f_52 (by kernel_rfl) (by kernel_rfl) rfl rfl (by kernel_rfl) (fun a_42 f_53 => ?_)
        refine ST_eq (v := .int .i64 (((d3.tmod ((d2.length : Nat) : Int)) + ((d2.length : Nat) : Int)).tmod ((d2.length : Nat) : Int))) f_53 (by kernel_rfl) (by kernel_rfl) rfl rfl (by kernel_rfl) (fun a_43 f_54 => ?_)
        have f_55 : Frm 110 [(0, S d0), (1, .slice A1 d1.length cap1), (2, .slice A2 d2.length cap2), (9, .pointer (some (⟨b_1, 0, none⟩))), (12, .slice A_3 (([] : List T_api_Given) ++ d2).length cap_3), (57, .slice A_3 (([] : List T_api_Given) ++ d2).length cap_3), (58, .int .i64 (((d3.tmod ((d2.length : Nat) : Int)) + ((d2.length : Nat) : Int)).tmod ((d2.length : Nat) : Int))), (59, .slice A_3 (([] : List T_api_Given) ++ d2).length cap_3), (60, .int .i64 (((d3.tmod ((d2.length : Nat) : Int)) + ((d2.length : Nat) : Int)).tmod ((d2.length : Nat) : Int)))] a_43 := f_54.keep (ks := [0, 1, 2, 9, 12, 57, 58, 59, 60]) (by kernel_rfl)
        obtain ⟨x_7, hx_7, hF_24⟩ := bind_some' hF_23
        obtain ⟨b_4, cap_7, hv_2, hcap_2⟩ := p_11.rowAddr 0 rfl (getI_pos hx_7)
        have f_56 := Frm.set f_55 59 (v := .slice A_3 (([] : List T_api_Given) ++ d2).length cap_3) (v' := .slice (some ⟨b_4, 0, none⟩) (([] : List T_api_Given) ++ d2).length cap_7) (by kernel_rfl) (hv_2)
        refine ST_eq (v := .pointer (some ((⟨b_4, 0, none⟩ : Addr).add ((((d3.tmod ((d2.length : Nat) : Int)) + ((d2.length : Nat) : Int)).tmod ((d2.length : Nat) : Int)).toNat * 8)))) f_56 (by kernel_rfl) (by kernel_rfl) rfl rfl (X_indexAddr rfl (ad := ⟨b_4, 0, none⟩) (len := (([] : List T_api_Given) ++ d2).length) (cap := cap_7) (k := .i64) (i := ((d3.tmod ((d2.length : Nat) : Int)) + ((d2.length : Nat) : Int)).tmod ((d2.length : Nat) : Int)) (by kernel_rfl) (by kernel_rfl) (e := 35) (by kernel_rfl) (sz := 8) (by kernel_rfl) (getI_nn hx_7) (getI_lt hx_7)) (fun a_44 f_57 => ?_)
        have f_58 := Frm.set f_57 59 (v := .slice (some ⟨b_4, 0, none⟩) (([] : List T_api_Given) ++ d2).length cap_7) (v' := .slice A_3 (([] : List T_api_Given) ++ d2).length cap_3) (by kernel_rfl) (hv_2.symm)
        refine ST_eq (v := .pointer (some (((⟨b_4, 0, none⟩ : Addr).add ((((d3.tmod ((d2.length : Nat) : Int)) + ((d2.length : Nat) : Int)).tmod ((d2.length : Nat) : Int)).toNat * 8)).add 0))) f_58 (by kernel_rfl) (by kernel_rfl) rfl rfl (by kernel_rfl) (fun a_45 f_59 => ?_)
        have f_60 : Frm 110 [(0, S d0), (1, .slice A1 d1.length cap1), (2, .slice A2 d2.length cap2), (9, .pointer (some (⟨b_1, 0, none⟩))), (12, .slice A_3 (([] : List T_api_Given) ++ d2).length cap_3), (57, .slice A_3 (([] : List T_api_Given) ++ d2).length cap_3), (58, .int .i64 (((d3.tmod ((d2.length : Nat) : Int)) + ((d2.length : Nat) : Int)).tmod ((d2.length : Nat) : Int))), (62, .pointer (some (((⟨b_4, 0, none⟩ : Addr).add ((((d3.tmod ((d2.length : Nat) : Int)) + ((d2.length : Nat) : Int)).tmod ((d2.length : Nat) : Int)).toNat * 8)).add 0)))] a_45 := f_59.keep (ks := [0, 1, 2, 9, 12, 57, 58, 62]) (by kernel_rfl)
        obtain ⟨c_2, hl_2, hr_4, hc_4⟩ := RepSeq.get (((d3.tmod ((d2.length : Nat) : Int)) + ((d2.length : Nat) : Int)).tmod ((d2.length : Nat) : Int)).toNat (szd_all szd_T_api_Given) hr_2 (getI_map hx_7)
        clear hl_2
        obtain ⟨A_6, cap_8, A_7, cap_9, rfl, h_11, h_12⟩ := T_api_Given.opn hr_4
        refine ST_eq (v := S x_7.fName) f_60 (by kernel_rfl) (by kernel_rfl) rfl rfl (X_load1 (v := S x_7.fName) rfl (ad := ((⟨b_4, 0, none⟩ : Addr).add ((((d3.tmod ((d2.length : Nat) : Int)) + ((d2.length : Nat) : Int)).tmod ((d2.length : Nat) : Int)).toNat * 8)).add 0) (by kernel_rfl) (by kernel_rfl) ((fun j v h => row_at (p_11.rowCell 0 rfl hv_2) hc_4 j v h) 0 _ rfl)) (fun a_46 f_61 => ?_)
        refine ST_eq (v := .agg #[.int .i8 d4.fKind, .bool d4.fBool, .int .i64 d4.fNum, S d4.fText, .slice A_1 d4.fList.length cap_1, .slice A_2 d4.fKeys.length cap_2]) f_61 (by kernel_rfl) (by kernel_rfl) rfl rfl (X_loadN (cs := [.int .i8 d4.fKind, .bool d4.fBool, .int .i64 d4.fNum, S d4.fText, .slice A_1 d4.fList.length cap_1, .slice A_2 d4.fKeys.length cap_2]) rfl (ad := ⟨b_1, 0, none⟩) (by kernel_rfl) (by kernel_rfl) (fun j v h => p_11.cell ((fzu hM_2 hc_2) j v h))) (fun a_47 f_62 => ?_)
        refine ST_eq (v := .agg #[S x_7.fName, .bool false, .int .i8 d4.fKind, .bool d4.fBool, .int .i64 d4.fNum, S d4.fText, .slice A_1 d4.fList.length cap_1, .slice A_2 d4.fKeys.length cap_2]) f_62 (by kernel_rfl) (by kernel_rfl) rfl rfl (by kernel_rfl) (fun a_48 f_63 => ?_)
        have f_64 : Frm 110 [(0, S d0), (1, .slice A1 d1.length cap1), (2, .slice A2 d2.length cap2), (12, .slice A_3 (([] : List T_api_Given) ++ d2).length cap_3), (57, .slice A_3 (([] : List T_api_Given) ++ d2).length cap_3), (58, .int .i64 (((d3.tmod ((d2.length : Nat) : Int)) + ((d2.length : Nat) : Int)).tmod ((d2.length : Nat) : Int))), (65, .agg #[S x_7.fName, .bool false, .int .i8 d4.fKind, .bool d4.fBool, .int .i64 d4.fNum, S d4.fText, .slice A_1 d4.fList.length cap_1, .slice A_2 d4.fKeys.length cap_2])] a_48 := f_63.keep (ks := [0, 1, 2, 12, 57, 58, 65]) (by kernel_rfl)
        obtain ⟨x_8, hx_8, hF_25⟩ := bind_some' hF_24
        obtain ⟨b_5, cap_10, hv_3, hcap_3⟩ := p_11.rowAddr 0 rfl (getI_pos hx_8)
        have f_65 := Frm.set f_64 57 (v := .slice A_3 (([] : List T_api_Given) ++ d2).length cap_3) (v' := .slice (some ⟨b_5, 0, none⟩) (([] : List T_api_Given) ++ d2).length cap_10) (by kernel_rfl) (hv_3)
        refine ST_eq (v := .pointer (some ((⟨b_5, 0, none⟩ : Addr).add ((((d3.tmod ((d2.length : Nat) : Int)) + ((d2.length : Nat) : Int)).tmod ((d2.length : Nat) : Int)).toNat * 8)))) f_65 (by kernel_rfl) (by kernel_rfl) rfl rfl (X_indexAddr rfl (ad := ⟨b_5, 0, none⟩) (len := (([] : List T_api_Given) ++ d2).length) (cap := cap_10) (k := .i64) (i := ((d3.tmod ((d2.length : Nat) : Int)) + ((d2.length : Nat) : Int)).tmod ((d2.length : Nat) : Int)) (by kernel_rfl) (by kernel_rfl) (e := 35) (by kernel_rfl) (sz := 8) (by kernel_rfl) (getI_nn hx_8) (getI_lt hx_8)) (fun a_49 f_66 => ?_)
        have f_67 := Frm.set f_66 57 (v := .slice (some ⟨b_5, 0, none⟩) (([] : List T_api_Given) ++ d2).length cap_10) (v' := .slice A_3 (([] : List T_api_Given) ++ d2).length cap_3) (by kernel_rfl) (hv_3.symm)
        refine ST_end rfl ?_
        refine W_rowstoreN (it := ((d3.tmod ((d2.length : Nat) : Int)) + ((d2.length : Nat) : Int)).tmod ((d2.length : Nat) : Int)) (d := ([] : List T_api_Given) ++ d2) (f := emb_T_api_Given) (xv := (⟨x_7.fName, (false), (⟨d4.fKind, (d4.fBool), d4.fNum, d4.fText, d4.fList, d4.fKeys⟩ : T_api_Value)⟩ : T_api_Given)) (vs := [S x_7.fName, .bool false, .int .i8 d4.fKind, .bool d4.fBool, .int .i64 d4.fNum, S d4.fText, .slice A_1 d4.fList.length cap_1, .slice A_2 d4.fKeys.length cap_2]) f_67 p_11 hv_3 (by kernel_rfl) (by kernel_rfl) rfl rfl (by kernel_rfl) (by kernel_rfl) (by exact T_api_Given.shut (h_1.mono (hM_1.trans hM_2)) (h_2.mono (hM_1.trans hM_2))) (by kernel_rfl) szd_T_api_Given hx_8 hr_2 (fun cs_2 w_11 p_12 hr_5 a_50 f_68 => ?_)
        have p_13 : Hp w0 M_2 ((Ent.row 35 8 (.slice A_3 ((([] : List T_api_Given) ++ d2).set (((d3.tmod ((d2.length : Nat) : Int)) + ((d2.length : Nat) : Int)).tmod ((d2.length : Nat) : Int)).toNat (⟨x_7.fName, (false), (⟨d4.fKind, (d4.fBool), d4.fNum, d4.fText, d4.fList, d4.fKeys⟩ : T_api_Value)⟩ : T_api_Given)).length cap_3) ((([] : List T_api_Given) ++ d2).set (((d3.tmod ((d2.length : Nat) : Int)) + ((d2.length : Nat) : Int)).tmod ((d2.length : Nat) : Int)).toNat (⟨x_7.fName, (false), (⟨d4.fKind, (d4.fBool), d4.fNum, d4.fText, d4.fList, d4.fKeys⟩ : T_api_Value)⟩ : T_api_Given)).length cs_2) :: H) w_11 := p_12.rowVal (by rw [List.length_set])
        have f_69 := Frm.set f_68 12 (v := .slice A_3 (([] : List T_api_Given) ++ d2).length cap_3) (v' := .slice A_3 ((([] : List T_api_Given) ++ d2).set (((d3.tmod ((d2.length : Nat) : Int)) + ((d2.length : Nat) : Int)).tmod ((d2.length : Nat) : Int)).toNat (⟨x_7.fName, (false), (⟨d4.fKind, (d4.fBool), d4.fNum, d4.fText, d4.fList, d4.fKeys⟩ : T_api_Value)⟩ : T_api_Given)).length cap_3) (by kernel_rfl) (by rw [List.length_set])
        have f_70 := Frm.set f_69 57 (v := .slice A_3 (([] : List T_api_Given) ++ d2).length cap_3) (v' := .slice A_3 ((([] : List T_api_Given) ++ d2).set (((d3.tmod ((d2.length : Nat) : Int)) + ((d2.length : Nat) : Int)).tmod ((d2.length : Nat) : Int)).toNat (⟨x_7.fName, (false), (⟨d4.fKind, (d4.fBool), d4.fNum, d4.fText, d4.fList, d4.fKeys⟩ : T_api_Value)⟩ : T_api_Given)).length cap_3) (by kernel_rfl) (by rw [List.length_set])
        refine W_end rfl (T_n (R_seq (R_reg ?_)))
        refine V_run f_70 3 (by kernel_rfl) (fun a_51 f_71 => ?_)
        obtain ⟨x_9, hx_9, hF_26⟩ := bind_some' hF_25
        refine V_okv f_71 p_13 (schema_Differ_ok n _ (GL.mono (hM_1.trans hM_2) hG) d0 A1 cap1 d1 (h1.mono (hM_1.trans hM_2)) A2 cap2 d2 (h2.mono (hM_1.trans hM_2)) x_9 hx_9) (by kernel_rfl) (fun _ => by kernel_rfl) (fun w_12 p_14 a_52 f_72 => ?_)
        refine V_run f_72 5 (by kernel_rfl) (fun a_53 f_73 => ?_)
        refine W_end rfl (T_n (R_seq (R_reg ?_)))
        refine V_run f_73 3 (by kernel_rfl) (fun a_54 f_74 => ?_)
        obtain ⟨M_3, A_8, cap_11, hM_3, hv_4, p_15, h_13, hb_1⟩ := p_14.lend (f := emb_T_api_Given) (xs := (([] : List T_api_Given) ++ d2).set (((d3.tmod ((d2.length : Nat) : Int)) + ((d2.length : Nat) : Int)).tmod ((d2.length : Nat) : Int)).toNat (⟨x_7.fName, (false), (⟨d4.fKind, (d4.fBool), d4.fNum, d4.fText, d4.fList, d4.fKeys⟩ : T_api_Value)⟩ : T_api_Given)) szd_T_api_Given hr_5
        have f_75 := Frm.set f_74 77 (v := .slice A_3 ((([] : List T_api_Given) ++ d2).set (((d3.tmod ((d2.length : Nat) : Int)) + ((d2.length : Nat) : Int)).tmod ((d2.length : Nat) : Int)).toNat (⟨x_7.fName, (false), (⟨d4.fKind, (d4.fBool), d4.fNum, d4.fText, d4.fList, d4.fKeys⟩ : T_api_Value)⟩ : T_api_Given)).length cap_3) (v' := .slice A_8 ((([] : List T_api_Given) ++ d2).set (((d3.tmod ((d2.length : Nat) : Int)) + ((d2.length : Nat) : Int)).tmod ((d2.length : Nat) : Int)).toNat (⟨x_7.fName, (false), (⟨d4.fKind, (d4.fBool), d4.fNum, d4.fText, d4.fList, d4.fKeys⟩ : T_api_Value)⟩ : T_api_Given)).length cap_11) (by kernel_rfl) (hv_4)
        obtain ⟨x_10, hx_10, hF_27⟩ := bind_some' hF_26
        refine V_okv f_75 p_15 (schema_Differ_ok n _ (GL.mono ((hM_1.trans hM_2).trans hM_3) hG) d0 A1 cap1 d1 (h1.mono ((hM_1.trans hM_2).trans hM_3)) A_8 cap_11 ((([] : List T_api_Given) ++ d2).set (((d3.tmod ((d2.length : Nat) : Int)) + ((d2.length : Nat) : Int)).tmod ((d2.length : Nat) : Int)).toNat (⟨x_7.fName, (false), (⟨d4.fKind, (d4.fBool), d4.fNum, d4.fText, d4.fList, d4.fKeys⟩ : T_api_Value)⟩ : T_api_Given)) h_13 x_10 hx_10) (by kernel_rfl) (fun _ => by kernel_rfl) (fun w_13 p_16 a_55 f_76 => ?_)
        obtain ⟨M_4, hM_4, p_17⟩ := hb_1 _ _ _ (Mem.le_refl _) p_16
        have f_77 := Frm.set f_76 77 (v := .slice A_8 ((([] : List T_api_Given) ++ d2).set (((d3.tmod ((d2.length : Nat) : Int)) + ((d2.length : Nat) : Int)).tmod ((d2.length : Nat) : Int)).toNat (⟨x_7.fName, (false), (⟨d4.fKind, (d4.fBool), d4.fNum, d4.fText, d4.fList, d4.fKeys⟩ : T_api_Value)⟩ : T_api_Given)).length cap_11) (v' := .slice A_3 ((([] : List T_api_Given) ++ d2).set (((d3.tmod ((d2.length : Nat) : Int)) + ((d2.length : Nat) : Int)).tmod ((d2.length : Nat) : Int)).toNat (⟨x_7.fName, (false), (⟨d4.fKind, (d4.fBool), d4.fNum, d4.fText, d4.fList, d4.fKeys⟩ : T_api_Value)⟩ : T_api_Given)).length cap_3) (by kernel_rfl) (hv_4.symm)
        refine V_run f_77 5 (by kernel_rfl) (fun a_56 f_78 => ?_)
        refine W_end rfl (T_n (R_seq (R_seq ?_)))
        obtain ⟨j_2, hj_2, hF_28⟩ := bind_some' hF_27
        refine R_mid (fun a_60 w_14 => ∃ y_2 : Bool, j_2 = y_2 ∧ ∃ M_5 : Mem, M_4.le M_5 ∧ Frm 110 [(13, .int .i8 x_9.1), (15, .int .i8 x_10.1), (86, .bool y_2)] a_60 ∧ Hp w0 M_5 ((Ent.row 35 8 (.slice A_3 ((([] : List T_api_Given) ++ d2).set (((d3.tmod ((d2.length : Nat) : Int)) + ((d2.length : Nat) : Int)).tmod ((d2.length : Nat) : Int)).toNat (⟨x_7.fName, (false), (⟨d4.fKind, (d4.fBool), d4.fNum, d4.fText, d4.fList, d4.fKeys⟩ : T_api_Value)⟩ : T_api_Given)).length cap_3) ((([] : List T_api_Given) ++ d2).set (((d3.tmod ((d2.length : Nat) : Int)) + ((d2.length : Nat) : Int)).tmod ((d2.length : Nat) : Int)).toNat (⟨x_7.fName, (false), (⟨d4.fKind, (d4.fBool), d4.fNum, d4.fText, d4.fList, d4.fKeys⟩ : T_api_Value)⟩ : T_api_Given)).length cs_2) :: H) w_14) ?_ ?_
        · refine R_reg ?_
          refine V_run f_78 3 (by kernel_rfl) (fun a_57 f_79 => ?_)
          rcases Bool.eq_false_or_eq_true (!(decide (x_9.2 = 0))) with h_14 | h_14
          · have k_13 : ¬ (x_9.2 = 0) := (not_iff decide_eq_true_iff).1 h_14
            have hF_29 := cnd_t h_14 hj_2
            have f_80 := Frm.set f_79 83 (v := .bool (!(decide (x_9.2 = 0)))) (v' := .bool true) (by kernel_rfl) (congrArg Value.bool h_14)
            refine V_run f_80 3 (by kernel_rfl) (fun a_58 f_81 => ?_)
            refine W_end rfl (T_n ?_)
            exact ⟨(true), (Option.some.inj hF_29).symm, M_4, (Mem.le_refl _), f_81.keep (ks := [13, 15, 86]) (by kernel_rfl), p_17⟩
          · have k_14 : ¬ (¬ (x_9.2 = 0)) := iff_f (not_iff decide_eq_true_iff) h_14
            have hF_30 := cnd_f h_14 hj_2
            have f_82 := Frm.set f_79 83 (v := .bool (!(decide (x_9.2 = 0)))) (v' := .bool false) (by kernel_rfl) (congrArg Value.bool h_14)
            refine V_run f_82 3 (by kernel_rfl) (fun a_59 f_83 => ?_)
            refine W_end rfl (T_n ?_)
            exact ⟨(!(decide (x_10.2 = 0))), (Option.some.inj hF_30).symm, M_4, (Mem.le_refl _), f_83.keep (ks := [13, 15, 86]) (by kernel_rfl), p_17⟩
        · rintro a_60 w_14 ⟨y_2, hq_2, M_5, hM_5, f_84, p_18⟩
          subst j_2
          refine T_n ?_
          refine R_cond f_84 (b := y_2) (by kernel_rfl) (by kernel_rfl) (fun h_15 => ?_) (fun h_15 => ?_)
          · have hF_31 := cnd_t h_15 hF_28
            refine R_seq (R_reg ?_)
            obtain ⟨x_11, hx_11, hF_32⟩ := bind_some' hF_31
            refine V_okv f_84 p_18 (law09_wakes_ok n _ (GL.mono (((hM_1.trans hM_2).trans hM_4).trans hM_5) hG) x_11 hx_11) (by kernel_rfl) (fun _ => by kernel_rfl) (fun w_15 p_19 a_61 f_85 => ?_)
            refine V_run f_85 1 (by kernel_rfl) (fun a_62 f_86 => ?_)
            refine W_end rfl (T_n (wp_ret (T_r ?_)))
            refine E_ret1 f_86 rfl (by kernel_rfl : Vc.look _ 10 = some (.bool x_11)) ?_
            obtain rfl := Option.some.inj hF_32
            exact ⟨_, rfl, M_5, (((hM_1.trans hM_2).trans hM_4).trans hM_5), (p_19.dropN 1), rfl⟩
          · have hF_33 := cnd_f h_15 hF_28
            refine wp_skip (T_n (R_seq (R_reg ?_)))
            refine V_run f_84 3 (by kernel_rfl) (fun a_63 f_87 => ?_)
            rcases Bool.eq_false_or_eq_true (decide (x_9.1 = 3)) with h_16 | h_16
            · have k_17 : x_9.1 = 3 := decide_eq_true_iff.1 h_16
              have hF_34 := cnd_t h_16 hF_33
              have f_88 := Frm.set f_87 90 (v := .bool (decide (x_9.1 = 3))) (v' := .bool true) (by kernel_rfl) (congrArg Value.bool h_16)
              refine V_run f_88 8 (by kernel_rfl) (fun a_64 f_89 => ?_)
              rcases Bool.eq_false_or_eq_true (decide (x_10.1 = x_9.1)) with h_17 | h_17
              · have k_18 : x_10.1 = x_9.1 := decide_eq_true_iff.1 h_17
                have hF_35 := cnd_t h_17 hF_34
                have f_90 := Frm.set f_89 98 (v := .bool (decide (x_10.1 = x_9.1))) (v' := .bool true) (by kernel_rfl) (congrArg Value.bool h_17)
                refine V_run f_90 9 (by kernel_rfl) (fun a_65 f_91 => ?_)
                obtain ⟨x_12, hx_12, hF_36⟩ := bind_some' hF_35
                refine V_okv f_91 p_18 (law09_wakes_ok n _ (GL.mono (((hM_1.trans hM_2).trans hM_4).trans hM_5) hG) x_12 hx_12) (by kernel_rfl) (fun _ => by kernel_rfl) (fun w_16 p_20 a_66 f_92 => ?_)
                refine V_run f_92 2 (by kernel_rfl) (fun a_67 f_93 => ?_)
                refine W_end rfl (T_n (wp_ret ?_))
                refine E_ret1 f_93 rfl (by kernel_rfl : Vc.look _ 10 = some (.bool x_12)) ?_
                obtain rfl := Option.some.inj hF_36
                exact ⟨_, rfl, M_5, (((hM_1.trans hM_2).trans hM_4).trans hM_5), (p_20.dropN 1), rfl⟩
              · have k_19 : ¬ (x_10.1 = x_9.1) := iff_f decide_eq_true_iff h_17
                have hF_37 := cnd_f h_17 hF_34
                have f_94 := Frm.set f_89 98 (v := .bool (decide (x_10.1 = x_9.1))) (v' := .bool false) (by kernel_rfl) (congrArg Value.bool h_17)
                refine V_run f_94 4 (by kernel_rfl) (fun a_68 f_95 => ?_)
                have f_96 := Frm.set f_95 102 (v := .bool (decide (x_9.1 = 3))) (v' := .bool true) (by kernel_rfl) (congrArg Value.bool h_16)
                refine V_run f_96 5 (by kernel_rfl) (fun a_69 f_97 => ?_)
                obtain ⟨x_13, hx_13, hF_38⟩ := bind_some' hF_37
                refine V_okv f_97 p_18 (law09_wakes_ok n _ (GL.mono (((hM_1.trans hM_2).trans hM_4).trans hM_5) hG) x_13 hx_13) (by kernel_rfl) (fun _ => by kernel_rfl) (fun w_17 p_21 a_70 f_98 => ?_)
                refine V_run f_98 2 (by kernel_rfl) (fun a_71 f_99 => ?_)
                refine W_end rfl (T_n (wp_ret ?_))
                refine E_ret1 f_99 rfl (by kernel_rfl : Vc.look _ 10 = some (.bool x_13)) ?_
                obtain rfl := Option.some.inj hF_38
                exact ⟨_, rfl, M_5, (((hM_1.trans hM_2).trans hM_4).trans hM_5), (p_21.dropN 1), rfl⟩
            · have k_20 : ¬ (x_9.1 = 3) := iff_f decide_eq_true_iff h_16
              have hF_39 := cnd_f h_16 hF_33
              have f_100 := Frm.set f_87 90 (v := .bool (decide (x_9.1 = 3))) (v' := .bool false) (by kernel_rfl) (congrArg Value.bool h_16)
              refine V_run f_100 4 (by kernel_rfl) (fun a_72 f_101 => ?_)
              rcases Bool.eq_false_or_eq_true (decide (x_9.1 = 2)) with h_18 | h_18
              · have k_21 : x_9.1 = 2 := decide_eq_true_iff.1 h_18
                have hF_40 := cnd_t h_18 hF_39
                have f_102 := Frm.set f_101 94 (v := .bool (decide (x_9.1 = 2))) (v' := .bool true) (by kernel_rfl) (congrArg Value.bool h_18)
                refine V_run f_102 4 (by kernel_rfl) (fun a_73 f_103 => ?_)
                rcases Bool.eq_false_or_eq_true (decide (x_10.1 = x_9.1)) with h_19 | h_19
                · have k_22 : x_10.1 = x_9.1 := decide_eq_true_iff.1 h_19
                  have hF_41 := cnd_t h_19 hF_40
                  have f_104 := Frm.set f_103 98 (v := .bool (decide (x_10.1 = x_9.1))) (v' := .bool true) (by kernel_rfl) (congrArg Value.bool h_19)
                  refine V_run f_104 9 (by kernel_rfl) (fun a_74 f_105 => ?_)
                  obtain ⟨x_14, hx_14, hF_42⟩ := bind_some' hF_41
                  refine V_okv f_105 p_18 (law09_wakes_ok n _ (GL.mono (((hM_1.trans hM_2).trans hM_4).trans hM_5) hG) x_14 hx_14) (by kernel_rfl) (fun _ => by kernel_rfl) (fun w_18 p_22 a_75 f_106 => ?_)
                  refine V_run f_106 2 (by kernel_rfl) (fun a_76 f_107 => ?_)
                  refine W_end rfl (T_n (wp_ret ?_))
                  refine E_ret1 f_107 rfl (by kernel_rfl : Vc.look _ 10 = some (.bool x_14)) ?_
                  obtain rfl := Option.some.inj hF_42
                  exact ⟨_, rfl, M_5, (((hM_1.trans hM_2).trans hM_4).trans hM_5), (p_22.dropN 1), rfl⟩
                · have k_23 : ¬ (x_10.1 = x_9.1) := iff_f decide_eq_true_iff h_19
                  have hF_43 := cnd_f h_19 hF_40
                  have f_108 := Frm.set f_103 98 (v := .bool (decide (x_10.1 = x_9.1))) (v' := .bool false) (by kernel_rfl) (congrArg Value.bool h_19)
                  refine V_run f_108 4 (by kernel_rfl) (fun a_77 f_109 => ?_)
                  have f_110 := Frm.set f_109 102 (v := .bool (decide (x_9.1 = 3))) (v' := .bool false) (by kernel_rfl) (congrArg Value.bool h_16)
                  refine V_run f_110 5 (by kernel_rfl) (fun a_78 f_111 => ?_)
                  rcases Bool.eq_false_or_eq_true (decide (x_10.1 = 0)) with h_20 | h_20
                  · have k_24 : x_10.1 = 0 := decide_eq_true_iff.1 h_20
                    have hF_44 := cnd_t h_20 hF_43
                    have f_112 := Frm.set f_111 107 (v := .bool (decide (x_10.1 = 0))) (v' := .bool true) (by kernel_rfl) (congrArg Value.bool h_20)
                    obtain ⟨x_15, hx_15, hF_45⟩ := bind_some' hF_44
                    refine V_okv f_112 p_18 (law09_wakes_ok n _ (GL.mono (((hM_1.trans hM_2).trans hM_4).trans hM_5) hG) x_15 hx_15) (by kernel_rfl) (fun _ => by kernel_rfl) (fun w_19 p_23 a_79 f_113 => ?_)
                    refine V_run f_113 2 (by kernel_rfl) (fun a_80 f_114 => ?_)
                    refine W_end rfl (T_n (wp_ret ?_))
                    refine E_ret1 f_114 rfl (by kernel_rfl : Vc.look _ 10 = some (.bool x_15)) ?_
                    obtain rfl := Option.some.inj hF_45
                    exact ⟨_, rfl, M_5, (((hM_1.trans hM_2).trans hM_4).trans hM_5), (p_23.dropN 1), rfl⟩
                  · have k_25 : ¬ (x_10.1 = 0) := iff_f decide_eq_true_iff h_20
                    have hF_46 := cnd_f h_20 hF_43
                    have f_115 := Frm.set f_111 107 (v := .bool (decide (x_10.1 = 0))) (v' := .bool false) (by kernel_rfl) (congrArg Value.bool h_20)
                    refine V_run f_115 3 (by kernel_rfl) (fun a_81 f_116 => ?_)
                    refine W_end rfl (T_n (wp_ret ?_))
                    refine E_ret1 f_116 rfl (by kernel_rfl : Vc.look _ 10 = some (.bool false)) ?_
                    obtain rfl := Option.some.inj hF_46
                    exact ⟨_, rfl, M_5, (((hM_1.trans hM_2).trans hM_4).trans hM_5), (p_18.dropN 1), rfl⟩
              · have k_26 : ¬ (x_9.1 = 2) := iff_f decide_eq_true_iff h_18
                have hF_47 := cnd_f h_18 hF_39
                have f_117 := Frm.set f_101 94 (v := .bool (decide (x_9.1 = 2))) (v' := .bool false) (by kernel_rfl) (congrArg Value.bool h_18)
                refine V_run f_117 16 (by kernel_rfl) (fun a_82 f_118 => ?_)
                refine W_end rfl (T_n (wp_ret ?_))
                refine E_ret1 f_118 rfl (by kernel_rfl : Vc.look _ 10 = some (.bool false)) ?_
                obtain rfl := Option.some.inj hF_47
                exact ⟨_, rfl, M_5, (((hM_1.trans hM_2).trans hM_4).trans hM_5), (p_18.dropN 1), rfl⟩
end Go.Proofs.YtalifkcchfkgmaaDoor
