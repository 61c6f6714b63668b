/-
  Printed by a program: of each function its shallow reading, and the proof that the function gives what the reading gives. No condition.
-/
import Derived.Test.YtalifkcchfkgmaaDoorS6
import Derived.Test.YtalifkcchfkgmaaDoorS7
import Derived.Test.YtalifkcchfkgmaaDoorQ4h
set_option linter.unusedVariables false
set_option linter.unusedSimpArgs false
namespace Go.Proofs.YtalifkcchfkgmaaDoor
open Go Go.Vc Go.RowKit
def law09_SchemaParts_s1 (n : Nat) (d0 : List UInt8) (d1 : List T_api_Given) (s_1 : Bool × Int) : Option (Lp (Bool × Int) Bool) :=
    bif (decide (s_1.2 < ((d1.length : Nat) : Int))) then
      (bif s_1.1 then
        (need (inR .i64 (s_1.2 + 1)) <|
        need (0 ≤ s_1.2 ∧ s_1.2 ≤ (s_1.2 + 1) ∧ (s_1.2 + 1) ≤ (d1.length : Int)) <|
        (schema_Check n d0 ((d1.take (s_1.2 + 1).toNat).drop s_1.2.toNat)).bind fun x_4 =>
        bif (decide (x_4 = 0)) then
          (bif (decide (s_1.2 = 0)) then
            (need (inR .i64 (s_1.2 + 1)) <|
            some (.nx ((true), s_1.2 + 1)))
          else
            need (inR .i64 (s_1.2 - 1)) <|
            (getI d1 (s_1.2 - 1)).bind fun x_5 =>
            (getI d1 s_1.2).bind fun x_6 =>
            need (inR .i64 (s_1.2 + 1)) <|
            some (.nx ((Op.bytesLess x_5.fName x_6.fName), s_1.2 + 1)))
        else
          need (inR .i64 (s_1.2 + 1)) <|
          some (.nx ((false), s_1.2 + 1)))
      else
        need (inR .i64 (s_1.2 + 1)) <|
        some (.nx ((false), s_1.2 + 1)))
    else
      some (.br (s_1.1))
def law09_SchemaParts (n : Nat) (d0 : List UInt8) (d1 : List T_api_Given) : Option Bool :=
  ((bif (decide ((200 : Int) < (d0.length : Int))) then
      (some ((true)))
    else
      (ref09_Great n d1).bind fun x_1 =>
      some ((x_1)) : Option Bool)).bind fun y_1 =>
  bif y_1 then
    ((law09_wakes n).bind fun x_2 =>
    some ((x_2)))
  else
    (schema_Specs n d0).bind fun x_3 =>
    (loopF (law09_SchemaParts_s1 n d0 d1) n ((decide (x_3.2 = 0)), (0 : Int))).bind fun y_2 =>
    (schema_Check n d0 d1).bind fun x_7 =>
    bif ((decide (x_7 = 0)) == y_2) then
      ((law09_wakes n).bind fun x_8 =>
      some ((x_8)))
    else
      some ((false))
set_option maxHeartbeats 2000000 in
theorem law09_SchemaParts_ok (n : Nat) (M : Mem) (hG : GL M) (d0 : List UInt8) (A1 : Option Addr) (cap1 : Nat) (d1 : List T_api_Given) (h1 : Sli M 8 emb_T_api_Given A1 cap1 d1) (r : Bool) (hF : law09_SchemaParts n d0 d1 = some r) : Ok Tryd.prog M 7 [S d0, .slice A1 d1.length cap1] (fun _ v => v = .bool r) := by
  unfold law09_SchemaParts at hF
  intro M1 hM0 w0 H w p0
  replace hG := GL.mono hM0 hG
  replace h1 := h1.mono hM0
  refine R_enter 68 Tryd.func7 rfl rfl (by simp) (fun a0 f0 => ?_)
  refine R_seq (R_reg ?_)
  refine V_run f0 1 (by kernel_rfl) (fun a_1 f_1 => ?_)
  refine W_end rfl (T_n (R_seq (R_seq ?_)))
  obtain ⟨j_1, hj_1, hF_1⟩ := bind_some' hF
  refine R_mid (fun a_7 w_2 => ∃ y_1 : Bool, j_1 = y_1 ∧ ∃ M_1 : Mem, M1.le M_1 ∧ Frm 68 [(0, S d0), (1, .slice A1 d1.length cap1), (15, .bool y_1)] a_7 ∧ Hp w0 M_1 (H) w_2) ?_ ?_
  · refine R_reg ?_
    refine V_run f_1 4 (by kernel_rfl) (fun a_2 f_2 => ?_)
    rcases Bool.eq_false_or_eq_true (decide ((200 : Int) < (d0.length : Int))) with h_1 | h_1
    · have k_1 : (200 : Int) < (d0.length : Int) := decide_eq_true_iff.1 h_1
      have hF_2 := cnd_t h_1 hj_1
      have f_3 := Frm.set f_2 12 (v := .bool (decide ((200 : Int) < (d0.length : Int)))) (v' := .bool true) (by kernel_rfl) (congrArg Value.bool h_1)
      refine V_run f_3 3 (by kernel_rfl) (fun a_3 f_4 => ?_)
      refine W_end rfl (T_n ?_)
      exact ⟨(true), (Option.some.inj hF_2).symm, M1, (Mem.le_refl _), f_4.keep (ks := [0, 1, 15]) (by kernel_rfl), p0⟩
    · have k_2 : ¬ ((200 : Int) < (d0.length : Int)) := iff_f decide_eq_true_iff h_1
      have hF_3 := cnd_f h_1 hj_1
      have f_5 := Frm.set f_2 12 (v := .bool (decide ((200 : Int) < (d0.length : Int)))) (v' := .bool false) (by kernel_rfl) (congrArg Value.bool h_1)
      refine V_run f_5 1 (by kernel_rfl) (fun a_4 f_6 => ?_)
      obtain ⟨x_1, hx_1, hF_4⟩ := bind_some' hF_3
      refine V_okv f_6 p0 (ref09_Great_ok n _ hG A1 cap1 d1 h1 x_1 hx_1) (by kernel_rfl) (fun _ => by kernel_rfl) (fun w_1 p_1 a_5 f_7 => ?_)
      refine V_run f_7 1 (by kernel_rfl) (fun a_6 f_8 => ?_)
      refine W_end rfl (T_n ?_)
      exact ⟨(x_1), (Option.some.inj hF_4).symm, M1, (Mem.le_refl _), f_8.keep (ks := [0, 1, 15]) (by kernel_rfl), p_1⟩
  · rintro a_7 w_2 ⟨y_1, hq_1, M_1, hM_1, f_9, p_2⟩
    subst j_1
    refine T_n ?_
    refine R_cond f_9 (b := y_1) (by kernel_rfl) (by kernel_rfl) (fun h_2 => ?_) (fun h_2 => ?_)
    · have hF_5 := cnd_t h_2 hF_1
      refine R_seq (R_reg ?_)
      obtain ⟨x_2, hx_2, hF_6⟩ := bind_some' hF_5
      refine V_okv f_9 p_2 (law09_wakes_ok n _ (GL.mono hM_1 hG) x_2 hx_2) (by kernel_rfl) (fun _ => by kernel_rfl) (fun w_3 p_3 a_8 f_10 => ?_)
      refine V_run f_10 1 (by kernel_rfl) (fun a_9 f_11 => ?_)
      refine W_end rfl (T_n (wp_ret (T_r ?_)))
      refine E_ret1 f_11 rfl (by kernel_rfl : Vc.look _ 4 = some (.bool x_2)) ?_
      obtain rfl := Option.some.inj hF_6
      exact ⟨_, rfl, M_1, hM_1, p_3, rfl⟩
    · have hF_7 := cnd_f h_2 hF_1
      refine wp_skip (T_n (R_seq (R_reg ?_)))
      refine V_run f_9 1 (by kernel_rfl) (fun a_10 f_12 => ?_)
      obtain ⟨x_3, hx_3, hF_8⟩ := bind_some' hF_7
      refine V_okH (E := []) (H := (H)) f_12 p_2 (schema_Specs_ok n _ (GL.mono hM_1 hG) d0 x_3 hx_3) (by kernel_rfl) (fun _ => by kernel_rfl) (fun u_1 M_2 E_1 w_4 hM_2 p_4 q_1 a_11 f_13 => ?_)
      obtain ⟨A_1, cap_1, cs_1, rfl, rfl, hr_1⟩ := q_1
      refine V_run f_13 5 (by kernel_rfl) (fun a_12 f_14 => ?_)
      refine W_end rfl (T_n (R_seq (R_reg ?_)))
      refine V_run f_14 3 (by kernel_rfl) (fun a_13 f_15 => ?_)
      refine W_end rfl (T_n (R_seq (R_seq (R_reg ?_))))
      refine V_run f_15 3 (by kernel_rfl) (fun a_14 f_16 => ?_)
      refine W_end rfl (T_n (wp_block ?_))
      obtain ⟨b_1, hL_1, hF_9⟩ := bind_some' hF_8
      refine wp_mono (Q := fun e a w => (e = .exit 0 ∧ (∃ y_2 : Bool, b_1 = y_2 ∧ ∃ M_4 : Mem, M_2.le M_4 ∧ Frm 68 [(0, S d0), (1, .slice A1 d1.length cap1), (7, .bool y_2)] a ∧ Hp w0 M_4 ((Ent.row 81 3 (.slice A_1 x_3.1.length cap_1) x_3.1.length cs_1) :: H) w))) (R_loop (n := 68) (w0 := w0) (M := M_2) (fun (x : Nat × (Bool × Int)) => match x with | (m_1, s_1) => [(0, S d0), (1, .slice A1 d1.length cap1), (7, .bool s_1.1), (25, .int .i64 ((d1.length : Nat) : Int)), (26, .int .i64 s_1.2)]) (fun (x : Nat × (Bool × Int)) => match x with | (m_1, s_1) => ((Ent.row 81 3 (.slice A_1 x_3.1.length cap_1) x_3.1.length cs_1) :: H)) (fun (x : Nat × (Bool × Int)) (MM : Mem) => match x with | (m_1, s_1) => loopF (law09_SchemaParts_s1 n d0 d1) m_1 s_1 = some b_1) (fun (x : Nat × (Bool × Int)) => match x with | (m_1, s_1) => m_1) (n, ((decide (x_3.2 = 0)), (0 : Int))) (f_16.keep (ks := [0, 1, 7, 25, 26]) (by kernel_rfl)) p_4 hL_1 ?_) ?_
      · rintro ⟨m_1, s_1⟩ M_3 a_15 w_5 hM_3 I_1 f_17 p_5
        have I_1L := I_1
        obtain ⟨m_2, r_1, rfl, hs_1, hn_1⟩ := loop_step I_1L
        unfold law09_SchemaParts_s1 at hs_1
        refine R_seq (R_reg ?_)
        refine V_run f_17 1 (by kernel_rfl) (fun a_16 f_18 => ?_)
        refine W_end rfl (T_n (R_seq ?_))
        refine R_cond f_18 (b := decide (s_1.2 < ((d1.length : Nat) : Int))) (by kernel_rfl) (by kernel_rfl) (fun h_3 => ?_) (fun h_3 => ?_)
        · have k_5 : s_1.2 < ((d1.length : Nat) : Int) := decide_eq_true_iff.1 h_3
          have hF_10 := cnd_t h_3 hs_1
          refine wp_skip (T_n (R_seq (wp_block (R_seq (R_reg ?_)))))
          refine V_run f_18 2 (by kernel_rfl) (fun a_17 f_19 => ?_)
          refine W_end rfl (T_n ?_)
          refine R_draw p_5 (by kernel_rfl) (by kernel_rfl) ?_
          refine Q_run default f_19 2 (fun _ => by kernel_rfl) (fun a_18 f_20 => ?_)
          rcases Bool.eq_false_or_eq_true (s_1.1) with h_4 | h_4
          · have hF_11 := cnd_t h_4 hF_10
            have f_21 := Frm.set f_20 30 (v := .bool s_1.1) (v' := .bool true) (by kernel_rfl) (congrArg Value.bool h_4)
            refine Q_run default f_21 4 (fun _ => by kernel_rfl) (fun a_19 f_22 => ?_)
            obtain ⟨g_1, hF_12⟩ := need_some hF_11
            refine QV_eq (v := .int .i64 (IntKind.wrap .i64 (s_1.2 + 1))) f_22 (by kernel_rfl) (fun _ pq => by kernel_rfl) (fun a_20 f_23 => ?_)
            have f_24 := Frm.set f_23 35 (v := .int .i64 (IntKind.wrap .i64 (s_1.2 + 1))) (v' := .int .i64 (s_1.2 + 1)) (by kernel_rfl) (congrArg (Value.int .i64) (inR_wrap g_1))
            obtain ⟨g_2, hF_13⟩ := need_some hF_12
            have h_5 : Sli M_3 8 emb_T_api_Given (cutA A1 8 s_1.2.toNat cap1) (cap1 - s_1.2.toNat) ((d1.take (s_1.2 + 1).toNat).drop s_1.2.toNat) := Sli.cut (h1.mono ((hM_1.trans hM_2).trans hM_3)) (by omega) (by omega)
            have hl_1 := Sli.len (h1.mono ((hM_1.trans hM_2).trans hM_3))
            refine QV_eq (v := .slice (cutA A1 8 s_1.2.toNat cap1) ((s_1.2 + 1).toNat - s_1.2.toNat) (cap1 - s_1.2.toNat)) f_24 (by kernel_rfl) (fun _ pq => X_slice rfl (A := A1) (len := d1.length) (cap := cap1) (k := .i64) (k' := .i64) (a := s_1.2) (b := s_1.2 + 1) (by kernel_rfl) (by kernel_rfl) (by kernel_rfl) (e := 35) (by kernel_rfl) (sz := 8) (by kernel_rfl) g_2.1 g_2.2.1 (by omega)) (fun a_21 f_25 => ?_)
            have f_26 := Frm.set f_25 36 (v := .slice (cutA A1 8 s_1.2.toNat cap1) ((s_1.2 + 1).toNat - s_1.2.toNat) (cap1 - s_1.2.toNat)) (v' := .slice (cutA A1 8 s_1.2.toNat cap1) ((d1.take (s_1.2 + 1).toNat).drop s_1.2.toNat).length (cap1 - s_1.2.toNat)) (by kernel_rfl) (by congr 1; simp; omega)
            obtain ⟨x_4, hx_4, hF_14⟩ := bind_some' hF_13
            refine QV_okv f_26 (schema_Check_ok n _ (GL.mono ((hM_1.trans hM_2).trans hM_3) hG) d0 (cutA A1 8 s_1.2.toNat cap1) (cap1 - s_1.2.toNat) ((d1.take (s_1.2 + 1).toNat).drop s_1.2.toNat) h_5 x_4 hx_4) (by kernel_rfl) (fun _ => by kernel_rfl) (fun a_22 f_27 => ?_)
            refine Q_run default f_27 3 (fun _ => by kernel_rfl) (fun a_23 f_28 => ?_)
            rcases Bool.eq_false_or_eq_true (decide (x_4 = 0)) with h_6 | h_6
            · have k_7 : x_4 = 0 := decide_eq_true_iff.1 h_6
              have hF_15 := cnd_t h_6 hF_14
              have f_29 := Frm.set f_28 40 (v := .bool (decide (x_4 = 0))) (v' := .bool true) (by kernel_rfl) (congrArg Value.bool h_6)
              refine Q_run default f_29 3 (fun _ => by kernel_rfl) (fun a_24 f_30 => ?_)
              rcases Bool.eq_false_or_eq_true (decide (s_1.2 = 0)) with h_7 | h_7
              · have k_8 : s_1.2 = 0 := decide_eq_true_iff.1 h_7
                have hF_16 := cnd_t h_7 hF_15
                have f_31 := Frm.set f_30 43 (v := .bool (decide (s_1.2 = 0))) (v' := .bool true) (by kernel_rfl) (congrArg Value.bool h_7)
                refine Q_run default f_31 15 (fun _ => by kernel_rfl) (fun a_25 f_32 => ?_)
                refine Q_end rfl ?_
                intro w_7 p_7
                refine B_n (T_n (R_reg ?_))
                obtain ⟨g_3, hF_17⟩ := need_some hF_16
                refine V_run f_32 1 (by kernel_rfl) (fun a_26 f_33 => ?_)
                have f_34 := Frm.set f_33 58 (v := .int .i64 (IntKind.wrap .i64 (s_1.2 + 1))) (v' := .int .i64 (s_1.2 + 1)) (by kernel_rfl) (congrArg (Value.int .i64) (inR_wrap g_3))
                refine V_run f_34 1 (by kernel_rfl) (fun a_27 f_35 => ?_)
                refine W_end rfl (T_n ?_)
                obtain rfl := Option.some.inj hF_17
                exact ⟨⟨m_2, ((true), s_1.2 + 1)⟩, Nat.lt_succ_self _, M_3, hM_3, hn_1, f_35.keep (ks := [0, 1, 7, 25, 26]) (by kernel_rfl), p_7⟩
              · have k_9 : ¬ (s_1.2 = 0) := iff_f decide_eq_true_iff h_7
                have hF_18 := cnd_f h_7 hF_15
                have f_36 := Frm.set f_30 43 (v := .bool (decide (s_1.2 = 0))) (v' := .bool false) (by kernel_rfl) (congrArg Value.bool h_7)
                refine Q_run default f_36 2 (fun _ => by kernel_rfl) (fun a_28 f_37 => ?_)
                obtain ⟨g_4, hF_19⟩ := need_some hF_18
                refine QV_eq (v := .int .i64 (IntKind.wrap .i64 (s_1.2 - 1))) f_37 (by kernel_rfl) (fun _ pq => by kernel_rfl) (fun a_29 f_38 => ?_)
                have f_39 := Frm.set f_38 46 (v := .int .i64 (IntKind.wrap .i64 (s_1.2 - 1))) (v' := .int .i64 (s_1.2 - 1)) (by kernel_rfl) (congrArg (Value.int .i64) (inR_wrap g_4))
                obtain ⟨x_5, hx_5, hF_20⟩ := bind_some' hF_19
                obtain ⟨ad_1, c_1, e_1, hl_2, hr_2, hc_1⟩ := Sli.at_ (h1.mono ((hM_1.trans hM_2).trans hM_3)) hx_5
                clear hl_2
                obtain ⟨A_2, cap_2, A_3, cap_3, rfl, h_8, h_9⟩ := T_api_Given.opn hr_2
                refine QV_eq (v := .pointer (some (ad_1.add ((s_1.2 - 1).toNat * 8)))) f_39 (by kernel_rfl) (fun _ pq => X_indexAddrA e_1 rfl (len := d1.length) (cap := cap1) (k := .i64) (i := s_1.2 - 1) (by kernel_rfl) (by kernel_rfl) (e := 35) (by kernel_rfl) (sz := 8) (by kernel_rfl) (getI_nn hx_5) (getI_lt hx_5)) (fun a_30 f_40 => ?_)
                refine Q_run default f_40 1 (fun _ => by kernel_rfl) (fun a_31 f_41 => ?_)
                refine Q_ld f_41 hc_1 0 rfl (by kernel_rfl) (by kernel_rfl) (fun a_32 f_42 => ?_)
                refine Q_run default f_42 2 (fun _ => by kernel_rfl) (fun a_33 f_43 => ?_)
                obtain ⟨x_6, hx_6, hF_21⟩ := bind_some' hF_20
                obtain ⟨ad_2, c_2, e_2, hl_3, hr_3, hc_2⟩ := Sli.at_ (h1.mono ((hM_1.trans hM_2).trans hM_3)) hx_6
                clear hl_3
                obtain ⟨A_4, cap_4, A_5, cap_5, rfl, h_10, h_11⟩ := T_api_Given.opn hr_3
                refine QV_eq (v := .pointer (some (ad_2.add (s_1.2.toNat * 8)))) f_43 (by kernel_rfl) (fun _ pq => X_indexAddrA e_2 rfl (len := d1.length) (cap := cap1) (k := .i64) (i := s_1.2) (by kernel_rfl) (by kernel_rfl) (e := 35) (by kernel_rfl) (sz := 8) (by kernel_rfl) (getI_nn hx_6) (getI_lt hx_6)) (fun a_34 f_44 => ?_)
                refine Q_run default f_44 1 (fun _ => by kernel_rfl) (fun a_35 f_45 => ?_)
                refine Q_ld f_45 hc_2 0 rfl (by kernel_rfl) (by kernel_rfl) (fun a_36 f_46 => ?_)
                refine QV_eq (v := .bool (Op.bytesLess x_5.fName x_6.fName)) f_46 (by kernel_rfl) (fun _ pq => X_strlt rfl (l := x_5.fName) (m := x_6.fName) (by kernel_rfl) (by kernel_rfl)) (fun a_37 f_47 => ?_)
                refine Q_run default f_47 3 (fun _ => by kernel_rfl) (fun a_38 f_48 => ?_)
                refine Q_end rfl ?_
                intro w_8 p_8
                refine B_n (T_n (R_reg ?_))
                obtain ⟨g_5, hF_22⟩ := need_some hF_21
                refine V_run f_48 1 (by kernel_rfl) (fun a_39 f_49 => ?_)
                have f_50 := Frm.set f_49 58 (v := .int .i64 (IntKind.wrap .i64 (s_1.2 + 1))) (v' := .int .i64 (s_1.2 + 1)) (by kernel_rfl) (congrArg (Value.int .i64) (inR_wrap g_5))
                refine V_run f_50 1 (by kernel_rfl) (fun a_40 f_51 => ?_)
                refine W_end rfl (T_n ?_)
                obtain rfl := Option.some.inj hF_22
                exact ⟨⟨m_2, ((Op.bytesLess x_5.fName x_6.fName), s_1.2 + 1)⟩, Nat.lt_succ_self _, M_3, hM_3, hn_1, f_51.keep (ks := [0, 1, 7, 25, 26]) (by kernel_rfl), p_8⟩
            · have k_10 : ¬ (x_4 = 0) := iff_f decide_eq_true_iff h_6
              have hF_23 := cnd_f h_6 hF_14
              have f_52 := Frm.set f_28 40 (v := .bool (decide (x_4 = 0))) (v' := .bool false) (by kernel_rfl) (congrArg Value.bool h_6)
              refine Q_run default f_52 18 (fun _ => by kernel_rfl) (fun a_41 f_53 => ?_)
              refine Q_end rfl ?_
              intro w_9 p_9
              refine B_n (T_n (R_reg ?_))
              obtain ⟨g_6, hF_24⟩ := need_some hF_23
              refine V_run f_53 1 (by kernel_rfl) (fun a_42 f_54 => ?_)
              have f_55 := Frm.set f_54 58 (v := .int .i64 (IntKind.wrap .i64 (s_1.2 + 1))) (v' := .int .i64 (s_1.2 + 1)) (by kernel_rfl) (congrArg (Value.int .i64) (inR_wrap g_6))
              refine V_run f_55 1 (by kernel_rfl) (fun a_43 f_56 => ?_)
              refine W_end rfl (T_n ?_)
              obtain rfl := Option.some.inj hF_24
              exact ⟨⟨m_2, ((false), s_1.2 + 1)⟩, Nat.lt_succ_self _, M_3, hM_3, hn_1, f_56.keep (ks := [0, 1, 7, 25, 26]) (by kernel_rfl), p_9⟩
          · have hF_25 := cnd_f h_4 hF_10
            have f_57 := Frm.set f_20 30 (v := .bool s_1.1) (v' := .bool false) (by kernel_rfl) (congrArg Value.bool h_4)
            refine Q_run default f_57 28 (fun _ => by kernel_rfl) (fun a_44 f_58 => ?_)
            refine Q_end rfl ?_
            intro w_10 p_10
            refine B_n (T_n (R_reg ?_))
            obtain ⟨g_7, hF_26⟩ := need_some hF_25
            refine V_run f_58 1 (by kernel_rfl) (fun a_45 f_59 => ?_)
            have f_60 := Frm.set f_59 58 (v := .int .i64 (IntKind.wrap .i64 (s_1.2 + 1))) (v' := .int .i64 (s_1.2 + 1)) (by kernel_rfl) (congrArg (Value.int .i64) (inR_wrap g_7))
            refine V_run f_60 1 (by kernel_rfl) (fun a_46 f_61 => ?_)
            refine W_end rfl (T_n ?_)
            obtain rfl := Option.some.inj hF_26
            exact ⟨⟨m_2, ((false), s_1.2 + 1)⟩, Nat.lt_succ_self _, M_3, hM_3, hn_1, f_61.keep (ks := [0, 1, 7, 25, 26]) (by kernel_rfl), p_10⟩
        · have k_12 : ¬ (s_1.2 < ((d1.length : Nat) : Int)) := iff_f decide_eq_true_iff h_3
          have hF_27 := cnd_f h_3 hs_1
          refine wp_exit (T_x (T_x ?_))
          obtain rfl := Option.some.inj hF_27
          exact ⟨rfl, (s_1.1), (Option.some.inj hn_1).symm, M_3, hM_3, f_18.keep (ks := [0, 1, 7]) (by kernel_rfl), p_5⟩
      · rintro _ a_48 w_12 ⟨rfl, y_2, hq_, M_4, hM_4, f_62, p_11⟩
        subst b_1
        refine B_x (T_n (R_seq (R_reg ?_)))
        refine V_run f_62 2 (by kernel_rfl) (fun a_49 f_63 => ?_)
        obtain ⟨x_7, hx_7, hF_28⟩ := bind_some' hF_9
        refine V_okv f_63 p_11 (schema_Check_ok n _ (GL.mono ((hM_1.trans hM_2).trans hM_4) hG) d0 A1 cap1 d1 (h1.mono ((hM_1.trans hM_2).trans hM_4)) x_7 hx_7) (by kernel_rfl) (fun _ => by kernel_rfl) (fun w_13 p_12 a_50 f_64 => ?_)
        refine V_run f_64 4 (by kernel_rfl) (fun a_51 f_65 => ?_)
        rcases Bool.eq_false_or_eq_true ((decide (x_7 = 0)) == y_2) with h_12 | h_12
        · have hF_29 := cnd_t h_12 hF_28
          have f_66 := Frm.set f_65 65 (v := .bool ((decide (x_7 = 0)) == y_2)) (v' := .bool true) (by kernel_rfl) (congrArg Value.bool h_12)
          obtain ⟨x_8, hx_8, hF_30⟩ := bind_some' hF_29
          refine V_okv f_66 p_12 (law09_wakes_ok n _ (GL.mono ((hM_1.trans hM_2).trans hM_4) hG) x_8 hx_8) (by kernel_rfl) (fun _ => by kernel_rfl) (fun w_14 p_13 a_52 f_67 => ?_)
          refine V_run f_67 2 (by kernel_rfl) (fun a_53 f_68 => ?_)
          refine W_end rfl (T_n (wp_ret ?_))
          refine E_ret1 f_68 rfl (by kernel_rfl : Vc.look _ 4 = some (.bool x_8)) ?_
          obtain rfl := Option.some.inj hF_30
          exact ⟨_, rfl, M_4, ((hM_1.trans hM_2).trans hM_4), (p_13.dropN 1), rfl⟩
        · have hF_31 := cnd_f h_12 hF_28
          have f_69 := Frm.set f_65 65 (v := .bool ((decide (x_7 = 0)) == y_2)) (v' := .bool false) (by kernel_rfl) (congrArg Value.bool h_12)
          refine V_run f_69 3 (by kernel_rfl) (fun a_54 f_70 => ?_)
          refine W_end rfl (T_n (wp_ret ?_))
          refine E_ret1 f_70 rfl (by kernel_rfl : Vc.look _ 4 = some (.bool false)) ?_
          obtain rfl := Option.some.inj hF_31
          exact ⟨_, rfl, M_4, ((hM_1.trans hM_2).trans hM_4), (p_12.dropN 1), rfl⟩
end Go.Proofs.YtalifkcchfkgmaaDoor
