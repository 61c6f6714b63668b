/-
  Printed by a program: of each function its shallow reading, and the proof that the function gives what the reading gives. No condition.
-/
import Derived.Test.YtalifkcchfkgmaaDoorS6
import Derived.Test.YtalifkcchfkgmaaDoorS7
import Derived.Test.YtalifkcchfkgmaaDoorQ4h
set_option linter.unusedVariables false
set_option linter.unusedSimpArgs false
namespace Go.Proofs.YtalifkcchfkgmaaDoor
open Go Go.Vc Go.RowKit
def law09_SchemaNone_s1 (n : Nat) (d1 : List T_api_Given) (d2 : List T_api_Given) (s_1 : Int) : Option (Lp Int (Sum Bool Unit)) :=
    bif (decide (s_1 < ((((([] : List T_api_Given) ++ d1) ++ d2).length : Nat) : Int))) then
      ((getI ((([] : List T_api_Given) ++ d1) ++ d2) s_1).bind fun x_6 =>
      bif x_6.fUnknown then
        ((law09_wakes n).bind fun x_7 =>
        some (.br (.inl (x_7))))
      else
        need (inR .i64 (s_1 + 1)) <|
        some (.nx (s_1 + 1)))
    else
      some (.br (.inr ()))
def law09_SchemaNone (n : Nat) (d0 : List UInt8) (d1 : List T_api_Given) (d2 : List T_api_Given) : Option Bool :=
  ((bif (decide ((200 : Int) < (d0.length : Int))) then
      (some ((true)))
    else
      (ref09_Great n d1).bind fun x_1 =>
      bif x_1 then
        (some ((true)))
      else
        (ref09_Great n d2).bind fun x_2 =>
        some ((x_2)) : Option Bool)).bind fun y_1 =>
  bif y_1 then
    ((law09_wakes n).bind fun x_3 =>
    some ((x_3)))
  else
    (schema_Differ n d0 d1 d2).bind fun x_4 =>
    (schema_Differ n d0 d2 d1).bind fun x_5 =>
    need ((([] : List T_api_Given).length + d1.length) * 104 ≤ 140737488355328) <|
    need (((([] : List T_api_Given) ++ d1).length + d2.length) * 104 ≤ 140737488355328) <|
    (loopF (law09_SchemaNone_s1 n d1 d2) n (0 : Int)).bind fun b_2 =>
    (match b_2 with 
    | .inl y_2 => some ((y_2)) 
    | .inr y_3 => bif (!(decide (x_4.2 = 0))) then
        (((bif (!(decide (x_5.2 = 0))) then
            ((law09_wakes n).bind fun x_8 =>
            some ((x_8)))
          else
            some ((false)) : Option Bool)).bind fun y_4 =>
        some ((y_4)))
      else
        bif (decide (x_5.2 = 0)) then
          (bif (decide (x_4.1 = x_5.1)) then
            ((schema_Same n d1 d2).bind fun x_9 =>
            bif ((decide (x_4.1 = 0)) == x_9) then
              ((law09_wakes n).bind fun x_10 =>
              some ((x_10)))
            else
              some ((false)))
          else
            some ((false)))
        else
          some ((false)))
set_option maxHeartbeats 2000000 in
theorem law09_SchemaNone_ok (n : Nat) (M : Mem) (hG : GL M) (d0 : List UInt8) (A1 : Option Addr) (cap1 : Nat) (d1 : List T_api_Given) (h1 : Sli M 8 emb_T_api_Given A1 cap1 d1) (A2 : Option Addr) (cap2 : Nat) (d2 : List T_api_Given) (h2 : Sli M 8 emb_T_api_Given A2 cap2 d2) (r : Bool) (hF : law09_SchemaNone n d0 d1 d2 = some r) : Ok Tryd.prog M 8 [S d0, .slice A1 d1.length cap1, .slice A2 d2.length cap2] (fun _ v => v = .bool r) := by
  unfold law09_SchemaNone at hF
  intro M1 hM0 w0 H w p0
  replace hG := GL.mono hM0 hG
  replace h1 := h1.mono hM0
  replace h2 := h2.mono hM0
  refine R_enter 78 Tryd.func8 rfl rfl (by simp) (fun a0 f0 => ?_)
  refine R_seq (R_reg ?_)
  refine V_run f0 1 (by kernel_rfl) (fun a_1 f_1 => ?_)
  refine W_end rfl (T_n (R_seq (R_seq ?_)))
  obtain ⟨j_1, hj_1, hF_1⟩ := bind_some' hF
  refine R_mid (fun a_11 w_3 => ∃ y_1 : Bool, j_1 = y_1 ∧ ∃ M_1 : Mem, M1.le M_1 ∧ Frm 78 [(0, S d0), (1, .slice A1 d1.length cap1), (2, .slice A2 d2.length cap2), (23, .bool y_1)] a_11 ∧ Hp w0 M_1 (H) w_3) ?_ ?_
  · refine R_reg ?_
    refine V_run f_1 4 (by kernel_rfl) (fun a_2 f_2 => ?_)
    rcases Bool.eq_false_or_eq_true (decide ((200 : Int) < (d0.length : Int))) with h_1 | h_1
    · have k_1 : (200 : Int) < (d0.length : Int) := decide_eq_true_iff.1 h_1
      have hF_2 := cnd_t h_1 hj_1
      have f_3 := Frm.set f_2 16 (v := .bool (decide ((200 : Int) < (d0.length : Int)))) (v' := .bool true) (by kernel_rfl) (congrArg Value.bool h_1)
      refine V_run f_3 7 (by kernel_rfl) (fun a_3 f_4 => ?_)
      refine W_end rfl (T_n ?_)
      exact ⟨(true), (Option.some.inj hF_2).symm, M1, (Mem.le_refl _), f_4.keep (ks := [0, 1, 2, 23]) (by kernel_rfl), p0⟩
    · have k_2 : ¬ ((200 : Int) < (d0.length : Int)) := iff_f decide_eq_true_iff h_1
      have hF_3 := cnd_f h_1 hj_1
      have f_5 := Frm.set f_2 16 (v := .bool (decide ((200 : Int) < (d0.length : Int)))) (v' := .bool false) (by kernel_rfl) (congrArg Value.bool h_1)
      refine V_run f_5 1 (by kernel_rfl) (fun a_4 f_6 => ?_)
      obtain ⟨x_1, hx_1, hF_4⟩ := bind_some' hF_3
      refine V_okv f_6 p0 (ref09_Great_ok n _ hG A1 cap1 d1 h1 x_1 hx_1) (by kernel_rfl) (fun _ => by kernel_rfl) (fun w_1 p_1 a_5 f_7 => ?_)
      refine V_run f_7 2 (by kernel_rfl) (fun a_6 f_8 => ?_)
      rcases Bool.eq_false_or_eq_true (x_1) with h_2 | h_2
      · have hF_5 := cnd_t h_2 hF_4
        have f_9 := Frm.set f_8 20 (v := .bool x_1) (v' := .bool true) (by kernel_rfl) (congrArg Value.bool h_2)
        refine V_run f_9 3 (by kernel_rfl) (fun a_7 f_10 => ?_)
        refine W_end rfl (T_n ?_)
        exact ⟨(true), (Option.some.inj hF_5).symm, M1, (Mem.le_refl _), f_10.keep (ks := [0, 1, 2, 23]) (by kernel_rfl), p_1⟩
      · have hF_6 := cnd_f h_2 hF_4
        have f_11 := Frm.set f_8 20 (v := .bool x_1) (v' := .bool false) (by kernel_rfl) (congrArg Value.bool h_2)
        refine V_run f_11 1 (by kernel_rfl) (fun a_8 f_12 => ?_)
        obtain ⟨x_2, hx_2, hF_7⟩ := bind_some' hF_6
        refine V_okv f_12 p_1 (ref09_Great_ok n _ hG A2 cap2 d2 h2 x_2 hx_2) (by kernel_rfl) (fun _ => by kernel_rfl) (fun w_2 p_2 a_9 f_13 => ?_)
        refine V_run f_13 1 (by kernel_rfl) (fun a_10 f_14 => ?_)
        refine W_end rfl (T_n ?_)
        exact ⟨(x_2), (Option.some.inj hF_7).symm, M1, (Mem.le_refl _), f_14.keep (ks := [0, 1, 2, 23]) (by kernel_rfl), p_2⟩
  · rintro a_11 w_3 ⟨y_1, hq_1, M_1, hM_1, f_15, p_3⟩
    subst j_1
    refine T_n ?_
    refine R_cond f_15 (b := y_1) (by kernel_rfl) (by kernel_rfl) (fun h_3 => ?_) (fun h_3 => ?_)
    · have hF_8 := cnd_t h_3 hF_1
      refine R_seq (R_reg ?_)
      obtain ⟨x_3, hx_3, hF_9⟩ := bind_some' hF_8
      refine V_okv f_15 p_3 (law09_wakes_ok n _ (GL.mono hM_1 hG) x_3 hx_3) (by kernel_rfl) (fun _ => by kernel_rfl) (fun w_4 p_4 a_12 f_16 => ?_)
      refine V_run f_16 1 (by kernel_rfl) (fun a_13 f_17 => ?_)
      refine W_end rfl (T_n (wp_ret (T_r ?_)))
      refine E_ret1 f_17 rfl (by kernel_rfl : Vc.look _ 6 = some (.bool x_3)) ?_
      obtain rfl := Option.some.inj hF_9
      exact ⟨_, rfl, M_1, hM_1, p_4, rfl⟩
    · have hF_10 := cnd_f h_3 hF_1
      refine wp_skip (T_n (R_seq (R_reg ?_)))
      refine V_run f_15 3 (by kernel_rfl) (fun a_14 f_18 => ?_)
      obtain ⟨x_4, hx_4, hF_11⟩ := bind_some' hF_10
      refine V_okv f_18 p_3 (schema_Differ_ok n _ (GL.mono hM_1 hG) d0 A1 cap1 d1 (h1.mono hM_1) A2 cap2 d2 (h2.mono hM_1) x_4 hx_4) (by kernel_rfl) (fun _ => by kernel_rfl) (fun w_5 p_5 a_15 f_19 => ?_)
      refine V_run f_19 5 (by kernel_rfl) (fun a_16 f_20 => ?_)
      refine W_end rfl (T_n (R_seq (R_reg ?_)))
      refine V_run f_20 3 (by kernel_rfl) (fun a_17 f_21 => ?_)
      obtain ⟨x_5, hx_5, hF_12⟩ := bind_some' hF_11
      refine V_okv f_21 p_5 (schema_Differ_ok n _ (GL.mono hM_1 hG) d0 A2 cap2 d2 (h2.mono hM_1) A1 cap1 d1 (h1.mono hM_1) x_5 hx_5) (by kernel_rfl) (fun _ => by kernel_rfl) (fun w_6 p_6 a_18 f_22 => ?_)
      refine V_run f_22 5 (by kernel_rfl) (fun a_19 f_23 => ?_)
      refine W_end rfl (T_n (R_seq (R_seq (R_reg ?_))))
      refine V_allocS (k := 0) (c := 0) f_23 p_6 (.cells #[] 35 (0, 0)) (by kernel_rfl) (fun _ => by kernel_rfl) (fun b_1 w_7 p_7 a_20 f_24 => ?_)
      refine V_run f_24 1 (by kernel_rfl) (fun a_21 f_25 => ?_)
      have hr_1 : RepSeq M_1 (([] : List T_api_Given).map emb_T_api_Given) [] := rfl
      have p_8 : Hp w0 M_1 ((Ent.row 35 8 (.slice (some ⟨b_1, 0, none⟩) 0 0) ([] : List T_api_Given).length []) :: H) w_7 := p_7.objRow (n := 0) (cap := 0) (size := 8) (by decide) (by decide) rfl rfl rfl
      obtain ⟨g_1, hF_13⟩ := need_some hF_12
      refine W_appendS (z := .agg #[S [], .bool false, .int .i8 0, .bool false, .int .i64 0, S [], .slice none 0 0, .slice none 0 0]) (f := emb_T_api_Given) (xs := ([] : List T_api_Given)) (ys := d1) (c := cap1) f_25 p_8 hr_1 (h1.mono hM_1) (by kernel_rfl) (by kernel_rfl) rfl rfl rfl (by kernel_rfl) (by kernel_rfl) (by kernel_rfl) (by kernel_rfl) g_1 (by omega) (fun A_1 cap_1 cs_1 w_8 p_9 hr_2 a_22 f_26 => ?_)
      refine V_run f_26 1 (by kernel_rfl) (fun a_23 f_27 => ?_)
      obtain ⟨g_2, hF_14⟩ := need_some hF_13
      refine W_appendS (z := .agg #[S [], .bool false, .int .i8 0, .bool false, .int .i64 0, S [], .slice none 0 0, .slice none 0 0]) (f := emb_T_api_Given) (xs := ([] : List T_api_Given) ++ d1) (ys := d2) (c := cap2) f_27 p_9 hr_2 (h2.mono hM_1) (by kernel_rfl) (by kernel_rfl) rfl rfl rfl (by kernel_rfl) (by kernel_rfl) (by kernel_rfl) (by kernel_rfl) g_2 (by omega) (fun A_2 cap_2 cs_2 w_9 p_10 hr_3 a_24 f_28 => ?_)
      refine V_run f_28 2 (by kernel_rfl) (fun a_25 f_29 => ?_)
      refine W_end rfl (T_n (wp_block ?_))
      obtain ⟨b_2, hL_1, hF_15⟩ := bind_some' hF_14
      refine wp_mono (Q := fun e a w => (e = .ret ∧ (∃ y_2 : Bool, b_2 = .inl y_2 ∧ ∃ M_3 : Mem, M_1.le M_3 ∧ Frm 78 [(6, .bool y_2)] a ∧ Hp w0 M_3 ((Ent.row 35 8 (.slice A_2 ((([] : List T_api_Given) ++ d1) ++ d2).length cap_2) ((([] : List T_api_Given) ++ d1) ++ d2).length cs_2) :: H) w)) ∨ (e = .exit 0 ∧ (∃ y_3 : Unit, b_2 = .inr y_3 ∧ ∃ M_4 : Mem, M_1.le M_4 ∧ Frm 78 [(1, .slice A1 d1.length cap1), (2, .slice A2 d2.length cap2), (7, .int .i8 x_4.1), (8, .int .i64 x_4.2), (9, .int .i8 x_5.1), (10, .int .i64 x_5.2)] a ∧ Hp w0 M_4 ((Ent.row 35 8 (.slice A_2 ((([] : List T_api_Given) ++ d1) ++ d2).length cap_2) ((([] : List T_api_Given) ++ d1) ++ d2).length cs_2) :: H) w))) (R_loop (n := 78) (w0 := w0) (M := M_1) (fun (x : Nat × Int) => match x with | (m_1, s_1) => [(1, .slice A1 d1.length cap1), (2, .slice A2 d2.length cap2), (7, .int .i8 x_4.1), (8, .int .i64 x_4.2), (9, .int .i8 x_5.1), (10, .int .i64 x_5.2), (43, .slice A_2 ((([] : List T_api_Given) ++ d1) ++ d2).length cap_2), (44, .int .i64 ((((([] : List T_api_Given) ++ d1) ++ d2).length : Nat) : Int)), (45, .int .i64 s_1)]) (fun (x : Nat × Int) => match x with | (m_1, s_1) => ((Ent.row 35 8 (.slice A_2 ((([] : List T_api_Given) ++ d1) ++ d2).length cap_2) ((([] : List T_api_Given) ++ d1) ++ d2).length cs_2) :: H)) (fun (x : Nat × Int) (MM : Mem) => match x with | (m_1, s_1) => loopF (law09_SchemaNone_s1 n d1 d2) m_1 s_1 = some b_2) (fun (x : Nat × Int) => match x with | (m_1, s_1) => m_1) (n, (0 : Int)) (f_29.keep (ks := [1, 2, 7, 8, 9, 10, 43, 44, 45]) (by kernel_rfl)) p_10 hL_1 ?_) ?_
      · rintro ⟨m_1, s_1⟩ M_2 a_26 w_10 hM_2 I_1 f_30 p_11
        have I_1L := I_1
        obtain ⟨m_2, r_1, rfl, hs_1, hn_1⟩ := loop_step I_1L
        unfold law09_SchemaNone_s1 at hs_1
        refine R_seq (R_reg ?_)
        refine V_run f_30 1 (by kernel_rfl) (fun a_27 f_31 => ?_)
        refine W_end rfl (T_n (R_seq ?_))
        refine R_cond f_31 (b := decide (s_1 < ((((([] : List T_api_Given) ++ d1) ++ d2).length : Nat) : Int))) (by kernel_rfl) (by kernel_rfl) (fun h_4 => ?_) (fun h_4 => ?_)
        · have k_7 : s_1 < ((((([] : List T_api_Given) ++ d1) ++ d2).length : Nat) : Int) := decide_eq_true_iff.1 h_4
          have hF_16 := cnd_t h_4 hs_1
          refine wp_skip (T_n (R_seq (wp_block (R_seq (R_reg ?_)))))
          obtain ⟨x_6, hx_6, hF_17⟩ := bind_some' hF_16
          obtain ⟨b_3, cap_3, hv_1, hcap_1⟩ := p_11.rowAddr 0 rfl (getI_pos hx_6)
          have f_32 := Frm.set f_31 43 (v := .slice A_2 ((([] : List T_api_Given) ++ d1) ++ d2).length cap_2) (v' := .slice (some ⟨b_3, 0, none⟩) ((([] : List T_api_Given) ++ d1) ++ d2).length cap_3) (by kernel_rfl) (hv_1)
          refine V_eq (v := .pointer (some ((⟨b_3, 0, none⟩ : Addr).add (s_1.toNat * 8)))) f_32 (by kernel_rfl) (X_indexAddr rfl (ad := ⟨b_3, 0, none⟩) (len := ((([] : List T_api_Given) ++ d1) ++ d2).length) (cap := cap_3) (k := .i64) (i := s_1) (by kernel_rfl) (by kernel_rfl) (e := 35) (by kernel_rfl) (sz := 8) (by kernel_rfl) (getI_nn hx_6) (getI_lt hx_6)) (fun a_28 f_33 => ?_)
          have f_34 := Frm.set f_33 43 (v := .slice (some ⟨b_3, 0, none⟩) ((([] : List T_api_Given) ++ d1) ++ d2).length cap_3) (v' := .slice A_2 ((([] : List T_api_Given) ++ d1) ++ d2).length cap_2) (by kernel_rfl) (hv_1.symm)
          obtain ⟨c_1, hl_1, hr_4, hc_1⟩ := RepSeq.get s_1.toNat (szd_all szd_T_api_Given) (RepSeq.mono hM_2 _ _ hr_3) (getI_map hx_6)
          clear hl_1
          obtain ⟨A_3, cap_4, A_4, cap_5, rfl, h_5, h_6⟩ := T_api_Given.opn hr_4
          refine V_eq (v := .agg #[S x_6.fName, .bool x_6.fUnknown, .int .i8 x_6.fV.fKind, .bool x_6.fV.fBool, .int .i64 x_6.fV.fNum, S x_6.fV.fText, .slice A_3 x_6.fV.fList.length cap_4, .slice A_4 x_6.fV.fKeys.length cap_5]) f_34 (by kernel_rfl) (X_loadN (cs := [S x_6.fName, .bool x_6.fUnknown, .int .i8 x_6.fV.fKind, .bool x_6.fV.fBool, .int .i64 x_6.fV.fNum, S x_6.fV.fText, .slice A_3 x_6.fV.fList.length cap_4, .slice A_4 x_6.fV.fKeys.length cap_5]) rfl (ad := (⟨b_3, 0, none⟩ : Addr).add (s_1.toNat * 8)) (by kernel_rfl) (by kernel_rfl) (fun j v h => row_at (p_11.rowCell 0 rfl hv_1) hc_1 j v h)) (fun a_29 f_35 => ?_)
          refine V_alloc f_35 p_11 (.cells #[S [], .bool false, .int .i8 0, .bool false, .int .i64 0, S [], .slice none 0 0, .slice none 0 0] 35 (0, 0)) (by kernel_rfl) (fun _ => by kernel_rfl) (fun b_4 w_11 p_12 a_30 f_36 => ?_)
          refine W_storeN (vs := [S x_6.fName, .bool x_6.fUnknown, .int .i8 x_6.fV.fKind, .bool x_6.fV.fBool, .int .i64 x_6.fV.fNum, S x_6.fV.fText, .slice A_3 x_6.fV.fList.length cap_4, .slice A_4 x_6.fV.fKeys.length cap_5]) (j := 0) f_36 p_12 (by kernel_rfl) (by kernel_rfl) rfl rfl (by kernel_rfl) (by kernel_rfl) (by simp [Value.oneCell', S]) (by kernel_rfl) (by simp) (by decide) (cs' := #[S x_6.fName, .bool x_6.fUnknown, .int .i8 x_6.fV.fKind, .bool x_6.fV.fBool, .int .i64 x_6.fV.fNum, S x_6.fV.fText, .slice A_3 x_6.fV.fList.length cap_4, .slice A_4 x_6.fV.fKeys.length cap_5]) rfl (fun w_12 p_13 a_31 f_37 => ?_)
          refine W_end rfl (T_n (R_seq (R_reg ?_)))
          refine V_run f_37 1 (by kernel_rfl) (fun a_32 f_38 => ?_)
          refine V_eq (v := .bool x_6.fUnknown) f_38 (by kernel_rfl) (X_load1 (v := .bool x_6.fUnknown) rfl (ad := ⟨b_4, 1, none⟩) (by kernel_rfl) (by kernel_rfl) (p_13.ownCell 0 rfl 1)) (fun a_33 f_39 => ?_)
          refine W_end rfl (T_n ?_)
          refine R_cond f_39 (b := x_6.fUnknown) (by kernel_rfl) (by kernel_rfl) (fun h_7 => ?_) (fun h_7 => ?_)
          · have hF_18 := cnd_t h_7 hF_17
            refine R_seq (R_reg ?_)
            obtain ⟨x_7, hx_7, hF_19⟩ := bind_some' hF_18
            refine V_okv f_39 p_13 (law09_wakes_ok n _ (GL.mono (hM_1.trans hM_2) hG) x_7 hx_7) (by kernel_rfl) (fun _ => by kernel_rfl) (fun w_13 p_14 a_34 f_40 => ?_)
            refine V_run f_40 1 (by kernel_rfl) (fun a_35 f_41 => ?_)
            refine W_end rfl (T_n (wp_ret (B_r (T_r (T_r ?_)))))
            obtain rfl := Option.some.inj hF_19
            exact .inl ⟨rfl, (x_7), (Option.some.inj hn_1).symm, M_2, hM_2, f_41.keep (ks := [6]) (by kernel_rfl), (p_14.dropN 1)⟩
          · have hF_20 := cnd_f h_7 hF_17
            refine wp_skip (B_n (T_n (R_reg ?_)))
            obtain ⟨g_3, hF_21⟩ := need_some hF_20
            refine V_run f_39 1 (by kernel_rfl) (fun a_36 f_42 => ?_)
            have f_43 := Frm.set f_42 52 (v := .int .i64 (IntKind.wrap .i64 (s_1 + 1))) (v' := .int .i64 (s_1 + 1)) (by kernel_rfl) (congrArg (Value.int .i64) (inR_wrap g_3))
            refine V_run f_43 1 (by kernel_rfl) (fun a_37 f_44 => ?_)
            refine W_end rfl (T_n ?_)
            obtain rfl := Option.some.inj hF_21
            exact ⟨⟨m_2, s_1 + 1⟩, Nat.lt_succ_self _, M_2, hM_2, hn_1, f_44.keep (ks := [1, 2, 7, 8, 9, 10, 43, 44, 45]) (by kernel_rfl), (p_13.dropN 1)⟩
        · have k_10 : ¬ (s_1 < ((((([] : List T_api_Given) ++ d1) ++ d2).length : Nat) : Int)) := iff_f decide_eq_true_iff h_4
          have hF_22 := cnd_f h_4 hs_1
          refine wp_exit (T_x (T_x ?_))
          obtain rfl := Option.some.inj hF_22
          exact .inr ⟨rfl, (), (Option.some.inj hn_1).symm, M_2, hM_2, f_31.keep (ks := [1, 2, 7, 8, 9, 10]) (by kernel_rfl), p_11⟩
      · rintro _ a_40 w_16 (⟨rfl, y_2, rfl, M_3, hM_3, f_45, p_15⟩ | ⟨rfl, y_3, rfl, M_4, hM_4, f_46, p_16⟩)
        · refine B_r (T_r ?_)
          refine E_ret1 f_45 rfl (by kernel_rfl : Vc.look _ 6 = some (.bool y_2)) ?_
          obtain rfl := Option.some.inj hF_15
          exact ⟨_, rfl, M_3, (hM_1.trans hM_3), (p_15.dropN 1), rfl⟩
        · refine B_x (T_n (R_seq (R_seq (R_reg ?_))))
          refine V_run f_46 2 (by kernel_rfl) (fun a_41 f_47 => ?_)
          refine W_end rfl (T_n ?_)
          refine R_cond f_47 (b := !(decide (x_4.2 = 0))) (by kernel_rfl) (by kernel_rfl) (fun h_8 => ?_) (fun h_8 => ?_)
          · have k_11 : ¬ (x_4.2 = 0) := (not_iff decide_eq_true_iff).1 h_8
            have hF_23 := cnd_t h_8 hF_15
            refine R_seq ?_
            obtain ⟨j_2, hj_2, hF_24⟩ := bind_some' hF_23
            refine R_mid (fun a_46 w_18 => ∃ y_4 : Bool, j_2 = y_4 ∧ ∃ M_5 : Mem, M_4.le M_5 ∧ Frm 78 [(6, .bool y_4)] a_46 ∧ Hp w0 M_5 ((Ent.row 35 8 (.slice A_2 ((([] : List T_api_Given) ++ d1) ++ d2).length cap_2) ((([] : List T_api_Given) ++ d1) ++ d2).length cs_2) :: H) w_18) ?_ ?_
            · refine R_reg ?_
              refine V_run f_47 3 (by kernel_rfl) (fun a_42 f_48 => ?_)
              rcases Bool.eq_false_or_eq_true (!(decide (x_5.2 = 0))) with h_9 | h_9
              · have k_12 : ¬ (x_5.2 = 0) := (not_iff decide_eq_true_iff).1 h_9
                have hF_25 := cnd_t h_9 hj_2
                have f_49 := Frm.set f_48 57 (v := .bool (!(decide (x_5.2 = 0)))) (v' := .bool true) (by kernel_rfl) (congrArg Value.bool h_9)
                obtain ⟨x_8, hx_8, hF_26⟩ := bind_some' hF_25
                refine V_okv f_49 p_16 (law09_wakes_ok n _ (GL.mono (hM_1.trans hM_4) hG) x_8 hx_8) (by kernel_rfl) (fun _ => by kernel_rfl) (fun w_17 p_17 a_43 f_50 => ?_)
                refine V_run f_50 2 (by kernel_rfl) (fun a_44 f_51 => ?_)
                refine W_end rfl (T_n ?_)
                exact ⟨(x_8), (Option.some.inj hF_26).symm, M_4, (Mem.le_refl _), f_51.keep (ks := [6]) (by kernel_rfl), p_17⟩
              · have k_13 : ¬ (¬ (x_5.2 = 0)) := iff_f (not_iff decide_eq_true_iff) h_9
                have hF_27 := cnd_f h_9 hj_2
                have f_52 := Frm.set f_48 57 (v := .bool (!(decide (x_5.2 = 0)))) (v' := .bool false) (by kernel_rfl) (congrArg Value.bool h_9)
                refine V_run f_52 3 (by kernel_rfl) (fun a_45 f_53 => ?_)
                refine W_end rfl (T_n ?_)
                exact ⟨(false), (Option.some.inj hF_27).symm, M_4, (Mem.le_refl _), f_53.keep (ks := [6]) (by kernel_rfl), p_16⟩
            · rintro a_46 w_18 ⟨y_4, hq_2, M_5, hM_5, f_54, p_18⟩
              subst j_2
              refine T_n (wp_ret (T_r ?_))
              refine E_ret1 f_54 rfl (by kernel_rfl : Vc.look _ 6 = some (.bool y_4)) ?_
              obtain rfl := Option.some.inj hF_24
              exact ⟨_, rfl, M_5, ((hM_1.trans hM_4).trans hM_5), (p_18.dropN 1), rfl⟩
          · have k_14 : ¬ (¬ (x_4.2 = 0)) := iff_f (not_iff decide_eq_true_iff) h_8
            have hF_28 := cnd_f h_8 hF_15
            refine wp_skip (T_n (R_seq (R_reg ?_)))
            refine V_run f_47 3 (by kernel_rfl) (fun a_47 f_55 => ?_)
            rcases Bool.eq_false_or_eq_true (decide (x_5.2 = 0)) with h_10 | h_10
            · have k_15 : x_5.2 = 0 := decide_eq_true_iff.1 h_10
              have hF_29 := cnd_t h_10 hF_28
              have f_56 := Frm.set f_55 62 (v := .bool (decide (x_5.2 = 0))) (v' := .bool true) (by kernel_rfl) (congrArg Value.bool h_10)
              refine V_run f_56 5 (by kernel_rfl) (fun a_48 f_57 => ?_)
              rcases Bool.eq_false_or_eq_true (decide (x_4.1 = x_5.1)) with h_11 | h_11
              · have k_16 : x_4.1 = x_5.1 := decide_eq_true_iff.1 h_11
                have hF_30 := cnd_t h_11 hF_29
                have f_58 := Frm.set f_57 67 (v := .bool (decide (x_4.1 = x_5.1))) (v' := .bool true) (by kernel_rfl) (congrArg Value.bool h_11)
                refine V_run f_58 4 (by kernel_rfl) (fun a_49 f_59 => ?_)
                obtain ⟨x_9, hx_9, hF_31⟩ := bind_some' hF_30
                refine V_okv f_59 p_16 (schema_Same_ok n _ (GL.mono (hM_1.trans hM_4) hG) A1 cap1 d1 (h1.mono (hM_1.trans hM_4)) A2 cap2 d2 (h2.mono (hM_1.trans hM_4)) x_9 hx_9) (by kernel_rfl) (fun _ => by kernel_rfl) (fun w_19 p_19 a_50 f_60 => ?_)
                refine V_run f_60 3 (by kernel_rfl) (fun a_51 f_61 => ?_)
                rcases Bool.eq_false_or_eq_true ((decide (x_4.1 = 0)) == x_9) with h_12 | h_12
                · have hF_32 := cnd_t h_12 hF_31
                  have f_62 := Frm.set f_61 75 (v := .bool ((decide (x_4.1 = 0)) == x_9)) (v' := .bool true) (by kernel_rfl) (congrArg Value.bool h_12)
                  obtain ⟨x_10, hx_10, hF_33⟩ := bind_some' hF_32
                  refine V_okv f_62 p_19 (law09_wakes_ok n _ (GL.mono (hM_1.trans hM_4) hG) x_10 hx_10) (by kernel_rfl) (fun _ => by kernel_rfl) (fun w_20 p_20 a_52 f_63 => ?_)
                  refine V_run f_63 2 (by kernel_rfl) (fun a_53 f_64 => ?_)
                  refine W_end rfl (T_n (wp_ret ?_))
                  refine E_ret1 f_64 rfl (by kernel_rfl : Vc.look _ 6 = some (.bool x_10)) ?_
                  obtain rfl := Option.some.inj hF_33
                  exact ⟨_, rfl, M_4, (hM_1.trans hM_4), (p_20.dropN 1), rfl⟩
                · have hF_34 := cnd_f h_12 hF_31
                  have f_65 := Frm.set f_61 75 (v := .bool ((decide (x_4.1 = 0)) == x_9)) (v' := .bool false) (by kernel_rfl) (congrArg Value.bool h_12)
                  refine V_run f_65 3 (by kernel_rfl) (fun a_54 f_66 => ?_)
                  refine W_end rfl (T_n (wp_ret ?_))
                  refine E_ret1 f_66 rfl (by kernel_rfl : Vc.look _ 6 = some (.bool false)) ?_
                  obtain rfl := Option.some.inj hF_34
                  exact ⟨_, rfl, M_4, (hM_1.trans hM_4), (p_19.dropN 1), rfl⟩
              · have k_19 : ¬ (x_4.1 = x_5.1) := iff_f decide_eq_true_iff h_11
                have hF_35 := cnd_f h_11 hF_29
                have f_67 := Frm.set f_57 67 (v := .bool (decide (x_4.1 = x_5.1))) (v' := .bool false) (by kernel_rfl) (congrArg Value.bool h_11)
                refine V_run f_67 11 (by kernel_rfl) (fun a_55 f_68 => ?_)
                refine W_end rfl (T_n (wp_ret ?_))
                refine E_ret1 f_68 rfl (by kernel_rfl : Vc.look _ 6 = some (.bool false)) ?_
                obtain rfl := Option.some.inj hF_35
                exact ⟨_, rfl, M_4, (hM_1.trans hM_4), (p_16.dropN 1), rfl⟩
            · have k_20 : ¬ (x_5.2 = 0) := iff_f decide_eq_true_iff h_10
              have hF_36 := cnd_f h_10 hF_28
              have f_69 := Frm.set f_55 62 (v := .bool (decide (x_5.2 = 0))) (v' := .bool false) (by kernel_rfl) (congrArg Value.bool h_10)
              refine V_run f_69 16 (by kernel_rfl) (fun a_56 f_70 => ?_)
              refine W_end rfl (T_n (wp_ret ?_))
              refine E_ret1 f_70 rfl (by kernel_rfl : Vc.look _ 6 = some (.bool false)) ?_
              obtain rfl := Option.some.inj hF_36
              exact ⟨_, rfl, M_4, (hM_1.trans hM_4), (p_16.dropN 1), rfl⟩
end Go.Proofs.YtalifkcchfkgmaaDoor
