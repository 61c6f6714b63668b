/-
  Printed by a program: of each function its shallow reading, and the proof that the function gives what the reading gives. No condition.
-/
import Derived.Test.YtalifkcchfkgmaaDoorVkF
import Derived.Test.YtalifkcchfkgmaaDoorRows
import Derived.Test.YtalifkcchfkgmaaDoorTy
set_option linter.unusedVariables false
set_option linter.unusedSimpArgs false
namespace Go.Proofs.YtalifkcchfkgmaaDoor
open Go Go.Vc Go.RowKit
def ref01_One_s1 (n : Nat) (d0 : List UInt8) (d1 : Int) (y_5 : Int × Int × Int) (s_1 : Int × Int) : Option (Lp (Int × Int) (Sum Unit Int)) :=
    bif (decide (s_1.2 < y_5.1)) then
      (need (inR .i64 (d1 + s_1.2)) <|
      (getI d0 (d1 + s_1.2)).bind fun c_2 =>
      ((bif (decide (((c_2).toNat : Int) < 128)) then
          (some ((true)))
        else
          some ((decide ((191 : Int) < ((c_2).toNat : Int)))) : Option Bool)).bind fun y_6 =>
      bif y_6 then
        (some (.br (.inl ())))
      else
        need (inR .i64 ((64 : Int) * s_1.1)) <|
        need (inR .i64 (((64 : Int) * s_1.1) + ((c_2).toNat : Int))) <|
        need (inR .i64 ((((64 : Int) * s_1.1) + ((c_2).toNat : Int)) - 128)) <|
        need (inR .i64 (s_1.2 + 1)) <|
        some (.nx ((((64 : Int) * s_1.1) + ((c_2).toNat : Int)) - 128, s_1.2 + 1)))
    else
      some (.br (.inr s_1.1))
def ref01_One (n : Nat) (d0 : List UInt8) (d1 : Int) : Option (Int × Int) :=
  ((bif (decide (d1 < 0)) then
      (some ((true)))
    else
      some ((decide ((d0.length : Int) ≤ d1))) : Option Bool)).bind fun y_1 =>
  bif y_1 then
    (some (((0 : Int), (0 : Int))))
  else
    (getI d0 d1).bind fun c_1 =>
    ((bif (decide (((c_1).toNat : Int) < 128)) then
        (((some ((((c_1).toNat : Int), (1 : Int))) : Option (Int × Int))).map Lp.br)
      else
        ((bif (decide ((192 : Int) ≤ ((c_1).toNat : Int))) then
            (some ((decide (((c_1).toNat : Int) < 224))))
          else
            some ((false)) : Option Bool)).bind fun y_2 =>
        bif y_2 then
          (some (.nx ((2 : Int), bAnd .i64 ((c_1).toNat : Int) (31 : Int), (128 : Int))))
        else
          ((bif (decide ((224 : Int) ≤ ((c_1).toNat : Int))) then
              (some ((decide (((c_1).toNat : Int) < 240))))
            else
              some ((false)) : Option Bool)).bind fun y_3 =>
          bif y_3 then
            (some (.nx ((3 : Int), bAnd .i64 ((c_1).toNat : Int) (15 : Int), (2048 : Int))))
          else
            ((bif (decide ((240 : Int) ≤ ((c_1).toNat : Int))) then
                (some ((decide (((c_1).toNat : Int) < 248))))
              else
                some ((false)) : Option Bool)).bind fun y_4 =>
            bif y_4 then
              (some (.nx ((4 : Int), bAnd .i64 ((c_1).toNat : Int) (7 : Int), (65536 : Int))))
            else
              ((some (((0 : Int), (0 : Int))) : Option (Int × Int))).map Lp.br : Option (Lp (Int × Int × Int) (Int × Int)))).bind fun j => joinF j fun y_5 =>
    need (inR .i64 (d1 + y_5.1)) <|
    bif (decide ((d0.length : Int) < (d1 + y_5.1))) then
      (some (((0 : Int), (0 : Int))))
    else
      (loopF (ref01_One_s1 n d0 d1 y_5) n (y_5.2.1, (1 : Int))).bind fun b_1 =>
      (match b_1 with 
      | .inl y_7 => some (((0 : Int), (0 : Int))) 
      | .inr y_8 => ((bif (decide (y_8 < y_5.2.2)) then
            (some ((true)))
          else
            bif (decide ((1114111 : Int) < y_8)) then
              (some ((true)))
            else
              bif (decide ((55296 : Int) ≤ y_8)) then
                (some ((decide (y_8 ≤ 57343))))
              else
                some ((false)) : Option Bool)).bind fun y_9 =>
        bif y_9 then
          (some (((0 : Int), (0 : Int))))
        else
          some ((y_8, y_5.1)))
set_option maxHeartbeats 2000000 in
theorem ref01_One_ok (n : Nat) (M : Mem) (d0 : List UInt8) (d1 : Int) (r : Int × Int) (hF : ref01_One n d0 d1 = some r) : Ok Tryd.prog M 108 [S d0, .int .i64 d1] (fun _ v => v = .tuple #[.int .i64 r.1, .int .i64 r.2]) := by
  unfold ref01_One at hF
  intro M1 hM0 w0 H w p0
  refine R_enter 101 Tryd.func108 rfl rfl (by simp) (fun a0 f0 => ?_)
  refine R_seq (R_reg ?_)
  refine V_run f0 2 (by kernel_rfl) (fun a_1 f_1 => ?_)
  refine W_end rfl (T_n (R_seq (R_seq ?_)))
  obtain ⟨j_1, hj_1, hF_1⟩ := bind_some' hF
  refine R_mid (fun a_5 w_1 => ∃ y_1 : Bool, j_1 = y_1 ∧ ∃ M_1 : Mem, M1.le M_1 ∧ Frm 101 [(0, S d0), (1, .int .i64 d1), (19, .bool y_1)] a_5 ∧ Hp w0 M_1 (H) w_1) ?_ ?_
  · refine R_reg ?_
    refine V_run f_1 3 (by kernel_rfl) (fun a_2 f_2 => ?_)
    rcases Bool.eq_false_or_eq_true (decide (d1 < 0)) with h_1 | h_1
    · have k_1 : d1 < 0 := decide_eq_true_iff.1 h_1
      have hF_2 := cnd_t h_1 hj_1
      have f_3 := Frm.set f_2 14 (v := .bool (decide (d1 < 0))) (v' := .bool true) (by kernel_rfl) (congrArg Value.bool h_1)
      refine V_run f_3 5 (by kernel_rfl) (fun a_3 f_4 => ?_)
      refine W_end rfl (T_n ?_)
      exact ⟨(true), (Option.some.inj hF_2).symm, M1, (Mem.le_refl _), f_4.keep (ks := [0, 1, 19]) (by kernel_rfl), p0⟩
    · have k_2 : ¬ (d1 < 0) := iff_f decide_eq_true_iff h_1
      have hF_3 := cnd_f h_1 hj_1
      have f_5 := Frm.set f_2 14 (v := .bool (decide (d1 < 0))) (v' := .bool false) (by kernel_rfl) (congrArg Value.bool h_1)
      refine V_run f_5 5 (by kernel_rfl) (fun a_4 f_6 => ?_)
      refine W_end rfl (T_n ?_)
      exact ⟨(decide ((d0.length : Int) ≤ d1)), (Option.some.inj hF_3).symm, M1, (Mem.le_refl _), f_6.keep (ks := [0, 1, 19]) (by kernel_rfl), p0⟩
  · rintro a_5 w_1 ⟨y_1, hq_1, M_1, hM_1, f_7, p_1⟩
    subst j_1
    refine T_n ?_
    refine R_cond f_7 (b := y_1) (by kernel_rfl) (by kernel_rfl) (fun h_2 => ?_) (fun h_2 => ?_)
    · have hF_4 := cnd_t h_2 hF_1
      refine R_seq (R_reg ?_)
      refine V_run f_7 2 (by kernel_rfl) (fun a_6 f_8 => ?_)
      refine W_end rfl (T_n (wp_ret (T_r ?_)))
      refine E_ret2 f_8 rfl (by kernel_rfl : Vc.look _ 4 = some (.int .i64 0)) (by kernel_rfl : Vc.look _ 5 = some (.int .i64 0)) ?_
      obtain rfl := Option.some.inj hF_4
      exact ⟨_, rfl, M_1, hM_1, p_1, rfl⟩
    · have hF_5 := cnd_f h_2 hF_1
      refine wp_skip (T_n (R_seq (R_reg ?_)))
      refine V_run f_7 2 (by kernel_rfl) (fun a_7 f_9 => ?_)
      obtain ⟨c_1, hx_1, hF_6⟩ := bind_some' hF_5
      refine V_eq (v := .int .u8 ((d0.getD d1.toNat 0).toNat : Int)) f_9 (by kernel_rfl) (X_strIndex rfl (l := d0) (k := .i64) (i := d1) (by kernel_rfl) (by kernel_rfl) (by kernel_rfl) (getI_nn hx_1) (getI_lt hx_1)) (fun a_8 f_10 => ?_)
      have f_11 := Frm.set f_10 22 (v := .int .u8 ((d0.getD d1.toNat 0).toNat : Int)) (v' := .int .u8 ((c_1).toNat : Int)) (by kernel_rfl) (congrArg (fun c : UInt8 => Value.int .u8 ((c.toNat : Nat) : Int)) (getI_getD hx_1))
      refine V_run f_11 1 (by kernel_rfl) (fun a_9 f_12 => ?_)
      have f_13 := Frm.set f_12 23 (v := .int .i64 (IntKind.wrap .i64 (((c_1).toNat : Int)))) (v' := .int .i64 ((c_1).toNat : Int)) (by kernel_rfl) (congrArg (Value.int .i64) (wrap_byte _ (by simp) _))
      refine V_run f_13 1 (by kernel_rfl) (fun a_10 f_14 => ?_)
      refine W_end rfl (T_n (R_seq (R_reg ?_)))
      refine V_run f_14 4 (by kernel_rfl) (fun a_11 f_15 => ?_)
      refine W_end rfl (T_n (R_seq ?_))
      obtain ⟨j_2, hj_2, hF_7⟩ := bind_some' hF_6
      refine R_mid (fun a_36 w_5 => ∃ y_5 : Int × Int × Int, j_2 = .nx y_5 ∧ ∃ M_5 : Mem, M_1.le M_5 ∧ Frm 101 [(0, S d0), (1, .int .i64 d1), (7, .int .i64 y_5.1), (8, .int .i64 y_5.2.1), (9, .int .i64 y_5.2.2)] a_36 ∧ Hp w0 M_5 (H) w_5) ?_ ?_
      · refine wp_block (R_seq (R_reg ?_))
        refine V_run f_15 3 (by kernel_rfl) (fun a_12 f_16 => ?_)
        refine W_end rfl (T_n ?_)
        refine R_cond f_16 (b := decide (((c_1).toNat : Int) < 128)) (by kernel_rfl) (by kernel_rfl) (fun h_3 => ?_) (fun h_3 => ?_)
        · have k_5 : ((c_1).toNat : Int) < 128 := decide_eq_true_iff.1 h_3
          have hF_8 := cnd_t h_3 hj_2
          refine R_seq (R_reg ?_)
          refine V_run f_16 3 (by kernel_rfl) (fun a_13 f_17 => ?_)
          refine W_end rfl (T_n (wp_ret (B_r ?_)))
          have hF_9 := br_elim hF_8 hF_7
          refine T_r (T_r ?_)
          refine E_ret2 f_17 rfl (by kernel_rfl : Vc.look _ 4 = some (.int .i64 ((c_1).toNat : Int))) (by kernel_rfl : Vc.look _ 5 = some (.int .i64 1)) ?_
          obtain rfl := Option.some.inj hF_9
          exact ⟨_, rfl, M_1, hM_1, p_1, rfl⟩
        · have k_6 : ¬ (((c_1).toNat : Int) < 128) := iff_f decide_eq_true_iff h_3
          have hF_10 := cnd_f h_3 hj_2
          refine R_seq ?_
          obtain ⟨j_3, hj_3, hF_11⟩ := bind_some' hF_10
          refine R_mid (fun a_17 w_2 => ∃ y_2 : Bool, j_3 = y_2 ∧ ∃ M_2 : Mem, M_1.le M_2 ∧ Frm 101 [(0, S d0), (1, .int .i64 d1), (6, .int .i64 ((c_1).toNat : Int)), (29, .bool y_2)] a_17 ∧ Hp w0 M_2 (H) w_2) ?_ ?_
          · refine R_reg ?_
            refine V_run f_16 3 (by kernel_rfl) (fun a_14 f_18 => ?_)
            rcases Bool.eq_false_or_eq_true (decide ((192 : Int) ≤ ((c_1).toNat : Int))) with h_4 | h_4
            · have k_7 : (192 : Int) ≤ ((c_1).toNat : Int) := decide_eq_true_iff.1 h_4
              have hF_12 := cnd_t h_4 hj_3
              have f_19 := Frm.set f_18 32 (v := .bool (decide ((192 : Int) ≤ ((c_1).toNat : Int)))) (v' := .bool true) (by kernel_rfl) (congrArg Value.bool h_4)
              refine V_run f_19 4 (by kernel_rfl) (fun a_15 f_20 => ?_)
              refine W_end rfl (T_n ?_)
              exact ⟨(decide (((c_1).toNat : Int) < 224)), (Option.some.inj hF_12).symm, M_1, (Mem.le_refl _), f_20.keep (ks := [0, 1, 6, 29]) (by kernel_rfl), p_1⟩
            · have k_8 : ¬ ((192 : Int) ≤ ((c_1).toNat : Int)) := iff_f decide_eq_true_iff h_4
              have hF_13 := cnd_f h_4 hj_3
              have f_21 := Frm.set f_18 32 (v := .bool (decide ((192 : Int) ≤ ((c_1).toNat : Int)))) (v' := .bool false) (by kernel_rfl) (congrArg Value.bool h_4)
              refine V_run f_21 4 (by kernel_rfl) (fun a_16 f_22 => ?_)
              refine W_end rfl (T_n ?_)
              exact ⟨(false), (Option.some.inj hF_13).symm, M_1, (Mem.le_refl _), f_22.keep (ks := [0, 1, 6, 29]) (by kernel_rfl), p_1⟩
          · rintro a_17 w_2 ⟨y_2, hq_2, M_2, hM_2, f_23, p_2⟩
            subst j_3
            refine T_n ?_
            refine R_cond f_23 (b := y_2) (by kernel_rfl) (by kernel_rfl) (fun h_5 => ?_) (fun h_5 => ?_)
            · have hF_14 := cnd_t h_5 hF_11
              refine R_seq (R_reg ?_)
              refine V_run f_23 1 (by kernel_rfl) (fun a_18 f_24 => ?_)
              refine W_end rfl (T_n (R_seq (R_reg ?_)))
              refine V_run f_24 3 (by kernel_rfl) (fun a_19 f_25 => ?_)
              refine W_end rfl (T_n (R_reg ?_))
              refine V_run f_25 1 (by kernel_rfl) (fun a_20 f_26 => ?_)
              refine W_end rfl (B_n (T_n ?_))
              exact ⟨((2 : Int), bAnd .i64 ((c_1).toNat : Int) (31 : Int), (128 : Int)), (Option.some.inj hF_14).symm, M_2, hM_2, f_26.keep (ks := [0, 1, 7, 8, 9]) (by kernel_rfl), p_2⟩
            · have hF_15 := cnd_f h_5 hF_11
              refine R_seq ?_
              obtain ⟨j_4, hj_4, hF_16⟩ := bind_some' hF_15
              refine R_mid (fun a_24 w_3 => ∃ y_3 : Bool, j_4 = y_3 ∧ ∃ M_3 : Mem, M_2.le M_3 ∧ Frm 101 [(0, S d0), (1, .int .i64 d1), (6, .int .i64 ((c_1).toNat : Int)), (38, .bool y_3)] a_24 ∧ Hp w0 M_3 (H) w_3) ?_ ?_
              · refine R_reg ?_
                refine V_run f_23 3 (by kernel_rfl) (fun a_21 f_27 => ?_)
                rcases Bool.eq_false_or_eq_true (decide ((224 : Int) ≤ ((c_1).toNat : Int))) with h_6 | h_6
                · have k_11 : (224 : Int) ≤ ((c_1).toNat : Int) := decide_eq_true_iff.1 h_6
                  have hF_17 := cnd_t h_6 hj_4
                  have f_28 := Frm.set f_27 41 (v := .bool (decide ((224 : Int) ≤ ((c_1).toNat : Int)))) (v' := .bool true) (by kernel_rfl) (congrArg Value.bool h_6)
                  refine V_run f_28 4 (by kernel_rfl) (fun a_22 f_29 => ?_)
                  refine W_end rfl (T_n ?_)
                  exact ⟨(decide (((c_1).toNat : Int) < 240)), (Option.some.inj hF_17).symm, M_2, (Mem.le_refl _), f_29.keep (ks := [0, 1, 6, 38]) (by kernel_rfl), p_2⟩
                · have k_12 : ¬ ((224 : Int) ≤ ((c_1).toNat : Int)) := iff_f decide_eq_true_iff h_6
                  have hF_18 := cnd_f h_6 hj_4
                  have f_30 := Frm.set f_27 41 (v := .bool (decide ((224 : Int) ≤ ((c_1).toNat : Int)))) (v' := .bool false) (by kernel_rfl) (congrArg Value.bool h_6)
                  refine V_run f_30 4 (by kernel_rfl) (fun a_23 f_31 => ?_)
                  refine W_end rfl (T_n ?_)
                  exact ⟨(false), (Option.some.inj hF_18).symm, M_2, (Mem.le_refl _), f_31.keep (ks := [0, 1, 6, 38]) (by kernel_rfl), p_2⟩
              · rintro a_24 w_3 ⟨y_3, hq_3, M_3, hM_3, f_32, p_3⟩
                subst j_4
                refine T_n ?_
                refine R_cond f_32 (b := y_3) (by kernel_rfl) (by kernel_rfl) (fun h_7 => ?_) (fun h_7 => ?_)
                · have hF_19 := cnd_t h_7 hF_16
                  refine R_seq (R_reg ?_)
                  refine V_run f_32 1 (by kernel_rfl) (fun a_25 f_33 => ?_)
                  refine W_end rfl (T_n (R_seq (R_reg ?_)))
                  refine V_run f_33 3 (by kernel_rfl) (fun a_26 f_34 => ?_)
                  refine W_end rfl (T_n (R_reg ?_))
                  refine V_run f_34 1 (by kernel_rfl) (fun a_27 f_35 => ?_)
                  refine W_end rfl (B_n (T_n ?_))
                  exact ⟨((3 : Int), bAnd .i64 ((c_1).toNat : Int) (15 : Int), (2048 : Int)), (Option.some.inj hF_19).symm, M_3, (hM_2.trans hM_3), f_35.keep (ks := [0, 1, 7, 8, 9]) (by kernel_rfl), p_3⟩
                · have hF_20 := cnd_f h_7 hF_16
                  refine R_seq ?_
                  obtain ⟨j_5, hj_5, hF_21⟩ := bind_some' hF_20
                  refine R_mid (fun a_31 w_4 => ∃ y_4 : Bool, j_5 = y_4 ∧ ∃ M_4 : Mem, M_3.le M_4 ∧ Frm 101 [(0, S d0), (1, .int .i64 d1), (6, .int .i64 ((c_1).toNat : Int)), (47, .bool y_4)] a_31 ∧ Hp w0 M_4 (H) w_4) ?_ ?_
                  · refine R_reg ?_
                    refine V_run f_32 3 (by kernel_rfl) (fun a_28 f_36 => ?_)
                    rcases Bool.eq_false_or_eq_true (decide ((240 : Int) ≤ ((c_1).toNat : Int))) with h_8 | h_8
                    · have k_15 : (240 : Int) ≤ ((c_1).toNat : Int) := decide_eq_true_iff.1 h_8
                      have hF_22 := cnd_t h_8 hj_5
                      have f_37 := Frm.set f_36 50 (v := .bool (decide ((240 : Int) ≤ ((c_1).toNat : Int)))) (v' := .bool true) (by kernel_rfl) (congrArg Value.bool h_8)
                      refine V_run f_37 4 (by kernel_rfl) (fun a_29 f_38 => ?_)
                      refine W_end rfl (T_n ?_)
                      exact ⟨(decide (((c_1).toNat : Int) < 248)), (Option.some.inj hF_22).symm, M_3, (Mem.le_refl _), f_38.keep (ks := [0, 1, 6, 47]) (by kernel_rfl), p_3⟩
                    · have k_16 : ¬ ((240 : Int) ≤ ((c_1).toNat : Int)) := iff_f decide_eq_true_iff h_8
                      have hF_23 := cnd_f h_8 hj_5
                      have f_39 := Frm.set f_36 50 (v := .bool (decide ((240 : Int) ≤ ((c_1).toNat : Int)))) (v' := .bool false) (by kernel_rfl) (congrArg Value.bool h_8)
                      refine V_run f_39 4 (by kernel_rfl) (fun a_30 f_40 => ?_)
                      refine W_end rfl (T_n ?_)
                      exact ⟨(false), (Option.some.inj hF_23).symm, M_3, (Mem.le_refl _), f_40.keep (ks := [0, 1, 6, 47]) (by kernel_rfl), p_3⟩
                  · rintro a_31 w_4 ⟨y_4, hq_4, M_4, hM_4, f_41, p_4⟩
                    subst j_5
                    refine T_n ?_
                    refine R_cond f_41 (b := y_4) (by kernel_rfl) (by kernel_rfl) (fun h_9 => ?_) (fun h_9 => ?_)
                    · have hF_24 := cnd_t h_9 hF_21
                      refine R_seq (R_reg ?_)
                      refine V_run f_41 1 (by kernel_rfl) (fun a_32 f_42 => ?_)
                      refine W_end rfl (T_n (R_seq (R_reg ?_)))
                      refine V_run f_42 3 (by kernel_rfl) (fun a_33 f_43 => ?_)
                      refine W_end rfl (T_n (R_reg ?_))
                      refine V_run f_43 1 (by kernel_rfl) (fun a_34 f_44 => ?_)
                      refine W_end rfl (B_n (T_n ?_))
                      exact ⟨((4 : Int), bAnd .i64 ((c_1).toNat : Int) (7 : Int), (65536 : Int)), (Option.some.inj hF_24).symm, M_4, ((hM_2.trans hM_3).trans hM_4), f_44.keep (ks := [0, 1, 7, 8, 9]) (by kernel_rfl), p_4⟩
                    · have hF_25 := cnd_f h_9 hF_21
                      refine R_seq (R_reg ?_)
                      refine V_run f_41 2 (by kernel_rfl) (fun a_35 f_45 => ?_)
                      refine W_end rfl (T_n (wp_ret (B_r ?_)))
                      have hF_26 := br_elim hF_25 hF_7
                      refine T_r (T_r ?_)
                      refine E_ret2 f_45 rfl (by kernel_rfl : Vc.look _ 4 = some (.int .i64 0)) (by kernel_rfl : Vc.look _ 5 = some (.int .i64 0)) ?_
                      obtain rfl := Option.some.inj hF_26
                      exact ⟨_, rfl, M_4, (((hM_1.trans hM_2).trans hM_3).trans hM_4), p_4, rfl⟩
      · rintro a_36 w_5 ⟨y_5, rfl, M_5, hM_5, f_46, p_5⟩
        refine T_n (R_seq (R_seq (R_reg ?_)))
        refine V_run f_46 2 (by kernel_rfl) (fun a_37 f_47 => ?_)
        obtain ⟨g_1, hF_27⟩ := need_some hF_7
        refine V_run f_47 1 (by kernel_rfl) (fun a_38 f_48 => ?_)
        have f_49 := Frm.set f_48 58 (v := .int .i64 (IntKind.wrap .i64 (d1 + y_5.1))) (v' := .int .i64 (d1 + y_5.1)) (by kernel_rfl) (congrArg (Value.int .i64) (inR_wrap g_1))
        refine V_run f_49 3 (by kernel_rfl) (fun a_39 f_50 => ?_)
        refine W_end rfl (T_n ?_)
        refine R_cond f_50 (b := decide ((d0.length : Int) < (d1 + y_5.1))) (by kernel_rfl) (by kernel_rfl) (fun h_10 => ?_) (fun h_10 => ?_)
        · have k_19 : (d0.length : Int) < (d1 + y_5.1) := decide_eq_true_iff.1 h_10
          have hF_28 := cnd_t h_10 hF_27
          refine R_seq (R_reg ?_)
          refine V_run f_50 2 (by kernel_rfl) (fun a_40 f_51 => ?_)
          refine W_end rfl (T_n (wp_ret (T_r ?_)))
          refine E_ret2 f_51 rfl (by kernel_rfl : Vc.look _ 4 = some (.int .i64 0)) (by kernel_rfl : Vc.look _ 5 = some (.int .i64 0)) ?_
          obtain rfl := Option.some.inj hF_28
          exact ⟨_, rfl, M_5, (hM_1.trans hM_5), p_5, rfl⟩
        · have k_20 : ¬ ((d0.length : Int) < (d1 + y_5.1)) := iff_f decide_eq_true_iff h_10
          have hF_29 := cnd_f h_10 hF_27
          refine wp_skip (T_n (R_seq (R_seq (R_reg ?_))))
          refine V_run f_50 1 (by kernel_rfl) (fun a_41 f_52 => ?_)
          refine W_end rfl (T_n (wp_block ?_))
          obtain ⟨b_1, hL_1, hF_30⟩ := bind_some' hF_29
          refine wp_mono (Q := fun e a w => (e = .ret ∧ (∃ y_7 : Unit, b_1 = .inl y_7 ∧ ∃ M_8 : Mem, M_5.le M_8 ∧ Frm 101 [(4, .int .i64 0), (5, .int .i64 0)] a ∧ Hp w0 M_8 (H) w)) ∨ (e = .exit 1 ∧ (∃ y_8 : Int, b_1 = .inr y_8 ∧ ∃ M_9 : Mem, M_5.le M_9 ∧ Frm 101 [(7, .int .i64 y_5.1), (8, .int .i64 y_8), (9, .int .i64 y_5.2.2)] a ∧ Hp w0 M_9 (H) w))) (R_loop (n := 101) (w0 := w0) (M := M_5) (fun (x : Nat × (Int × Int)) => match x with | (m_1, s_1) => [(0, S d0), (1, .int .i64 d1), (7, .int .i64 y_5.1), (8, .int .i64 s_1.1), (9, .int .i64 y_5.2.2), (10, .int .i64 s_1.2)]) (fun (x : Nat × (Int × Int)) => match x with | (m_1, s_1) => (H)) (fun (x : Nat × (Int × Int)) (MM : Mem) => match x with | (m_1, s_1) => loopF (ref01_One_s1 n d0 d1 y_5) m_1 s_1 = some b_1) (fun (x : Nat × (Int × Int)) => match x with | (m_1, s_1) => m_1) (n, (y_5.2.1, (1 : Int))) (f_52.keep (ks := [0, 1, 7, 8, 9, 10]) (by kernel_rfl)) p_5 hL_1 ?_) ?_
          · rintro ⟨m_1, s_1⟩ M_6 a_42 w_6 hM_6 I_1 f_53 p_6
            have I_1L := I_1
            obtain ⟨m_2, r_1, rfl, hs_1, hn_1⟩ := loop_step I_1L
            unfold ref01_One_s1 at hs_1
            refine R_seq (R_seq (R_reg ?_))
            refine V_run f_53 3 (by kernel_rfl) (fun a_43 f_54 => ?_)
            refine W_end rfl (T_n ?_)
            refine R_cond f_54 (b := decide (s_1.2 < y_5.1)) (by kernel_rfl) (by kernel_rfl) (fun h_11 => ?_) (fun h_11 => ?_)
            · have k_21 : s_1.2 < y_5.1 := decide_eq_true_iff.1 h_11
              have hF_31 := cnd_t h_11 hs_1
              refine wp_skip (T_n (R_seq (wp_block (R_seq (R_reg ?_)))))
              refine V_run f_54 3 (by kernel_rfl) (fun a_44 f_55 => ?_)
              obtain ⟨g_2, hF_32⟩ := need_some hF_31
              refine V_run f_55 1 (by kernel_rfl) (fun a_45 f_56 => ?_)
              have f_57 := Frm.set f_56 70 (v := .int .i64 (IntKind.wrap .i64 (d1 + s_1.2))) (v' := .int .i64 (d1 + s_1.2)) (by kernel_rfl) (congrArg (Value.int .i64) (inR_wrap g_2))
              obtain ⟨c_2, hx_2, hF_33⟩ := bind_some' hF_32
              refine V_eq (v := .int .u8 ((d0.getD (d1 + s_1.2).toNat 0).toNat : Int)) f_57 (by kernel_rfl) (X_strIndex rfl (l := d0) (k := .i64) (i := d1 + s_1.2) (by kernel_rfl) (by kernel_rfl) (by kernel_rfl) (getI_nn hx_2) (getI_lt hx_2)) (fun a_46 f_58 => ?_)
              have f_59 := Frm.set f_58 71 (v := .int .u8 ((d0.getD (d1 + s_1.2).toNat 0).toNat : Int)) (v' := .int .u8 ((c_2).toNat : Int)) (by kernel_rfl) (congrArg (fun c : UInt8 => Value.int .u8 ((c.toNat : Nat) : Int)) (getI_getD hx_2))
              refine V_run f_59 1 (by kernel_rfl) (fun a_47 f_60 => ?_)
              have f_61 := Frm.set f_60 72 (v := .int .i64 (IntKind.wrap .i64 (((c_2).toNat : Int)))) (v' := .int .i64 ((c_2).toNat : Int)) (by kernel_rfl) (congrArg (Value.int .i64) (wrap_byte _ (by simp) _))
              refine V_run f_61 1 (by kernel_rfl) (fun a_48 f_62 => ?_)
              refine W_end rfl (T_n (R_seq (R_seq ?_)))
              obtain ⟨j_6, hj_6, hF_34⟩ := bind_some' hF_33
              refine R_mid (fun a_52 w_7 => ∃ y_6 : Bool, j_6 = y_6 ∧ ∃ M_7 : Mem, M_6.le M_7 ∧ Frm 101 [(0, S d0), (1, .int .i64 d1), (7, .int .i64 y_5.1), (8, .int .i64 s_1.1), (9, .int .i64 y_5.2.2), (10, .int .i64 s_1.2), (11, .int .i64 ((c_2).toNat : Int)), (78, .bool y_6)] a_52 ∧ Hp w0 M_7 (H) w_7) ?_ ?_
              · refine R_reg ?_
                refine V_run f_62 3 (by kernel_rfl) (fun a_49 f_63 => ?_)
                rcases Bool.eq_false_or_eq_true (decide (((c_2).toNat : Int) < 128)) with h_12 | h_12
                · have k_22 : ((c_2).toNat : Int) < 128 := decide_eq_true_iff.1 h_12
                  have hF_35 := cnd_t h_12 hj_6
                  have f_64 := Frm.set f_63 75 (v := .bool (decide (((c_2).toNat : Int) < 128))) (v' := .bool true) (by kernel_rfl) (congrArg Value.bool h_12)
                  refine V_run f_64 3 (by kernel_rfl) (fun a_50 f_65 => ?_)
                  refine W_end rfl (T_n ?_)
                  exact ⟨(true), (Option.some.inj hF_35).symm, M_6, (Mem.le_refl _), f_65.keep (ks := [0, 1, 7, 8, 9, 10, 11, 78]) (by kernel_rfl), p_6⟩
                · have k_23 : ¬ (((c_2).toNat : Int) < 128) := iff_f decide_eq_true_iff h_12
                  have hF_36 := cnd_f h_12 hj_6
                  have f_66 := Frm.set f_63 75 (v := .bool (decide (((c_2).toNat : Int) < 128))) (v' := .bool false) (by kernel_rfl) (congrArg Value.bool h_12)
                  refine V_run f_66 3 (by kernel_rfl) (fun a_51 f_67 => ?_)
                  refine W_end rfl (T_n ?_)
                  exact ⟨(decide ((191 : Int) < ((c_2).toNat : Int))), (Option.some.inj hF_36).symm, M_6, (Mem.le_refl _), f_67.keep (ks := [0, 1, 7, 8, 9, 10, 11, 78]) (by kernel_rfl), p_6⟩
              · rintro a_52 w_7 ⟨y_6, hq_6, M_7, hM_7, f_68, p_7⟩
                subst j_6
                refine T_n ?_
                refine R_cond f_68 (b := y_6) (by kernel_rfl) (by kernel_rfl) (fun h_13 => ?_) (fun h_13 => ?_)
                · have hF_37 := cnd_t h_13 hF_34
                  refine R_seq (R_reg ?_)
                  refine V_run f_68 2 (by kernel_rfl) (fun a_53 f_69 => ?_)
                  refine W_end rfl (T_n (wp_ret (T_r (B_r (T_r (T_r ?_))))))
                  obtain rfl := Option.some.inj hF_37
                  exact .inl ⟨rfl, (), (Option.some.inj hn_1).symm, M_7, (hM_6.trans hM_7), f_69.keep (ks := [4, 5]) (by kernel_rfl), p_7⟩
                · have hF_38 := cnd_f h_13 hF_34
                  refine wp_skip (T_n (R_reg ?_))
                  refine V_run f_68 1 (by kernel_rfl) (fun a_54 f_70 => ?_)
                  obtain ⟨g_3, hF_39⟩ := need_some hF_38
                  refine V_run f_70 1 (by kernel_rfl) (fun a_55 f_71 => ?_)
                  have f_72 := Frm.set f_71 80 (v := .int .i64 (IntKind.wrap .i64 ((64 : Int) * s_1.1))) (v' := .int .i64 ((64 : Int) * s_1.1)) (by kernel_rfl) (congrArg (Value.int .i64) (inR_wrap g_3))
                  refine V_run f_72 1 (by kernel_rfl) (fun a_56 f_73 => ?_)
                  obtain ⟨g_4, hF_40⟩ := need_some hF_39
                  refine V_run f_73 1 (by kernel_rfl) (fun a_57 f_74 => ?_)
                  have f_75 := Frm.set f_74 82 (v := .int .i64 (IntKind.wrap .i64 (((64 : Int) * s_1.1) + ((c_2).toNat : Int)))) (v' := .int .i64 (((64 : Int) * s_1.1) + ((c_2).toNat : Int))) (by kernel_rfl) (congrArg (Value.int .i64) (inR_wrap g_4))
                  obtain ⟨g_5, hF_41⟩ := need_some hF_40
                  refine V_run f_75 1 (by kernel_rfl) (fun a_58 f_76 => ?_)
                  have f_77 := Frm.set f_76 83 (v := .int .i64 (IntKind.wrap .i64 ((((64 : Int) * s_1.1) + ((c_2).toNat : Int)) - 128))) (v' := .int .i64 ((((64 : Int) * s_1.1) + ((c_2).toNat : Int)) - 128)) (by kernel_rfl) (congrArg (Value.int .i64) (inR_wrap g_5))
                  refine V_run f_77 1 (by kernel_rfl) (fun a_59 f_78 => ?_)
                  refine W_end rfl (B_n (T_n (R_reg ?_)))
                  refine V_run f_78 1 (by kernel_rfl) (fun a_60 f_79 => ?_)
                  obtain ⟨g_6, hF_42⟩ := need_some hF_41
                  refine V_run f_79 1 (by kernel_rfl) (fun a_61 f_80 => ?_)
                  have f_81 := Frm.set f_80 66 (v := .int .i64 (IntKind.wrap .i64 (s_1.2 + 1))) (v' := .int .i64 (s_1.2 + 1)) (by kernel_rfl) (congrArg (Value.int .i64) (inR_wrap g_6))
                  refine V_run f_81 1 (by kernel_rfl) (fun a_62 f_82 => ?_)
                  refine W_end rfl (T_n ?_)
                  obtain rfl := Option.some.inj hF_42
                  exact ⟨⟨m_2, ((((64 : Int) * s_1.1) + ((c_2).toNat : Int)) - 128, s_1.2 + 1)⟩, Nat.lt_succ_self _, M_7, (hM_6.trans hM_7), hn_1, f_82.keep (ks := [0, 1, 7, 8, 9, 10]) (by kernel_rfl), p_7⟩
            · have k_26 : ¬ (s_1.2 < y_5.1) := iff_f decide_eq_true_iff h_11
              have hF_43 := cnd_f h_11 hs_1
              refine wp_exit (T_x (T_x ?_))
              obtain rfl := Option.some.inj hF_43
              exact .inr ⟨rfl, s_1.1, (Option.some.inj hn_1).symm, M_6, hM_6, f_54.keep (ks := [7, 8, 9]) (by kernel_rfl), p_6⟩
          · rintro _ a_65 w_10 (⟨rfl, y_7, rfl, M_8, hM_8, f_83, p_8⟩ | ⟨rfl, y_8, rfl, M_9, hM_9, f_84, p_9⟩)
            · refine B_r (T_r ?_)
              refine E_ret2 f_83 rfl (by kernel_rfl : Vc.look _ 4 = some (.int .i64 0)) (by kernel_rfl : Vc.look _ 5 = some (.int .i64 0)) ?_
              obtain rfl := Option.some.inj hF_30
              exact ⟨_, rfl, M_8, ((hM_1.trans hM_5).trans hM_8), p_8, rfl⟩
            · refine B_x (T_n (R_seq (R_seq ?_)))
              obtain ⟨j_7, hj_7, hF_44⟩ := bind_some' hF_30
              refine R_mid (fun a_73 w_11 => ∃ y_9 : Bool, j_7 = y_9 ∧ ∃ M_10 : Mem, M_9.le M_10 ∧ Frm 101 [(7, .int .i64 y_5.1), (8, .int .i64 y_8), (98, .bool y_9)] a_73 ∧ Hp w0 M_10 (H) w_11) ?_ ?_
              · refine R_reg ?_
                refine V_run f_84 4 (by kernel_rfl) (fun a_66 f_85 => ?_)
                rcases Bool.eq_false_or_eq_true (decide (y_8 < y_5.2.2)) with h_14 | h_14
                · have k_27 : y_8 < y_5.2.2 := decide_eq_true_iff.1 h_14
                  have hF_45 := cnd_t h_14 hj_7
                  have f_86 := Frm.set f_85 87 (v := .bool (decide (y_8 < y_5.2.2))) (v' := .bool true) (by kernel_rfl) (congrArg Value.bool h_14)
                  refine V_run f_86 11 (by kernel_rfl) (fun a_67 f_87 => ?_)
                  refine W_end rfl (T_n ?_)
                  exact ⟨(true), (Option.some.inj hF_45).symm, M_9, (Mem.le_refl _), f_87.keep (ks := [7, 8, 98]) (by kernel_rfl), p_9⟩
                · have k_28 : ¬ (y_8 < y_5.2.2) := iff_f decide_eq_true_iff h_14
                  have hF_46 := cnd_f h_14 hj_7
                  have f_88 := Frm.set f_85 87 (v := .bool (decide (y_8 < y_5.2.2))) (v' := .bool false) (by kernel_rfl) (congrArg Value.bool h_14)
                  refine V_run f_88 4 (by kernel_rfl) (fun a_68 f_89 => ?_)
                  rcases Bool.eq_false_or_eq_true (decide ((1114111 : Int) < y_8)) with h_15 | h_15
                  · have k_29 : (1114111 : Int) < y_8 := decide_eq_true_iff.1 h_15
                    have hF_47 := cnd_t h_15 hF_46
                    have f_90 := Frm.set f_89 91 (v := .bool (decide ((1114111 : Int) < y_8))) (v' := .bool true) (by kernel_rfl) (congrArg Value.bool h_15)
                    refine V_run f_90 7 (by kernel_rfl) (fun a_69 f_91 => ?_)
                    refine W_end rfl (T_n ?_)
                    exact ⟨(true), (Option.some.inj hF_47).symm, M_9, (Mem.le_refl _), f_91.keep (ks := [7, 8, 98]) (by kernel_rfl), p_9⟩
                  · have k_30 : ¬ ((1114111 : Int) < y_8) := iff_f decide_eq_true_iff h_15
                    have hF_48 := cnd_f h_15 hF_46
                    have f_92 := Frm.set f_89 91 (v := .bool (decide ((1114111 : Int) < y_8))) (v' := .bool false) (by kernel_rfl) (congrArg Value.bool h_15)
                    refine V_run f_92 3 (by kernel_rfl) (fun a_70 f_93 => ?_)
                    rcases Bool.eq_false_or_eq_true (decide ((55296 : Int) ≤ y_8)) with h_16 | h_16
                    · have k_31 : (55296 : Int) ≤ y_8 := decide_eq_true_iff.1 h_16
                      have hF_49 := cnd_t h_16 hF_48
                      have f_94 := Frm.set f_93 94 (v := .bool (decide ((55296 : Int) ≤ y_8))) (v' := .bool true) (by kernel_rfl) (congrArg Value.bool h_16)
                      refine V_run f_94 4 (by kernel_rfl) (fun a_71 f_95 => ?_)
                      refine W_end rfl (T_n ?_)
                      exact ⟨(decide (y_8 ≤ 57343)), (Option.some.inj hF_49).symm, M_9, (Mem.le_refl _), f_95.keep (ks := [7, 8, 98]) (by kernel_rfl), p_9⟩
                    · have k_32 : ¬ ((55296 : Int) ≤ y_8) := iff_f decide_eq_true_iff h_16
                      have hF_50 := cnd_f h_16 hF_48
                      have f_96 := Frm.set f_93 94 (v := .bool (decide ((55296 : Int) ≤ y_8))) (v' := .bool false) (by kernel_rfl) (congrArg Value.bool h_16)
                      refine V_run f_96 4 (by kernel_rfl) (fun a_72 f_97 => ?_)
                      refine W_end rfl (T_n ?_)
                      exact ⟨(false), (Option.some.inj hF_50).symm, M_9, (Mem.le_refl _), f_97.keep (ks := [7, 8, 98]) (by kernel_rfl), p_9⟩
              · rintro a_73 w_11 ⟨y_9, hq_7, M_10, hM_10, f_98, p_10⟩
                subst j_7
                refine T_n ?_
                refine R_cond f_98 (b := y_9) (by kernel_rfl) (by kernel_rfl) (fun h_17 => ?_) (fun h_17 => ?_)
                · have hF_51 := cnd_t h_17 hF_44
                  refine R_seq (R_reg ?_)
                  refine V_run f_98 2 (by kernel_rfl) (fun a_74 f_99 => ?_)
                  refine W_end rfl (T_n (wp_ret (T_r ?_)))
                  refine E_ret2 f_99 rfl (by kernel_rfl : Vc.look _ 4 = some (.int .i64 0)) (by kernel_rfl : Vc.look _ 5 = some (.int .i64 0)) ?_
                  obtain rfl := Option.some.inj hF_51
                  exact ⟨_, rfl, M_10, (((hM_1.trans hM_5).trans hM_9).trans hM_10), p_10, rfl⟩
                · have hF_52 := cnd_f h_17 hF_44
                  refine wp_skip (T_n (R_seq (R_reg ?_)))
                  refine V_run f_98 4 (by kernel_rfl) (fun a_75 f_100 => ?_)
                  refine W_end rfl (T_n (wp_ret ?_))
                  refine E_ret2 f_100 rfl (by kernel_rfl : Vc.look _ 4 = some (.int .i64 y_8)) (by kernel_rfl : Vc.look _ 5 = some (.int .i64 y_5.1)) ?_
                  obtain rfl := Option.some.inj hF_52
                  exact ⟨_, rfl, M_10, (((hM_1.trans hM_5).trans hM_9).trans hM_10), p_10, rfl⟩

def ref01_Valid_s1 (n : Nat) (d0 : List UInt8) (s_1 : Int) : Option (Lp Int (Sum Unit Unit)) :=
    bif (decide (s_1 < (d0.length : Int))) then
      ((ref01_One n d0 s_1).bind fun x_1 =>
      bif (decide (x_1.2 = 0)) then
        (some (.br (.inl ())))
      else
        need (inR .i64 (s_1 + x_1.2)) <|
        some (.nx (s_1 + x_1.2)))
    else
      some (.br (.inr ()))
def ref01_Valid (n : Nat) (d0 : List UInt8) : Option Bool :=
  (loopF (ref01_Valid_s1 n d0) n (0 : Int)).bind fun b_1 =>
  (match b_1 with 
  | .inl y_1 => some ((false)) 
  | .inr y_2 => some ((true)))
set_option maxHeartbeats 2000000 in
theorem ref01_Valid_ok (n : Nat) (M : Mem) (d0 : List UInt8) (r : Bool) (hF : ref01_Valid n d0 = some r) : Ok Tryd.prog M 91 [S d0] (fun _ v => v = .bool r) := by
  unfold ref01_Valid at hF
  intro M1 hM0 w0 H w p0
  refine R_enter 21 Tryd.func91 rfl rfl (by simp) (fun a0 f0 => ?_)
  refine R_seq (R_reg ?_)
  refine V_run f0 1 (by kernel_rfl) (fun a_1 f_1 => ?_)
  refine W_end rfl (T_n (R_seq (R_reg ?_)))
  refine V_run f_1 1 (by kernel_rfl) (fun a_2 f_2 => ?_)
  refine W_end rfl (T_n (R_seq (wp_block ?_)))
  obtain ⟨b_1, hL_1, hF_1⟩ := bind_some' hF
  refine wp_mono (Q := fun e a w => (e = .ret ∧ (∃ y_1 : Unit, b_1 = .inl y_1 ∧ ∃ M_2 : Mem, M1.le M_2 ∧ Frm 21 [(2, .bool false)] a ∧ Hp w0 M_2 (H) w)) ∨ (e = .exit 0 ∧ (∃ y_2 : Unit, b_1 = .inr y_2 ∧ ∃ M_3 : Mem, M1.le M_3 ∧ Frm 21 [] a ∧ Hp w0 M_3 (H) w))) (R_loop (n := 21) (w0 := w0) (M := M1) (fun (x : Nat × Int) => match x with | (m_1, s_1) => [(0, S d0), (3, .int .i64 s_1)]) (fun (x : Nat × Int) => match x with | (m_1, s_1) => (H)) (fun (x : Nat × Int) (MM : Mem) => match x with | (m_1, s_1) => loopF (ref01_Valid_s1 n d0) m_1 s_1 = some b_1) (fun (x : Nat × Int) => match x with | (m_1, s_1) => m_1) (n, (0 : Int)) (f_2.keep (ks := [0, 3]) (by kernel_rfl)) p0 hL_1 ?_) ?_
  · rintro ⟨m_1, s_1⟩ M_1 a_3 w_1 hM_1 I_1 f_3 p_1
    have I_1L := I_1
    obtain ⟨m_2, r_1, rfl, hs_1, hn_1⟩ := loop_step I_1L
    unfold ref01_Valid_s1 at hs_1
    refine R_seq (R_seq (R_reg ?_))
    refine V_run f_3 4 (by kernel_rfl) (fun a_4 f_4 => ?_)
    refine W_end rfl (T_n ?_)
    refine R_cond f_4 (b := decide (s_1 < (d0.length : Int))) (by kernel_rfl) (by kernel_rfl) (fun h_1 => ?_) (fun h_1 => ?_)
    · have k_1 : s_1 < (d0.length : Int) := decide_eq_true_iff.1 h_1
      have hF_2 := cnd_t h_1 hs_1
      refine wp_skip (T_n (wp_block (R_seq (R_reg ?_))))
      refine V_run f_4 2 (by kernel_rfl) (fun a_5 f_5 => ?_)
      obtain ⟨x_1, hx_1, hF_3⟩ := bind_some' hF_2
      refine V_okv f_5 p_1 (ref01_One_ok n _ d0 s_1 x_1 hx_1) (by kernel_rfl) (fun _ => by kernel_rfl) (fun w_2 p_2 a_6 f_6 => ?_)
      refine V_run f_6 5 (by kernel_rfl) (fun a_7 f_7 => ?_)
      refine W_end rfl (T_n (R_seq (R_seq (R_reg ?_))))
      refine V_run f_7 2 (by kernel_rfl) (fun a_8 f_8 => ?_)
      refine W_end rfl (T_n ?_)
      refine R_cond f_8 (b := decide (x_1.2 = 0)) (by kernel_rfl) (by kernel_rfl) (fun h_2 => ?_) (fun h_2 => ?_)
      · have k_2 : x_1.2 = 0 := decide_eq_true_iff.1 h_2
        have hF_4 := cnd_t h_2 hF_3
        refine R_seq (R_reg ?_)
        refine V_run f_8 1 (by kernel_rfl) (fun a_9 f_9 => ?_)
        refine W_end rfl (T_n (wp_ret (T_r (B_r (T_r ?_)))))
        obtain rfl := Option.some.inj hF_4
        exact .inl ⟨rfl, (), (Option.some.inj hn_1).symm, M_1, hM_1, f_9.keep (ks := [2]) (by kernel_rfl), p_2⟩
      · have k_3 : ¬ (x_1.2 = 0) := iff_f decide_eq_true_iff h_2
        have hF_5 := cnd_f h_2 hF_3
        refine wp_skip (T_n (R_reg ?_))
        refine V_run f_8 2 (by kernel_rfl) (fun a_10 f_10 => ?_)
        obtain ⟨g_1, hF_6⟩ := need_some hF_5
        refine V_run f_10 1 (by kernel_rfl) (fun a_11 f_11 => ?_)
        have f_12 := Frm.set f_11 20 (v := .int .i64 (IntKind.wrap .i64 (s_1 + x_1.2))) (v' := .int .i64 (s_1 + x_1.2)) (by kernel_rfl) (congrArg (Value.int .i64) (inR_wrap g_1))
        refine V_run f_12 1 (by kernel_rfl) (fun a_12 f_13 => ?_)
        refine W_end rfl (B_n (T_n ?_))
        obtain rfl := Option.some.inj hF_6
        exact ⟨⟨m_2, s_1 + x_1.2⟩, Nat.lt_succ_self _, M_1, hM_1, hn_1, f_13.keep (ks := [0, 3]) (by kernel_rfl), p_2⟩
    · have k_4 : ¬ (s_1 < (d0.length : Int)) := iff_f decide_eq_true_iff h_1
      have hF_7 := cnd_f h_1 hs_1
      refine wp_exit (T_x (T_x ?_))
      obtain rfl := Option.some.inj hF_7
      exact .inr ⟨rfl, (), (Option.some.inj hn_1).symm, M_1, hM_1, f_4.keep (ks := []) (by kernel_rfl), p_1⟩
  · rintro _ a_15 w_5 (⟨rfl, y_1, rfl, M_2, hM_2, f_14, p_3⟩ | ⟨rfl, y_2, rfl, M_3, hM_3, f_15, p_4⟩)
    · refine B_r (T_r ?_)
      refine E_ret1 f_14 rfl (by kernel_rfl : Vc.look _ 2 = some (.bool false)) ?_
      obtain rfl := Option.some.inj hF_1
      exact ⟨_, rfl, M_2, hM_2, p_3, rfl⟩
    · refine B_x (T_n (R_seq (R_reg ?_)))
      refine V_run f_15 1 (by kernel_rfl) (fun a_16 f_16 => ?_)
      refine W_end rfl (T_n (wp_ret ?_))
      refine E_ret1 f_16 rfl (by kernel_rfl : Vc.look _ 2 = some (.bool true)) ?_
      obtain rfl := Option.some.inj hF_1
      exact ⟨_, rfl, M_3, hM_3, p_4, rfl⟩
end Go.Proofs.YtalifkcchfkgmaaDoor
