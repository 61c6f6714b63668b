/-
  Printed by a program: of each function its shallow reading, and the proof that the function gives what the reading gives. No condition.
-/
import Derived.Test.YtalifkcchfkgmaaDoorQ4b
import Derived.Test.YtalifkcchfkgmaaDoorQ4h
import Derived.Test.YtalifkcchfkgmaaDoorQ4i
set_option linter.unusedVariables false
set_option linter.unusedSimpArgs false
namespace Go.Proofs.YtalifkcchfkgmaaDoor
open Go Go.Vc Go.RowKit
def tree_compare_2_s1 (n : Nat) (d0_0 : Int) (d0_4 : List T_api_Value) (d0_5 : List (List UInt8)) (d1_4 : List T_api_Value) (d1_5 : List (List UInt8)) (s_1 : Int) : Option (Lp Int (Sum Int Unit)) :=
    bif (decide (s_1 < (min ((d0_4.length : Nat) : Int) ((d1_4.length : Nat) : Int)))) then
      (((bif (decide (d0_0 = 5)) then
          ((getI d0_5 s_1).bind fun x_7 =>
          (getI d1_5 s_1).bind fun x_8 =>
          (h_Compare n x_7 x_8).bind fun x_9 =>
          bif (!(decide (x_9 = 0))) then
            (((some (.br (.inl x_9)) : Option (Lp Int (Sum Int Unit)))).map Lp.br)
          else
            some (.nx ()))
        else
          some (.nx ()) : Option (Lp Unit (Lp Int (Sum Int Unit))))).bind fun j => joinF j fun y_1 =>
      (getI d0_4 s_1).bind fun x_10 =>
      (getI d1_4 s_1).bind fun x_11 =>
      (tree_compare n x_10 x_11).bind fun x_12 =>
      bif (!(decide (x_12 = 0))) then
        (some (.br (.inl x_12)))
      else
        need (inR .i64 (s_1 + 1)) <|
        some (.nx (s_1 + 1)))
    else
      some (.br (.inr ()))
def tree_compare_2 (n : Nat) (d0_0 : Int) (d0_1 : Bool) (d0_2 : Int) (d0_3 : List UInt8) (d0_4 : List T_api_Value) (d0_5 : List (List UInt8)) (d1_0 : Int) (d1_1 : Bool) (d1_2 : Int) (d1_3 : List UInt8) (d1_4 : List T_api_Value) (d1_5 : List (List UInt8)) : Option (Int × Int × Bool × Int × List UInt8 × List T_api_Value × List (List UInt8) × Int × Bool × Int × List UInt8 × List T_api_Value × List (List UInt8)) :=
  (cmp_Compare n d0_0 d1_0).bind fun x_1 =>
  (tree_bit n (d0_1)).bind fun x_2 =>
  (tree_bit n (d1_1)).bind fun x_3 =>
  need (inR .i64 (x_2 - x_3)) <|
  (cmp_Compare_2 n d0_2 d1_2).bind fun x_4 =>
  (h_Compare n d0_3 d1_3).bind fun x_5 =>
  (cmp_Or n [x_1, x_2 - x_3, x_4, x_5]).bind fun x_6 =>
  bif (!(decide (x_6 = 0))) then
    (some ((x_6, d0_0, (d0_1), d0_2, d0_3, d0_4, d0_5, d1_0, (d1_1), d1_2, d1_3, d1_4, d1_5)))
  else
    (loopF (tree_compare_2_s1 n d0_0 d0_4 d0_5 d1_4 d1_5) n (0 : Int)).bind fun b_2 =>
    (match b_2 with 
    | .inl y_2 => some ((y_2, d0_0, (d0_1), d0_2, d0_3, d0_4, d0_5, d1_0, (d1_1), d1_2, d1_3, d1_4, d1_5)) 
    | .inr y_3 => (cmp_Compare_2 n ((d0_4.length : Nat) : Int) ((d1_4.length : Nat) : Int)).bind fun x_13 =>
      some ((x_13, d0_0, (d0_1), d0_2, d0_3, d0_4, d0_5, d1_0, (d1_1), d1_2, d1_3, d1_4, d1_5)))
set_option maxHeartbeats 2000000 in
theorem tree_compare_2_ok (n : Nat) (M : Mem) (hG : GL M) (b0 : Nat) (d0_0 : Int) (d0_1 : Bool) (d0_2 : Int) (d0_3 : List UInt8) (d0_4 : List T_api_Value) (A_1 : Option Addr) (cap_1 : Nat) (h_1 : Sli M 6 emb_T_api_Value A_1 cap_1 d0_4) (d0_5 : List (List UInt8)) (A_2 : Option Addr) (cap_2 : Nat) (h_2 : Sli M 1 Dat.str A_2 cap_2 d0_5) (b1 : Nat) (d1_0 : Int) (d1_1 : Bool) (d1_2 : Int) (d1_3 : List UInt8) (d1_4 : List T_api_Value) (A_3 : Option Addr) (cap_3 : Nat) (h_3 : Sli M 6 emb_T_api_Value A_3 cap_3 d1_4) (d1_5 : List (List UInt8)) (A_4 : Option Addr) (cap_4 : Nat) (h_4 : Sli M 1 Dat.str A_4 cap_4 d1_5) (r : Int × Int × Bool × Int × List UInt8 × List T_api_Value × List (List UInt8) × Int × Bool × Int × List UInt8 × List T_api_Value × List (List UInt8)) (hF : tree_compare_2 n d0_0 d0_1 d0_2 d0_3 d0_4 d0_5 d1_0 d1_1 d1_2 d1_3 d1_4 d1_5 = some r) : OkH Tryd.prog M [Ent.obj b0 (.cells #[.int .i8 d0_0, .bool d0_1, .int .i64 d0_2, S d0_3, .slice A_1 d0_4.length cap_1, .slice A_2 d0_5.length cap_2] 33 (0, 0)), Ent.obj b1 (.cells #[.int .i8 d1_0, .bool d1_1, .int .i64 d1_2, S d1_3, .slice A_3 d1_4.length cap_3, .slice A_4 d1_5.length cap_4] 33 (0, 0))] 89 [.pointer (some (⟨b0, 0, none⟩)), .pointer (some (⟨b1, 0, none⟩))] (fun M' E' v => ∃ (A_10 : Option Addr) (cap_10 : Nat) (A_11 : Option Addr) (cap_11 : Nat) (A_12 : Option Addr) (cap_12 : Nat) (A_13 : Option Addr) (cap_13 : Nat), v = .int .i64 r.1 ∧ E' = [Ent.obj b0 (.cells #[.int .i8 r.2.1, .bool r.2.2.1, .int .i64 r.2.2.2.1, S r.2.2.2.2.1, .slice A_10 r.2.2.2.2.2.1.length cap_10, .slice A_11 r.2.2.2.2.2.2.1.length cap_11] 33 (0, 0)), Ent.obj b1 (.cells #[.int .i8 r.2.2.2.2.2.2.2.1, .bool r.2.2.2.2.2.2.2.2.1, .int .i64 r.2.2.2.2.2.2.2.2.2.1, S r.2.2.2.2.2.2.2.2.2.2.1, .slice A_12 r.2.2.2.2.2.2.2.2.2.2.2.1.length cap_12, .slice A_13 r.2.2.2.2.2.2.2.2.2.2.2.2.length cap_13] 33 (0, 0))] ∧ Sli M' 6 emb_T_api_Value A_10 cap_10 r.2.2.2.2.2.1 ∧ Sli M' 1 Dat.str A_11 cap_11 r.2.2.2.2.2.2.1 ∧ Sli M' 6 emb_T_api_Value A_12 cap_12 r.2.2.2.2.2.2.2.2.2.2.2.1 ∧ Sli M' 1 Dat.str A_13 cap_13 r.2.2.2.2.2.2.2.2.2.2.2.2) := by
  unfold tree_compare_2 at hF
  intro M1 hM0 w0 H w p0
  replace hG := GL.mono hM0 hG
  replace h_1 := h_1.mono hM0
  replace h_2 := h_2.mono hM0
  replace h_3 := h_3.mono hM0
  replace h_4 := h_4.mono hM0
  refine R_enter 117 Tryd.func89 rfl rfl (by simp) (fun a0 f0 => ?_)
  refine R_seq (R_reg ?_)
  refine V_run f0 1 (by kernel_rfl) (fun a_1 f_1 => ?_)
  refine W_end rfl (T_n (R_seq (R_seq ?_)))
  refine R_drawQ 38 p0 (by kernel_rfl) (by kernel_rfl) ?_
  refine Q_run default f_1 3 (fun _ => by kernel_rfl) (fun a_2 f_2 => ?_)
  refine QV_eq (v := .int .i8 d0_0) f_2 (by kernel_rfl) (fun _ pq => X_load1 (v := .int .i8 d0_0) rfl (ad := ⟨b0, 0, none⟩) (by kernel_rfl) (by kernel_rfl) (pq.ownCell 0 rfl 0)) (fun a_3 f_3 => ?_)
  refine Q_run default f_3 3 (fun _ => by kernel_rfl) (fun a_4 f_4 => ?_)
  refine QV_eq (v := .int .i8 d1_0) f_4 (by kernel_rfl) (fun _ pq => X_load1 (v := .int .i8 d1_0) rfl (ad := ⟨b1, 0, none⟩) (by kernel_rfl) (by kernel_rfl) (pq.ownCell 1 rfl 0)) (fun a_5 f_5 => ?_)
  obtain ⟨x_1, hx_1, hF_1⟩ := bind_some' hF
  refine QV_okv f_5 (cmp_Compare_ok n _ d0_0 d1_0 x_1 hx_1) (by kernel_rfl) (fun _ => by kernel_rfl) (fun a_6 f_6 => ?_)
  refine Q_run default f_6 3 (fun _ => by kernel_rfl) (fun a_7 f_7 => ?_)
  refine QV_eq (v := .bool d0_1) f_7 (by kernel_rfl) (fun _ pq => X_load1 (v := .bool d0_1) rfl (ad := ⟨b0, 1, none⟩) (by kernel_rfl) (by kernel_rfl) (pq.ownCell 0 rfl 1)) (fun a_8 f_8 => ?_)
  obtain ⟨x_2, hx_2, hF_2⟩ := bind_some' hF_1
  refine QV_okv f_8 (tree_bit_ok n _ hG (d0_1) x_2 hx_2) (by kernel_rfl) (fun _ => by kernel_rfl) (fun a_9 f_9 => ?_)
  refine Q_run default f_9 3 (fun _ => by kernel_rfl) (fun a_10 f_10 => ?_)
  refine QV_eq (v := .bool d1_1) f_10 (by kernel_rfl) (fun _ pq => X_load1 (v := .bool d1_1) rfl (ad := ⟨b1, 1, none⟩) (by kernel_rfl) (by kernel_rfl) (pq.ownCell 1 rfl 1)) (fun a_11 f_11 => ?_)
  obtain ⟨x_3, hx_3, hF_3⟩ := bind_some' hF_2
  refine QV_okv f_11 (tree_bit_ok n _ hG (d1_1) x_3 hx_3) (by kernel_rfl) (fun _ => by kernel_rfl) (fun a_12 f_12 => ?_)
  obtain ⟨g_1, hF_4⟩ := need_some hF_3
  refine QV_eq (v := .int .i64 (IntKind.wrap .i64 (x_2 - x_3))) f_12 (by kernel_rfl) (fun _ pq => by kernel_rfl) (fun a_13 f_13 => ?_)
  have f_14 := Frm.set f_13 28 (v := .int .i64 (IntKind.wrap .i64 (x_2 - x_3))) (v' := .int .i64 (x_2 - x_3)) (by kernel_rfl) (congrArg (Value.int .i64) (inR_wrap g_1))
  refine Q_run default f_14 3 (fun _ => by kernel_rfl) (fun a_14 f_15 => ?_)
  refine QV_eq (v := .int .i64 d0_2) f_15 (by kernel_rfl) (fun _ pq => X_load1 (v := .int .i64 d0_2) rfl (ad := ⟨b0, 2, none⟩) (by kernel_rfl) (by kernel_rfl) (pq.ownCell 0 rfl 2)) (fun a_15 f_16 => ?_)
  refine Q_run default f_16 3 (fun _ => by kernel_rfl) (fun a_16 f_17 => ?_)
  refine QV_eq (v := .int .i64 d1_2) f_17 (by kernel_rfl) (fun _ pq => X_load1 (v := .int .i64 d1_2) rfl (ad := ⟨b1, 2, none⟩) (by kernel_rfl) (by kernel_rfl) (pq.ownCell 1 rfl 2)) (fun a_17 f_18 => ?_)
  obtain ⟨x_4, hx_4, hF_5⟩ := bind_some' hF_4
  refine QV_okv f_18 (cmp_Compare_2_ok n _ hG d0_2 d1_2 x_4 hx_4) (by kernel_rfl) (fun _ => by kernel_rfl) (fun a_18 f_19 => ?_)
  refine Q_run default f_19 3 (fun _ => by kernel_rfl) (fun a_19 f_20 => ?_)
  refine QV_eq (v := S d0_3) f_20 (by kernel_rfl) (fun _ pq => X_load1 (v := S d0_3) rfl (ad := ⟨b0, 3, none⟩) (by kernel_rfl) (by kernel_rfl) (pq.ownCell 0 rfl 3)) (fun a_20 f_21 => ?_)
  refine Q_run default f_21 3 (fun _ => by kernel_rfl) (fun a_21 f_22 => ?_)
  refine QV_eq (v := S d1_3) f_22 (by kernel_rfl) (fun _ pq => X_load1 (v := S d1_3) rfl (ad := ⟨b1, 3, none⟩) (by kernel_rfl) (by kernel_rfl) (pq.ownCell 1 rfl 3)) (fun a_22 f_23 => ?_)
  obtain ⟨x_5, hx_5, hF_6⟩ := bind_some' hF_5
  refine QV_okv f_23 (h_Compare_ok n _ d0_3 d1_3 x_5 hx_5) (by kernel_rfl) (fun _ => by kernel_rfl) (fun a_23 f_24 => ?_)
  refine Q_end rfl ?_
  intro w_1 p_1
  refine V_allocS (k := 4) (c := 4) f_24 p_1 (.cells #[.int .i64 x_1, .int .i64 (x_2 - x_3), .int .i64 x_4, .int .i64 x_5] 3 (0, 0)) (by kernel_rfl) (fun _ => by kernel_rfl) (fun b_1 w_7 p_7 a_24 f_25 => ?_)
  have hr_1 : RepSeq M1 ([x_1, x_2 - x_3, x_4, x_5].map (Dat.int .i64)) [.int .i64 x_1, .int .i64 (x_2 - x_3), .int .i64 x_4, .int .i64 x_5] := ⟨_, _, rfl, rfl, ⟨_, _, rfl, rfl, ⟨_, _, rfl, rfl, ⟨_, _, rfl, rfl, rfl⟩⟩⟩⟩
  have p_8 : Hp w0 M1 ((Ent.row 3 1 (.slice (some ⟨b_1, 0, none⟩) 4 4) [x_1, x_2 - x_3, x_4, x_5].length [.int .i64 x_1, .int .i64 (x_2 - x_3), .int .i64 x_4, .int .i64 x_5]) :: (Ent.obj b0 (.cells #[.int .i8 d0_0, .bool d0_1, .int .i64 d0_2, S d0_3, .slice A_1 d0_4.length cap_1, .slice A_2 d0_5.length cap_2] 33 (0, 0))) :: (Ent.obj b1 (.cells #[.int .i8 d1_0, .bool d1_1, .int .i64 d1_2, S d1_3, .slice A_3 d1_4.length cap_3, .slice A_4 d1_5.length cap_4] 33 (0, 0))) :: H) w_7 := p_7.objRow (n := 4) (cap := 4) (size := 1) (by decide) (by decide) rfl rfl rfl
  obtain ⟨M_1, A_5, cap_5, hM_1, hv_1, p_9, h_5, hb_1⟩ := p_8.lend (f := (Dat.int .i64)) (xs := [x_1, x_2 - x_3, x_4, x_5]) (szd_int .i64) hr_1
  have f_26 := Frm.set f_25 47 (v := .slice (some ⟨b_1, 0, none⟩) 4 4) (v' := .slice A_5 [x_1, x_2 - x_3, x_4, x_5].length cap_5) (by kernel_rfl) (hv_1)
  obtain ⟨x_6, hx_6, hF_7⟩ := bind_some' hF_6
  refine V_okv f_26 p_9 (cmp_Or_ok n _ (GL.mono hM_1 hG) A_5 cap_5 [x_1, x_2 - x_3, x_4, x_5] h_5 x_6 hx_6) (by kernel_rfl) (fun _ => by kernel_rfl) (fun w_8 p_10 a_25 f_27 => ?_)
  obtain ⟨M_2, hM_2, p_11⟩ := hb_1 _ _ _ (Mem.le_refl _) p_10
  have f_28 := Frm.set f_27 47 (v := .slice A_5 [x_1, x_2 - x_3, x_4, x_5].length cap_5) (v' := .slice (some ⟨b_1, 0, none⟩) 4 4) (by kernel_rfl) (hv_1.symm)
  refine V_run f_28 1 (by kernel_rfl) (fun a_26 f_29 => ?_)
  refine W_end rfl (T_n (R_seq (R_reg ?_)))
  refine V_run f_29 2 (by kernel_rfl) (fun a_27 f_30 => ?_)
  refine W_end rfl (T_n ?_)
  refine R_cond f_30 (b := !(decide (x_6 = 0))) (by kernel_rfl) (by kernel_rfl) (fun h_6 => ?_) (fun h_6 => ?_)
  · have k_1 : ¬ (x_6 = 0) := (not_iff decide_eq_true_iff).1 h_6
    have hF_8 := cnd_t h_6 hF_7
    refine R_seq (R_reg ?_)
    refine V_run f_30 2 (by kernel_rfl) (fun a_28 f_31 => ?_)
    refine W_end rfl (T_n (wp_ret (T_r ?_)))
    refine E_ret1 f_31 rfl (by kernel_rfl : Vc.look _ 4 = some (.int .i64 x_6)) ?_
    obtain rfl := Option.some.inj hF_8
    exact ⟨_, rfl, M_2, _, hM_2, (p_11.dropN 1), ⟨A_1, cap_1, A_2, cap_2, A_3, cap_3, A_4, cap_4, rfl, rfl, (h_1.mono hM_2), (h_2.mono hM_2), (h_3.mono hM_2), (h_4.mono hM_2)⟩⟩
  · have k_2 : ¬ (¬ (x_6 = 0)) := iff_f (not_iff decide_eq_true_iff) h_6
    have hF_9 := cnd_f h_6 hF_7
    refine wp_skip (T_n (R_seq (R_seq ?_)))
    refine R_draw p_11 (by kernel_rfl) (by kernel_rfl) ?_
    refine Q_run default f_30 3 (fun _ => by kernel_rfl) (fun a_29 f_32 => ?_)
    refine QV_eq (v := .slice A_1 d0_4.length cap_1) f_32 (by kernel_rfl) (fun _ pq => X_load1 (v := .slice A_1 d0_4.length cap_1) rfl (ad := ⟨b0, 4, none⟩) (by kernel_rfl) (by kernel_rfl) (pq.ownCell 1 rfl 4)) (fun a_30 f_33 => ?_)
    refine Q_run default f_33 4 (fun _ => by kernel_rfl) (fun a_31 f_34 => ?_)
    refine QV_eq (v := .slice A_3 d1_4.length cap_3) f_34 (by kernel_rfl) (fun _ pq => X_load1 (v := .slice A_3 d1_4.length cap_3) rfl (ad := ⟨b1, 4, none⟩) (by kernel_rfl) (by kernel_rfl) (pq.ownCell 2 rfl 4)) (fun a_32 f_35 => ?_)
    refine Q_run default f_35 1 (fun _ => by kernel_rfl) (fun a_33 f_36 => ?_)
    refine QV_eq (v := .int .i64 (min ((d0_4.length : Nat) : Int) ((d1_4.length : Nat) : Int))) f_36 (by kernel_rfl) (fun _ pq => X_min (k := .i64) (a := ((d0_4.length : Nat) : Int)) (b := ((d1_4.length : Nat) : Int)) rfl (by kernel_rfl) (by kernel_rfl)) (fun a_34 f_37 => ?_)
    refine Q_run default f_37 1 (fun _ => by kernel_rfl) (fun a_35 f_38 => ?_)
    refine Q_end rfl ?_
    intro w_9 p_12
    refine T_n (wp_block ?_)
    obtain ⟨b_2, hL_1, hF_10⟩ := bind_some' hF_9
    refine wp_mono (Q := fun e a w => (e = .ret ∧ (∃ y_2 : Int, b_2 = .inl y_2 ∧ ∃ M_5 : Mem, M_2.le M_5 ∧ Frm 117 [(4, .int .i64 y_2)] a ∧ Hp w0 M_5 ((Ent.row 3 1 (.slice (some ⟨b_1, 0, none⟩) 4 4) [x_1, x_2 - x_3, x_4, x_5].length [.int .i64 x_1, .int .i64 (x_2 - x_3), .int .i64 x_4, .int .i64 x_5]) :: (Ent.obj b0 (.cells #[.int .i8 d0_0, .bool d0_1, .int .i64 d0_2, S d0_3, .slice A_1 d0_4.length cap_1, .slice A_2 d0_5.length cap_2] 33 (0, 0))) :: (Ent.obj b1 (.cells #[.int .i8 d1_0, .bool d1_1, .int .i64 d1_2, S d1_3, .slice A_3 d1_4.length cap_3, .slice A_4 d1_5.length cap_4] 33 (0, 0))) :: H) w)) ∨ (e = .exit 0 ∧ (∃ y_3 : Unit, b_2 = .inr y_3 ∧ ∃ M_6 : Mem, M_2.le M_6 ∧ Frm 117 [(0, .pointer (some (⟨b0, 0, none⟩))), (1, .pointer (some (⟨b1, 0, none⟩)))] a ∧ Hp w0 M_6 ((Ent.row 3 1 (.slice (some ⟨b_1, 0, none⟩) 4 4) [x_1, x_2 - x_3, x_4, x_5].length [.int .i64 x_1, .int .i64 (x_2 - x_3), .int .i64 x_4, .int .i64 x_5]) :: (Ent.obj b0 (.cells #[.int .i8 d0_0, .bool d0_1, .int .i64 d0_2, S d0_3, .slice A_1 d0_4.length cap_1, .slice A_2 d0_5.length cap_2] 33 (0, 0))) :: (Ent.obj b1 (.cells #[.int .i8 d1_0, .bool d1_1, .int .i64 d1_2, S d1_3, .slice A_3 d1_4.length cap_3, .slice A_4 d1_5.length cap_4] 33 (0, 0))) :: H) w))) (R_loop (n := 117) (w0 := w0) (M := M_2) (fun (x : Nat × Int) => match x with | (m_1, s_1) => [(0, .pointer (some (⟨b0, 0, none⟩))), (1, .pointer (some (⟨b1, 0, none⟩))), (62, .int .i64 (min ((d0_4.length : Nat) : Int) ((d1_4.length : Nat) : Int))), (63, .int .i64 s_1)]) (fun (x : Nat × Int) => match x with | (m_1, s_1) => ((Ent.row 3 1 (.slice (some ⟨b_1, 0, none⟩) 4 4) [x_1, x_2 - x_3, x_4, x_5].length [.int .i64 x_1, .int .i64 (x_2 - x_3), .int .i64 x_4, .int .i64 x_5]) :: (Ent.obj b0 (.cells #[.int .i8 d0_0, .bool d0_1, .int .i64 d0_2, S d0_3, .slice A_1 d0_4.length cap_1, .slice A_2 d0_5.length cap_2] 33 (0, 0))) :: (Ent.obj b1 (.cells #[.int .i8 d1_0, .bool d1_1, .int .i64 d1_2, S d1_3, .slice A_3 d1_4.length cap_3, .slice A_4 d1_5.length cap_4] 33 (0, 0))) :: H)) (fun (x : Nat × Int) (MM : Mem) => match x with | (m_1, s_1) => loopF (tree_compare_2_s1 n d0_0 d0_4 d0_5 d1_4 d1_5) m_1 s_1 = some b_2) (fun (x : Nat × Int) => match x with | (m_1, s_1) => m_1) (n, (0 : Int)) (f_38.keep (ks := [0, 1, 62, 63]) (by kernel_rfl)) p_12 hL_1 ?_) ?_
    · rintro ⟨m_1, s_1⟩ M_3 a_36 w_10 hM_3 I_1 f_39 p_13
      have I_1L := I_1
      obtain ⟨m_2, r_1, rfl, hs_1, hn_1⟩ := loop_step I_1L
      unfold tree_compare_2_s1 at hs_1
      refine R_seq (R_reg ?_)
      refine V_run f_39 1 (by kernel_rfl) (fun a_37 f_40 => ?_)
      refine W_end rfl (T_n (R_seq ?_))
      refine R_cond f_40 (b := decide (s_1 < (min ((d0_4.length : Nat) : Int) ((d1_4.length : Nat) : Int)))) (by kernel_rfl) (by kernel_rfl) (fun h_7 => ?_) (fun h_7 => ?_)
      · have k_3 : s_1 < (min ((d0_4.length : Nat) : Int) ((d1_4.length : Nat) : Int)) := decide_eq_true_iff.1 h_7
        have hF_11 := cnd_t h_7 hs_1
        refine wp_skip (T_n (R_seq (wp_block (R_seq (R_reg ?_)))))
        refine V_run f_40 2 (by kernel_rfl) (fun a_38 f_41 => ?_)
        refine W_end rfl (T_n (R_seq (R_seq (R_reg ?_))))
        refine V_run f_41 3 (by kernel_rfl) (fun a_39 f_42 => ?_)
        refine V_eq (v := .int .i8 d0_0) f_42 (by kernel_rfl) (X_load1 (v := .int .i8 d0_0) rfl (ad := ⟨b0, 0, none⟩) (by kernel_rfl) (by kernel_rfl) (p_13.ownCell 1 rfl 0)) (fun a_40 f_43 => ?_)
        refine V_run f_43 1 (by kernel_rfl) (fun a_41 f_44 => ?_)
        refine W_end rfl (T_n ?_)
        obtain ⟨j_1, hj_1, hF_12⟩ := bind_some' hF_11
        refine R_mid (fun a_56 w_13 => ∃ y_1 : Unit, j_1 = .nx y_1 ∧ ∃ M_4 : Mem, M_3.le M_4 ∧ Frm 117 [(0, .pointer (some (⟨b0, 0, none⟩))), (1, .pointer (some (⟨b1, 0, none⟩))), (6, .int .i64 s_1), (62, .int .i64 (min ((d0_4.length : Nat) : Int) ((d1_4.length : Nat) : Int))), (63, .int .i64 s_1)] a_56 ∧ Hp w0 M_4 ((Ent.row 3 1 (.slice (some ⟨b_1, 0, none⟩) 4 4) [x_1, x_2 - x_3, x_4, x_5].length [.int .i64 x_1, .int .i64 (x_2 - x_3), .int .i64 x_4, .int .i64 x_5]) :: (Ent.obj b0 (.cells #[.int .i8 d0_0, .bool d0_1, .int .i64 d0_2, S d0_3, .slice A_1 d0_4.length cap_1, .slice A_2 d0_5.length cap_2] 33 (0, 0))) :: (Ent.obj b1 (.cells #[.int .i8 d1_0, .bool d1_1, .int .i64 d1_2, S d1_3, .slice A_3 d1_4.length cap_3, .slice A_4 d1_5.length cap_4] 33 (0, 0))) :: H) w_13) ?_ ?_
        · refine R_cond f_44 (b := decide (d0_0 = 5)) (by kernel_rfl) (by kernel_rfl) (fun h_8 => ?_) (fun h_8 => ?_)
          · have k_4 : d0_0 = 5 := decide_eq_true_iff.1 h_8
            have hF_13 := cnd_t h_8 hj_1
            refine R_seq ?_
            refine R_draw p_13 (by kernel_rfl) (by kernel_rfl) ?_
            refine Q_run default f_44 3 (fun _ => by kernel_rfl) (fun a_42 f_45 => ?_)
            refine QV_eq (v := .slice A_2 d0_5.length cap_2) f_45 (by kernel_rfl) (fun _ pq => X_load1 (v := .slice A_2 d0_5.length cap_2) rfl (ad := ⟨b0, 5, none⟩) (by kernel_rfl) (by kernel_rfl) (pq.ownCell 1 rfl 5)) (fun a_43 f_46 => ?_)
            refine Q_run default f_46 1 (fun _ => by kernel_rfl) (fun a_44 f_47 => ?_)
            obtain ⟨x_7, hx_7, hF_14⟩ := bind_some' hF_13
            obtain ⟨ad_1, c_1, e_1, hl_1, hr_2, hc_1⟩ := Sli.at_ (h_2.mono (hM_2.trans hM_3)) hx_7
            clear hl_1
            obtain rfl : c_1 = [S x_7] := hr_2
            refine QV_eq (v := .pointer (some (ad_1.add (s_1.toNat * 1)))) f_47 (by kernel_rfl) (fun _ pq => X_indexAddrA e_1 rfl (len := d0_5.length) (cap := cap_2) (k := .i64) (i := s_1) (by kernel_rfl) (by kernel_rfl) (e := 9) (by kernel_rfl) (sz := 1) (by kernel_rfl) (getI_nn hx_7) (getI_lt hx_7)) (fun a_45 f_48 => ?_)
            refine Q_ld f_48 hc_1 0 rfl (by kernel_rfl) (by kernel_rfl) (fun a_46 f_49 => ?_)
            refine Q_run default f_49 3 (fun _ => by kernel_rfl) (fun a_47 f_50 => ?_)
            refine QV_eq (v := .slice A_4 d1_5.length cap_4) f_50 (by kernel_rfl) (fun _ pq => X_load1 (v := .slice A_4 d1_5.length cap_4) rfl (ad := ⟨b1, 5, none⟩) (by kernel_rfl) (by kernel_rfl) (pq.ownCell 2 rfl 5)) (fun a_48 f_51 => ?_)
            refine Q_run default f_51 1 (fun _ => by kernel_rfl) (fun a_49 f_52 => ?_)
            obtain ⟨x_8, hx_8, hF_15⟩ := bind_some' hF_14
            obtain ⟨ad_2, c_2, e_2, hl_2, hr_3, hc_2⟩ := Sli.at_ (h_4.mono (hM_2.trans hM_3)) hx_8
            clear hl_2
            obtain rfl : c_2 = [S x_8] := hr_3
            refine QV_eq (v := .pointer (some (ad_2.add (s_1.toNat * 1)))) f_52 (by kernel_rfl) (fun _ pq => X_indexAddrA e_2 rfl (len := d1_5.length) (cap := cap_4) (k := .i64) (i := s_1) (by kernel_rfl) (by kernel_rfl) (e := 9) (by kernel_rfl) (sz := 1) (by kernel_rfl) (getI_nn hx_8) (getI_lt hx_8)) (fun a_50 f_53 => ?_)
            refine Q_ld f_53 hc_2 0 rfl (by kernel_rfl) (by kernel_rfl) (fun a_51 f_54 => ?_)
            obtain ⟨x_9, hx_9, hF_16⟩ := bind_some' hF_15
            refine QV_okv f_54 (h_Compare_ok n _ x_7 x_8 x_9 hx_9) (by kernel_rfl) (fun _ => by kernel_rfl) (fun a_52 f_55 => ?_)
            refine Q_run default f_55 1 (fun _ => by kernel_rfl) (fun a_53 f_56 => ?_)
            refine Q_end rfl ?_
            intro w_12 p_15
            refine T_n (R_seq (R_reg ?_))
            refine V_run f_56 2 (by kernel_rfl) (fun a_54 f_57 => ?_)
            refine W_end rfl (T_n ?_)
            refine R_cond f_57 (b := !(decide (x_9 = 0))) (by kernel_rfl) (by kernel_rfl) (fun h_9 => ?_) (fun h_9 => ?_)
            · have k_5 : ¬ (x_9 = 0) := (not_iff decide_eq_true_iff).1 h_9
              have hF_17 := cnd_t h_9 hF_16
              refine R_seq (R_reg ?_)
              refine V_run f_57 2 (by kernel_rfl) (fun a_55 f_58 => ?_)
              refine W_end rfl (T_n (wp_ret ?_))
              have hF_18 := br_elim hF_17 hF_12
              refine T_r (T_r (B_r (T_r (T_r ?_))))
              obtain rfl := Option.some.inj hF_18
              exact .inl ⟨rfl, x_9, (Option.some.inj hn_1).symm, M_3, hM_3, f_58.keep (ks := [4]) (by kernel_rfl), p_15⟩
            · have k_6 : ¬ (¬ (x_9 = 0)) := iff_f (not_iff decide_eq_true_iff) h_9
              have hF_19 := cnd_f h_9 hF_16
              refine wp_skip (T_n ?_)
              exact ⟨(), (Option.some.inj hF_19).symm, M_3, (Mem.le_refl _), f_57.keep (ks := [0, 1, 6, 62, 63]) (by kernel_rfl), p_15⟩
          · have k_7 : ¬ (d0_0 = 5) := iff_f decide_eq_true_iff h_8
            have hF_20 := cnd_f h_8 hj_1
            refine wp_skip (T_n ?_)
            exact ⟨(), (Option.some.inj hF_20).symm, M_3, (Mem.le_refl _), f_44.keep (ks := [0, 1, 6, 62, 63]) (by kernel_rfl), p_13⟩
        · rintro a_56 w_13 ⟨y_1, rfl, M_4, hM_4, f_59, p_16⟩
          refine T_n (R_seq ?_)
          refine R_draw p_16 (by kernel_rfl) (by kernel_rfl) ?_
          refine Q_run default f_59 3 (fun _ => by kernel_rfl) (fun a_57 f_60 => ?_)
          refine QV_eq (v := .slice A_1 d0_4.length cap_1) f_60 (by kernel_rfl) (fun _ pq => X_load1 (v := .slice A_1 d0_4.length cap_1) rfl (ad := ⟨b0, 4, none⟩) (by kernel_rfl) (by kernel_rfl) (pq.ownCell 1 rfl 4)) (fun a_58 f_61 => ?_)
          refine Q_run default f_61 1 (fun _ => by kernel_rfl) (fun a_59 f_62 => ?_)
          obtain ⟨x_10, hx_10, hF_21⟩ := bind_some' hF_12
          obtain ⟨ad_3, c_3, e_3, hl_3, hr_4, hc_3⟩ := Sli.at_ (h_1.mono ((hM_2.trans hM_3).trans hM_4)) hx_10
          clear hl_3
          obtain ⟨A_6, cap_6, A_7, cap_7, rfl, h_10, h_11⟩ := T_api_Value.opn hr_4
          refine QV_eq (v := .pointer (some (ad_3.add (s_1.toNat * 6)))) f_62 (by kernel_rfl) (fun _ pq => X_indexAddrA e_3 rfl (len := d0_4.length) (cap := cap_1) (k := .i64) (i := s_1) (by kernel_rfl) (by kernel_rfl) (e := 33) (by kernel_rfl) (sz := 6) (by kernel_rfl) (getI_nn hx_10) (getI_lt hx_10)) (fun a_60 f_63 => ?_)
          refine Q_run default f_63 3 (fun _ => by kernel_rfl) (fun a_61 f_64 => ?_)
          refine QV_eq (v := .slice A_3 d1_4.length cap_3) f_64 (by kernel_rfl) (fun _ pq => X_load1 (v := .slice A_3 d1_4.length cap_3) rfl (ad := ⟨b1, 4, none⟩) (by kernel_rfl) (by kernel_rfl) (pq.ownCell 2 rfl 4)) (fun a_62 f_65 => ?_)
          refine Q_run default f_65 1 (fun _ => by kernel_rfl) (fun a_63 f_66 => ?_)
          obtain ⟨x_11, hx_11, hF_22⟩ := bind_some' hF_21
          obtain ⟨ad_4, c_4, e_4, hl_4, hr_5, hc_4⟩ := Sli.at_ (h_3.mono ((hM_2.trans hM_3).trans hM_4)) hx_11
          clear hl_4
          obtain ⟨A_8, cap_8, A_9, cap_9, rfl, h_12, h_13⟩ := T_api_Value.opn hr_5
          refine QV_eq (v := .pointer (some (ad_4.add (s_1.toNat * 6)))) f_66 (by kernel_rfl) (fun _ pq => X_indexAddrA e_4 rfl (len := d1_4.length) (cap := cap_3) (k := .i64) (i := s_1) (by kernel_rfl) (by kernel_rfl) (e := 33) (by kernel_rfl) (sz := 6) (by kernel_rfl) (getI_nn hx_11) (getI_lt hx_11)) (fun a_64 f_67 => ?_)
          obtain ⟨x_12, hx_12, hF_23⟩ := bind_some' hF_22
          refine QV_okv f_67 (tree_compare_ok n _ (GL.mono ((hM_2.trans hM_3).trans hM_4) hG) (ad_3.add (s_1.toNat * 6)) [.int .i8 x_10.fKind, .bool x_10.fBool, .int .i64 x_10.fNum, S x_10.fText, .slice A_6 x_10.fList.length cap_6, .slice A_7 x_10.fKeys.length cap_7] x_10 (T_api_Value.shutx (x := x_10) h_10 h_11) (fz_at (hc_3) 0 rfl) (ad_4.add (s_1.toNat * 6)) [.int .i8 x_11.fKind, .bool x_11.fBool, .int .i64 x_11.fNum, S x_11.fText, .slice A_8 x_11.fList.length cap_8, .slice A_9 x_11.fKeys.length cap_9] x_11 (T_api_Value.shutx (x := x_11) h_12 h_13) (fz_at (hc_4) 0 rfl) x_12 hx_12) (by kernel_rfl) (fun _ => by kernel_rfl) (fun a_65 f_68 => ?_)
          refine Q_run default f_68 1 (fun _ => by kernel_rfl) (fun a_66 f_69 => ?_)
          refine Q_end rfl ?_
          intro w_15 p_18
          refine T_n (R_seq (R_reg ?_))
          refine V_run f_69 2 (by kernel_rfl) (fun a_67 f_70 => ?_)
          refine W_end rfl (T_n ?_)
          refine R_cond f_70 (b := !(decide (x_12 = 0))) (by kernel_rfl) (by kernel_rfl) (fun h_14 => ?_) (fun h_14 => ?_)
          · have k_8 : ¬ (x_12 = 0) := (not_iff decide_eq_true_iff).1 h_14
            have hF_24 := cnd_t h_14 hF_23
            refine R_seq (R_reg ?_)
            refine V_run f_70 2 (by kernel_rfl) (fun a_68 f_71 => ?_)
            refine W_end rfl (T_n (wp_ret (B_r (T_r (T_r ?_)))))
            obtain rfl := Option.some.inj hF_24
            exact .inl ⟨rfl, x_12, (Option.some.inj hn_1).symm, M_4, (hM_3.trans hM_4), f_71.keep (ks := [4]) (by kernel_rfl), p_18⟩
          · have k_9 : ¬ (¬ (x_12 = 0)) := iff_f (not_iff decide_eq_true_iff) h_14
            have hF_25 := cnd_f h_14 hF_23
            refine wp_skip (B_n (T_n (R_reg ?_)))
            obtain ⟨g_2, hF_26⟩ := need_some hF_25
            refine V_run f_70 1 (by kernel_rfl) (fun a_69 f_72 => ?_)
            have f_73 := Frm.set f_72 105 (v := .int .i64 (IntKind.wrap .i64 (s_1 + 1))) (v' := .int .i64 (s_1 + 1)) (by kernel_rfl) (congrArg (Value.int .i64) (inR_wrap g_2))
            refine V_run f_73 1 (by kernel_rfl) (fun a_70 f_74 => ?_)
            refine W_end rfl (T_n ?_)
            obtain rfl := Option.some.inj hF_26
            exact ⟨⟨m_2, s_1 + 1⟩, Nat.lt_succ_self _, M_4, (hM_3.trans hM_4), hn_1, f_74.keep (ks := [0, 1, 62, 63]) (by kernel_rfl), p_18⟩
      · have k_10 : ¬ (s_1 < (min ((d0_4.length : Nat) : Int) ((d1_4.length : Nat) : Int))) := iff_f decide_eq_true_iff h_7
        have hF_27 := cnd_f h_7 hs_1
        refine wp_exit (T_x (T_x ?_))
        obtain rfl := Option.some.inj hF_27
        exact .inr ⟨rfl, (), (Option.some.inj hn_1).symm, M_3, hM_3, f_40.keep (ks := [0, 1]) (by kernel_rfl), p_13⟩
    · rintro _ a_73 w_18 (⟨rfl, y_2, rfl, M_5, hM_5, f_75, p_19⟩ | ⟨rfl, y_3, rfl, M_6, hM_6, f_76, p_20⟩)
      · refine B_r (T_r ?_)
        refine E_ret1 f_75 rfl (by kernel_rfl : Vc.look _ 4 = some (.int .i64 y_2)) ?_
        obtain rfl := Option.some.inj hF_10
        exact ⟨_, rfl, M_5, _, (hM_2.trans hM_5), (p_19.dropN 1), ⟨A_1, cap_1, A_2, cap_2, A_3, cap_3, A_4, cap_4, rfl, rfl, (h_1.mono (hM_2.trans hM_5)), (h_2.mono (hM_2.trans hM_5)), (h_3.mono (hM_2.trans hM_5)), (h_4.mono (hM_2.trans hM_5))⟩⟩
      · refine B_x (T_n (R_seq ?_))
        refine R_draw p_20 (by kernel_rfl) (by kernel_rfl) ?_
        refine Q_run default f_76 3 (fun _ => by kernel_rfl) (fun a_74 f_77 => ?_)
        refine QV_eq (v := .slice A_1 d0_4.length cap_1) f_77 (by kernel_rfl) (fun _ pq => X_load1 (v := .slice A_1 d0_4.length cap_1) rfl (ad := ⟨b0, 4, none⟩) (by kernel_rfl) (by kernel_rfl) (pq.ownCell 1 rfl 4)) (fun a_75 f_78 => ?_)
        refine Q_run default f_78 4 (fun _ => by kernel_rfl) (fun a_76 f_79 => ?_)
        refine QV_eq (v := .slice A_3 d1_4.length cap_3) f_79 (by kernel_rfl) (fun _ pq => X_load1 (v := .slice A_3 d1_4.length cap_3) rfl (ad := ⟨b1, 4, none⟩) (by kernel_rfl) (by kernel_rfl) (pq.ownCell 2 rfl 4)) (fun a_77 f_80 => ?_)
        refine Q_run default f_80 1 (fun _ => by kernel_rfl) (fun a_78 f_81 => ?_)
        obtain ⟨x_13, hx_13, hF_28⟩ := bind_some' hF_10
        refine QV_okv f_81 (cmp_Compare_2_ok n _ (GL.mono (hM_2.trans hM_6) hG) ((d0_4.length : Nat) : Int) ((d1_4.length : Nat) : Int) x_13 hx_13) (by kernel_rfl) (fun _ => by kernel_rfl) (fun a_79 f_82 => ?_)
        refine Q_run default f_82 1 (fun _ => by kernel_rfl) (fun a_80 f_83 => ?_)
        refine Q_end rfl ?_
        intro w_20 p_22
        refine T_n (wp_ret ?_)
        refine E_ret1 f_83 rfl (by kernel_rfl : Vc.look _ 4 = some (.int .i64 x_13)) ?_
        obtain rfl := Option.some.inj hF_28
        exact ⟨_, rfl, M_6, _, (hM_2.trans hM_6), (p_22.dropN 1), ⟨A_1, cap_1, A_2, cap_2, A_3, cap_3, A_4, cap_4, rfl, rfl, (h_1.mono (hM_2.trans hM_6)), (h_2.mono (hM_2.trans hM_6)), (h_3.mono (hM_2.trans hM_6)), (h_4.mono (hM_2.trans hM_6))⟩⟩

def tree_both (n : Nat) (d0 : T_api_Value) (d1 : T_api_Value) : Option (Int × Bool) :=
  (((tree_Check n d0).bind fun x_1 =>
    bif (!(decide (x_1 = 0))) then
      (some ((true)))
    else
      (tree_Check n d1).bind fun x_2 =>
      some ((!(decide (x_2 = 0)))) : Option Bool)).bind fun y_1 =>
  bif y_1 then
    (some (((0 : Int), (false))))
  else
    (tree_sorted n d0).bind fun x_3 =>
    (tree_sorted n d1).bind fun x_4 =>
    (tree_compare_2 n x_3.fKind (x_3.fBool) x_3.fNum x_3.fText x_3.fList x_3.fKeys x_4.fKind (x_4.fBool) x_4.fNum x_4.fText x_4.fList x_4.fKeys).bind fun x_5 =>
    some ((x_5.1, (true)))
set_option maxHeartbeats 2000000 in
theorem tree_both_ok (n : Nat) (M : Mem) (hG : GL M) (c0 : List Value) (d0 : T_api_Value) (h0 : Rep M (emb_T_api_Value d0) c0) (c1 : List Value) (d1 : T_api_Value) (h1 : Rep M (emb_T_api_Value d1) c1) (r : Int × Bool) (hF : tree_both n d0 d1 = some r) : Ok Tryd.prog M 71 [.agg c0.toArray, .agg c1.toArray] (fun _ v => v = .tuple #[.int .i64 r.1, .bool r.2]) := by
  unfold tree_both at hF
  intro M1 hM0 w0 H w p0
  replace hG := GL.mono hM0 hG
  replace h0 := Rep.mono hM0 _ _ h0
  replace h1 := Rep.mono hM0 _ _ h1
  obtain ⟨A_1, cap_1, A_2, cap_2, rfl, h_1, h_2⟩ := T_api_Value.opn h0
  obtain ⟨A_3, cap_3, A_4, cap_4, rfl, h_3, h_4⟩ := T_api_Value.opn h1
  refine R_enter 19 Tryd.func71 rfl rfl (by simp) (fun a0 f0 => ?_)
  refine R_seq (R_reg ?_)
  refine V_box (cs := #[.int .i8 d0.fKind, .bool d0.fBool, .int .i64 d0.fNum, S d0.fText, .slice A_1 d0.fList.length cap_1, .slice A_2 d0.fKeys.length cap_2]) (T := 33) f0 p0 (by kernel_rfl) (fun _ => by kernel_rfl) (fun b_1 M_1 w_1 hM_1 hc_1 p_1 a_1 f_1 => ?_)
  have hc_2 := fz_box hc_1
  refine V_box (cs := #[.int .i8 d1.fKind, .bool d1.fBool, .int .i64 d1.fNum, S d1.fText, .slice A_3 d1.fList.length cap_3, .slice A_4 d1.fKeys.length cap_4]) (T := 33) f_1 p_1 (by kernel_rfl) (fun _ => by kernel_rfl) (fun b_2 M_2 w_2 hM_2 hc_3 p_2 a_2 f_2 => ?_)
  have hc_4 := fz_box hc_3
  refine V_run f_2 2 (by kernel_rfl) (fun a_3 f_3 => ?_)
  refine W_end rfl (T_n (R_seq (R_seq ?_)))
  obtain ⟨j_1, hj_1, hF_1⟩ := bind_some' hF
  refine R_mid (fun a_11 w_5 => ∃ y_1 : Bool, j_1 = y_1 ∧ ∃ M_3 : Mem, M_2.le M_3 ∧ Frm 19 [(2, .pointer (some (⟨b_1, 0, none⟩))), (3, .pointer (some (⟨b_2, 0, none⟩))), (15, .bool y_1)] a_11 ∧ Hp w0 M_3 (H) w_5) ?_ ?_
  · refine R_reg ?_
    refine V_eq (v := .agg #[.int .i8 d0.fKind, .bool d0.fBool, .int .i64 d0.fNum, S d0.fText, .slice A_1 d0.fList.length cap_1, .slice A_2 d0.fKeys.length cap_2]) f_3 (by kernel_rfl) (X_loadN (cs := [.int .i8 d0.fKind, .bool d0.fBool, .int .i64 d0.fNum, S d0.fText, .slice A_1 d0.fList.length cap_1, .slice A_2 d0.fKeys.length cap_2]) rfl (ad := ⟨b_1, 0, none⟩) (by kernel_rfl) (by kernel_rfl) (fun j v h => p_2.cell ((fzu hM_2 hc_2) j v h))) (fun a_4 f_4 => ?_)
    obtain ⟨x_1, hx_1, hF_2⟩ := bind_some' hj_1
    refine V_okv f_4 p_2 (tree_Check_ok n _ (GL.mono (hM_1.trans hM_2) hG) _ d0 (T_api_Value.shutx (x := d0) (h_1.mono (hM_1.trans hM_2)) (h_2.mono (hM_1.trans hM_2))) x_1 hx_1) (by kernel_rfl) (fun _ => by kernel_rfl) (fun w_3 p_3 a_5 f_5 => ?_)
    refine V_run f_5 2 (by kernel_rfl) (fun a_6 f_6 => ?_)
    rcases Bool.eq_false_or_eq_true (!(decide (x_1 = 0))) with h_5 | h_5
    · have k_1 : ¬ (x_1 = 0) := (not_iff decide_eq_true_iff).1 h_5
      have hF_3 := cnd_t h_5 hF_2
      have f_7 := Frm.set f_6 11 (v := .bool (!(decide (x_1 = 0)))) (v' := .bool true) (by kernel_rfl) (congrArg Value.bool h_5)
      refine V_run f_7 4 (by kernel_rfl) (fun a_7 f_8 => ?_)
      refine W_end rfl (T_n ?_)
      exact ⟨(true), (Option.some.inj hF_3).symm, M_2, (Mem.le_refl _), f_8.keep (ks := [2, 3, 15]) (by kernel_rfl), p_3⟩
    · have k_2 : ¬ (¬ (x_1 = 0)) := iff_f (not_iff decide_eq_true_iff) h_5
      have hF_4 := cnd_f h_5 hF_2
      have f_9 := Frm.set f_6 11 (v := .bool (!(decide (x_1 = 0)))) (v' := .bool false) (by kernel_rfl) (congrArg Value.bool h_5)
      refine V_eq (v := .agg #[.int .i8 d1.fKind, .bool d1.fBool, .int .i64 d1.fNum, S d1.fText, .slice A_3 d1.fList.length cap_3, .slice A_4 d1.fKeys.length cap_4]) f_9 (by kernel_rfl) (X_loadN (cs := [.int .i8 d1.fKind, .bool d1.fBool, .int .i64 d1.fNum, S d1.fText, .slice A_3 d1.fList.length cap_3, .slice A_4 d1.fKeys.length cap_4]) rfl (ad := ⟨b_2, 0, none⟩) (by kernel_rfl) (by kernel_rfl) (fun j v h => p_3.cell (hc_4 j v h))) (fun a_8 f_10 => ?_)
      obtain ⟨x_2, hx_2, hF_5⟩ := bind_some' hF_4
      refine V_okv f_10 p_3 (tree_Check_ok n _ (GL.mono (hM_1.trans hM_2) hG) _ d1 (T_api_Value.shutx (x := d1) (h_3.mono (hM_1.trans hM_2)) (h_4.mono (hM_1.trans hM_2))) x_2 hx_2) (by kernel_rfl) (fun _ => by kernel_rfl) (fun w_4 p_4 a_9 f_11 => ?_)
      refine V_run f_11 2 (by kernel_rfl) (fun a_10 f_12 => ?_)
      refine W_end rfl (T_n ?_)
      exact ⟨(!(decide (x_2 = 0))), (Option.some.inj hF_5).symm, M_2, (Mem.le_refl _), f_12.keep (ks := [2, 3, 15]) (by kernel_rfl), p_4⟩
  · rintro a_11 w_5 ⟨y_1, hq_1, M_3, hM_3, f_13, p_5⟩
    subst j_1
    refine T_n ?_
    refine R_cond f_13 (b := y_1) (by kernel_rfl) (by kernel_rfl) (fun h_6 => ?_) (fun h_6 => ?_)
    · have hF_6 := cnd_t h_6 hF_1
      refine R_seq (R_reg ?_)
      refine V_run f_13 2 (by kernel_rfl) (fun a_12 f_14 => ?_)
      refine W_end rfl (T_n (wp_ret (T_r ?_)))
      refine E_ret2 f_14 rfl (by kernel_rfl : Vc.look _ 4 = some (.int .i64 0)) (by kernel_rfl : Vc.look _ 5 = some (.bool false)) ?_
      obtain rfl := Option.some.inj hF_6
      exact ⟨_, rfl, M_3, ((hM_1.trans hM_2).trans hM_3), p_5, rfl⟩
    · have hF_7 := cnd_f h_6 hF_1
      refine wp_skip (T_n (R_seq (R_reg ?_)))
      obtain ⟨x_3, hx_3, hF_8⟩ := bind_some' hF_7
      refine V_ok f_13 p_5 (tree_sorted_ok n _ (GL.mono ((hM_1.trans hM_2).trans hM_3) hG) (⟨b_1, 0, none⟩) [.int .i8 d0.fKind, .bool d0.fBool, .int .i64 d0.fNum, S d0.fText, .slice A_1 d0.fList.length cap_1, .slice A_2 d0.fKeys.length cap_2] d0 (T_api_Value.shutx (x := d0) (h_1.mono ((hM_1.trans hM_2).trans hM_3)) (h_2.mono ((hM_1.trans hM_2).trans hM_3))) (fz_at ((fzu (hM_2.trans hM_3) hc_2)) 0 rfl) x_3 hx_3) (by kernel_rfl) (fun _ => by kernel_rfl) (fun u_1 M_4 w_6 hM_4 p_6 q_1 a_13 f_15 => ?_)
      obtain ⟨c_1, rfl, hr_1⟩ := q_1
      obtain ⟨A_5, cap_5, A_6, cap_6, rfl, h_7, h_8⟩ := T_api_Value.opn hr_1
      obtain ⟨x_4, hx_4, hF_9⟩ := bind_some' hF_8
      refine V_ok f_15 p_6 (tree_sorted_ok n _ (GL.mono (((hM_1.trans hM_2).trans hM_3).trans hM_4) hG) (⟨b_2, 0, none⟩) [.int .i8 d1.fKind, .bool d1.fBool, .int .i64 d1.fNum, S d1.fText, .slice A_3 d1.fList.length cap_3, .slice A_4 d1.fKeys.length cap_4] d1 (T_api_Value.shutx (x := d1) (h_3.mono (((hM_1.trans hM_2).trans hM_3).trans hM_4)) (h_4.mono (((hM_1.trans hM_2).trans hM_3).trans hM_4))) (fz_at ((fzu (hM_3.trans hM_4) hc_4)) 0 rfl) x_4 hx_4) (by kernel_rfl) (fun _ => by kernel_rfl) (fun u_2 M_5 w_7 hM_5 p_7 q_2 a_14 f_16 => ?_)
      obtain ⟨c_2, rfl, hr_2⟩ := q_2
      obtain ⟨A_7, cap_7, A_8, cap_8, rfl, h_9, h_10⟩ := T_api_Value.opn hr_2
      refine V_alloc f_16 p_7 (.cells #[.int .i8 0, .bool false, .int .i64 0, S [], .slice none 0 0, .slice none 0 0] 33 (0, 0)) (by kernel_rfl) (fun _ => by kernel_rfl) (fun b_3 w_8 p_8 a_15 f_17 => ?_)
      refine V_alloc f_17 p_8 (.cells #[.int .i8 0, .bool false, .int .i64 0, S [], .slice none 0 0, .slice none 0 0] 33 (0, 0)) (by kernel_rfl) (fun _ => by kernel_rfl) (fun b_4 w_9 p_9 a_16 f_18 => ?_)
      have p_10 := p_9.pl [1]
      refine W_storeN (vs := [.int .i8 x_3.fKind, .bool x_3.fBool, .int .i64 x_3.fNum, S x_3.fText, .slice A_5 x_3.fList.length cap_5, .slice A_6 x_3.fKeys.length cap_6]) (j := 0) f_18 p_10 (by kernel_rfl) (by kernel_rfl) rfl rfl (by kernel_rfl) (by kernel_rfl) (by simp [Value.oneCell', S]) (by kernel_rfl) (by simp) (by decide) (cs' := #[.int .i8 x_3.fKind, .bool x_3.fBool, .int .i64 x_3.fNum, S x_3.fText, .slice A_5 x_3.fList.length cap_5, .slice A_6 x_3.fKeys.length cap_6]) rfl (fun w_10 p_11 a_17 f_19 => ?_)
      have p_12 := p_11.pl [1]
      refine W_storeN (vs := [.int .i8 x_4.fKind, .bool x_4.fBool, .int .i64 x_4.fNum, S x_4.fText, .slice A_7 x_4.fList.length cap_7, .slice A_8 x_4.fKeys.length cap_8]) (j := 0) f_19 p_12 (by kernel_rfl) (by kernel_rfl) rfl rfl (by kernel_rfl) (by kernel_rfl) (by simp [Value.oneCell', S]) (by kernel_rfl) (by simp) (by decide) (cs' := #[.int .i8 x_4.fKind, .bool x_4.fBool, .int .i64 x_4.fNum, S x_4.fText, .slice A_7 x_4.fList.length cap_7, .slice A_8 x_4.fKeys.length cap_8]) rfl (fun w_11 p_13 a_18 f_20 => ?_)
      refine W_end rfl (T_n (R_seq (R_reg ?_)))
      obtain ⟨x_5, hx_5, hF_10⟩ := bind_some' hF_9
      have p_15 := p_13.pl [1]
      refine V_okH (E := [Ent.obj b_3 (.cells #[.int .i8 x_3.fKind, .bool x_3.fBool, .int .i64 x_3.fNum, S x_3.fText, .slice A_5 x_3.fList.length cap_5, .slice A_6 x_3.fKeys.length cap_6] 33 (0, 0)), Ent.obj b_4 (.cells #[.int .i8 x_4.fKind, .bool x_4.fBool, .int .i64 x_4.fNum, S x_4.fText, .slice A_7 x_4.fList.length cap_7, .slice A_8 x_4.fKeys.length cap_8] 33 (0, 0))]) (H := (H)) f_20 p_15 (tree_compare_2_ok n _ (GL.mono ((((hM_1.trans hM_2).trans hM_3).trans hM_4).trans hM_5) hG) b_3 x_3.fKind (x_3.fBool) x_3.fNum x_3.fText x_3.fList A_5 cap_5 (h_7.mono hM_5) x_3.fKeys A_6 cap_6 (h_8.mono hM_5) b_4 x_4.fKind (x_4.fBool) x_4.fNum x_4.fText x_4.fList A_7 cap_7 h_9 x_4.fKeys A_8 cap_8 h_10 x_5 hx_5) (by kernel_rfl) (fun _ => by kernel_rfl) (fun u_3 M_6 E_1 w_12 hM_6 p_14 q_3 a_19 f_21 => ?_)
      obtain ⟨A_9, cap_9, A_10, cap_10, A_11, cap_11, A_12, cap_12, rfl, rfl, h_11, h_12, h_13, h_14⟩ := q_3
      refine V_run f_21 2 (by kernel_rfl) (fun a_20 f_22 => ?_)
      refine W_end rfl (T_n (wp_ret ?_))
      refine E_ret2 f_22 rfl (by kernel_rfl : Vc.look _ 4 = some (.int .i64 x_5.1)) (by kernel_rfl : Vc.look _ 5 = some (.bool true)) ?_
      obtain rfl := Option.some.inj hF_10
      exact ⟨_, rfl, M_6, (((((hM_1.trans hM_2).trans hM_3).trans hM_4).trans hM_5).trans hM_6), (p_14.dropN 2), rfl⟩

def tree_Equal (n : Nat) (d0 : T_api_Value) (d1 : T_api_Value) : Option Bool :=
  (tree_both n d0 d1).bind fun x_1 =>
  bif x_1.2 then
    (some ((decide (x_1.1 = 0))))
  else
    some ((false))
set_option maxHeartbeats 2000000 in
theorem tree_Equal_ok (n : Nat) (M : Mem) (hG : GL M) (c0 : List Value) (d0 : T_api_Value) (h0 : Rep M (emb_T_api_Value d0) c0) (c1 : List Value) (d1 : T_api_Value) (h1 : Rep M (emb_T_api_Value d1) c1) (r : Bool) (hF : tree_Equal n d0 d1 = some r) : Ok Tryd.prog M 36 [.agg c0.toArray, .agg c1.toArray] (fun _ v => v = .bool r) := by
  unfold tree_Equal at hF
  intro M1 hM0 w0 H w p0
  replace hG := GL.mono hM0 hG
  replace h0 := Rep.mono hM0 _ _ h0
  replace h1 := Rep.mono hM0 _ _ h1
  obtain ⟨A_1, cap_1, A_2, cap_2, rfl, h_1, h_2⟩ := T_api_Value.opn h0
  obtain ⟨A_3, cap_3, A_4, cap_4, rfl, h_3, h_4⟩ := T_api_Value.opn h1
  refine R_enter 18 Tryd.func36 rfl rfl (by simp) (fun a0 f0 => ?_)
  refine R_seq (R_reg ?_)
  refine V_box (cs := #[.int .i8 d0.fKind, .bool d0.fBool, .int .i64 d0.fNum, S d0.fText, .slice A_1 d0.fList.length cap_1, .slice A_2 d0.fKeys.length cap_2]) (T := 33) f0 p0 (by kernel_rfl) (fun _ => by kernel_rfl) (fun b_1 M_1 w_1 hM_1 hc_1 p_1 a_1 f_1 => ?_)
  have hc_2 := fz_box hc_1
  refine V_box (cs := #[.int .i8 d1.fKind, .bool d1.fBool, .int .i64 d1.fNum, S d1.fText, .slice A_3 d1.fList.length cap_3, .slice A_4 d1.fKeys.length cap_4]) (T := 33) f_1 p_1 (by kernel_rfl) (fun _ => by kernel_rfl) (fun b_2 M_2 w_2 hM_2 hc_3 p_2 a_2 f_2 => ?_)
  have hc_4 := fz_box hc_3
  refine V_run f_2 1 (by kernel_rfl) (fun a_3 f_3 => ?_)
  refine W_end rfl (T_n (R_seq (R_reg ?_)))
  refine V_eq (v := .agg #[.int .i8 d0.fKind, .bool d0.fBool, .int .i64 d0.fNum, S d0.fText, .slice A_1 d0.fList.length cap_1, .slice A_2 d0.fKeys.length cap_2]) f_3 (by kernel_rfl) (X_loadN (cs := [.int .i8 d0.fKind, .bool d0.fBool, .int .i64 d0.fNum, S d0.fText, .slice A_1 d0.fList.length cap_1, .slice A_2 d0.fKeys.length cap_2]) rfl (ad := ⟨b_1, 0, none⟩) (by kernel_rfl) (by kernel_rfl) (fun j v h => p_2.cell ((fzu hM_2 hc_2) j v h))) (fun a_4 f_4 => ?_)
  refine V_eq (v := .agg #[.int .i8 d1.fKind, .bool d1.fBool, .int .i64 d1.fNum, S d1.fText, .slice A_3 d1.fList.length cap_3, .slice A_4 d1.fKeys.length cap_4]) f_4 (by kernel_rfl) (X_loadN (cs := [.int .i8 d1.fKind, .bool d1.fBool, .int .i64 d1.fNum, S d1.fText, .slice A_3 d1.fList.length cap_3, .slice A_4 d1.fKeys.length cap_4]) rfl (ad := ⟨b_2, 0, none⟩) (by kernel_rfl) (by kernel_rfl) (fun j v h => p_2.cell (hc_4 j v h))) (fun a_5 f_5 => ?_)
  obtain ⟨x_1, hx_1, hF_1⟩ := bind_some' hF
  refine V_okv f_5 p_2 (tree_both_ok n _ (GL.mono (hM_1.trans hM_2) hG) _ d0 (T_api_Value.shutx (x := d0) (h_1.mono (hM_1.trans hM_2)) (h_2.mono (hM_1.trans hM_2))) _ d1 (T_api_Value.shutx (x := d1) (h_3.mono (hM_1.trans hM_2)) (h_4.mono (hM_1.trans hM_2))) x_1 hx_1) (by kernel_rfl) (fun _ => by kernel_rfl) (fun w_3 p_3 a_6 f_6 => ?_)
  refine V_run f_6 5 (by kernel_rfl) (fun a_7 f_7 => ?_)
  refine W_end rfl (T_n (R_seq (R_reg ?_)))
  refine V_run f_7 2 (by kernel_rfl) (fun a_8 f_8 => ?_)
  rcases Bool.eq_false_or_eq_true (x_1.2) with h_5 | h_5
  · have hF_2 := cnd_t h_5 hF_1
    have f_9 := Frm.set f_8 14 (v := .bool x_1.2) (v' := .bool true) (by kernel_rfl) (congrArg Value.bool h_5)
    refine V_run f_9 4 (by kernel_rfl) (fun a_9 f_10 => ?_)
    refine W_end rfl (T_n (wp_ret ?_))
    refine E_ret1 f_10 rfl (by kernel_rfl : Vc.look _ 4 = some (.bool (decide (x_1.1 = 0)))) ?_
    obtain rfl := Option.some.inj hF_2
    exact ⟨_, rfl, M_2, (hM_1.trans hM_2), p_3, rfl⟩
  · have hF_3 := cnd_f h_5 hF_1
    have f_11 := Frm.set f_8 14 (v := .bool x_1.2) (v' := .bool false) (by kernel_rfl) (congrArg Value.bool h_5)
    refine V_run f_11 4 (by kernel_rfl) (fun a_10 f_12 => ?_)
    refine W_end rfl (T_n (wp_ret ?_))
    refine E_ret1 f_12 rfl (by kernel_rfl : Vc.look _ 4 = some (.bool false)) ?_
    obtain rfl := Option.some.inj hF_3
    exact ⟨_, rfl, M_2, (hM_1.trans hM_2), p_3, rfl⟩
end Go.Proofs.YtalifkcchfkgmaaDoor
