/-
  Printed by a program: of each function its shallow reading, and the proof that the function gives what the reading gives. No condition.
-/
import Derived.Test.YtdmjgmleilgbpaaDoorQ1
import Derived.Test.YtdmjgmleilgbpaaDoorTy
set_option linter.unusedVariables false
set_option linter.unusedSimpArgs false
namespace Go.Proofs.YtdmjgmleilgbpaaDoor
open Go Go.Vc Go.RowKit
def ref12_hole (n : Nat) (d0 : List UInt8) : Option (T_api_Expr × Bool) :=
  (ref12_dot n d0).bind fun x_1 =>
  bif (decide (x_1 < 0)) then
    ((ref01_Name n d0).bind fun x_2 =>
    some (((⟨(3 : Int), ([] : List UInt8), (0 : Int), d0, ([] : List UInt8), ([] : List T_api_Expr)⟩ : T_api_Expr), (x_2))))
  else
    need (0 ≤ x_1 ∧ x_1 ≤ d0.length) <|
    need (inR .i64 (x_1 + 1)) <|
    need (0 ≤ (x_1 + 1) ∧ (x_1 + 1) ≤ d0.length) <|
    need (0 ≤ x_1 ∧ x_1 ≤ d0.length) <|
    (ref01_Name n (d0.take x_1.toNat)).bind fun x_3 =>
    bif x_3 then
      (need (inR .i64 (x_1 + 1)) <|
      need (0 ≤ (x_1 + 1) ∧ (x_1 + 1) ≤ d0.length) <|
      (ref12_Attr n (d0.drop (x_1 + 1).toNat)).bind fun x_4 =>
      some (((⟨(4 : Int), ([] : List UInt8), (0 : Int), d0.take x_1.toNat, d0.drop (x_1 + 1).toNat, ([] : List T_api_Expr)⟩ : T_api_Expr), (x_4))))
    else
      some (((⟨(4 : Int), ([] : List UInt8), (0 : Int), d0.take x_1.toNat, d0.drop (x_1 + 1).toNat, ([] : List T_api_Expr)⟩ : T_api_Expr), (false)))
theorem ref12_hole_ok (n : Nat) (M : Mem) (d0 : List UInt8) (r : T_api_Expr × Bool) (hF : ref12_hole n d0 = some r) : Ok Tryd.prog M 32 [S d0] (fun M' v => ∃ (c0 : List Value), v = .tuple #[.agg c0.toArray, .bool r.2] ∧ Rep M' (emb_T_api_Expr r.1) c0) := by
  unfold ref12_hole at hF
  intro M1 hM0 w0 H w p0
  refine R_enter 32 Tryd.func32 rfl rfl (by simp) (fun a0 f0 => ?_)
  replace f0 : Frm 32 [(0, S d0)] a0 := f0
  refine R_seq ?_
  refine R_reg ?_
  refine W_alloc f0 p0 1 [0, 2] (.cells #[.int .i8 0, S [], .int .i64 0, S [], S [], .slice none 0 0] 29 (0, 0)) (fun b_1 => [(0, S d0), (2, .pointer (some (⟨b_1, 0, none⟩)))]) (fun _ => by kernel_rfl) (fun b_1 w_1 p_1 a_1 f_1 => ?_)
  replace f_1 : Frm 32 [(0, S d0), (2, .pointer (some (⟨b_1, 0, none⟩)))] a_1 := f_1
  refine W_run (L' := [(0, S d0), (2, .pointer (some (⟨b_1, 0, none⟩)))]) (w' := w_1) f_1 1 [0, 2] (by kernel_rfl) (fun a_2 f_2 => ?_)
  refine W_end rfl ?_
  refine T_n ?_
  refine R_seq ?_
  refine R_reg ?_
  refine W_run (L' := [(0, S d0), (2, .pointer (some (⟨b_1, 0, none⟩))), (5, S d0)]) (w' := w_1) f_2 1 [0, 2, 5] (by kernel_rfl) (fun a_3 f_3 => ?_)
  obtain ⟨x_1, hx_1, hF_1⟩ := bind_some' hF
  refine W_okv (v := .int .i64 x_1) f_3 p_1 (by kernel_rfl) (by kernel_rfl) rfl rfl (fun _ => by kernel_rfl) (ref12_dot_ok n _ d0 x_1 hx_1) (fun w_2 p_2 a_4 f_4 => ?_)
  refine W_run (L' := [(0, S d0), (2, .pointer (some (⟨b_1, 0, none⟩))), (4, .int .i64 x_1)]) (w' := w_2) f_4 1 [0, 2, 4] (by kernel_rfl) (fun a_5 f_5 => ?_)
  refine W_end rfl ?_
  refine T_n ?_
  refine R_seq ?_
  refine R_seq ?_
  refine R_reg ?_
  refine W_run (L' := [(0, S d0), (2, .pointer (some (⟨b_1, 0, none⟩))), (4, .int .i64 x_1), (8, .bool (decide (x_1 < 0)))]) (w' := w_2) f_5 2 [0, 2, 4, 8] (by kernel_rfl) (fun a_6 f_6 => ?_)
  refine W_end rfl ?_
  refine T_n ?_
  refine R_cond f_6 (b := decide (x_1 < 0)) (by kernel_rfl) (by kernel_rfl) (fun h_1 => ?_) (fun h_1 => ?_)
  · have k_1 : x_1 < 0 := decide_eq_true_iff.1 h_1
    have hF_2 := cnd_t h_1 hF_1
    refine R_seq ?_
    refine R_reg ?_
    refine W_run (L' := [(2, .pointer (some (⟨b_1, 0, none⟩))), (10, .agg #[.int .i8 3, S [], .int .i64 0, S d0, S [], .slice none 0 0]), (11, S d0)]) (w' := w_2) f_6 3 [2, 10, 11] (by kernel_rfl) (fun a_7 f_7 => ?_)
    obtain ⟨x_2, hx_2, hF_3⟩ := bind_some' hF_2
    refine W_okv (v := .bool x_2) f_7 p_2 (by kernel_rfl) (by kernel_rfl) rfl rfl (fun _ => by kernel_rfl) (ref01_Name_ok n _ d0 x_2 hx_2) (fun w_3 p_3 a_8 f_8 => ?_)
    refine W_storeN (vs := [.int .i8 3, S [], .int .i64 0, S d0, S [], .slice none 0 0]) (j := 0) f_8 p_3 (by kernel_rfl) (by kernel_rfl) rfl rfl (by kernel_rfl) (by kernel_rfl) (by simp [Value.oneCell', S]) (by kernel_rfl) (by simp) (by decide) (cs' := #[.int .i8 3, S [], .int .i64 0, S d0, S [], .slice none 0 0]) rfl (fun w_4 p_4 a_9 f_9 => ?_)
    refine W_run (L' := [(2, .pointer (some (⟨b_1, 0, none⟩))), (3, .bool x_2)]) (w' := w_4) f_9 1 [2, 3] (by kernel_rfl) (fun a_10 f_10 => ?_)
    refine W_end rfl ?_
    refine T_n ?_
    refine wp_ret ?_
    refine T_r ?_
    refine E_rv2 f_10 rfl (Rv.cellN (cs := [.int .i8 3, S [], .int .i64 0, S d0, S [], .slice none 0 0]) (ad := ⟨b_1, 0, none⟩) f_10 (by kernel_rfl) (by kernel_rfl) (own_cells (p_4.ownCell 0 rfl) 0 rfl)) (Rv.slot (v := .bool x_2) f_10 (by kernel_rfl)) ?_
    obtain rfl := Option.some.inj hF_3
    exact ⟨_, rfl, M1, (Mem.le_refl _), (p_4.dropN 1), ⟨[.int .i8 3, S [], .int .i64 0, S d0, S [], .slice none 0 0], rfl, (T_api_Expr.shut Sli.nil)⟩⟩
  · have k_2 : ¬ (x_1 < 0) := iff_f decide_eq_true_iff h_1
    have hF_4 := cnd_f h_1 hF_1
    refine wp_skip ?_
    refine T_n ?_
    refine R_seq ?_
    refine R_mix (E := [Ent.obj b_1 (.cells #[.int .i8 0, S [], .int .i64 0, S [], S [], .slice none 0 0] 29 (0, 0))]) (Hr := (H)) [(0, true), (1, true), (2, true), (3, true), (4, true), (5, true), (6, true), (7, true), (8, true), (9, true), (10, true), (11, true), (12, true), (13, true), (14, true), (15, true), (16, true), (17, true), (18, true), (19, false), (20, true)] p_2 (by kernel_rfl) (by kernel_rfl) rfl (by kernel_rfl) ?_
    refine M_eq (v := S d0) f_6 (by kernel_rfl) (by kernel_rfl) rfl rfl (fun _ _ => by kernel_rfl) (fun a_11 f_11 => ?_)
    refine M_eq (v := .int .i64 x_1) f_11 (by kernel_rfl) (by kernel_rfl) rfl rfl (fun _ _ => by kernel_rfl) (fun a_12 f_12 => ?_)
    have f_13 : Frm 32 [(0, S d0), (2, .pointer (some (⟨b_1, 0, none⟩))), (4, .int .i64 x_1), (13, S d0), (14, .int .i64 x_1)] a_12 := f_12.keep (ks := [0, 2, 4, 13, 14]) (by kernel_rfl)
    obtain ⟨g_1, hF_5⟩ := need_some hF_4
    refine M_eq (v := S (d0.take x_1.toNat)) f_13 (by kernel_rfl) (by kernel_rfl) rfl rfl (fun _ pq => X_strTo rfl (l := d0) (k' := .i64) (b := x_1) (by kernel_rfl) (by kernel_rfl) (by kernel_rfl) g_1.1 g_1.2) (fun a_13 f_14 => ?_)
    refine M_eq (v := S d0) f_14 (by kernel_rfl) (by kernel_rfl) rfl rfl (fun _ _ => by kernel_rfl) (fun a_14 f_15 => ?_)
    refine M_eq (v := .int .i64 x_1) f_15 (by kernel_rfl) (by kernel_rfl) rfl rfl (fun _ _ => by kernel_rfl) (fun a_15 f_16 => ?_)
    have f_17 : Frm 32 [(0, S d0), (2, .pointer (some (⟨b_1, 0, none⟩))), (4, .int .i64 x_1), (15, S (d0.take x_1.toNat)), (16, S d0), (17, .int .i64 x_1)] a_15 := f_16.keep (ks := [0, 2, 4, 15, 16, 17]) (by kernel_rfl)
    obtain ⟨g_2, hF_6⟩ := need_some hF_5
    refine M_eq (v := .int .i64 (IntKind.wrap .i64 (x_1 + 1))) f_17 (by kernel_rfl) (by kernel_rfl) rfl rfl (fun _ pq => by kernel_rfl) (fun a_16 f_18 => ?_)
    have f_19 := Frm.set f_18 18 (v := .int .i64 (IntKind.wrap .i64 (x_1 + 1))) (v' := .int .i64 (x_1 + 1)) (by kernel_rfl) (congrArg (Value.int .i64) (inR_wrap g_2))
    have f_20 : Frm 32 [(0, S d0), (2, .pointer (some (⟨b_1, 0, none⟩))), (4, .int .i64 x_1), (15, S (d0.take x_1.toNat)), (16, S d0), (17, .int .i64 x_1), (18, .int .i64 (x_1 + 1))] a_16 := f_19.keep (ks := [0, 2, 4, 15, 16, 17, 18]) (by kernel_rfl)
    obtain ⟨g_3, hF_7⟩ := need_some hF_6
    refine M_eq (v := S (d0.drop (x_1 + 1).toNat)) f_20 (by kernel_rfl) (by kernel_rfl) rfl rfl (fun _ pq => X_strFrom rfl (l := d0) (k := .i64) (a := x_1 + 1) (by kernel_rfl) (by kernel_rfl) (by kernel_rfl) g_3.1 g_3.2) (fun a_17 f_21 => ?_)
    refine M_eq (v := .agg #[.int .i8 4, S [], .int .i64 0, S (d0.take x_1.toNat), S (d0.drop (x_1 + 1).toNat), .slice none 0 0]) f_21 (by kernel_rfl) (by kernel_rfl) rfl rfl (fun _ _ => by kernel_rfl) (fun a_18 f_22 => ?_)
    refine M_eq (v := S d0) f_22 (by kernel_rfl) (by kernel_rfl) rfl rfl (fun _ _ => by kernel_rfl) (fun a_19 f_23 => ?_)
    refine M_eq (v := .int .i64 x_1) f_23 (by kernel_rfl) (by kernel_rfl) rfl rfl (fun _ _ => by kernel_rfl) (fun a_20 f_24 => ?_)
    have f_25 : Frm 32 [(0, S d0), (2, .pointer (some (⟨b_1, 0, none⟩))), (4, .int .i64 x_1), (20, .agg #[.int .i8 4, S [], .int .i64 0, S (d0.take x_1.toNat), S (d0.drop (x_1 + 1).toNat), .slice none 0 0]), (21, S d0), (22, .int .i64 x_1)] a_20 := f_24.keep (ks := [0, 2, 4, 20, 21, 22]) (by kernel_rfl)
    obtain ⟨g_4, hF_8⟩ := need_some hF_7
    refine M_eq (v := S (d0.take x_1.toNat)) f_25 (by kernel_rfl) (by kernel_rfl) rfl rfl (fun _ pq => X_strTo rfl (l := d0) (k' := .i64) (b := x_1) (by kernel_rfl) (by kernel_rfl) (by kernel_rfl) g_4.1 g_4.2) (fun a_21 f_26 => ?_)
    obtain ⟨x_3, hx_3, hF_9⟩ := bind_some' hF_8
    refine M_okv (v := .bool x_3) f_26 (by kernel_rfl) (by kernel_rfl) rfl rfl (fun _ => by kernel_rfl) (ref01_Name_ok n _ (d0.take x_1.toNat) x_3 hx_3) (fun a_22 f_27 => ?_)
    refine M_eq (v := .bool x_3) f_27 (by kernel_rfl) (by kernel_rfl) rfl rfl (fun _ _ => by kernel_rfl) (fun a_23 f_28 => ?_)
    have f_29 : Frm 32 [(0, S d0), (2, .pointer (some (⟨b_1, 0, none⟩))), (4, .int .i64 x_1), (20, .agg #[.int .i8 4, S [], .int .i64 0, S (d0.take x_1.toNat), S (d0.drop (x_1 + 1).toNat), .slice none 0 0]), (25, .bool x_3)] a_23 := f_28.keep (ks := [0, 2, 4, 20, 25]) (by kernel_rfl)
    rcases Bool.eq_false_or_eq_true (x_3) with h_2 | h_2
    · have hF_10 := cnd_t h_2 hF_9
      have f_30 := Frm.set f_29 25 (v := .bool x_3) (v' := .bool true) (by kernel_rfl) (congrArg Value.bool h_2)
      have f_31 : Frm 32 [(0, S d0), (2, .pointer (some (⟨b_1, 0, none⟩))), (4, .int .i64 x_1), (20, .agg #[.int .i8 4, S [], .int .i64 0, S (d0.take x_1.toNat), S (d0.drop (x_1 + 1).toNat), .slice none 0 0]), (25, .bool true)] a_23 := f_30.keep (ks := [0, 2, 4, 20, 25]) (by kernel_rfl)
      refine M_eq (v := S d0) f_31 (by kernel_rfl) (by kernel_rfl) rfl rfl (fun _ _ => by kernel_rfl) (fun a_24 f_32 => ?_)
      refine M_eq (v := .int .i64 x_1) f_32 (by kernel_rfl) (by kernel_rfl) rfl rfl (fun _ _ => by kernel_rfl) (fun a_25 f_33 => ?_)
      have f_34 : Frm 32 [(2, .pointer (some (⟨b_1, 0, none⟩))), (20, .agg #[.int .i8 4, S [], .int .i64 0, S (d0.take x_1.toNat), S (d0.drop (x_1 + 1).toNat), .slice none 0 0]), (25, .bool true), (26, S d0), (27, .int .i64 x_1)] a_25 := f_33.keep (ks := [2, 20, 25, 26, 27]) (by kernel_rfl)
      obtain ⟨g_5, hF_11⟩ := need_some hF_10
      refine M_eq (v := .int .i64 (IntKind.wrap .i64 (x_1 + 1))) f_34 (by kernel_rfl) (by kernel_rfl) rfl rfl (fun _ pq => by kernel_rfl) (fun a_26 f_35 => ?_)
      have f_36 := Frm.set f_35 28 (v := .int .i64 (IntKind.wrap .i64 (x_1 + 1))) (v' := .int .i64 (x_1 + 1)) (by kernel_rfl) (congrArg (Value.int .i64) (inR_wrap g_5))
      have f_37 : Frm 32 [(2, .pointer (some (⟨b_1, 0, none⟩))), (20, .agg #[.int .i8 4, S [], .int .i64 0, S (d0.take x_1.toNat), S (d0.drop (x_1 + 1).toNat), .slice none 0 0]), (25, .bool true), (26, S d0), (27, .int .i64 x_1), (28, .int .i64 (x_1 + 1))] a_26 := f_36.keep (ks := [2, 20, 25, 26, 27, 28]) (by kernel_rfl)
      obtain ⟨g_6, hF_12⟩ := need_some hF_11
      refine M_eq (v := S (d0.drop (x_1 + 1).toNat)) f_37 (by kernel_rfl) (by kernel_rfl) rfl rfl (fun _ pq => X_strFrom rfl (l := d0) (k := .i64) (a := x_1 + 1) (by kernel_rfl) (by kernel_rfl) (by kernel_rfl) g_6.1 g_6.2) (fun a_27 f_38 => ?_)
      obtain ⟨x_4, hx_4, hF_13⟩ := bind_some' hF_12
      refine M_okv (v := .bool x_4) f_38 (by kernel_rfl) (by kernel_rfl) rfl rfl (fun _ => by kernel_rfl) (ref12_Attr_ok n _ (d0.drop (x_1 + 1).toNat) x_4 hx_4) (fun a_28 f_39 => ?_)
      refine M_eq (v := .bool x_4) f_39 (by kernel_rfl) (by kernel_rfl) rfl rfl (fun _ _ => by kernel_rfl) (fun a_29 f_40 => ?_)
      have f_41 : Frm 32 [(2, .pointer (some (⟨b_1, 0, none⟩))), (20, .agg #[.int .i8 4, S [], .int .i64 0, S (d0.take x_1.toNat), S (d0.drop (x_1 + 1).toNat), .slice none 0 0]), (31, .bool x_4)] a_29 := f_40.keep (ks := [2, 20, 31]) (by kernel_rfl)
      refine M_fix (E := [Ent.obj b_1 (.cells #[.int .i8 0, S [], .int .i64 0, S [], S [], .slice none 0 0] 29 (0, 0))]) (fun w_7 p_7 => ?_)
      replace p_7 : Hp w0 M1 ((Ent.obj b_1 (.cells #[.int .i8 0, S [], .int .i64 0, S [], S [], .slice none 0 0] 29 (0, 0))) :: H) w_7 := p_7
      refine W_storeN (vs := [.int .i8 4, S [], .int .i64 0, S (d0.take x_1.toNat), S (d0.drop (x_1 + 1).toNat), .slice none 0 0]) (j := 0) f_41 p_7 (by kernel_rfl) (by kernel_rfl) rfl rfl (by kernel_rfl) (by kernel_rfl) (by simp [Value.oneCell', S]) (by kernel_rfl) (by simp) (by decide) (cs' := #[.int .i8 4, S [], .int .i64 0, S (d0.take x_1.toNat), S (d0.drop (x_1 + 1).toNat), .slice none 0 0]) rfl (fun w_8 p_8 a_30 f_42 => ?_)
      refine W_end rfl ?_
      refine M_go (M1 := M1) (E := [Ent.obj b_1 (.cells #[.int .i8 4, S [], .int .i64 0, S (d0.take x_1.toNat), S (d0.drop (x_1 + 1).toNat), .slice none 0 0] 29 (0, 0))]) (Mem.le_refl _) p_8 ?_
      refine M_eq (v := .bool x_4) f_42 (by kernel_rfl) (by kernel_rfl) rfl rfl (fun _ _ => by kernel_rfl) (fun a_31 f_43 => ?_)
      have f_44 : Frm 32 [(2, .pointer (some (⟨b_1, 0, none⟩))), (3, .bool x_4)] a_31 := f_43.keep (ks := [2, 3]) (by kernel_rfl)
      refine M_end rfl (fun w_9 p_9 => ?_)
      replace p_9 : Hp w0 M1 ((Ent.obj b_1 (.cells #[.int .i8 4, S [], .int .i64 0, S (d0.take x_1.toNat), S (d0.drop (x_1 + 1).toNat), .slice none 0 0] 29 (0, 0))) :: H) w_9 := p_9
      refine T_n ?_
      refine wp_ret ?_
      refine E_rv2 f_44 rfl (Rv.cellN (cs := [.int .i8 4, S [], .int .i64 0, S (d0.take x_1.toNat), S (d0.drop (x_1 + 1).toNat), .slice none 0 0]) (ad := ⟨b_1, 0, none⟩) f_44 (by kernel_rfl) (by kernel_rfl) (own_cells (p_9.ownCell 0 rfl) 0 rfl)) (Rv.slot (v := .bool x_4) f_44 (by kernel_rfl)) ?_
      obtain rfl := Option.some.inj hF_13
      exact ⟨_, rfl, M1, (Mem.le_refl _), (p_9.dropN 1), ⟨[.int .i8 4, S [], .int .i64 0, S (d0.take x_1.toNat), S (d0.drop (x_1 + 1).toNat), .slice none 0 0], rfl, (T_api_Expr.shut Sli.nil)⟩⟩
    · have hF_14 := cnd_f h_2 hF_9
      have f_45 := Frm.set f_29 25 (v := .bool x_3) (v' := .bool false) (by kernel_rfl) (congrArg Value.bool h_2)
      have f_46 : Frm 32 [(0, S d0), (2, .pointer (some (⟨b_1, 0, none⟩))), (4, .int .i64 x_1), (20, .agg #[.int .i8 4, S [], .int .i64 0, S (d0.take x_1.toNat), S (d0.drop (x_1 + 1).toNat), .slice none 0 0]), (25, .bool false)] a_23 := f_45.keep (ks := [0, 2, 4, 20, 25]) (by kernel_rfl)
      refine M_not f_46 (by kernel_rfl) rfl rfl (fun a_32 f_47 => ?_)
      refine M_not f_47 (by kernel_rfl) rfl rfl (fun a_33 f_48 => ?_)
      refine M_not f_48 (by kernel_rfl) rfl rfl (fun a_34 f_49 => ?_)
      refine M_not f_49 (by kernel_rfl) rfl rfl (fun a_35 f_50 => ?_)
      refine M_not f_50 (by kernel_rfl) rfl rfl (fun a_36 f_51 => ?_)
      refine M_eq (v := .bool false) f_51 (by kernel_rfl) (by kernel_rfl) rfl rfl (fun _ _ => by kernel_rfl) (fun a_37 f_52 => ?_)
      have f_53 : Frm 32 [(2, .pointer (some (⟨b_1, 0, none⟩))), (20, .agg #[.int .i8 4, S [], .int .i64 0, S (d0.take x_1.toNat), S (d0.drop (x_1 + 1).toNat), .slice none 0 0]), (31, .bool false)] a_37 := f_52.keep (ks := [2, 20, 31]) (by kernel_rfl)
      refine M_fix (E := [Ent.obj b_1 (.cells #[.int .i8 0, S [], .int .i64 0, S [], S [], .slice none 0 0] 29 (0, 0))]) (fun w_10 p_10 => ?_)
      replace p_10 : Hp w0 M1 ((Ent.obj b_1 (.cells #[.int .i8 0, S [], .int .i64 0, S [], S [], .slice none 0 0] 29 (0, 0))) :: H) w_10 := p_10
      refine W_storeN (vs := [.int .i8 4, S [], .int .i64 0, S (d0.take x_1.toNat), S (d0.drop (x_1 + 1).toNat), .slice none 0 0]) (j := 0) f_53 p_10 (by kernel_rfl) (by kernel_rfl) rfl rfl (by kernel_rfl) (by kernel_rfl) (by simp [Value.oneCell', S]) (by kernel_rfl) (by simp) (by decide) (cs' := #[.int .i8 4, S [], .int .i64 0, S (d0.take x_1.toNat), S (d0.drop (x_1 + 1).toNat), .slice none 0 0]) rfl (fun w_11 p_11 a_38 f_54 => ?_)
      refine W_end rfl ?_
      refine M_go (M1 := M1) (E := [Ent.obj b_1 (.cells #[.int .i8 4, S [], .int .i64 0, S (d0.take x_1.toNat), S (d0.drop (x_1 + 1).toNat), .slice none 0 0] 29 (0, 0))]) (Mem.le_refl _) p_11 ?_
      refine M_eq (v := .bool false) f_54 (by kernel_rfl) (by kernel_rfl) rfl rfl (fun _ _ => by kernel_rfl) (fun a_39 f_55 => ?_)
      have f_56 : Frm 32 [(2, .pointer (some (⟨b_1, 0, none⟩))), (3, .bool false)] a_39 := f_55.keep (ks := [2, 3]) (by kernel_rfl)
      refine M_end rfl (fun w_12 p_12 => ?_)
      replace p_12 : Hp w0 M1 ((Ent.obj b_1 (.cells #[.int .i8 4, S [], .int .i64 0, S (d0.take x_1.toNat), S (d0.drop (x_1 + 1).toNat), .slice none 0 0] 29 (0, 0))) :: H) w_12 := p_12
      refine T_n ?_
      refine wp_ret ?_
      refine E_rv2 f_56 rfl (Rv.cellN (cs := [.int .i8 4, S [], .int .i64 0, S (d0.take x_1.toNat), S (d0.drop (x_1 + 1).toNat), .slice none 0 0]) (ad := ⟨b_1, 0, none⟩) f_56 (by kernel_rfl) (by kernel_rfl) (own_cells (p_12.ownCell 0 rfl) 0 rfl)) (Rv.slot (v := .bool false) f_56 (by kernel_rfl)) ?_
      obtain rfl := Option.some.inj hF_14
      exact ⟨_, rfl, M1, (Mem.le_refl _), (p_12.dropN 1), ⟨[.int .i8 4, S [], .int .i64 0, S (d0.take x_1.toNat), S (d0.drop (x_1 + 1).toNat), .slice none 0 0], rfl, (T_api_Expr.shut Sli.nil)⟩⟩

def ref12_Lex_s1 (n : Nat) (d0 : List UInt8) (s_1 : List T_api_Expr × List UInt8 × Int) : Option (Lp (List T_api_Expr × List UInt8 × Int) (Sum Int (List T_api_Expr × List UInt8))) :=
    bif (decide (s_1.2.2 < (d0.length : Int))) then
      ((((getI d0 s_1.2.2).bind fun c_1 =>
        bif (!(decide (((c_1).toNat : Int) = 36))) then
          (some ((true)))
        else
          need (inR .i64 (s_1.2.2 + 1)) <|
          bif (decide ((d0.length : Int) ≤ (s_1.2.2 + 1))) then
            (some ((true)))
          else
            need (inR .i64 (s_1.2.2 + 1)) <|
            (getI d0 (s_1.2.2 + 1)).bind fun c_2 =>
            some ((!(decide (((c_2).toNat : Int) = 123)))) : Option Bool)).bind fun y_1 =>
      bif y_1 then
        ((getI d0 s_1.2.2).bind fun c_3 =>
        need ((s_1.2.1.length + 1) * 1 ≤ 140737488355328) <|
        need (inR .i64 (s_1.2.2 + 1)) <|
        some (.nx (s_1.1, s_1.2.1 ++ [c_3], s_1.2.2 + 1)))
      else
        need (inR .i64 (s_1.2.2 + 2)) <|
        (ref12_shut n d0 (s_1.2.2 + 2)).bind fun x_2 =>
        bif (decide (x_2 < 0)) then
          (some (.br (.inl s_1.2.2)))
        else
          need (inR .i64 (s_1.2.2 + 2)) <|
          (getI d0 (s_1.2.2 + 2)).bind fun c_4 =>
          bif (decide (((c_4).toNat : Int) = 33)) then
            (need ((s_1.2.1.length + [36, 123].length) * 1 ≤ 140737488355328) <|
            need (inR .i64 (s_1.2.2 + 3)) <|
            need (inR .i64 (x_2 + 1)) <|
            need (0 ≤ (s_1.2.2 + 3) ∧ (s_1.2.2 + 3) ≤ (x_2 + 1) ∧ (x_2 + 1) ≤ d0.length) <|
            need (((s_1.2.1 ++ [36, 123]).length + ((d0.take (x_2 + 1).toNat).drop (s_1.2.2 + 3).toNat).length) * 1 ≤ 140737488355328) <|
            need (inR .i64 (x_2 + 1)) <|
            some (.nx (s_1.1, (s_1.2.1 ++ [36, 123]) ++ ((d0.take (x_2 + 1).toNat).drop (s_1.2.2 + 3).toNat), x_2 + 1)))
          else
            need (inR .i64 (s_1.2.2 + 2)) <|
            need (0 ≤ (s_1.2.2 + 2) ∧ (s_1.2.2 + 2) ≤ x_2 ∧ x_2 ≤ d0.length) <|
            (ref12_hole n ((d0.take x_2.toNat).drop (s_1.2.2 + 2).toNat)).bind fun x_3 =>
            bif !x_3.2 then
              (some (.br (.inl s_1.2.2)))
            else
              ((bif (decide ((0 : Int) < ((s_1.2.1.length : Nat) : Int))) then
                  (need ((s_1.1.length + 1) * 88 ≤ 140737488355328) <|
                  some ((s_1.1 ++ [(⟨(0 : Int), s_1.2.1, (0 : Int), ([] : List UInt8), ([] : List UInt8), ([] : List T_api_Expr)⟩ : T_api_Expr)], ([] : List UInt8))))
                else
                  some ((s_1.1, s_1.2.1)) : Option (List T_api_Expr × List UInt8))).bind fun y_2 =>
              need ((y_2.1.length + 1) * 88 ≤ 140737488355328) <|
              need (inR .i64 (x_2 + 1)) <|
              some (.nx (y_2.1 ++ [(⟨x_3.1.fKind, x_3.1.fText, x_3.1.fNum, x_3.1.fName, x_3.1.fAttr, x_3.1.fL⟩ : T_api_Expr)], y_2.2, x_2 + 1)))
    else
      some (.br (.inr (s_1.1, s_1.2.1)))
def ref12_Lex (n : Nat) (d0 : List UInt8) : Option (List T_api_Expr × Int × Int) :=
  (ref01_Valid n d0).bind fun x_1 =>
  bif !x_1 then
    (some ((([] : List T_api_Expr), (0 : Int), (10 : Int))))
  else
    bif (decide ((4096 : Int) < (d0.length : Int))) then
      (some ((([] : List T_api_Expr), (0 : Int), (3 : Int))))
    else
      (loopF (ref12_Lex_s1 n d0) n (([] : List T_api_Expr), ([] : List UInt8), (0 : Int))).bind fun b_1 =>
      (match b_1 with 
      | .inl y_3 => some ((([] : List T_api_Expr), y_3, (130 : Int))) 
      | .inr y_4 => bif (decide ((0 : Int) < ((y_4.2.length : Nat) : Int))) then
          (need ((y_4.1.length + 1) * 88 ≤ 140737488355328) <|
          some ((y_4.1 ++ [(⟨(0 : Int), y_4.2, (0 : Int), ([] : List UInt8), ([] : List UInt8), ([] : List T_api_Expr)⟩ : T_api_Expr)], (0 : Int), (0 : Int))))
        else
          some ((y_4.1, (0 : Int), (0 : Int))))
theorem ref12_Lex_ok (n : Nat) (M : Mem) (d0 : List UInt8) (r : List T_api_Expr × Int × Int) (hF : ref12_Lex n d0 = some r) : OkH Tryd.prog M [] 11 [S d0] (fun M' E' v => ∃ (A0 : Option Addr) (k0 : Nat) (s0 : List Value), v = .tuple #[.slice A0 r.1.length k0, .int .i64 r.2.1, .int .i64 r.2.2] ∧ E' = [.row 29 6 (.slice A0 r.1.length k0) r.1.length s0] ∧ RepSeq M' (r.1.map emb_T_api_Expr) s0) := by
  unfold ref12_Lex at hF
  intro M1 hM0 w0 H w p0
  refine R_enter 108 Tryd.func11 rfl rfl (by simp) (fun a0 f0 => ?_)
  replace f0 : Frm 108 [(0, S d0)] a0 := f0
  refine R_seq ?_
  refine R_reg ?_
  refine W_run (L' := [(0, S d0)]) (w' := w) f0 3 [0] (by kernel_rfl) (fun a_1 f_1 => ?_)
  refine W_end rfl ?_
  refine T_n ?_
  refine R_seq ?_
  refine R_seq ?_
  refine R_reg ?_
  refine W_run (L' := [(0, S d0), (11, S d0)]) (w' := w) f_1 1 [0, 11] (by kernel_rfl) (fun a_2 f_2 => ?_)
  obtain ⟨x_1, hx_1, hF_1⟩ := bind_some' hF
  refine W_okv (v := .bool x_1) f_2 p0 (by kernel_rfl) (by kernel_rfl) rfl rfl (fun _ => by kernel_rfl) (ref01_Valid_ok n _ d0 x_1 hx_1) (fun w_1 p_1 a_3 f_3 => ?_)
  refine W_run (L' := [(0, S d0), (13, .bool !x_1)]) (w' := w_1) f_3 1 [0, 13] (by kernel_rfl) (fun a_4 f_4 => ?_)
  refine W_end rfl ?_
  refine T_n ?_
  refine R_cond f_4 (b := !x_1) (by kernel_rfl) (by kernel_rfl) (fun h_1 => ?_) (fun h_1 => ?_)
  · have k_1 : (x_1) = false := by simpa using h_1
    have hF_2 := cnd_t h_1 hF_1
    refine R_seq ?_
    refine R_reg ?_
    refine W_run (L' := [(2, .slice none 0 0), (3, .int .i64 0), (4, .int .i64 10)]) (w' := w_1) f_4 3 [2, 3, 4] (by kernel_rfl) (fun a_5 f_5 => ?_)
    refine W_end rfl ?_
    refine T_n ?_
    refine wp_ret ?_
    refine T_r ?_
    obtain ⟨A_1, cap_1, hv_1⟩ : ∃ A cap, Value.slice none 0 0 = .slice A ([] : List T_api_Expr).length cap := ⟨none, 0, rfl⟩
    have p_2 : Hp w0 M1 ((Ent.row 29 6 (.slice A_1 ([] : List T_api_Expr).length cap_1) ([] : List T_api_Expr).length []) :: H) w_1 := by rw [← hv_1]; exact p_1.nilRow 29 6
    have f_6 := Frm.set f_5 2 (v := .slice none 0 0) (v' := .slice A_1 ([] : List T_api_Expr).length cap_1) (by kernel_rfl) (hv_1)
    have f_7 : Frm 108 [(2, .slice A_1 ([] : List T_api_Expr).length cap_1), (3, .int .i64 0), (4, .int .i64 10)] a_5 := f_6.keep (ks := [2, 3, 4]) (by kernel_rfl)
    have hr_1 : RepSeq M1 (([] : List T_api_Expr).map emb_T_api_Expr) [] := rfl
    refine E_ret3 f_7 rfl (by kernel_rfl : Vc.look _ 2 = some (.slice A_1 ([] : List T_api_Expr).length cap_1)) (by kernel_rfl : Vc.look _ 3 = some (.int .i64 0)) (by kernel_rfl : Vc.look _ 4 = some (.int .i64 10)) ?_
    obtain rfl := Option.some.inj hF_2
    exact ⟨_, rfl, M1, _, (Mem.le_refl _), p_2, ⟨A_1, cap_1, [], rfl, rfl, hr_1⟩⟩
  · have k_2 : (x_1) = true := by simpa using h_1
    have hF_3 := cnd_f h_1 hF_1
    refine wp_skip ?_
    refine T_n ?_
    refine R_seq ?_
    refine R_seq ?_
    refine R_reg ?_
    refine W_run (L' := [(0, S d0), (16, .bool (decide ((4096 : Int) < (d0.length : Int))))]) (w' := w_1) f_4 3 [0, 16] (by kernel_rfl) (fun a_6 f_8 => ?_)
    refine W_end rfl ?_
    refine T_n ?_
    refine R_cond f_8 (b := decide ((4096 : Int) < (d0.length : Int))) (by kernel_rfl) (by kernel_rfl) (fun h_2 => ?_) (fun h_2 => ?_)
    · have k_3 : (4096 : Int) < (d0.length : Int) := decide_eq_true_iff.1 h_2
      have hF_4 := cnd_t h_2 hF_3
      refine R_seq ?_
      refine R_reg ?_
      refine W_run (L' := [(2, .slice none 0 0), (3, .int .i64 0), (4, .int .i64 3)]) (w' := w_1) f_8 3 [2, 3, 4] (by kernel_rfl) (fun a_7 f_9 => ?_)
      refine W_end rfl ?_
      refine T_n ?_
      refine wp_ret ?_
      refine T_r ?_
      obtain ⟨A_2, cap_2, hv_2⟩ : ∃ A cap, Value.slice none 0 0 = .slice A ([] : List T_api_Expr).length cap := ⟨none, 0, rfl⟩
      have p_3 : Hp w0 M1 ((Ent.row 29 6 (.slice A_2 ([] : List T_api_Expr).length cap_2) ([] : List T_api_Expr).length []) :: H) w_1 := by rw [← hv_2]; exact p_1.nilRow 29 6
      have f_10 := Frm.set f_9 2 (v := .slice none 0 0) (v' := .slice A_2 ([] : List T_api_Expr).length cap_2) (by kernel_rfl) (hv_2)
      have f_11 : Frm 108 [(2, .slice A_2 ([] : List T_api_Expr).length cap_2), (3, .int .i64 0), (4, .int .i64 3)] a_7 := f_10.keep (ks := [2, 3, 4]) (by kernel_rfl)
      have hr_2 : RepSeq M1 (([] : List T_api_Expr).map emb_T_api_Expr) [] := rfl
      refine E_ret3 f_11 rfl (by kernel_rfl : Vc.look _ 2 = some (.slice A_2 ([] : List T_api_Expr).length cap_2)) (by kernel_rfl : Vc.look _ 3 = some (.int .i64 0)) (by kernel_rfl : Vc.look _ 4 = some (.int .i64 3)) ?_
      obtain rfl := Option.some.inj hF_4
      exact ⟨_, rfl, M1, _, (Mem.le_refl _), p_3, ⟨A_2, cap_2, [], rfl, rfl, hr_2⟩⟩
    · have k_4 : ¬ ((4096 : Int) < (d0.length : Int)) := iff_f decide_eq_true_iff h_2
      have hF_5 := cnd_f h_2 hF_3
      refine wp_skip ?_
      refine T_n ?_
      refine R_seq ?_
      refine R_reg ?_
      refine W_run (L' := [(0, S d0), (5, .slice none 0 0)]) (w' := w_1) f_8 1 [0, 5] (by kernel_rfl) (fun a_8 f_12 => ?_)
      refine W_end rfl ?_
      refine T_n ?_
      refine R_seq ?_
      refine R_reg ?_
      refine W_run (L' := [(0, S d0), (5, .slice none 0 0), (6, .slice none 0 0)]) (w' := w_1) f_12 1 [0, 5, 6] (by kernel_rfl) (fun a_9 f_13 => ?_)
      refine W_end rfl ?_
      refine T_n ?_
      refine R_seq ?_
      refine R_reg ?_
      refine W_run (L' := [(0, S d0), (5, .slice none 0 0), (6, .slice none 0 0), (7, .int .i64 0)]) (w' := w_1) f_13 1 [0, 5, 6, 7] (by kernel_rfl) (fun a_10 f_14 => ?_)
      refine W_end rfl ?_
      refine T_n ?_
      refine R_seq ?_
      refine wp_block ?_
      obtain ⟨A_3, cap_3, hv_3⟩ : ∃ A cap, Value.slice none 0 0 = .slice A ([] : List T_api_Expr).length cap := ⟨none, 0, rfl⟩
      have p_4 : Hp w0 M1 ((Ent.row 29 6 (.slice A_3 ([] : List T_api_Expr).length cap_3) ([] : List T_api_Expr).length []) :: H) w_1 := by rw [← hv_3]; exact p_1.nilRow 29 6
      have f_15 := Frm.set f_14 5 (v := .slice none 0 0) (v' := .slice A_3 ([] : List T_api_Expr).length cap_3) (by kernel_rfl) (hv_3)
      have f_16 : Frm 108 [(0, S d0), (5, .slice A_3 ([] : List T_api_Expr).length cap_3), (6, .slice none 0 0), (7, .int .i64 0)] a_10 := f_15.keep (ks := [0, 5, 6, 7]) (by kernel_rfl)
      have hr_3 : RepSeq M1 (([] : List T_api_Expr).map emb_T_api_Expr) [] := rfl
      obtain ⟨A_4, cap_4, hv_4⟩ : ∃ A cap, Value.slice none 0 0 = .slice A ([] : List UInt8).length cap := ⟨none, 0, rfl⟩
      have p_5 : Hp w0 M1 ((Ent.row 5 1 (.slice A_4 ([] : List UInt8).length cap_4) ([] : List UInt8).length []) :: (Ent.row 29 6 (.slice A_3 ([] : List T_api_Expr).length cap_3) ([] : List T_api_Expr).length []) :: H) w_1 := by rw [← hv_4]; exact p_4.nilRow 5 1
      have f_17 := Frm.set f_16 6 (v := .slice none 0 0) (v' := .slice A_4 ([] : List UInt8).length cap_4) (by kernel_rfl) (hv_4)
      have f_18 : Frm 108 [(0, S d0), (5, .slice A_3 ([] : List T_api_Expr).length cap_3), (6, .slice A_4 ([] : List UInt8).length cap_4), (7, .int .i64 0)] a_10 := f_17.keep (ks := [0, 5, 6, 7]) (by kernel_rfl)
      have hr_4 : RepSeq M1 (([] : List UInt8).map embB) [] := rfl
      have p_6 : Hp w0 M1 ((Ent.row 29 6 (.slice A_3 ([] : List T_api_Expr).length cap_3) ([] : List T_api_Expr).length []) :: (Ent.row 5 1 (.slice A_4 ([] : List UInt8).length cap_4) ([] : List UInt8).length []) :: H) w_1 := p_5.pull 1 rfl rfl
      obtain ⟨b_1, hL_1, hF_6⟩ := bind_some' hF_5
      refine wp_mono (Q := fun e a w => (e = .ret ∧ (∃ y_3 : Int, b_1 = .inl y_3 ∧ ∃ M_5 : Mem, M1.le M_5 ∧ Frm 108 [(2, .slice none 0 0), (3, .int .i64 y_3), (4, .int .i64 130)] a ∧ Hp w0 M_5 (H) w)) ∨ (e = .exit 0 ∧ (∃ y_4 : List T_api_Expr × List UInt8, b_1 = .inr y_4 ∧ ∃ M_6 : Mem, M1.le M_6 ∧ ∃ (A_16 : Option Addr), ∃ (cap_16 : Nat), ∃ (cs_10 : List Value), ∃ (A_17 : Option Addr), ∃ (cap_17 : Nat), ∃ (cs_11 : List Value), RepSeq M_6 (y_4.1.map emb_T_api_Expr) cs_10 ∧ RepSeq M_6 (y_4.2.map embB) cs_11 ∧ Frm 108 [(5, .slice A_16 y_4.1.length cap_16), (6, .slice A_17 y_4.2.length cap_17)] a ∧ Hp w0 M_6 ((Ent.row 29 6 (.slice A_16 y_4.1.length cap_16) y_4.1.length cs_10) :: (Ent.row 5 1 (.slice A_17 y_4.2.length cap_17) y_4.2.length cs_11) :: H) w))) (R_loop (n := 108) (w0 := w0) (M := M1) (fun (x : Nat × (List T_api_Expr × List UInt8 × Int) × (Option Addr) × Nat × (List Value) × (Option Addr) × Nat × (List Value)) => match x with | (m_1, s_1, A_5, cap_5, cs_1, A_6, cap_6, cs_2) => [(0, S d0), (5, .slice A_5 s_1.1.length cap_5), (6, .slice A_6 s_1.2.1.length cap_6), (7, .int .i64 s_1.2.2)]) (fun (x : Nat × (List T_api_Expr × List UInt8 × Int) × (Option Addr) × Nat × (List Value) × (Option Addr) × Nat × (List Value)) => match x with | (m_1, s_1, A_5, cap_5, cs_1, A_6, cap_6, cs_2) => ((Ent.row 29 6 (.slice A_5 s_1.1.length cap_5) s_1.1.length cs_1) :: (Ent.row 5 1 (.slice A_6 s_1.2.1.length cap_6) s_1.2.1.length cs_2) :: H)) (fun (x : Nat × (List T_api_Expr × List UInt8 × Int) × (Option Addr) × Nat × (List Value) × (Option Addr) × Nat × (List Value)) (MM : Mem) => match x with | (m_1, s_1, A_5, cap_5, cs_1, A_6, cap_6, cs_2) => loopF (ref12_Lex_s1 n d0) m_1 s_1 = some b_1 ∧ RepSeq MM (s_1.1.map emb_T_api_Expr) cs_1 ∧ RepSeq MM (s_1.2.1.map embB) cs_2) (fun (x : Nat × (List T_api_Expr × List UInt8 × Int) × (Option Addr) × Nat × (List Value) × (Option Addr) × Nat × (List Value)) => match x with | (m_1, s_1, A_5, cap_5, cs_1, A_6, cap_6, cs_2) => m_1) (n, (([] : List T_api_Expr), ([] : List UInt8), (0 : Int)), A_3, cap_3, [], A_4, cap_4, []) (f_18.keep (ks := [0, 5, 6, 7]) (by kernel_rfl)) p_6 ⟨hL_1, hr_3, hr_4⟩ ?_) ?_
      · rintro ⟨m_1, s_1, A_5, cap_5, cs_1, A_6, cap_6, cs_2⟩ M_1 a_11 w_2 hM_1 I_1 f_19 p_7
        replace f_19 : Frm 108 [(0, S d0), (5, .slice A_5 s_1.1.length cap_5), (6, .slice A_6 s_1.2.1.length cap_6), (7, .int .i64 s_1.2.2)] a_11 := f_19
        replace p_7 : Hp w0 M_1 ((Ent.row 29 6 (.slice A_5 s_1.1.length cap_5) s_1.1.length cs_1) :: (Ent.row 5 1 (.slice A_6 s_1.2.1.length cap_6) s_1.2.1.length cs_2) :: H) w_2 := p_7
        obtain ⟨I_1L, hr_5, hr_6⟩ := I_1
        obtain ⟨m_2, r_1, rfl, hs_1, hn_1⟩ := loop_step I_1L
        unfold ref12_Lex_s1 at hs_1
        refine R_seq ?_
        refine R_seq ?_
        refine R_reg ?_
        refine W_run (L' := [(0, S d0), (5, .slice A_5 s_1.1.length cap_5), (6, .slice A_6 s_1.2.1.length cap_6), (7, .int .i64 s_1.2.2), (20, .bool (decide (s_1.2.2 < (d0.length : Int))))]) (w' := w_2) f_19 4 [0, 5, 6, 7, 20] (by kernel_rfl) (fun a_12 f_20 => ?_)
        refine W_end rfl ?_
        refine T_n ?_
        refine R_cond f_20 (b := decide (s_1.2.2 < (d0.length : Int))) (by kernel_rfl) (by kernel_rfl) (fun h_3 => ?_) (fun h_3 => ?_)
        · have k_5 : s_1.2.2 < (d0.length : Int) := decide_eq_true_iff.1 h_3
          have hF_7 := cnd_t h_3 hs_1
          refine wp_skip ?_
          refine T_n ?_
          refine wp_block ?_
          refine R_seq ?_
          refine R_seq ?_
          obtain ⟨j_1, hj_1, hF_8⟩ := bind_some' hF_7
          refine R_mid (fun a_25 w_3 => ∃ y_1 : Bool, j_1 = y_1 ∧ ∃ M_2 : Mem, M_1.le M_2 ∧ Frm 108 [(0, S d0), (5, .slice A_5 s_1.1.length cap_5), (6, .slice A_6 s_1.2.1.length cap_6), (7, .int .i64 s_1.2.2), (38, .bool y_1)] a_25 ∧ Hp w0 M_2 ((Ent.row 29 6 (.slice A_5 s_1.1.length cap_5) s_1.1.length cs_1) :: (Ent.row 5 1 (.slice A_6 s_1.2.1.length cap_6) s_1.2.1.length cs_2) :: H) w_3) ?_ ?_
          · refine R_reg ?_
            refine W_run (L' := [(0, S d0), (5, .slice A_5 s_1.1.length cap_5), (6, .slice A_6 s_1.2.1.length cap_6), (7, .int .i64 s_1.2.2), (21, S d0), (22, .int .i64 s_1.2.2)]) (w' := w_2) f_20 2 [0, 5, 6, 7, 21, 22] (by kernel_rfl) (fun a_13 f_21 => ?_)
            obtain ⟨c_1, hx_2, hF_9⟩ := bind_some' hj_1
            refine W_eq (v := .int .u8 ((d0.getD s_1.2.2.toNat 0).toNat : Int)) f_21 (by kernel_rfl) (by kernel_rfl) rfl rfl (X_strIndex rfl (l := d0) (k := .i64) (i := s_1.2.2) (by kernel_rfl) (by kernel_rfl) (by kernel_rfl) (getI_nn hx_2) (getI_lt hx_2)) (fun a_14 f_22 => ?_)
            have f_23 := Frm.set f_22 23 (v := .int .u8 ((d0.getD s_1.2.2.toNat 0).toNat : Int)) (v' := .int .u8 ((c_1).toNat : Int)) (by kernel_rfl) (congrArg (fun c : UInt8 => Value.int .u8 ((c.toNat : Nat) : Int)) (getI_getD hx_2))
            have f_24 : Frm 108 [(0, S d0), (5, .slice A_5 s_1.1.length cap_5), (6, .slice A_6 s_1.2.1.length cap_6), (7, .int .i64 s_1.2.2), (21, S d0), (22, .int .i64 s_1.2.2), (23, .int .u8 ((c_1).toNat : Int))] a_14 := f_23.keep (ks := [0, 5, 6, 7, 21, 22, 23]) (by kernel_rfl)
            refine W_run (L' := [(0, S d0), (5, .slice A_5 s_1.1.length cap_5), (6, .slice A_6 s_1.2.1.length cap_6), (7, .int .i64 s_1.2.2), (25, .bool (!(decide (((c_1).toNat : Int) = 36))))]) (w' := w_2) f_24 2 [0, 5, 6, 7, 25] (by kernel_rfl) (fun a_15 f_25 => ?_)
            rcases Bool.eq_false_or_eq_true (!(decide (((c_1).toNat : Int) = 36))) with h_4 | h_4
            · have k_6 : ¬ (((c_1).toNat : Int) = 36) := (not_iff decide_eq_true_iff).1 h_4
              have hF_10 := cnd_t h_4 hF_9
              have f_26 := Frm.set f_25 25 (v := .bool (!(decide (((c_1).toNat : Int) = 36)))) (v' := .bool true) (by kernel_rfl) (congrArg Value.bool h_4)
              have f_27 : Frm 108 [(0, S d0), (5, .slice A_5 s_1.1.length cap_5), (6, .slice A_6 s_1.2.1.length cap_6), (7, .int .i64 s_1.2.2), (25, .bool true)] a_15 := f_26.keep (ks := [0, 5, 6, 7, 25]) (by kernel_rfl)
              refine W_run (L' := [(0, S d0), (5, .slice A_5 s_1.1.length cap_5), (6, .slice A_6 s_1.2.1.length cap_6), (7, .int .i64 s_1.2.2), (38, .bool true)]) (w' := w_2) f_27 13 [0, 5, 6, 7, 38] (by kernel_rfl) (fun a_16 f_28 => ?_)
              refine W_end rfl ?_
              refine T_n ?_
              exact ⟨(true), (Option.some.inj hF_10).symm, M_1, (Mem.le_refl _), f_28.keep (ks := [0, 5, 6, 7, 38]) (by kernel_rfl), p_7⟩
            · have k_7 : ¬ (¬ (((c_1).toNat : Int) = 36)) := iff_f (not_iff decide_eq_true_iff) h_4
              have hF_11 := cnd_f h_4 hF_9
              have f_29 := Frm.set f_25 25 (v := .bool (!(decide (((c_1).toNat : Int) = 36)))) (v' := .bool false) (by kernel_rfl) (congrArg Value.bool h_4)
              have f_30 : Frm 108 [(0, S d0), (5, .slice A_5 s_1.1.length cap_5), (6, .slice A_6 s_1.2.1.length cap_6), (7, .int .i64 s_1.2.2), (25, .bool false)] a_15 := f_29.keep (ks := [0, 5, 6, 7, 25]) (by kernel_rfl)
              refine W_run (L' := [(0, S d0), (5, .slice A_5 s_1.1.length cap_5), (6, .slice A_6 s_1.2.1.length cap_6), (7, .int .i64 s_1.2.2), (25, .bool false), (26, .int .i64 s_1.2.2)]) (w' := w_2) f_30 1 [0, 5, 6, 7, 25, 26] (by kernel_rfl) (fun a_17 f_31 => ?_)
              obtain ⟨g_1, hF_12⟩ := need_some hF_11
              refine W_run (L' := [(0, S d0), (5, .slice A_5 s_1.1.length cap_5), (6, .slice A_6 s_1.2.1.length cap_6), (7, .int .i64 s_1.2.2), (25, .bool false), (26, .int .i64 s_1.2.2), (27, .int .i64 (IntKind.wrap .i64 (s_1.2.2 + 1)))]) (w' := w_2) f_31 1 [0, 5, 6, 7, 25, 26, 27] (by kernel_rfl) (fun a_18 f_32 => ?_)
              have f_33 := Frm.set f_32 27 (v := .int .i64 (IntKind.wrap .i64 (s_1.2.2 + 1))) (v' := .int .i64 (s_1.2.2 + 1)) (by kernel_rfl) (congrArg (Value.int .i64) (inR_wrap g_1))
              have f_34 : Frm 108 [(0, S d0), (5, .slice A_5 s_1.1.length cap_5), (6, .slice A_6 s_1.2.1.length cap_6), (7, .int .i64 s_1.2.2), (25, .bool false), (26, .int .i64 s_1.2.2), (27, .int .i64 (s_1.2.2 + 1))] a_18 := f_33.keep (ks := [0, 5, 6, 7, 25, 26, 27]) (by kernel_rfl)
              refine W_run (L' := [(0, S d0), (5, .slice A_5 s_1.1.length cap_5), (6, .slice A_6 s_1.2.1.length cap_6), (7, .int .i64 s_1.2.2), (32, .bool (decide ((d0.length : Int) ≤ (s_1.2.2 + 1))))]) (w' := w_2) f_34 5 [0, 5, 6, 7, 32] (by kernel_rfl) (fun a_19 f_35 => ?_)
              rcases Bool.eq_false_or_eq_true (decide ((d0.length : Int) ≤ (s_1.2.2 + 1))) with h_5 | h_5
              · have k_8 : (d0.length : Int) ≤ (s_1.2.2 + 1) := decide_eq_true_iff.1 h_5
                have hF_13 := cnd_t h_5 hF_12
                have f_36 := Frm.set f_35 32 (v := .bool (decide ((d0.length : Int) ≤ (s_1.2.2 + 1)))) (v' := .bool true) (by kernel_rfl) (congrArg Value.bool h_5)
                have f_37 : Frm 108 [(0, S d0), (5, .slice A_5 s_1.1.length cap_5), (6, .slice A_6 s_1.2.1.length cap_6), (7, .int .i64 s_1.2.2), (32, .bool true)] a_19 := f_36.keep (ks := [0, 5, 6, 7, 32]) (by kernel_rfl)
                refine W_run (L' := [(0, S d0), (5, .slice A_5 s_1.1.length cap_5), (6, .slice A_6 s_1.2.1.length cap_6), (7, .int .i64 s_1.2.2), (38, .bool true)]) (w' := w_2) f_37 6 [0, 5, 6, 7, 38] (by kernel_rfl) (fun a_20 f_38 => ?_)
                refine W_end rfl ?_
                refine T_n ?_
                exact ⟨(true), (Option.some.inj hF_13).symm, M_1, (Mem.le_refl _), f_38.keep (ks := [0, 5, 6, 7, 38]) (by kernel_rfl), p_7⟩
              · have k_9 : ¬ ((d0.length : Int) ≤ (s_1.2.2 + 1)) := iff_f decide_eq_true_iff h_5
                have hF_14 := cnd_f h_5 hF_12
                have f_39 := Frm.set f_35 32 (v := .bool (decide ((d0.length : Int) ≤ (s_1.2.2 + 1)))) (v' := .bool false) (by kernel_rfl) (congrArg Value.bool h_5)
                have f_40 : Frm 108 [(0, S d0), (5, .slice A_5 s_1.1.length cap_5), (6, .slice A_6 s_1.2.1.length cap_6), (7, .int .i64 s_1.2.2), (32, .bool false)] a_19 := f_39.keep (ks := [0, 5, 6, 7, 32]) (by kernel_rfl)
                refine W_run (L' := [(0, S d0), (5, .slice A_5 s_1.1.length cap_5), (6, .slice A_6 s_1.2.1.length cap_6), (7, .int .i64 s_1.2.2), (32, .bool false), (33, S d0), (34, .int .i64 s_1.2.2)]) (w' := w_2) f_40 2 [0, 5, 6, 7, 32, 33, 34] (by kernel_rfl) (fun a_21 f_41 => ?_)
                obtain ⟨g_2, hF_15⟩ := need_some hF_14
                refine W_run (L' := [(0, S d0), (5, .slice A_5 s_1.1.length cap_5), (6, .slice A_6 s_1.2.1.length cap_6), (7, .int .i64 s_1.2.2), (32, .bool false), (33, S d0), (34, .int .i64 s_1.2.2), (35, .int .i64 (IntKind.wrap .i64 (s_1.2.2 + 1)))]) (w' := w_2) f_41 1 [0, 5, 6, 7, 32, 33, 34, 35] (by kernel_rfl) (fun a_22 f_42 => ?_)
                have f_43 := Frm.set f_42 35 (v := .int .i64 (IntKind.wrap .i64 (s_1.2.2 + 1))) (v' := .int .i64 (s_1.2.2 + 1)) (by kernel_rfl) (congrArg (Value.int .i64) (inR_wrap g_2))
                have f_44 : Frm 108 [(0, S d0), (5, .slice A_5 s_1.1.length cap_5), (6, .slice A_6 s_1.2.1.length cap_6), (7, .int .i64 s_1.2.2), (32, .bool false), (33, S d0), (34, .int .i64 s_1.2.2), (35, .int .i64 (s_1.2.2 + 1))] a_22 := f_43.keep (ks := [0, 5, 6, 7, 32, 33, 34, 35]) (by kernel_rfl)
                obtain ⟨c_2, hx_3, hF_16⟩ := bind_some' hF_15
                refine W_eq (v := .int .u8 ((d0.getD (s_1.2.2 + 1).toNat 0).toNat : Int)) f_44 (by kernel_rfl) (by kernel_rfl) rfl rfl (X_strIndex rfl (l := d0) (k := .i64) (i := s_1.2.2 + 1) (by kernel_rfl) (by kernel_rfl) (by kernel_rfl) (getI_nn hx_3) (getI_lt hx_3)) (fun a_23 f_45 => ?_)
                have f_46 := Frm.set f_45 36 (v := .int .u8 ((d0.getD (s_1.2.2 + 1).toNat 0).toNat : Int)) (v' := .int .u8 ((c_2).toNat : Int)) (by kernel_rfl) (congrArg (fun c : UInt8 => Value.int .u8 ((c.toNat : Nat) : Int)) (getI_getD hx_3))
                have f_47 : Frm 108 [(0, S d0), (5, .slice A_5 s_1.1.length cap_5), (6, .slice A_6 s_1.2.1.length cap_6), (7, .int .i64 s_1.2.2), (32, .bool false), (33, S d0), (34, .int .i64 s_1.2.2), (35, .int .i64 (s_1.2.2 + 1)), (36, .int .u8 ((c_2).toNat : Int))] a_23 := f_46.keep (ks := [0, 5, 6, 7, 32, 33, 34, 35, 36]) (by kernel_rfl)
                refine W_run (L' := [(0, S d0), (5, .slice A_5 s_1.1.length cap_5), (6, .slice A_6 s_1.2.1.length cap_6), (7, .int .i64 s_1.2.2), (38, .bool (!(decide (((c_2).toNat : Int) = 123))))]) (w' := w_2) f_47 2 [0, 5, 6, 7, 38] (by kernel_rfl) (fun a_24 f_48 => ?_)
                refine W_end rfl ?_
                refine T_n ?_
                exact ⟨(!(decide (((c_2).toNat : Int) = 123))), (Option.some.inj hF_16).symm, M_1, (Mem.le_refl _), f_48.keep (ks := [0, 5, 6, 7, 38]) (by kernel_rfl), p_7⟩
          · rintro a_25 w_3 ⟨y_1, hq_1, M_2, hM_2, f_49, p_8⟩
            subst j_1
            refine T_n ?_
            refine R_cond f_49 (b := y_1) (by kernel_rfl) (by kernel_rfl) (fun h_6 => ?_) (fun h_6 => ?_)
            · have hF_17 := cnd_t h_6 hF_8
              refine R_seq ?_
              refine R_reg ?_
              refine W_run (L' := [(0, S d0), (5, .slice A_5 s_1.1.length cap_5), (7, .int .i64 s_1.2.2), (39, .slice A_6 s_1.2.1.length cap_6), (40, S d0), (41, .int .i64 s_1.2.2)]) (w' := w_3) f_49 3 [0, 5, 7, 39, 40, 41] (by kernel_rfl) (fun a_26 f_50 => ?_)
              obtain ⟨c_3, hx_4, hF_18⟩ := bind_some' hF_17
              refine W_eq (v := .int .u8 ((d0.getD s_1.2.2.toNat 0).toNat : Int)) f_50 (by kernel_rfl) (by kernel_rfl) rfl rfl (X_strIndex rfl (l := d0) (k := .i64) (i := s_1.2.2) (by kernel_rfl) (by kernel_rfl) (by kernel_rfl) (getI_nn hx_4) (getI_lt hx_4)) (fun a_27 f_51 => ?_)
              have f_52 := Frm.set f_51 42 (v := .int .u8 ((d0.getD s_1.2.2.toNat 0).toNat : Int)) (v' := .int .u8 ((c_3).toNat : Int)) (by kernel_rfl) (congrArg (fun c : UInt8 => Value.int .u8 ((c.toNat : Nat) : Int)) (getI_getD hx_4))
              have f_53 : Frm 108 [(0, S d0), (5, .slice A_5 s_1.1.length cap_5), (7, .int .i64 s_1.2.2), (39, .slice A_6 s_1.2.1.length cap_6), (40, S d0), (41, .int .i64 s_1.2.2), (42, .int .u8 ((c_3).toNat : Int))] a_27 := f_52.keep (ks := [0, 5, 7, 39, 40, 41, 42]) (by kernel_rfl)
              refine W_alloc f_53 p_8 1 [0, 5, 7, 39, 40, 41, 42, 43] (.cells #[.int .u8 ((c_3).toNat : Int)] 5 (0, 0)) (fun b_2 => [(0, S d0), (5, .slice A_5 s_1.1.length cap_5), (7, .int .i64 s_1.2.2), (39, .slice A_6 s_1.2.1.length cap_6), (40, S d0), (41, .int .i64 s_1.2.2), (42, .int .u8 ((c_3).toNat : Int)), (43, .slice (some ⟨b_2, 0, none⟩) 1 1)]) (fun _ => by kernel_rfl) (fun b_2 w_4 p_9 a_28 f_54 => ?_)
              replace f_54 : Frm 108 [(0, S d0), (5, .slice A_5 s_1.1.length cap_5), (7, .int .i64 s_1.2.2), (39, .slice A_6 s_1.2.1.length cap_6), (40, S d0), (41, .int .i64 s_1.2.2), (42, .int .u8 ((c_3).toNat : Int)), (43, .slice (some ⟨b_2, 0, none⟩) 1 1)] a_28 := f_54
              have p_10 : Hp w0 M_2 ((Ent.row 5 1 (.slice A_6 s_1.2.1.length cap_6) s_1.2.1.length cs_2) :: (Ent.obj b_2 (.cells #[.int .u8 ((c_3).toNat : Int)] 5 (0, 0))) :: (Ent.row 29 6 (.slice A_5 s_1.1.length cap_5) s_1.1.length cs_1) :: H) w_4 := p_9.pull 2 rfl rfl
              obtain ⟨g_3, hF_19⟩ := need_some hF_18
              refine W_appendL (z := .int .u8 0) (f := embB) (xs := s_1.2.1) (ys := [c_3]) (news := [.int .u8 ((c_3).toNat : Int)]) (ad := ⟨b_2, 0, none⟩) (m := 1) (c := 1) f_54 p_10 (RepSeq.mono hM_2 _ _ hr_6) (by exact ⟨_, _, rfl, rfl, rfl⟩) (by kernel_rfl) (by kernel_rfl) rfl rfl rfl (by kernel_rfl) (by kernel_rfl) (by kernel_rfl) (by kernel_rfl) rfl (own_cells (p_10.ownCell 1 rfl) 0 rfl) (by exact g_3) (by have hg_ := g_3; first | omega | (simp only [List.length_cons, List.length_nil] at *; omega)) (fun A_7 cap_7 cs_3 w_5 p_11 hr_7 a_29 f_55 => ?_)
              have p_12 : Hp w0 M_2 ((Ent.obj b_2 (.cells #[.int .u8 ((c_3).toNat : Int)] 5 (0, 0))) :: (Ent.row 5 1 (.slice A_7 (s_1.2.1 ++ [c_3]).length cap_7) (s_1.2.1 ++ [c_3]).length cs_3) :: (Ent.row 29 6 (.slice A_5 s_1.1.length cap_5) s_1.1.length cs_1) :: H) w_5 := p_11.pull 1 rfl rfl
              have p_13 := p_12.drop
              refine W_run (L' := [(0, S d0), (5, .slice A_5 s_1.1.length cap_5), (6, .slice A_7 (s_1.2.1 ++ [c_3]).length cap_7), (7, .int .i64 s_1.2.2)]) (w' := w_5) f_55 1 [0, 5, 6, 7] (by kernel_rfl) (fun a_30 f_56 => ?_)
              refine W_end rfl ?_
              refine T_n ?_
              refine R_seq ?_
              refine R_reg ?_
              refine W_run (L' := [(0, S d0), (5, .slice A_5 s_1.1.length cap_5), (6, .slice A_7 (s_1.2.1 ++ [c_3]).length cap_7), (45, .int .i64 s_1.2.2)]) (w' := w_5) f_56 1 [0, 5, 6, 45] (by kernel_rfl) (fun a_31 f_57 => ?_)
              obtain ⟨g_4, hF_20⟩ := need_some hF_19
              refine W_run (L' := [(0, S d0), (5, .slice A_5 s_1.1.length cap_5), (6, .slice A_7 (s_1.2.1 ++ [c_3]).length cap_7), (45, .int .i64 s_1.2.2), (46, .int .i64 (IntKind.wrap .i64 (s_1.2.2 + 1)))]) (w' := w_5) f_57 1 [0, 5, 6, 45, 46] (by kernel_rfl) (fun a_32 f_58 => ?_)
              have f_59 := Frm.set f_58 46 (v := .int .i64 (IntKind.wrap .i64 (s_1.2.2 + 1))) (v' := .int .i64 (s_1.2.2 + 1)) (by kernel_rfl) (congrArg (Value.int .i64) (inR_wrap g_4))
              have f_60 : Frm 108 [(0, S d0), (5, .slice A_5 s_1.1.length cap_5), (6, .slice A_7 (s_1.2.1 ++ [c_3]).length cap_7), (45, .int .i64 s_1.2.2), (46, .int .i64 (s_1.2.2 + 1))] a_32 := f_59.keep (ks := [0, 5, 6, 45, 46]) (by kernel_rfl)
              refine W_run (L' := [(0, S d0), (5, .slice A_5 s_1.1.length cap_5), (6, .slice A_7 (s_1.2.1 ++ [c_3]).length cap_7), (7, .int .i64 (s_1.2.2 + 1))]) (w' := w_5) f_60 1 [0, 5, 6, 7] (by kernel_rfl) (fun a_33 f_61 => ?_)
              refine W_end rfl ?_
              refine T_n ?_
              refine wp_exit ?_
              refine T_x ?_
              refine B_x ?_
              have p_41 : Hp w0 M_2 ((Ent.row 29 6 (.slice A_5 s_1.1.length cap_5) s_1.1.length cs_1) :: (Ent.row 5 1 (.slice A_7 (s_1.2.1 ++ [c_3]).length cap_7) (s_1.2.1 ++ [c_3]).length cs_3) :: H) w_5 := p_13.pull 1 rfl rfl
              refine T_n ?_
              obtain rfl := Option.some.inj hF_20
              exact ⟨⟨m_2, (s_1.1, s_1.2.1 ++ [c_3], s_1.2.2 + 1), A_5, cap_5, cs_1, A_7, cap_7, cs_3⟩, Nat.lt_succ_self _, M_2, (hM_1.trans hM_2), ⟨hn_1, (RepSeq.mono hM_2 _ _ hr_5), hr_7⟩, f_61.keep (ks := [0, 5, 6, 7]) (by kernel_rfl), p_41⟩
            · have hF_21 := cnd_f h_6 hF_8
              refine wp_skip ?_
              refine T_n ?_
              refine R_seq ?_
              refine R_reg ?_
              refine W_run (L' := [(0, S d0), (5, .slice A_5 s_1.1.length cap_5), (6, .slice A_6 s_1.2.1.length cap_6), (7, .int .i64 s_1.2.2), (47, S d0), (48, .int .i64 s_1.2.2)]) (w' := w_3) f_49 2 [0, 5, 6, 7, 47, 48] (by kernel_rfl) (fun a_34 f_62 => ?_)
              obtain ⟨g_5, hF_22⟩ := need_some hF_21
              refine W_run (L' := [(0, S d0), (5, .slice A_5 s_1.1.length cap_5), (6, .slice A_6 s_1.2.1.length cap_6), (7, .int .i64 s_1.2.2), (47, S d0), (48, .int .i64 s_1.2.2), (49, .int .i64 (IntKind.wrap .i64 (s_1.2.2 + 2)))]) (w' := w_3) f_62 1 [0, 5, 6, 7, 47, 48, 49] (by kernel_rfl) (fun a_35 f_63 => ?_)
              have f_64 := Frm.set f_63 49 (v := .int .i64 (IntKind.wrap .i64 (s_1.2.2 + 2))) (v' := .int .i64 (s_1.2.2 + 2)) (by kernel_rfl) (congrArg (Value.int .i64) (inR_wrap g_5))
              have f_65 : Frm 108 [(0, S d0), (5, .slice A_5 s_1.1.length cap_5), (6, .slice A_6 s_1.2.1.length cap_6), (7, .int .i64 s_1.2.2), (47, S d0), (48, .int .i64 s_1.2.2), (49, .int .i64 (s_1.2.2 + 2))] a_35 := f_64.keep (ks := [0, 5, 6, 7, 47, 48, 49]) (by kernel_rfl)
              obtain ⟨x_2, hx_5, hF_23⟩ := bind_some' hF_22
              refine W_okv (v := .int .i64 x_2) f_65 p_8 (by kernel_rfl) (by kernel_rfl) rfl rfl (fun _ => by kernel_rfl) (ref12_shut_ok n _ d0 (s_1.2.2 + 2) x_2 hx_5) (fun w_6 p_14 a_36 f_66 => ?_)
              refine W_run (L' := [(0, S d0), (5, .slice A_5 s_1.1.length cap_5), (6, .slice A_6 s_1.2.1.length cap_6), (7, .int .i64 s_1.2.2), (8, .int .i64 x_2)]) (w' := w_6) f_66 1 [0, 5, 6, 7, 8] (by kernel_rfl) (fun a_37 f_67 => ?_)
              refine W_end rfl ?_
              refine T_n ?_
              refine R_seq ?_
              refine R_seq ?_
              refine R_reg ?_
              refine W_run (L' := [(0, S d0), (5, .slice A_5 s_1.1.length cap_5), (6, .slice A_6 s_1.2.1.length cap_6), (7, .int .i64 s_1.2.2), (8, .int .i64 x_2), (52, .bool (decide (x_2 < 0)))]) (w' := w_6) f_67 2 [0, 5, 6, 7, 8, 52] (by kernel_rfl) (fun a_38 f_68 => ?_)
              refine W_end rfl ?_
              refine T_n ?_
              refine R_cond f_68 (b := decide (x_2 < 0)) (by kernel_rfl) (by kernel_rfl) (fun h_7 => ?_) (fun h_7 => ?_)
              · have k_12 : x_2 < 0 := decide_eq_true_iff.1 h_7
                have hF_24 := cnd_t h_7 hF_23
                refine R_seq ?_
                refine R_reg ?_
                refine W_run (L' := [(2, .slice none 0 0), (3, .int .i64 s_1.2.2), (4, .int .i64 130)]) (w' := w_6) f_68 4 [2, 3, 4] (by kernel_rfl) (fun a_39 f_69 => ?_)
                refine W_end rfl ?_
                refine T_n ?_
                refine wp_ret ?_
                refine T_r ?_
                refine B_r ?_
                refine T_r ?_
                obtain rfl := Option.some.inj hF_24
                exact .inl ⟨rfl, s_1.2.2, (Option.some.inj hn_1).symm, M_2, (hM_1.trans hM_2), f_69.keep (ks := [2, 3, 4]) (by kernel_rfl), (p_14.dropN 2)⟩
              · have k_13 : ¬ (x_2 < 0) := iff_f decide_eq_true_iff h_7
                have hF_25 := cnd_f h_7 hF_23
                refine wp_skip ?_
                refine T_n ?_
                refine R_seq ?_
                refine R_seq ?_
                refine R_reg ?_
                refine W_run (L' := [(0, S d0), (5, .slice A_5 s_1.1.length cap_5), (6, .slice A_6 s_1.2.1.length cap_6), (7, .int .i64 s_1.2.2), (8, .int .i64 x_2), (54, S d0), (55, .int .i64 s_1.2.2)]) (w' := w_6) f_68 2 [0, 5, 6, 7, 8, 54, 55] (by kernel_rfl) (fun a_40 f_70 => ?_)
                obtain ⟨g_6, hF_26⟩ := need_some hF_25
                refine W_run (L' := [(0, S d0), (5, .slice A_5 s_1.1.length cap_5), (6, .slice A_6 s_1.2.1.length cap_6), (7, .int .i64 s_1.2.2), (8, .int .i64 x_2), (54, S d0), (55, .int .i64 s_1.2.2), (56, .int .i64 (IntKind.wrap .i64 (s_1.2.2 + 2)))]) (w' := w_6) f_70 1 [0, 5, 6, 7, 8, 54, 55, 56] (by kernel_rfl) (fun a_41 f_71 => ?_)
                have f_72 := Frm.set f_71 56 (v := .int .i64 (IntKind.wrap .i64 (s_1.2.2 + 2))) (v' := .int .i64 (s_1.2.2 + 2)) (by kernel_rfl) (congrArg (Value.int .i64) (inR_wrap g_6))
                have f_73 : Frm 108 [(0, S d0), (5, .slice A_5 s_1.1.length cap_5), (6, .slice A_6 s_1.2.1.length cap_6), (7, .int .i64 s_1.2.2), (8, .int .i64 x_2), (54, S d0), (55, .int .i64 s_1.2.2), (56, .int .i64 (s_1.2.2 + 2))] a_41 := f_72.keep (ks := [0, 5, 6, 7, 8, 54, 55, 56]) (by kernel_rfl)
                obtain ⟨c_4, hx_6, hF_27⟩ := bind_some' hF_26
                refine W_eq (v := .int .u8 ((d0.getD (s_1.2.2 + 2).toNat 0).toNat : Int)) f_73 (by kernel_rfl) (by kernel_rfl) rfl rfl (X_strIndex rfl (l := d0) (k := .i64) (i := s_1.2.2 + 2) (by kernel_rfl) (by kernel_rfl) (by kernel_rfl) (getI_nn hx_6) (getI_lt hx_6)) (fun a_42 f_74 => ?_)
                have f_75 := Frm.set f_74 57 (v := .int .u8 ((d0.getD (s_1.2.2 + 2).toNat 0).toNat : Int)) (v' := .int .u8 ((c_4).toNat : Int)) (by kernel_rfl) (congrArg (fun c : UInt8 => Value.int .u8 ((c.toNat : Nat) : Int)) (getI_getD hx_6))
                have f_76 : Frm 108 [(0, S d0), (5, .slice A_5 s_1.1.length cap_5), (6, .slice A_6 s_1.2.1.length cap_6), (7, .int .i64 s_1.2.2), (8, .int .i64 x_2), (54, S d0), (55, .int .i64 s_1.2.2), (56, .int .i64 (s_1.2.2 + 2)), (57, .int .u8 ((c_4).toNat : Int))] a_42 := f_75.keep (ks := [0, 5, 6, 7, 8, 54, 55, 56, 57]) (by kernel_rfl)
                refine W_run (L' := [(0, S d0), (5, .slice A_5 s_1.1.length cap_5), (6, .slice A_6 s_1.2.1.length cap_6), (7, .int .i64 s_1.2.2), (8, .int .i64 x_2), (58, .bool (decide (((c_4).toNat : Int) = 33)))]) (w' := w_6) f_76 1 [0, 5, 6, 7, 8, 58] (by kernel_rfl) (fun a_43 f_77 => ?_)
                refine W_end rfl ?_
                refine T_n ?_
                refine R_cond f_77 (b := decide (((c_4).toNat : Int) = 33)) (by kernel_rfl) (by kernel_rfl) (fun h_8 => ?_) (fun h_8 => ?_)
                · have k_14 : ((c_4).toNat : Int) = 33 := decide_eq_true_iff.1 h_8
                  have hF_28 := cnd_t h_8 hF_27
                  refine R_seq ?_
                  refine R_reg ?_
                  refine W_run (L' := [(0, S d0), (5, .slice A_5 s_1.1.length cap_5), (7, .int .i64 s_1.2.2), (8, .int .i64 x_2), (59, .slice A_6 s_1.2.1.length cap_6)]) (w' := w_6) f_77 1 [0, 5, 7, 8, 59] (by kernel_rfl) (fun a_44 f_78 => ?_)
                  have p_15 : Hp w0 M_2 ((Ent.row 5 1 (.slice A_6 s_1.2.1.length cap_6) s_1.2.1.length cs_2) :: (Ent.row 29 6 (.slice A_5 s_1.1.length cap_5) s_1.1.length cs_1) :: H) w_6 := p_14.pull 1 rfl rfl
                  obtain ⟨g_7, hF_29⟩ := need_some hF_28
                  refine W_appendT (z := .int .u8 0) (xs := s_1.2.1) (l := [36, 123]) f_78 p_15 (RepSeq.mono hM_2 _ _ hr_6) (by kernel_rfl) (by kernel_rfl) rfl rfl rfl (by kernel_rfl) (by kernel_rfl) (by kernel_rfl) (by kernel_rfl) (by kernel_rfl) g_7 (by omega) (fun A_8 cap_8 cs_4 w_7 p_16 hr_8 a_45 f_79 => ?_)
                  refine W_run (L' := [(0, S d0), (5, .slice A_5 s_1.1.length cap_5), (6, .slice A_8 (s_1.2.1 ++ [36, 123]).length cap_8), (7, .int .i64 s_1.2.2), (8, .int .i64 x_2)]) (w' := w_7) f_79 1 [0, 5, 6, 7, 8] (by kernel_rfl) (fun a_46 f_80 => ?_)
                  refine W_end rfl ?_
                  refine T_n ?_
                  refine R_seq ?_
                  refine R_reg ?_
                  refine W_run (L' := [(0, S d0), (5, .slice A_5 s_1.1.length cap_5), (8, .int .i64 x_2), (61, .slice A_8 (s_1.2.1 ++ [36, 123]).length cap_8), (62, S d0), (63, .int .i64 s_1.2.2)]) (w' := w_7) f_80 3 [0, 5, 8, 61, 62, 63] (by kernel_rfl) (fun a_47 f_81 => ?_)
                  obtain ⟨g_8, hF_30⟩ := need_some hF_29
                  refine W_run (L' := [(0, S d0), (5, .slice A_5 s_1.1.length cap_5), (8, .int .i64 x_2), (61, .slice A_8 (s_1.2.1 ++ [36, 123]).length cap_8), (62, S d0), (63, .int .i64 s_1.2.2), (64, .int .i64 (IntKind.wrap .i64 (s_1.2.2 + 3)))]) (w' := w_7) f_81 1 [0, 5, 8, 61, 62, 63, 64] (by kernel_rfl) (fun a_48 f_82 => ?_)
                  have f_83 := Frm.set f_82 64 (v := .int .i64 (IntKind.wrap .i64 (s_1.2.2 + 3))) (v' := .int .i64 (s_1.2.2 + 3)) (by kernel_rfl) (congrArg (Value.int .i64) (inR_wrap g_8))
                  have f_84 : Frm 108 [(0, S d0), (5, .slice A_5 s_1.1.length cap_5), (8, .int .i64 x_2), (61, .slice A_8 (s_1.2.1 ++ [36, 123]).length cap_8), (62, S d0), (63, .int .i64 s_1.2.2), (64, .int .i64 (s_1.2.2 + 3))] a_48 := f_83.keep (ks := [0, 5, 8, 61, 62, 63, 64]) (by kernel_rfl)
                  refine W_run (L' := [(0, S d0), (5, .slice A_5 s_1.1.length cap_5), (8, .int .i64 x_2), (61, .slice A_8 (s_1.2.1 ++ [36, 123]).length cap_8), (62, S d0), (64, .int .i64 (s_1.2.2 + 3)), (65, .int .i64 x_2)]) (w' := w_7) f_84 1 [0, 5, 8, 61, 62, 64, 65] (by kernel_rfl) (fun a_49 f_85 => ?_)
                  obtain ⟨g_9, hF_31⟩ := need_some hF_30
                  refine W_run (L' := [(0, S d0), (5, .slice A_5 s_1.1.length cap_5), (8, .int .i64 x_2), (61, .slice A_8 (s_1.2.1 ++ [36, 123]).length cap_8), (62, S d0), (64, .int .i64 (s_1.2.2 + 3)), (65, .int .i64 x_2), (66, .int .i64 (IntKind.wrap .i64 (x_2 + 1)))]) (w' := w_7) f_85 1 [0, 5, 8, 61, 62, 64, 65, 66] (by kernel_rfl) (fun a_50 f_86 => ?_)
                  have f_87 := Frm.set f_86 66 (v := .int .i64 (IntKind.wrap .i64 (x_2 + 1))) (v' := .int .i64 (x_2 + 1)) (by kernel_rfl) (congrArg (Value.int .i64) (inR_wrap g_9))
                  have f_88 : Frm 108 [(0, S d0), (5, .slice A_5 s_1.1.length cap_5), (8, .int .i64 x_2), (61, .slice A_8 (s_1.2.1 ++ [36, 123]).length cap_8), (62, S d0), (64, .int .i64 (s_1.2.2 + 3)), (65, .int .i64 x_2), (66, .int .i64 (x_2 + 1))] a_50 := f_87.keep (ks := [0, 5, 8, 61, 62, 64, 65, 66]) (by kernel_rfl)
                  obtain ⟨g_10, hF_32⟩ := need_some hF_31
                  refine W_eq (v := S ((d0.take (x_2 + 1).toNat).drop (s_1.2.2 + 3).toNat)) f_88 (by kernel_rfl) (by kernel_rfl) rfl rfl (X_strSlice rfl (l := d0) (k := .i64) (k' := .i64) (a := s_1.2.2 + 3) (b := x_2 + 1) (by kernel_rfl) (by kernel_rfl) (by kernel_rfl) (by kernel_rfl) g_10.1 g_10.2.1 g_10.2.2) (fun a_51 f_89 => ?_)
                  obtain ⟨g_11, hF_33⟩ := need_some hF_32
                  refine W_appendT (z := .int .u8 0) (xs := s_1.2.1 ++ [36, 123]) (l := (d0.take (x_2 + 1).toNat).drop (s_1.2.2 + 3).toNat) f_89 p_16 hr_8 (by kernel_rfl) (by kernel_rfl) rfl rfl rfl (by kernel_rfl) (by kernel_rfl) (by kernel_rfl) (by kernel_rfl) (by kernel_rfl) g_11 (by omega) (fun A_9 cap_9 cs_5 w_8 p_17 hr_9 a_52 f_90 => ?_)
                  refine W_run (L' := [(0, S d0), (5, .slice A_5 s_1.1.length cap_5), (6, .slice A_9 ((s_1.2.1 ++ [36, 123]) ++ ((d0.take (x_2 + 1).toNat).drop (s_1.2.2 + 3).toNat)).length cap_9), (8, .int .i64 x_2)]) (w' := w_8) f_90 1 [0, 5, 6, 8] (by kernel_rfl) (fun a_53 f_91 => ?_)
                  refine W_end rfl ?_
                  refine T_n ?_
                  refine R_seq ?_
                  refine R_reg ?_
                  refine W_run (L' := [(0, S d0), (5, .slice A_5 s_1.1.length cap_5), (6, .slice A_9 ((s_1.2.1 ++ [36, 123]) ++ ((d0.take (x_2 + 1).toNat).drop (s_1.2.2 + 3).toNat)).length cap_9), (69, .int .i64 x_2)]) (w' := w_8) f_91 1 [0, 5, 6, 69] (by kernel_rfl) (fun a_54 f_92 => ?_)
                  obtain ⟨g_12, hF_34⟩ := need_some hF_33
                  refine W_run (L' := [(0, S d0), (5, .slice A_5 s_1.1.length cap_5), (6, .slice A_9 ((s_1.2.1 ++ [36, 123]) ++ ((d0.take (x_2 + 1).toNat).drop (s_1.2.2 + 3).toNat)).length cap_9), (69, .int .i64 x_2), (70, .int .i64 (IntKind.wrap .i64 (x_2 + 1)))]) (w' := w_8) f_92 1 [0, 5, 6, 69, 70] (by kernel_rfl) (fun a_55 f_93 => ?_)
                  have f_94 := Frm.set f_93 70 (v := .int .i64 (IntKind.wrap .i64 (x_2 + 1))) (v' := .int .i64 (x_2 + 1)) (by kernel_rfl) (congrArg (Value.int .i64) (inR_wrap g_12))
                  have f_95 : Frm 108 [(0, S d0), (5, .slice A_5 s_1.1.length cap_5), (6, .slice A_9 ((s_1.2.1 ++ [36, 123]) ++ ((d0.take (x_2 + 1).toNat).drop (s_1.2.2 + 3).toNat)).length cap_9), (69, .int .i64 x_2), (70, .int .i64 (x_2 + 1))] a_55 := f_94.keep (ks := [0, 5, 6, 69, 70]) (by kernel_rfl)
                  refine W_run (L' := [(0, S d0), (5, .slice A_5 s_1.1.length cap_5), (6, .slice A_9 ((s_1.2.1 ++ [36, 123]) ++ ((d0.take (x_2 + 1).toNat).drop (s_1.2.2 + 3).toNat)).length cap_9), (7, .int .i64 (x_2 + 1))]) (w' := w_8) f_95 1 [0, 5, 6, 7] (by kernel_rfl) (fun a_56 f_96 => ?_)
                  refine W_end rfl ?_
                  refine T_n ?_
                  refine wp_exit ?_
                  refine T_x ?_
                  refine B_x ?_
                  have p_42 : Hp w0 M_2 ((Ent.row 29 6 (.slice A_5 s_1.1.length cap_5) s_1.1.length cs_1) :: (Ent.row 5 1 (.slice A_9 ((s_1.2.1 ++ [36, 123]) ++ ((d0.take (x_2 + 1).toNat).drop (s_1.2.2 + 3).toNat)).length cap_9) ((s_1.2.1 ++ [36, 123]) ++ ((d0.take (x_2 + 1).toNat).drop (s_1.2.2 + 3).toNat)).length cs_5) :: H) w_8 := p_17.pull 1 rfl rfl
                  refine T_n ?_
                  obtain rfl := Option.some.inj hF_34
                  exact ⟨⟨m_2, (s_1.1, (s_1.2.1 ++ [36, 123]) ++ ((d0.take (x_2 + 1).toNat).drop (s_1.2.2 + 3).toNat), x_2 + 1), A_5, cap_5, cs_1, A_9, cap_9, cs_5⟩, Nat.lt_succ_self _, M_2, (hM_1.trans hM_2), ⟨hn_1, (RepSeq.mono hM_2 _ _ hr_5), hr_9⟩, f_96.keep (ks := [0, 5, 6, 7]) (by kernel_rfl), p_42⟩
                · have k_15 : ¬ (((c_4).toNat : Int) = 33) := iff_f decide_eq_true_iff h_8
                  have hF_35 := cnd_f h_8 hF_27
                  refine wp_skip ?_
                  refine T_n ?_
                  refine R_seq ?_
                  refine R_reg ?_
                  refine W_run (L' := [(0, S d0), (5, .slice A_5 s_1.1.length cap_5), (6, .slice A_6 s_1.2.1.length cap_6), (7, .int .i64 s_1.2.2), (8, .int .i64 x_2), (72, S d0), (73, .int .i64 s_1.2.2)]) (w' := w_6) f_77 2 [0, 5, 6, 7, 8, 72, 73] (by kernel_rfl) (fun a_57 f_97 => ?_)
                  obtain ⟨g_13, hF_36⟩ := need_some hF_35
                  refine W_run (L' := [(0, S d0), (5, .slice A_5 s_1.1.length cap_5), (6, .slice A_6 s_1.2.1.length cap_6), (7, .int .i64 s_1.2.2), (8, .int .i64 x_2), (72, S d0), (73, .int .i64 s_1.2.2), (74, .int .i64 (IntKind.wrap .i64 (s_1.2.2 + 2)))]) (w' := w_6) f_97 1 [0, 5, 6, 7, 8, 72, 73, 74] (by kernel_rfl) (fun a_58 f_98 => ?_)
                  have f_99 := Frm.set f_98 74 (v := .int .i64 (IntKind.wrap .i64 (s_1.2.2 + 2))) (v' := .int .i64 (s_1.2.2 + 2)) (by kernel_rfl) (congrArg (Value.int .i64) (inR_wrap g_13))
                  have f_100 : Frm 108 [(0, S d0), (5, .slice A_5 s_1.1.length cap_5), (6, .slice A_6 s_1.2.1.length cap_6), (7, .int .i64 s_1.2.2), (8, .int .i64 x_2), (72, S d0), (73, .int .i64 s_1.2.2), (74, .int .i64 (s_1.2.2 + 2))] a_58 := f_99.keep (ks := [0, 5, 6, 7, 8, 72, 73, 74]) (by kernel_rfl)
                  refine W_run (L' := [(0, S d0), (5, .slice A_5 s_1.1.length cap_5), (6, .slice A_6 s_1.2.1.length cap_6), (7, .int .i64 s_1.2.2), (8, .int .i64 x_2), (72, S d0), (74, .int .i64 (s_1.2.2 + 2)), (75, .int .i64 x_2)]) (w' := w_6) f_100 1 [0, 5, 6, 7, 8, 72, 74, 75] (by kernel_rfl) (fun a_59 f_101 => ?_)
                  obtain ⟨g_14, hF_37⟩ := need_some hF_36
                  refine W_eq (v := S ((d0.take x_2.toNat).drop (s_1.2.2 + 2).toNat)) f_101 (by kernel_rfl) (by kernel_rfl) rfl rfl (X_strSlice rfl (l := d0) (k := .i64) (k' := .i64) (a := s_1.2.2 + 2) (b := x_2) (by kernel_rfl) (by kernel_rfl) (by kernel_rfl) (by kernel_rfl) g_14.1 g_14.2.1 g_14.2.2) (fun a_60 f_102 => ?_)
                  obtain ⟨x_3, hx_7, hF_38⟩ := bind_some' hF_37
                  refine W_ok f_102 p_14 (by kernel_rfl) (by kernel_rfl) rfl rfl (fun _ => by kernel_rfl) (ref12_hole_ok n _ ((d0.take x_2.toNat).drop (s_1.2.2 + 2).toNat) x_3 hx_7) (fun u_1 M_3 w_9 hM_3 p_18 q_1 a_61 f_103 => ?_)
                  obtain ⟨c_5, rfl, hr_10⟩ := q_1
                  obtain ⟨A_10, cap_10, rfl, h_9⟩ := T_api_Expr.opn hr_10
                  refine W_run (L' := [(0, S d0), (5, .slice A_5 s_1.1.length cap_5), (6, .slice A_6 s_1.2.1.length cap_6), (7, .int .i64 s_1.2.2), (8, .int .i64 x_2), (78, .agg #[.int .i8 x_3.1.fKind, S x_3.1.fText, .int .i64 x_3.1.fNum, S x_3.1.fName, S x_3.1.fAttr, .slice A_10 x_3.1.fL.length cap_10]), (79, .bool x_3.2)]) (w' := w_9) f_103 3 [0, 5, 6, 7, 8, 78, 79] (by kernel_rfl) (fun a_62 f_104 => ?_)
                  refine W_alloc f_104 p_18 1 [0, 5, 6, 7, 8, 9, 78, 79] (.cells #[.int .i8 0, S [], .int .i64 0, S [], S [], .slice none 0 0] 29 (0, 0)) (fun b_3 => [(0, S d0), (5, .slice A_5 s_1.1.length cap_5), (6, .slice A_6 s_1.2.1.length cap_6), (7, .int .i64 s_1.2.2), (8, .int .i64 x_2), (9, .pointer (some (⟨b_3, 0, none⟩))), (78, .agg #[.int .i8 x_3.1.fKind, S x_3.1.fText, .int .i64 x_3.1.fNum, S x_3.1.fName, S x_3.1.fAttr, .slice A_10 x_3.1.fL.length cap_10]), (79, .bool x_3.2)]) (fun _ => by kernel_rfl) (fun b_3 w_10 p_19 a_63 f_105 => ?_)
                  replace f_105 : Frm 108 [(0, S d0), (5, .slice A_5 s_1.1.length cap_5), (6, .slice A_6 s_1.2.1.length cap_6), (7, .int .i64 s_1.2.2), (8, .int .i64 x_2), (9, .pointer (some (⟨b_3, 0, none⟩))), (78, .agg #[.int .i8 x_3.1.fKind, S x_3.1.fText, .int .i64 x_3.1.fNum, S x_3.1.fName, S x_3.1.fAttr, .slice A_10 x_3.1.fL.length cap_10]), (79, .bool x_3.2)] a_63 := f_105
                  refine W_storeN (vs := [.int .i8 x_3.1.fKind, S x_3.1.fText, .int .i64 x_3.1.fNum, S x_3.1.fName, S x_3.1.fAttr, .slice A_10 x_3.1.fL.length cap_10]) (j := 0) f_105 p_19 (by kernel_rfl) (by kernel_rfl) rfl rfl (by kernel_rfl) (by kernel_rfl) (by simp [Value.oneCell', S]) (by kernel_rfl) (by simp) (by decide) (cs' := #[.int .i8 x_3.1.fKind, S x_3.1.fText, .int .i64 x_3.1.fNum, S x_3.1.fName, S x_3.1.fAttr, .slice A_10 x_3.1.fL.length cap_10]) rfl (fun w_11 p_20 a_64 f_106 => ?_)
                  refine W_run (L' := [(0, S d0), (5, .slice A_5 s_1.1.length cap_5), (6, .slice A_6 s_1.2.1.length cap_6), (7, .int .i64 s_1.2.2), (8, .int .i64 x_2), (9, .pointer (some (⟨b_3, 0, none⟩))), (10, .bool x_3.2)]) (w' := w_11) f_106 1 [0, 5, 6, 7, 8, 9, 10] (by kernel_rfl) (fun a_65 f_107 => ?_)
                  refine W_end rfl ?_
                  refine T_n ?_
                  refine R_seq ?_
                  refine R_seq ?_
                  refine R_reg ?_
                  refine W_run (L' := [(0, S d0), (5, .slice A_5 s_1.1.length cap_5), (6, .slice A_6 s_1.2.1.length cap_6), (7, .int .i64 s_1.2.2), (8, .int .i64 x_2), (9, .pointer (some (⟨b_3, 0, none⟩))), (81, .bool !x_3.2)]) (w' := w_11) f_107 2 [0, 5, 6, 7, 8, 9, 81] (by kernel_rfl) (fun a_66 f_108 => ?_)
                  refine W_end rfl ?_
                  refine T_n ?_
                  refine R_cond f_108 (b := !x_3.2) (by kernel_rfl) (by kernel_rfl) (fun h_10 => ?_) (fun h_10 => ?_)
                  · have k_16 : (x_3.2) = false := by simpa using h_10
                    have hF_39 := cnd_t h_10 hF_38
                    refine R_seq ?_
                    refine R_reg ?_
                    refine W_run (L' := [(2, .slice none 0 0), (3, .int .i64 s_1.2.2), (4, .int .i64 130)]) (w' := w_11) f_108 4 [2, 3, 4] (by kernel_rfl) (fun a_67 f_109 => ?_)
                    refine W_end rfl ?_
                    refine T_n ?_
                    refine wp_ret ?_
                    refine T_r ?_
                    refine B_r ?_
                    refine T_r ?_
                    obtain rfl := Option.some.inj hF_39
                    exact .inl ⟨rfl, s_1.2.2, (Option.some.inj hn_1).symm, M_3, ((hM_1.trans hM_2).trans hM_3), f_109.keep (ks := [2, 3, 4]) (by kernel_rfl), (p_20.dropN 3)⟩
                  · have k_17 : (x_3.2) = true := by simpa using h_10
                    have hF_40 := cnd_f h_10 hF_38
                    refine wp_skip ?_
                    refine T_n ?_
                    refine R_seq ?_
                    refine R_seq ?_
                    refine R_reg ?_
                    refine W_run (L' := [(0, S d0), (5, .slice A_5 s_1.1.length cap_5), (6, .slice A_6 s_1.2.1.length cap_6), (8, .int .i64 x_2), (9, .pointer (some (⟨b_3, 0, none⟩))), (85, .bool (decide ((0 : Int) < ((s_1.2.1.length : Nat) : Int))))]) (w' := w_11) f_108 3 [0, 5, 6, 8, 9, 85] (by kernel_rfl) (fun a_68 f_110 => ?_)
                    refine W_end rfl ?_
                    refine T_n ?_
                    obtain ⟨j_2, hj_2, hF_41⟩ := bind_some' hF_40
                    refine R_mid (fun a_76 w_14 => ∃ y_2 : List T_api_Expr × List UInt8, j_2 = y_2 ∧ ∃ M_4 : Mem, M_3.le M_4 ∧ ∃ (A_12 : Option Addr), ∃ (cap_12 : Nat), ∃ (cs_7 : List Value), ∃ (A_13 : Option Addr), ∃ (cap_13 : Nat), ∃ (cs_8 : List Value), RepSeq M_4 (y_2.1.map emb_T_api_Expr) cs_7 ∧ RepSeq M_4 (y_2.2.map embB) cs_8 ∧ Frm 108 [(0, S d0), (5, .slice A_12 y_2.1.length cap_12), (6, .slice A_13 y_2.2.length cap_13), (8, .int .i64 x_2), (9, .pointer (some (⟨b_3, 0, none⟩)))] a_76 ∧ Hp w0 M_4 ((Ent.row 29 6 (.slice A_12 y_2.1.length cap_12) y_2.1.length cs_7) :: (Ent.row 5 1 (.slice A_13 y_2.2.length cap_13) y_2.2.length cs_8) :: (Ent.obj b_3 (.cells #[.int .i8 x_3.1.fKind, S x_3.1.fText, .int .i64 x_3.1.fNum, S x_3.1.fName, S x_3.1.fAttr, .slice A_10 x_3.1.fL.length cap_10] 29 (0, 0))) :: H) w_14) ?_ ?_
                    · refine R_cond f_110 (b := decide ((0 : Int) < ((s_1.2.1.length : Nat) : Int))) (by kernel_rfl) (by kernel_rfl) (fun h_11 => ?_) (fun h_11 => ?_)
                      · have k_18 : (0 : Int) < ((s_1.2.1.length : Nat) : Int) := decide_eq_true_iff.1 h_11
                        have hF_42 := cnd_t h_11 hj_2
                        refine R_seq ?_
                        refine R_reg ?_
                        refine W_run (L' := [(0, S d0), (8, .int .i64 x_2), (9, .pointer (some (⟨b_3, 0, none⟩))), (86, .slice A_5 s_1.1.length cap_5), (87, .slice A_6 s_1.2.1.length cap_6)]) (w' := w_11) f_110 2 [0, 8, 9, 86, 87] (by kernel_rfl) (fun a_69 f_111 => ?_)
                        have he_1 := RepSeq.bytes_eq (RepSeq.mono (hM_2.trans hM_3) _ _ hr_6)
                        refine W_eq (v := S s_1.2.1) f_111 (by kernel_rfl) (by kernel_rfl) rfl rfl (X_string_row rfl (l := s_1.2.1) (v := .slice A_6 s_1.2.1.length cap_6) (by kernel_rfl) (e := 5) (by kernel_rfl) (by kernel_rfl) (by kernel_rfl) (by have h0 := p_20.rowAt 2 rfl; rw [he_1] at h0; exact h0)) (fun a_70 f_112 => ?_)
                        refine W_run (L' := [(0, S d0), (8, .int .i64 x_2), (9, .pointer (some (⟨b_3, 0, none⟩))), (86, .slice A_5 s_1.1.length cap_5), (89, .agg #[.int .i8 0, S s_1.2.1, .int .i64 0, S [], S [], .slice none 0 0])]) (w' := w_11) f_112 1 [0, 8, 9, 86, 89] (by kernel_rfl) (fun a_71 f_113 => ?_)
                        refine W_alloc f_113 p_20 1 [0, 8, 9, 86, 89, 90] (.cells #[.int .i8 0, S s_1.2.1, .int .i64 0, S [], S [], .slice none 0 0] 29 (0, 0)) (fun b_4 => [(0, S d0), (8, .int .i64 x_2), (9, .pointer (some (⟨b_3, 0, none⟩))), (86, .slice A_5 s_1.1.length cap_5), (89, .agg #[.int .i8 0, S s_1.2.1, .int .i64 0, S [], S [], .slice none 0 0]), (90, .slice (some ⟨b_4, 0, none⟩) 1 1)]) (fun _ => by kernel_rfl) (fun b_4 w_12 p_21 a_72 f_114 => ?_)
                        replace f_114 : Frm 108 [(0, S d0), (8, .int .i64 x_2), (9, .pointer (some (⟨b_3, 0, none⟩))), (86, .slice A_5 s_1.1.length cap_5), (89, .agg #[.int .i8 0, S s_1.2.1, .int .i64 0, S [], S [], .slice none 0 0]), (90, .slice (some ⟨b_4, 0, none⟩) 1 1)] a_72 := f_114
                        have p_22 : Hp w0 M_3 ((Ent.row 29 6 (.slice A_5 s_1.1.length cap_5) s_1.1.length cs_1) :: (Ent.obj b_4 (.cells #[.int .i8 0, S s_1.2.1, .int .i64 0, S [], S [], .slice none 0 0] 29 (0, 0))) :: (Ent.obj b_3 (.cells #[.int .i8 x_3.1.fKind, S x_3.1.fText, .int .i64 x_3.1.fNum, S x_3.1.fName, S x_3.1.fAttr, .slice A_10 x_3.1.fL.length cap_10] 29 (0, 0))) :: (Ent.row 5 1 (.slice A_6 s_1.2.1.length cap_6) s_1.2.1.length cs_2) :: H) w_12 := p_21.pull 2 rfl rfl
                        obtain ⟨g_15, hF_43⟩ := need_some hF_42
                        refine W_appendL (z := .agg #[.int .i8 0, S [], .int .i64 0, S [], S [], .slice none 0 0]) (f := emb_T_api_Expr) (xs := s_1.1) (ys := [(⟨(0 : Int), s_1.2.1, (0 : Int), ([] : List UInt8), ([] : List UInt8), ([] : List T_api_Expr)⟩ : T_api_Expr)]) (news := [.int .i8 0, S s_1.2.1, .int .i64 0, S [], S [], .slice none 0 0]) (ad := ⟨b_4, 0, none⟩) (m := 1) (c := 1) f_114 p_22 (RepSeq.mono (hM_2.trans hM_3) _ _ hr_5) (by exact ⟨_, _, rfl, T_api_Expr.shut Sli.nil, rfl⟩) (by kernel_rfl) (by kernel_rfl) rfl rfl rfl (by kernel_rfl) (by kernel_rfl) (by kernel_rfl) (by kernel_rfl) rfl (own_cells (p_22.ownCell 1 rfl) 0 rfl) (by exact g_15) (by have hg_ := g_15; first | omega | (simp only [List.length_cons, List.length_nil] at *; omega)) (fun A_11 cap_11 cs_6 w_13 p_23 hr_11 a_73 f_115 => ?_)
                        have p_24 : Hp w0 M_3 ((Ent.obj b_4 (.cells #[.int .i8 0, S s_1.2.1, .int .i64 0, S [], S [], .slice none 0 0] 29 (0, 0))) :: (Ent.row 29 6 (.slice A_11 (s_1.1 ++ [(⟨(0 : Int), s_1.2.1, (0 : Int), ([] : List UInt8), ([] : List UInt8), ([] : List T_api_Expr)⟩ : T_api_Expr)]).length cap_11) (s_1.1 ++ [(⟨(0 : Int), s_1.2.1, (0 : Int), ([] : List UInt8), ([] : List UInt8), ([] : List T_api_Expr)⟩ : T_api_Expr)]).length cs_6) :: (Ent.obj b_3 (.cells #[.int .i8 x_3.1.fKind, S x_3.1.fText, .int .i64 x_3.1.fNum, S x_3.1.fName, S x_3.1.fAttr, .slice A_10 x_3.1.fL.length cap_10] 29 (0, 0))) :: (Ent.row 5 1 (.slice A_6 s_1.2.1.length cap_6) s_1.2.1.length cs_2) :: H) w_13 := p_23.pull 1 rfl rfl
                        have p_25 := p_24.drop
                        refine W_run (L' := [(0, S d0), (5, .slice A_11 (s_1.1 ++ [(⟨(0 : Int), s_1.2.1, (0 : Int), ([] : List UInt8), ([] : List UInt8), ([] : List T_api_Expr)⟩ : T_api_Expr)]).length cap_11), (8, .int .i64 x_2), (9, .pointer (some (⟨b_3, 0, none⟩)))]) (w' := w_13) f_115 1 [0, 5, 8, 9] (by kernel_rfl) (fun a_74 f_116 => ?_)
                        refine W_end rfl ?_
                        refine T_n ?_
                        refine R_reg ?_
                        refine W_run (L' := [(0, S d0), (5, .slice A_11 (s_1.1 ++ [(⟨(0 : Int), s_1.2.1, (0 : Int), ([] : List UInt8), ([] : List UInt8), ([] : List T_api_Expr)⟩ : T_api_Expr)]).length cap_11), (6, .slice none 0 0), (8, .int .i64 x_2), (9, .pointer (some (⟨b_3, 0, none⟩)))]) (w' := w_13) f_116 1 [0, 5, 6, 8, 9] (by kernel_rfl) (fun a_75 f_117 => ?_)
                        refine W_end rfl ?_
                        obtain ⟨A_14, cap_14, hv_5⟩ : ∃ A cap, Value.slice none 0 0 = .slice A ([] : List UInt8).length cap := ⟨none, 0, rfl⟩
                        have p_27 : Hp w0 M_3 ((Ent.row 5 1 (.slice A_14 ([] : List UInt8).length cap_14) ([] : List UInt8).length []) :: (Ent.row 29 6 (.slice A_11 (s_1.1 ++ [(⟨(0 : Int), s_1.2.1, (0 : Int), ([] : List UInt8), ([] : List UInt8), ([] : List T_api_Expr)⟩ : T_api_Expr)]).length cap_11) (s_1.1 ++ [(⟨(0 : Int), s_1.2.1, (0 : Int), ([] : List UInt8), ([] : List UInt8), ([] : List T_api_Expr)⟩ : T_api_Expr)]).length cs_6) :: (Ent.obj b_3 (.cells #[.int .i8 x_3.1.fKind, S x_3.1.fText, .int .i64 x_3.1.fNum, S x_3.1.fName, S x_3.1.fAttr, .slice A_10 x_3.1.fL.length cap_10] 29 (0, 0))) :: (Ent.row 5 1 (.slice A_6 s_1.2.1.length cap_6) s_1.2.1.length cs_2) :: H) w_13 := by rw [← hv_5]; exact p_25.nilRow 5 1
                        have f_119 := Frm.set f_117 6 (v := .slice none 0 0) (v' := .slice A_14 ([] : List UInt8).length cap_14) (by kernel_rfl) (hv_5)
                        have f_120 : Frm 108 [(0, S d0), (5, .slice A_11 (s_1.1 ++ [(⟨(0 : Int), s_1.2.1, (0 : Int), ([] : List UInt8), ([] : List UInt8), ([] : List T_api_Expr)⟩ : T_api_Expr)]).length cap_11), (6, .slice A_14 ([] : List UInt8).length cap_14), (8, .int .i64 x_2), (9, .pointer (some (⟨b_3, 0, none⟩)))] a_75 := f_119.keep (ks := [0, 5, 6, 8, 9]) (by kernel_rfl)
                        have hr_14 : RepSeq M_3 (([] : List UInt8).map embB) [] := rfl
                        have p_28 : Hp w0 M_3 ((Ent.obj b_3 (.cells #[.int .i8 x_3.1.fKind, S x_3.1.fText, .int .i64 x_3.1.fNum, S x_3.1.fName, S x_3.1.fAttr, .slice A_10 x_3.1.fL.length cap_10] 29 (0, 0))) :: (Ent.row 5 1 (.slice A_14 ([] : List UInt8).length cap_14) ([] : List UInt8).length []) :: (Ent.row 29 6 (.slice A_11 (s_1.1 ++ [(⟨(0 : Int), s_1.2.1, (0 : Int), ([] : List UInt8), ([] : List UInt8), ([] : List T_api_Expr)⟩ : T_api_Expr)]).length cap_11) (s_1.1 ++ [(⟨(0 : Int), s_1.2.1, (0 : Int), ([] : List UInt8), ([] : List UInt8), ([] : List T_api_Expr)⟩ : T_api_Expr)]).length cs_6) :: (Ent.row 5 1 (.slice A_6 s_1.2.1.length cap_6) s_1.2.1.length cs_2) :: H) w_13 := p_27.pull 2 rfl rfl
                        have p_29 : Hp w0 M_3 ((Ent.row 5 1 (.slice A_14 ([] : List UInt8).length cap_14) ([] : List UInt8).length []) :: (Ent.obj b_3 (.cells #[.int .i8 x_3.1.fKind, S x_3.1.fText, .int .i64 x_3.1.fNum, S x_3.1.fName, S x_3.1.fAttr, .slice A_10 x_3.1.fL.length cap_10] 29 (0, 0))) :: (Ent.row 29 6 (.slice A_11 (s_1.1 ++ [(⟨(0 : Int), s_1.2.1, (0 : Int), ([] : List UInt8), ([] : List UInt8), ([] : List T_api_Expr)⟩ : T_api_Expr)]).length cap_11) (s_1.1 ++ [(⟨(0 : Int), s_1.2.1, (0 : Int), ([] : List UInt8), ([] : List UInt8), ([] : List T_api_Expr)⟩ : T_api_Expr)]).length cs_6) :: (Ent.row 5 1 (.slice A_6 s_1.2.1.length cap_6) s_1.2.1.length cs_2) :: H) w_13 := p_28.pull 1 rfl rfl
                        have p_30 : Hp w0 M_3 ((Ent.row 29 6 (.slice A_11 (s_1.1 ++ [(⟨(0 : Int), s_1.2.1, (0 : Int), ([] : List UInt8), ([] : List UInt8), ([] : List T_api_Expr)⟩ : T_api_Expr)]).length cap_11) (s_1.1 ++ [(⟨(0 : Int), s_1.2.1, (0 : Int), ([] : List UInt8), ([] : List UInt8), ([] : List T_api_Expr)⟩ : T_api_Expr)]).length cs_6) :: (Ent.row 5 1 (.slice A_14 ([] : List UInt8).length cap_14) ([] : List UInt8).length []) :: (Ent.obj b_3 (.cells #[.int .i8 x_3.1.fKind, S x_3.1.fText, .int .i64 x_3.1.fNum, S x_3.1.fName, S x_3.1.fAttr, .slice A_10 x_3.1.fL.length cap_10] 29 (0, 0))) :: (Ent.row 5 1 (.slice A_6 s_1.2.1.length cap_6) s_1.2.1.length cs_2) :: H) w_13 := p_29.pull 2 rfl rfl
                        have p_31 : Hp w0 M_3 ((Ent.row 5 1 (.slice A_6 s_1.2.1.length cap_6) s_1.2.1.length cs_2) :: (Ent.row 29 6 (.slice A_11 (s_1.1 ++ [(⟨(0 : Int), s_1.2.1, (0 : Int), ([] : List UInt8), ([] : List UInt8), ([] : List T_api_Expr)⟩ : T_api_Expr)]).length cap_11) (s_1.1 ++ [(⟨(0 : Int), s_1.2.1, (0 : Int), ([] : List UInt8), ([] : List UInt8), ([] : List T_api_Expr)⟩ : T_api_Expr)]).length cs_6) :: (Ent.row 5 1 (.slice A_14 ([] : List UInt8).length cap_14) ([] : List UInt8).length []) :: (Ent.obj b_3 (.cells #[.int .i8 x_3.1.fKind, S x_3.1.fText, .int .i64 x_3.1.fNum, S x_3.1.fName, S x_3.1.fAttr, .slice A_10 x_3.1.fL.length cap_10] 29 (0, 0))) :: H) w_13 := p_30.pull 3 rfl rfl
                        refine T_n ?_
                        exact ⟨(s_1.1 ++ [(⟨(0 : Int), s_1.2.1, (0 : Int), ([] : List UInt8), ([] : List UInt8), ([] : List T_api_Expr)⟩ : T_api_Expr)], ([] : List UInt8)), (Option.some.inj hF_43).symm, M_3, (Mem.le_refl _), A_11, cap_11, cs_6, A_14, cap_14, [], hr_11, hr_14, f_120.keep (ks := [0, 5, 6, 8, 9]) (by kernel_rfl), (p_31.dropN 1)⟩
                      · have k_19 : ¬ ((0 : Int) < ((s_1.2.1.length : Nat) : Int)) := iff_f decide_eq_true_iff h_11
                        have hF_44 := cnd_f h_11 hj_2
                        refine wp_skip ?_
                        have p_32 : Hp w0 M_3 ((Ent.row 5 1 (.slice A_6 s_1.2.1.length cap_6) s_1.2.1.length cs_2) :: (Ent.obj b_3 (.cells #[.int .i8 x_3.1.fKind, S x_3.1.fText, .int .i64 x_3.1.fNum, S x_3.1.fName, S x_3.1.fAttr, .slice A_10 x_3.1.fL.length cap_10] 29 (0, 0))) :: (Ent.row 29 6 (.slice A_5 s_1.1.length cap_5) s_1.1.length cs_1) :: H) w_11 := p_20.pull 2 rfl rfl
                        have p_33 : Hp w0 M_3 ((Ent.row 29 6 (.slice A_5 s_1.1.length cap_5) s_1.1.length cs_1) :: (Ent.row 5 1 (.slice A_6 s_1.2.1.length cap_6) s_1.2.1.length cs_2) :: (Ent.obj b_3 (.cells #[.int .i8 x_3.1.fKind, S x_3.1.fText, .int .i64 x_3.1.fNum, S x_3.1.fName, S x_3.1.fAttr, .slice A_10 x_3.1.fL.length cap_10] 29 (0, 0))) :: H) w_11 := p_32.pull 2 rfl rfl
                        refine T_n ?_
                        exact ⟨(s_1.1, s_1.2.1), (Option.some.inj hF_44).symm, M_3, (Mem.le_refl _), A_5, cap_5, cs_1, A_6, cap_6, cs_2, (RepSeq.mono (hM_2.trans hM_3) _ _ hr_5), (RepSeq.mono (hM_2.trans hM_3) _ _ hr_6), f_110.keep (ks := [0, 5, 6, 8, 9]) (by kernel_rfl), p_33⟩
                    · rintro a_76 w_14 ⟨y_2, hq_2, M_4, hM_4, A_12, cap_12, cs_7, A_13, cap_13, cs_8, hr_12, hr_13, f_118, p_26⟩
                      subst j_2
                      refine T_n ?_
                      refine R_seq ?_
                      refine R_reg ?_
                      refine W_run (L' := [(0, S d0), (6, .slice A_13 y_2.2.length cap_13), (8, .int .i64 x_2), (9, .pointer (some (⟨b_3, 0, none⟩))), (92, .slice A_12 y_2.1.length cap_12)]) (w' := w_14) f_118 1 [0, 6, 8, 9, 92] (by kernel_rfl) (fun a_77 f_121 => ?_)
                      refine W_eq (v := .agg #[.int .i8 x_3.1.fKind, S x_3.1.fText, .int .i64 x_3.1.fNum, S x_3.1.fName, S x_3.1.fAttr, .slice A_10 x_3.1.fL.length cap_10]) f_121 (by kernel_rfl) (by kernel_rfl) rfl rfl (X_loadN (cs := [.int .i8 x_3.1.fKind, S x_3.1.fText, .int .i64 x_3.1.fNum, S x_3.1.fName, S x_3.1.fAttr, .slice A_10 x_3.1.fL.length cap_10]) rfl (ad := ⟨b_3, 0, none⟩) (by kernel_rfl) (by kernel_rfl) (own_cells (p_26.ownCell 2 rfl) 0 rfl)) (fun a_78 f_122 => ?_)
                      refine W_alloc f_122 p_26 1 [0, 6, 8, 9, 92, 93, 94] (.cells #[.int .i8 x_3.1.fKind, S x_3.1.fText, .int .i64 x_3.1.fNum, S x_3.1.fName, S x_3.1.fAttr, .slice A_10 x_3.1.fL.length cap_10] 29 (0, 0)) (fun b_5 => [(0, S d0), (6, .slice A_13 y_2.2.length cap_13), (8, .int .i64 x_2), (9, .pointer (some (⟨b_3, 0, none⟩))), (92, .slice A_12 y_2.1.length cap_12), (93, .agg #[.int .i8 x_3.1.fKind, S x_3.1.fText, .int .i64 x_3.1.fNum, S x_3.1.fName, S x_3.1.fAttr, .slice A_10 x_3.1.fL.length cap_10]), (94, .slice (some ⟨b_5, 0, none⟩) 1 1)]) (fun _ => by kernel_rfl) (fun b_5 w_15 p_34 a_79 f_123 => ?_)
                      replace f_123 : Frm 108 [(0, S d0), (6, .slice A_13 y_2.2.length cap_13), (8, .int .i64 x_2), (9, .pointer (some (⟨b_3, 0, none⟩))), (92, .slice A_12 y_2.1.length cap_12), (93, .agg #[.int .i8 x_3.1.fKind, S x_3.1.fText, .int .i64 x_3.1.fNum, S x_3.1.fName, S x_3.1.fAttr, .slice A_10 x_3.1.fL.length cap_10]), (94, .slice (some ⟨b_5, 0, none⟩) 1 1)] a_79 := f_123
                      have p_35 : Hp w0 M_4 ((Ent.row 29 6 (.slice A_12 y_2.1.length cap_12) y_2.1.length cs_7) :: (Ent.obj b_5 (.cells #[.int .i8 x_3.1.fKind, S x_3.1.fText, .int .i64 x_3.1.fNum, S x_3.1.fName, S x_3.1.fAttr, .slice A_10 x_3.1.fL.length cap_10] 29 (0, 0))) :: (Ent.row 5 1 (.slice A_13 y_2.2.length cap_13) y_2.2.length cs_8) :: (Ent.obj b_3 (.cells #[.int .i8 x_3.1.fKind, S x_3.1.fText, .int .i64 x_3.1.fNum, S x_3.1.fName, S x_3.1.fAttr, .slice A_10 x_3.1.fL.length cap_10] 29 (0, 0))) :: H) w_15 := p_34.pull 1 rfl rfl
                      obtain ⟨g_16, hF_45⟩ := need_some hF_41
                      refine W_appendL (z := .agg #[.int .i8 0, S [], .int .i64 0, S [], S [], .slice none 0 0]) (f := emb_T_api_Expr) (xs := y_2.1) (ys := [(⟨x_3.1.fKind, x_3.1.fText, x_3.1.fNum, x_3.1.fName, x_3.1.fAttr, x_3.1.fL⟩ : T_api_Expr)]) (news := [.int .i8 x_3.1.fKind, S x_3.1.fText, .int .i64 x_3.1.fNum, S x_3.1.fName, S x_3.1.fAttr, .slice A_10 x_3.1.fL.length cap_10]) (ad := ⟨b_5, 0, none⟩) (m := 1) (c := 1) f_123 p_35 hr_12 (by exact ⟨_, _, rfl, T_api_Expr.shut (h_9.mono hM_4), rfl⟩) (by kernel_rfl) (by kernel_rfl) rfl rfl rfl (by kernel_rfl) (by kernel_rfl) (by kernel_rfl) (by kernel_rfl) rfl (own_cells (p_35.ownCell 1 rfl) 0 rfl) (by exact g_16) (by have hg_ := g_16; first | omega | (simp only [List.length_cons, List.length_nil] at *; omega)) (fun A_15 cap_15 cs_9 w_16 p_36 hr_15 a_80 f_124 => ?_)
                      have p_37 : Hp w0 M_4 ((Ent.obj b_5 (.cells #[.int .i8 x_3.1.fKind, S x_3.1.fText, .int .i64 x_3.1.fNum, S x_3.1.fName, S x_3.1.fAttr, .slice A_10 x_3.1.fL.length cap_10] 29 (0, 0))) :: (Ent.row 29 6 (.slice A_15 (y_2.1 ++ [(⟨x_3.1.fKind, x_3.1.fText, x_3.1.fNum, x_3.1.fName, x_3.1.fAttr, x_3.1.fL⟩ : T_api_Expr)]).length cap_15) (y_2.1 ++ [(⟨x_3.1.fKind, x_3.1.fText, x_3.1.fNum, x_3.1.fName, x_3.1.fAttr, x_3.1.fL⟩ : T_api_Expr)]).length cs_9) :: (Ent.row 5 1 (.slice A_13 y_2.2.length cap_13) y_2.2.length cs_8) :: (Ent.obj b_3 (.cells #[.int .i8 x_3.1.fKind, S x_3.1.fText, .int .i64 x_3.1.fNum, S x_3.1.fName, S x_3.1.fAttr, .slice A_10 x_3.1.fL.length cap_10] 29 (0, 0))) :: H) w_16 := p_36.pull 1 rfl rfl
                      have p_38 := p_37.drop
                      refine W_run (L' := [(0, S d0), (5, .slice A_15 (y_2.1 ++ [(⟨x_3.1.fKind, x_3.1.fText, x_3.1.fNum, x_3.1.fName, x_3.1.fAttr, x_3.1.fL⟩ : T_api_Expr)]).length cap_15), (6, .slice A_13 y_2.2.length cap_13), (8, .int .i64 x_2)]) (w' := w_16) f_124 1 [0, 5, 6, 8] (by kernel_rfl) (fun a_81 f_125 => ?_)
                      refine W_end rfl ?_
                      refine T_n ?_
                      refine R_reg ?_
                      refine W_run (L' := [(0, S d0), (5, .slice A_15 (y_2.1 ++ [(⟨x_3.1.fKind, x_3.1.fText, x_3.1.fNum, x_3.1.fName, x_3.1.fAttr, x_3.1.fL⟩ : T_api_Expr)]).length cap_15), (6, .slice A_13 y_2.2.length cap_13), (96, .int .i64 x_2)]) (w' := w_16) f_125 1 [0, 5, 6, 96] (by kernel_rfl) (fun a_82 f_126 => ?_)
                      obtain ⟨g_17, hF_46⟩ := need_some hF_45
                      refine W_run (L' := [(0, S d0), (5, .slice A_15 (y_2.1 ++ [(⟨x_3.1.fKind, x_3.1.fText, x_3.1.fNum, x_3.1.fName, x_3.1.fAttr, x_3.1.fL⟩ : T_api_Expr)]).length cap_15), (6, .slice A_13 y_2.2.length cap_13), (96, .int .i64 x_2), (97, .int .i64 (IntKind.wrap .i64 (x_2 + 1)))]) (w' := w_16) f_126 1 [0, 5, 6, 96, 97] (by kernel_rfl) (fun a_83 f_127 => ?_)
                      have f_128 := Frm.set f_127 97 (v := .int .i64 (IntKind.wrap .i64 (x_2 + 1))) (v' := .int .i64 (x_2 + 1)) (by kernel_rfl) (congrArg (Value.int .i64) (inR_wrap g_17))
                      have f_129 : Frm 108 [(0, S d0), (5, .slice A_15 (y_2.1 ++ [(⟨x_3.1.fKind, x_3.1.fText, x_3.1.fNum, x_3.1.fName, x_3.1.fAttr, x_3.1.fL⟩ : T_api_Expr)]).length cap_15), (6, .slice A_13 y_2.2.length cap_13), (96, .int .i64 x_2), (97, .int .i64 (x_2 + 1))] a_83 := f_128.keep (ks := [0, 5, 6, 96, 97]) (by kernel_rfl)
                      refine W_run (L' := [(0, S d0), (5, .slice A_15 (y_2.1 ++ [(⟨x_3.1.fKind, x_3.1.fText, x_3.1.fNum, x_3.1.fName, x_3.1.fAttr, x_3.1.fL⟩ : T_api_Expr)]).length cap_15), (6, .slice A_13 y_2.2.length cap_13), (7, .int .i64 (x_2 + 1))]) (w' := w_16) f_129 1 [0, 5, 6, 7] (by kernel_rfl) (fun a_84 f_130 => ?_)
                      refine W_end rfl ?_
                      refine B_n ?_
                      have p_43 : Hp w0 M_4 ((Ent.row 5 1 (.slice A_13 y_2.2.length cap_13) y_2.2.length cs_8) :: (Ent.row 29 6 (.slice A_15 (y_2.1 ++ [(⟨x_3.1.fKind, x_3.1.fText, x_3.1.fNum, x_3.1.fName, x_3.1.fAttr, x_3.1.fL⟩ : T_api_Expr)]).length cap_15) (y_2.1 ++ [(⟨x_3.1.fKind, x_3.1.fText, x_3.1.fNum, x_3.1.fName, x_3.1.fAttr, x_3.1.fL⟩ : T_api_Expr)]).length cs_9) :: (Ent.obj b_3 (.cells #[.int .i8 x_3.1.fKind, S x_3.1.fText, .int .i64 x_3.1.fNum, S x_3.1.fName, S x_3.1.fAttr, .slice A_10 x_3.1.fL.length cap_10] 29 (0, 0))) :: H) w_16 := p_38.pull 1 rfl rfl
                      have p_44 : Hp w0 M_4 ((Ent.row 29 6 (.slice A_15 (y_2.1 ++ [(⟨x_3.1.fKind, x_3.1.fText, x_3.1.fNum, x_3.1.fName, x_3.1.fAttr, x_3.1.fL⟩ : T_api_Expr)]).length cap_15) (y_2.1 ++ [(⟨x_3.1.fKind, x_3.1.fText, x_3.1.fNum, x_3.1.fName, x_3.1.fAttr, x_3.1.fL⟩ : T_api_Expr)]).length cs_9) :: (Ent.row 5 1 (.slice A_13 y_2.2.length cap_13) y_2.2.length cs_8) :: (Ent.obj b_3 (.cells #[.int .i8 x_3.1.fKind, S x_3.1.fText, .int .i64 x_3.1.fNum, S x_3.1.fName, S x_3.1.fAttr, .slice A_10 x_3.1.fL.length cap_10] 29 (0, 0))) :: H) w_16 := p_43.pull 1 rfl rfl
                      have p_45 : Hp w0 M_4 ((Ent.obj b_3 (.cells #[.int .i8 x_3.1.fKind, S x_3.1.fText, .int .i64 x_3.1.fNum, S x_3.1.fName, S x_3.1.fAttr, .slice A_10 x_3.1.fL.length cap_10] 29 (0, 0))) :: (Ent.row 29 6 (.slice A_15 (y_2.1 ++ [(⟨x_3.1.fKind, x_3.1.fText, x_3.1.fNum, x_3.1.fName, x_3.1.fAttr, x_3.1.fL⟩ : T_api_Expr)]).length cap_15) (y_2.1 ++ [(⟨x_3.1.fKind, x_3.1.fText, x_3.1.fNum, x_3.1.fName, x_3.1.fAttr, x_3.1.fL⟩ : T_api_Expr)]).length cs_9) :: (Ent.row 5 1 (.slice A_13 y_2.2.length cap_13) y_2.2.length cs_8) :: H) w_16 := p_44.pull 2 rfl rfl
                      refine T_n ?_
                      obtain rfl := Option.some.inj hF_46
                      exact ⟨⟨m_2, (y_2.1 ++ [(⟨x_3.1.fKind, x_3.1.fText, x_3.1.fNum, x_3.1.fName, x_3.1.fAttr, x_3.1.fL⟩ : T_api_Expr)], y_2.2, x_2 + 1), A_15, cap_15, cs_9, A_13, cap_13, cs_8⟩, Nat.lt_succ_self _, M_4, (((hM_1.trans hM_2).trans hM_3).trans hM_4), ⟨hn_1, hr_15, hr_13⟩, f_130.keep (ks := [0, 5, 6, 7]) (by kernel_rfl), (p_45.dropN 1)⟩
        · have k_20 : ¬ (s_1.2.2 < (d0.length : Int)) := iff_f decide_eq_true_iff h_3
          have hF_47 := cnd_f h_3 hs_1
          refine wp_exit ?_
          refine T_x ?_
          refine T_x ?_
          obtain rfl := Option.some.inj hF_47
          exact .inr ⟨rfl, (s_1.1, s_1.2.1), (Option.some.inj hn_1).symm, M_1, hM_1, A_5, cap_5, cs_1, A_6, cap_6, cs_2, hr_5, hr_6, f_20.keep (ks := [5, 6]) (by kernel_rfl), p_7⟩
      · rintro _ a_87 w_19 (⟨rfl, y_3, rfl, M_5, hM_5, f_131, p_39⟩ | ⟨rfl, y_4, rfl, M_6, hM_6, A_16, cap_16, cs_10, A_17, cap_17, cs_11, hr_16, hr_17, f_132, p_40⟩)
        · refine B_r ?_
          refine T_r ?_
          obtain ⟨A_18, cap_18, hv_6⟩ : ∃ A cap, Value.slice none 0 0 = .slice A ([] : List T_api_Expr).length cap := ⟨none, 0, rfl⟩
          have p_46 : Hp w0 M_5 ((Ent.row 29 6 (.slice A_18 ([] : List T_api_Expr).length cap_18) ([] : List T_api_Expr).length []) :: H) w_19 := by rw [← hv_6]; exact p_39.nilRow 29 6
          have f_133 := Frm.set f_131 2 (v := .slice none 0 0) (v' := .slice A_18 ([] : List T_api_Expr).length cap_18) (by kernel_rfl) (hv_6)
          have f_134 : Frm 108 [(2, .slice A_18 ([] : List T_api_Expr).length cap_18), (3, .int .i64 y_3), (4, .int .i64 130)] a_87 := f_133.keep (ks := [2, 3, 4]) (by kernel_rfl)
          have hr_18 : RepSeq M_5 (([] : List T_api_Expr).map emb_T_api_Expr) [] := rfl
          refine E_ret3 f_134 rfl (by kernel_rfl : Vc.look _ 2 = some (.slice A_18 ([] : List T_api_Expr).length cap_18)) (by kernel_rfl : Vc.look _ 3 = some (.int .i64 y_3)) (by kernel_rfl : Vc.look _ 4 = some (.int .i64 130)) ?_
          obtain rfl := Option.some.inj hF_6
          exact ⟨_, rfl, M_5, _, hM_5, p_46, ⟨A_18, cap_18, [], rfl, rfl, hr_18⟩⟩
        · refine B_x ?_
          refine T_n ?_
          refine R_seq ?_
          refine R_seq ?_
          refine R_reg ?_
          refine W_run (L' := [(5, .slice A_16 y_4.1.length cap_16), (6, .slice A_17 y_4.2.length cap_17), (100, .bool (decide ((0 : Int) < ((y_4.2.length : Nat) : Int))))]) (w' := w_19) f_132 3 [5, 6, 100] (by kernel_rfl) (fun a_88 f_135 => ?_)
          refine W_end rfl ?_
          refine T_n ?_
          refine R_cond f_135 (b := decide ((0 : Int) < ((y_4.2.length : Nat) : Int))) (by kernel_rfl) (by kernel_rfl) (fun h_12 => ?_) (fun h_12 => ?_)
          · have k_21 : (0 : Int) < ((y_4.2.length : Nat) : Int) := decide_eq_true_iff.1 h_12
            have hF_48 := cnd_t h_12 hF_6
            refine R_reg ?_
            refine W_run (L' := [(101, .slice A_16 y_4.1.length cap_16), (102, .slice A_17 y_4.2.length cap_17)]) (w' := w_19) f_135 2 [101, 102] (by kernel_rfl) (fun a_89 f_136 => ?_)
            have he_2 := RepSeq.bytes_eq hr_17
            refine W_eq (v := S y_4.2) f_136 (by kernel_rfl) (by kernel_rfl) rfl rfl (X_string_row rfl (l := y_4.2) (v := .slice A_17 y_4.2.length cap_17) (by kernel_rfl) (e := 5) (by kernel_rfl) (by kernel_rfl) (by kernel_rfl) (by have h0 := p_40.rowAt 1 rfl; rw [he_2] at h0; exact h0)) (fun a_90 f_137 => ?_)
            refine W_run (L' := [(101, .slice A_16 y_4.1.length cap_16), (104, .agg #[.int .i8 0, S y_4.2, .int .i64 0, S [], S [], .slice none 0 0])]) (w' := w_19) f_137 1 [101, 104] (by kernel_rfl) (fun a_91 f_138 => ?_)
            refine W_alloc f_138 p_40 1 [101, 104, 105] (.cells #[.int .i8 0, S y_4.2, .int .i64 0, S [], S [], .slice none 0 0] 29 (0, 0)) (fun b_6 => [(101, .slice A_16 y_4.1.length cap_16), (104, .agg #[.int .i8 0, S y_4.2, .int .i64 0, S [], S [], .slice none 0 0]), (105, .slice (some ⟨b_6, 0, none⟩) 1 1)]) (fun _ => by kernel_rfl) (fun b_6 w_20 p_47 a_92 f_139 => ?_)
            replace f_139 : Frm 108 [(101, .slice A_16 y_4.1.length cap_16), (104, .agg #[.int .i8 0, S y_4.2, .int .i64 0, S [], S [], .slice none 0 0]), (105, .slice (some ⟨b_6, 0, none⟩) 1 1)] a_92 := f_139
            have p_48 : Hp w0 M_6 ((Ent.row 29 6 (.slice A_16 y_4.1.length cap_16) y_4.1.length cs_10) :: (Ent.obj b_6 (.cells #[.int .i8 0, S y_4.2, .int .i64 0, S [], S [], .slice none 0 0] 29 (0, 0))) :: (Ent.row 5 1 (.slice A_17 y_4.2.length cap_17) y_4.2.length cs_11) :: H) w_20 := p_47.pull 1 rfl rfl
            obtain ⟨g_18, hF_49⟩ := need_some hF_48
            refine W_appendL (z := .agg #[.int .i8 0, S [], .int .i64 0, S [], S [], .slice none 0 0]) (f := emb_T_api_Expr) (xs := y_4.1) (ys := [(⟨(0 : Int), y_4.2, (0 : Int), ([] : List UInt8), ([] : List UInt8), ([] : List T_api_Expr)⟩ : T_api_Expr)]) (news := [.int .i8 0, S y_4.2, .int .i64 0, S [], S [], .slice none 0 0]) (ad := ⟨b_6, 0, none⟩) (m := 1) (c := 1) f_139 p_48 hr_16 (by exact ⟨_, _, rfl, T_api_Expr.shut Sli.nil, rfl⟩) (by kernel_rfl) (by kernel_rfl) rfl rfl rfl (by kernel_rfl) (by kernel_rfl) (by kernel_rfl) (by kernel_rfl) rfl (own_cells (p_48.ownCell 1 rfl) 0 rfl) (by exact g_18) (by have hg_ := g_18; first | omega | (simp only [List.length_cons, List.length_nil] at *; omega)) (fun A_19 cap_19 cs_12 w_21 p_49 hr_19 a_93 f_140 => ?_)
            have p_50 : Hp w0 M_6 ((Ent.obj b_6 (.cells #[.int .i8 0, S y_4.2, .int .i64 0, S [], S [], .slice none 0 0] 29 (0, 0))) :: (Ent.row 29 6 (.slice A_19 (y_4.1 ++ [(⟨(0 : Int), y_4.2, (0 : Int), ([] : List UInt8), ([] : List UInt8), ([] : List T_api_Expr)⟩ : T_api_Expr)]).length cap_19) (y_4.1 ++ [(⟨(0 : Int), y_4.2, (0 : Int), ([] : List UInt8), ([] : List UInt8), ([] : List T_api_Expr)⟩ : T_api_Expr)]).length cs_12) :: (Ent.row 5 1 (.slice A_17 y_4.2.length cap_17) y_4.2.length cs_11) :: H) w_21 := p_49.pull 1 rfl rfl
            have p_51 := p_50.drop
            refine W_run (L' := [(5, .slice A_19 (y_4.1 ++ [(⟨(0 : Int), y_4.2, (0 : Int), ([] : List UInt8), ([] : List UInt8), ([] : List T_api_Expr)⟩ : T_api_Expr)]).length cap_19)]) (w' := w_21) f_140 1 [5] (by kernel_rfl) (fun a_94 f_141 => ?_)
            refine W_end rfl ?_
            refine T_n ?_
            refine R_seq ?_
            refine R_reg ?_
            refine W_run (L' := [(2, .slice A_19 (y_4.1 ++ [(⟨(0 : Int), y_4.2, (0 : Int), ([] : List UInt8), ([] : List UInt8), ([] : List T_api_Expr)⟩ : T_api_Expr)]).length cap_19), (3, .int .i64 0), (4, .int .i64 0)]) (w' := w_21) f_141 4 [2, 3, 4] (by kernel_rfl) (fun a_95 f_142 => ?_)
            refine W_end rfl ?_
            refine T_n ?_
            refine wp_ret ?_
            refine E_ret3 f_142 rfl (by kernel_rfl : Vc.look _ 2 = some (.slice A_19 (y_4.1 ++ [(⟨(0 : Int), y_4.2, (0 : Int), ([] : List UInt8), ([] : List UInt8), ([] : List T_api_Expr)⟩ : T_api_Expr)]).length cap_19)) (by kernel_rfl : Vc.look _ 3 = some (.int .i64 0)) (by kernel_rfl : Vc.look _ 4 = some (.int .i64 0)) ?_
            obtain rfl := Option.some.inj hF_49
            have p_52 : Hp w0 M_6 ((Ent.row 5 1 (.slice A_17 y_4.2.length cap_17) y_4.2.length cs_11) :: (Ent.row 29 6 (.slice A_19 (y_4.1 ++ [(⟨(0 : Int), y_4.2, (0 : Int), ([] : List UInt8), ([] : List UInt8), ([] : List T_api_Expr)⟩ : T_api_Expr)]).length cap_19) (y_4.1 ++ [(⟨(0 : Int), y_4.2, (0 : Int), ([] : List UInt8), ([] : List UInt8), ([] : List T_api_Expr)⟩ : T_api_Expr)]).length cs_12) :: H) w_21 := p_51.pull 1 rfl rfl
            exact ⟨_, rfl, M_6, _, hM_6, (p_52.dropN 1), ⟨A_19, cap_19, cs_12, rfl, rfl, hr_19⟩⟩
          · have k_22 : ¬ ((0 : Int) < ((y_4.2.length : Nat) : Int)) := iff_f decide_eq_true_iff h_12
            have hF_50 := cnd_f h_12 hF_6
            refine wp_skip ?_
            refine T_n ?_
            refine R_seq ?_
            refine R_reg ?_
            refine W_run (L' := [(2, .slice A_16 y_4.1.length cap_16), (3, .int .i64 0), (4, .int .i64 0)]) (w' := w_19) f_135 4 [2, 3, 4] (by kernel_rfl) (fun a_96 f_143 => ?_)
            refine W_end rfl ?_
            refine T_n ?_
            refine wp_ret ?_
            refine E_ret3 f_143 rfl (by kernel_rfl : Vc.look _ 2 = some (.slice A_16 y_4.1.length cap_16)) (by kernel_rfl : Vc.look _ 3 = some (.int .i64 0)) (by kernel_rfl : Vc.look _ 4 = some (.int .i64 0)) ?_
            obtain rfl := Option.some.inj hF_50
            have p_53 : Hp w0 M_6 ((Ent.row 5 1 (.slice A_17 y_4.2.length cap_17) y_4.2.length cs_11) :: (Ent.row 29 6 (.slice A_16 y_4.1.length cap_16) y_4.1.length cs_10) :: H) w_19 := p_40.pull 1 rfl rfl
            exact ⟨_, rfl, M_6, _, hM_6, (p_53.dropN 1), ⟨A_16, cap_16, cs_10, rfl, rfl, hr_16⟩⟩

def ref12_Holes_s1 (n : Nat) (x_1 : List T_api_Expr × Int × Int) (s_1 : Int × Int) : Option (Lp (Int × Int) Int) :=
    bif (decide (s_1.2 < ((x_1.1.length : Nat) : Int))) then
      ((getI x_1.1 s_1.2).bind fun x_2 =>
      bif (!(decide (x_2.fKind = 0))) then
        (need (inR .i64 (s_1.1 + 1)) <|
        need (inR .i64 (s_1.2 + 1)) <|
        some (.nx (s_1.1 + 1, s_1.2 + 1)))
      else
        need (inR .i64 (s_1.2 + 1)) <|
        some (.nx (s_1.1, s_1.2 + 1)))
    else
      some (.br s_1.1)
def ref12_Holes (n : Nat) (d0 : List UInt8) : Option Int :=
  (ref12_Lex n d0).bind fun x_1 =>
  (loopF (ref12_Holes_s1 n x_1) n ((0 : Int), (0 : Int))).bind fun y_1 =>
  some (y_1)
theorem ref12_Holes_ok (n : Nat) (M : Mem) (d0 : List UInt8) (r : Int) (hF : ref12_Holes n d0 = some r) : Ok Tryd.prog M 13 [S d0] (fun _ v => v = .int .i64 r) := by
  unfold ref12_Holes at hF
  intro M1 hM0 w0 H w p0
  refine R_enter 29 Tryd.func13 rfl rfl (by simp) (fun a0 f0 => ?_)
  replace f0 : Frm 29 [(0, S d0)] a0 := f0
  refine R_seq ?_
  refine R_reg ?_
  refine W_run (L' := [(0, S d0)]) (w' := w) f0 1 [0] (by kernel_rfl) (fun a_1 f_1 => ?_)
  refine W_end rfl ?_
  refine T_n ?_
  refine R_seq ?_
  refine R_reg ?_
  refine W_run (L' := [(9, S d0)]) (w' := w) f_1 1 [9] (by kernel_rfl) (fun a_2 f_2 => ?_)
  obtain ⟨x_1, hx_1, hF_1⟩ := bind_some' hF
  refine W_okH (E := []) (H := (H)) f_2 p0 (by kernel_rfl) (by kernel_rfl) rfl rfl (fun _ => by kernel_rfl) (ref12_Lex_ok n _ d0 x_1 hx_1) (fun u_1 M_1 E_1 w_1 hM_1 p_1 q_1 a_3 f_3 => ?_)
  obtain ⟨A_1, cap_1, cs_1, rfl, rfl, hr_1⟩ := q_1
  replace p_1 : Hp w0 M_1 ((Ent.row 29 6 (.slice A_1 x_1.1.length cap_1) x_1.1.length cs_1) :: H) w_1 := p_1
  refine W_run (L' := [(3, .slice A_1 x_1.1.length cap_1)]) (w' := w_1) f_3 7 [3] (by kernel_rfl) (fun a_4 f_4 => ?_)
  refine W_end rfl ?_
  refine T_n ?_
  refine R_seq ?_
  refine R_reg ?_
  refine W_run (L' := [(3, .slice A_1 x_1.1.length cap_1), (6, .int .i64 0)]) (w' := w_1) f_4 1 [3, 6] (by kernel_rfl) (fun a_5 f_5 => ?_)
  refine W_end rfl ?_
  refine T_n ?_
  refine R_seq ?_
  refine R_seq ?_
  refine R_reg ?_
  refine W_run (L' := [(3, .slice A_1 x_1.1.length cap_1), (6, .int .i64 0), (7, .int .i64 0)]) (w' := w_1) f_5 1 [3, 6, 7] (by kernel_rfl) (fun a_6 f_6 => ?_)
  refine W_end rfl ?_
  refine T_n ?_
  refine wp_block ?_
  obtain ⟨b_1, hL_1, hF_2⟩ := bind_some' hF_1
  refine wp_mono (Q := fun e a w => (e = .exit 0 ∧ (∃ y_1 : Int, b_1 = y_1 ∧ ∃ M_3 : Mem, M_1.le M_3 ∧ Frm 29 [(6, .int .i64 y_1)] a ∧ Hp w0 M_3 ((Ent.row 29 6 (.slice A_1 x_1.1.length cap_1) x_1.1.length cs_1) :: H) w))) (R_loop (n := 29) (w0 := w0) (M := M_1) (fun (x : Nat × (Int × Int)) => match x with | (m_1, s_1) => [(3, .slice A_1 x_1.1.length cap_1), (6, .int .i64 s_1.1), (7, .int .i64 s_1.2)]) (fun (x : Nat × (Int × Int)) => match x with | (m_1, s_1) => ((Ent.row 29 6 (.slice A_1 x_1.1.length cap_1) x_1.1.length cs_1) :: H)) (fun (x : Nat × (Int × Int)) (MM : Mem) => match x with | (m_1, s_1) => loopF (ref12_Holes_s1 n x_1) m_1 s_1 = some b_1) (fun (x : Nat × (Int × Int)) => match x with | (m_1, s_1) => m_1) (n, ((0 : Int), (0 : Int))) (f_6.keep (ks := [3, 6, 7]) (by kernel_rfl)) p_1 hL_1 ?_) ?_
  · rintro ⟨m_1, s_1⟩ M_2 a_7 w_2 hM_2 I_1 f_7 p_2
    replace f_7 : Frm 29 [(3, .slice A_1 x_1.1.length cap_1), (6, .int .i64 s_1.1), (7, .int .i64 s_1.2)] a_7 := f_7
    replace p_2 : Hp w0 M_2 ((Ent.row 29 6 (.slice A_1 x_1.1.length cap_1) x_1.1.length cs_1) :: H) w_2 := p_2
    have I_1L := I_1
    obtain ⟨m_2, r_1, rfl, hs_1, hn_1⟩ := loop_step I_1L
    unfold ref12_Holes_s1 at hs_1
    refine R_seq ?_
    refine R_seq ?_
    refine R_reg ?_
    refine W_run (L' := [(3, .slice A_1 x_1.1.length cap_1), (6, .int .i64 s_1.1), (7, .int .i64 s_1.2), (17, .bool (decide (s_1.2 < ((x_1.1.length : Nat) : Int))))]) (w' := w_2) f_7 4 [3, 6, 7, 17] (by kernel_rfl) (fun a_8 f_8 => ?_)
    refine W_end rfl ?_
    refine T_n ?_
    refine R_cond f_8 (b := decide (s_1.2 < ((x_1.1.length : Nat) : Int))) (by kernel_rfl) (by kernel_rfl) (fun h_1 => ?_) (fun h_1 => ?_)
    · have k_1 : s_1.2 < ((x_1.1.length : Nat) : Int) := decide_eq_true_iff.1 h_1
      have hF_3 := cnd_t h_1 hs_1
      refine wp_skip ?_
      refine T_n ?_
      refine R_seq ?_
      refine wp_block ?_
      refine R_seq ?_
      refine R_reg ?_
      refine W_run (L' := [(3, .slice A_1 x_1.1.length cap_1), (6, .int .i64 s_1.1), (7, .int .i64 s_1.2), (20, .slice A_1 x_1.1.length cap_1), (21, .int .i64 s_1.2)]) (w' := w_2) f_8 2 [3, 6, 7, 20, 21] (by kernel_rfl) (fun a_9 f_9 => ?_)
      obtain ⟨x_2, hx_2, hF_4⟩ := bind_some' hF_3
      obtain ⟨b_2, cap_2, hv_1, hcap_1⟩ := p_2.rowAddr 0 rfl (getI_pos hx_2)
      have f_10 := Frm.set f_9 20 (v := .slice A_1 x_1.1.length cap_1) (v' := .slice (some ⟨b_2, 0, none⟩) x_1.1.length cap_2) (by kernel_rfl) (hv_1)
      have f_11 : Frm 29 [(3, .slice A_1 x_1.1.length cap_1), (6, .int .i64 s_1.1), (7, .int .i64 s_1.2), (20, .slice (some ⟨b_2, 0, none⟩) x_1.1.length cap_2), (21, .int .i64 s_1.2)] a_9 := f_10.keep (ks := [3, 6, 7, 20, 21]) (by kernel_rfl)
      refine W_eq (v := .pointer (some ((⟨b_2, 0, none⟩ : Addr).add (s_1.2.toNat * 6)))) f_11 (by kernel_rfl) (by kernel_rfl) rfl rfl (X_indexAddr rfl (ad := ⟨b_2, 0, none⟩) (len := x_1.1.length) (cap := cap_2) (k := .i64) (i := s_1.2) (by kernel_rfl) (by kernel_rfl) (e := 29) (by kernel_rfl) (sz := 6) (by kernel_rfl) (getI_nn hx_2) (getI_lt hx_2)) (fun a_10 f_12 => ?_)
      have f_13 := Frm.set f_12 20 (v := .slice (some ⟨b_2, 0, none⟩) x_1.1.length cap_2) (v' := .slice A_1 x_1.1.length cap_1) (by kernel_rfl) (hv_1.symm)
      have f_14 : Frm 29 [(3, .slice A_1 x_1.1.length cap_1), (6, .int .i64 s_1.1), (7, .int .i64 s_1.2), (20, .slice A_1 x_1.1.length cap_1), (21, .int .i64 s_1.2), (22, .pointer (some ((⟨b_2, 0, none⟩ : Addr).add (s_1.2.toNat * 6))))] a_10 := f_13.keep (ks := [3, 6, 7, 20, 21, 22]) (by kernel_rfl)
      refine W_run (L' := [(3, .slice A_1 x_1.1.length cap_1), (6, .int .i64 s_1.1), (7, .int .i64 s_1.2), (23, .pointer (some (((⟨b_2, 0, none⟩ : Addr).add (s_1.2.toNat * 6)).add 0)))]) (w' := w_2) f_14 1 [3, 6, 7, 23] (by kernel_rfl) (fun a_11 f_15 => ?_)
      obtain ⟨c_1, hl_1, hr_2, hc_1⟩ := RepSeq.get s_1.2.toNat (szd_all szd_T_api_Expr) (RepSeq.mono hM_2 _ _ hr_1) (getI_map hx_2)
      clear hl_1
      obtain ⟨A_2, cap_3, rfl, h_2⟩ := T_api_Expr.opn hr_2
      refine W_eq (v := .int .i8 x_2.fKind) f_15 (by kernel_rfl) (by kernel_rfl) rfl rfl (X_load1 (v := .int .i8 x_2.fKind) rfl (ad := ((⟨b_2, 0, none⟩ : Addr).add (s_1.2.toNat * 6)).add 0) (by kernel_rfl) (by kernel_rfl) ((fun j v h => row_at (p_2.rowCell 0 rfl hv_1) hc_1 j v h) 0 _ rfl)) (fun a_12 f_16 => ?_)
      refine W_run (L' := [(3, .slice A_1 x_1.1.length cap_1), (6, .int .i64 s_1.1), (7, .int .i64 s_1.2), (25, .bool (!(decide (x_2.fKind = 0))))]) (w' := w_2) f_16 1 [3, 6, 7, 25] (by kernel_rfl) (fun a_13 f_17 => ?_)
      refine W_end rfl ?_
      refine T_n ?_
      refine R_cond f_17 (b := !(decide (x_2.fKind = 0))) (by kernel_rfl) (by kernel_rfl) (fun h_3 => ?_) (fun h_3 => ?_)
      · have k_2 : ¬ (x_2.fKind = 0) := (not_iff decide_eq_true_iff).1 h_3
        have hF_5 := cnd_t h_3 hF_4
        refine R_reg ?_
        refine W_run (L' := [(3, .slice A_1 x_1.1.length cap_1), (7, .int .i64 s_1.2), (26, .int .i64 s_1.1)]) (w' := w_2) f_17 1 [3, 7, 26] (by kernel_rfl) (fun a_14 f_18 => ?_)
        obtain ⟨g_1, hF_6⟩ := need_some hF_5
        refine W_run (L' := [(3, .slice A_1 x_1.1.length cap_1), (7, .int .i64 s_1.2), (26, .int .i64 s_1.1), (27, .int .i64 (IntKind.wrap .i64 (s_1.1 + 1)))]) (w' := w_2) f_18 1 [3, 7, 26, 27] (by kernel_rfl) (fun a_15 f_19 => ?_)
        have f_20 := Frm.set f_19 27 (v := .int .i64 (IntKind.wrap .i64 (s_1.1 + 1))) (v' := .int .i64 (s_1.1 + 1)) (by kernel_rfl) (congrArg (Value.int .i64) (inR_wrap g_1))
        have f_21 : Frm 29 [(3, .slice A_1 x_1.1.length cap_1), (7, .int .i64 s_1.2), (26, .int .i64 s_1.1), (27, .int .i64 (s_1.1 + 1))] a_15 := f_20.keep (ks := [3, 7, 26, 27]) (by kernel_rfl)
        refine W_run (L' := [(3, .slice A_1 x_1.1.length cap_1), (6, .int .i64 (s_1.1 + 1)), (7, .int .i64 s_1.2)]) (w' := w_2) f_21 1 [3, 6, 7] (by kernel_rfl) (fun a_16 f_22 => ?_)
        refine W_end rfl ?_
        refine B_n ?_
        refine T_n ?_
        refine R_reg ?_
        refine W_run (L' := [(3, .slice A_1 x_1.1.length cap_1), (6, .int .i64 (s_1.1 + 1)), (18, .int .i64 s_1.2)]) (w' := w_2) f_22 1 [3, 6, 18] (by kernel_rfl) (fun a_17 f_23 => ?_)
        obtain ⟨g_2, hF_7⟩ := need_some hF_6
        refine W_run (L' := [(3, .slice A_1 x_1.1.length cap_1), (6, .int .i64 (s_1.1 + 1)), (18, .int .i64 s_1.2), (19, .int .i64 (IntKind.wrap .i64 (s_1.2 + 1)))]) (w' := w_2) f_23 1 [3, 6, 18, 19] (by kernel_rfl) (fun a_18 f_24 => ?_)
        have f_25 := Frm.set f_24 19 (v := .int .i64 (IntKind.wrap .i64 (s_1.2 + 1))) (v' := .int .i64 (s_1.2 + 1)) (by kernel_rfl) (congrArg (Value.int .i64) (inR_wrap g_2))
        have f_26 : Frm 29 [(3, .slice A_1 x_1.1.length cap_1), (6, .int .i64 (s_1.1 + 1)), (18, .int .i64 s_1.2), (19, .int .i64 (s_1.2 + 1))] a_18 := f_25.keep (ks := [3, 6, 18, 19]) (by kernel_rfl)
        refine W_run (L' := [(3, .slice A_1 x_1.1.length cap_1), (6, .int .i64 (s_1.1 + 1)), (7, .int .i64 (s_1.2 + 1))]) (w' := w_2) f_26 1 [3, 6, 7] (by kernel_rfl) (fun a_19 f_27 => ?_)
        refine W_end rfl ?_
        refine T_n ?_
        obtain rfl := Option.some.inj hF_7
        exact ⟨⟨m_2, (s_1.1 + 1, s_1.2 + 1)⟩, Nat.lt_succ_self _, M_2, hM_2, hn_1, f_27.keep (ks := [3, 6, 7]) (by kernel_rfl), p_2⟩
      · have k_3 : ¬ (¬ (x_2.fKind = 0)) := iff_f (not_iff decide_eq_true_iff) h_3
        have hF_8 := cnd_f h_3 hF_4
        refine wp_skip ?_
        refine B_n ?_
        refine T_n ?_
        refine R_reg ?_
        refine W_run (L' := [(3, .slice A_1 x_1.1.length cap_1), (6, .int .i64 s_1.1), (18, .int .i64 s_1.2)]) (w' := w_2) f_17 1 [3, 6, 18] (by kernel_rfl) (fun a_20 f_28 => ?_)
        obtain ⟨g_3, hF_9⟩ := need_some hF_8
        refine W_run (L' := [(3, .slice A_1 x_1.1.length cap_1), (6, .int .i64 s_1.1), (18, .int .i64 s_1.2), (19, .int .i64 (IntKind.wrap .i64 (s_1.2 + 1)))]) (w' := w_2) f_28 1 [3, 6, 18, 19] (by kernel_rfl) (fun a_21 f_29 => ?_)
        have f_30 := Frm.set f_29 19 (v := .int .i64 (IntKind.wrap .i64 (s_1.2 + 1))) (v' := .int .i64 (s_1.2 + 1)) (by kernel_rfl) (congrArg (Value.int .i64) (inR_wrap g_3))
        have f_31 : Frm 29 [(3, .slice A_1 x_1.1.length cap_1), (6, .int .i64 s_1.1), (18, .int .i64 s_1.2), (19, .int .i64 (s_1.2 + 1))] a_21 := f_30.keep (ks := [3, 6, 18, 19]) (by kernel_rfl)
        refine W_run (L' := [(3, .slice A_1 x_1.1.length cap_1), (6, .int .i64 s_1.1), (7, .int .i64 (s_1.2 + 1))]) (w' := w_2) f_31 1 [3, 6, 7] (by kernel_rfl) (fun a_22 f_32 => ?_)
        refine W_end rfl ?_
        refine T_n ?_
        obtain rfl := Option.some.inj hF_9
        exact ⟨⟨m_2, (s_1.1, s_1.2 + 1)⟩, Nat.lt_succ_self _, M_2, hM_2, hn_1, f_32.keep (ks := [3, 6, 7]) (by kernel_rfl), p_2⟩
    · have k_4 : ¬ (s_1.2 < ((x_1.1.length : Nat) : Int)) := iff_f decide_eq_true_iff h_1
      have hF_10 := cnd_f h_1 hs_1
      refine wp_exit ?_
      refine T_x ?_
      refine T_x ?_
      obtain rfl := Option.some.inj hF_10
      exact ⟨rfl, s_1.1, (Option.some.inj hn_1).symm, M_2, hM_2, f_8.keep (ks := [6]) (by kernel_rfl), p_2⟩
  · rintro _ a_24 w_4 ⟨rfl, y_1, hq_, M_3, hM_3, f_33, p_3⟩
    subst b_1
    refine B_x ?_
    refine T_n ?_
    refine R_seq ?_
    refine R_reg ?_
    refine W_run (L' := [(2, .int .i64 y_1)]) (w' := w_4) f_33 2 [2] (by kernel_rfl) (fun a_25 f_34 => ?_)
    refine W_end rfl ?_
    refine T_n ?_
    refine wp_ret ?_
    refine E_ret1 f_34 rfl (by kernel_rfl : Vc.look _ 2 = some (.int .i64 y_1)) ?_
    obtain rfl := Option.some.inj hF_2
    exact ⟨_, rfl, M_3, (hM_1.trans hM_3), (p_3.dropN 1), rfl⟩
end Go.Proofs.YtdmjgmleilgbpaaDoor
