/-
  Printed by a program: of each function its shallow reading, and the proof that the function gives what the reading gives. No condition.
-/
import Derived.Test.YtdmjgmleilgbpaaDoorQ1
import Derived.Test.YtdmjgmleilgbpaaDoorQ3
import Derived.Test.YtdmjgmleilgbpaaDoorTy
import Derived.Test.YtdmjgmleilgbpaaDoorHd
set_option linter.unusedVariables false
set_option linter.unusedSimpArgs false
namespace Go.Proofs.YtdmjgmleilgbpaaDoor
open Go Go.Vc Go.RowKit
def runes_Valid (n : Nat) (d0 : List UInt8) : Option Bool :=
  (h_ValidString n d0).bind fun x_1 =>
  some ((x_1))
theorem runes_Valid_ok (n : Nat) (M : Mem) (hG : GL M) (d0 : List UInt8) (r : Bool) (hF : runes_Valid n d0 = some r) : Ok Tryd.prog M 19 [S d0] (fun _ v => v = .bool r) := by
  unfold runes_Valid at hF
  intro M1 hM0 w0 H w p0
  replace hG := GL.mono hM0 hG
  refine R_enter 5 Tryd.func19 rfl rfl (by simp) (fun a0 f0 => ?_)
  replace f0 : Frm 5 [(0, S d0)] a0 := f0
  refine R_seq ?_
  refine R_reg ?_
  refine W_run (L' := [(0, S d0)]) (w' := w) f0 1 [0] (by kernel_rfl) (fun a_1 f_1 => ?_)
  refine W_end rfl ?_
  refine T_n ?_
  refine R_seq ?_
  refine R_reg ?_
  refine W_run (L' := [(3, S d0)]) (w' := w) f_1 1 [3] (by kernel_rfl) (fun a_2 f_2 => ?_)
  obtain ⟨x_1, hx_1, hF_1⟩ := bind_some' hF
  refine W_okv (v := .bool x_1) f_2 p0 (by kernel_rfl) (by kernel_rfl) rfl rfl (fun _ => by kernel_rfl) (h_ValidString_ok n _ hG d0 x_1 hx_1) (fun w_1 p_1 a_3 f_3 => ?_)
  refine W_run (L' := [(2, .bool x_1)]) (w' := w_1) f_3 1 [2] (by kernel_rfl) (fun a_4 f_4 => ?_)
  refine W_end rfl ?_
  refine T_n ?_
  refine wp_ret ?_
  refine E_ret1 f_4 rfl (by kernel_rfl : Vc.look _ 2 = some (.bool x_1)) ?_
  obtain rfl := Option.some.inj hF_1
  exact ⟨_, rfl, M1, (Mem.le_refl _), p_1, rfl⟩

def sub_Attr (n : Nat) (d0 : List UInt8) : Option Bool :=
  (h_CutPrefix n d0 [79, 117, 116, 112, 117, 116, 115, 46]).bind fun x_1 =>
  bif x_1.2 then
    ((runes_Name n x_1.1).bind fun x_2 =>
    some ((x_2)))
  else
    (runes_Name n d0).bind fun x_3 =>
    some ((x_3))
theorem sub_Attr_ok (n : Nat) (M : Mem) (hG : GL M) (d0 : List UInt8) (r : Bool) (hF : sub_Attr n d0 = some r) : Ok Tryd.prog M 14 [S d0] (fun _ v => v = .bool r) := by
  unfold sub_Attr at hF
  intro M1 hM0 w0 H w p0
  replace hG := GL.mono hM0 hG
  refine R_enter 15 Tryd.func14 rfl rfl (by simp) (fun a0 f0 => ?_)
  replace f0 : Frm 15 [(0, S d0)] a0 := f0
  refine R_seq ?_
  refine R_reg ?_
  refine W_run (L' := [(0, S d0)]) (w' := w) f0 1 [0] (by kernel_rfl) (fun a_1 f_1 => ?_)
  refine W_end rfl ?_
  refine T_n ?_
  refine R_seq ?_
  refine R_seq ?_
  refine R_reg ?_
  refine W_run (L' := [(0, S d0), (6, S d0)]) (w' := w) f_1 1 [0, 6] (by kernel_rfl) (fun a_2 f_2 => ?_)
  obtain ⟨x_1, hx_1, hF_1⟩ := bind_some' hF
  refine W_okv (v := .tuple #[S x_1.1, .bool x_1.2]) f_2 p0 (by kernel_rfl) (by kernel_rfl) rfl rfl (fun _ => by kernel_rfl) (h_CutPrefix_ok n _ hG d0 [79, 117, 116, 112, 117, 116, 115, 46] x_1 hx_1) (fun w_1 p_1 a_3 f_3 => ?_)
  refine W_run (L' := [(0, S d0), (3, S x_1.1), (4, .bool x_1.2)]) (w' := w_1) f_3 5 [0, 3, 4] (by kernel_rfl) (fun a_4 f_4 => ?_)
  refine W_end rfl ?_
  refine T_n ?_
  refine R_seq ?_
  refine R_reg ?_
  refine W_run (L' := [(0, S d0), (3, S x_1.1), (10, .bool x_1.2)]) (w' := w_1) f_4 1 [0, 3, 10] (by kernel_rfl) (fun a_5 f_5 => ?_)
  refine W_end rfl ?_
  refine T_n ?_
  refine R_cond f_5 (b := x_1.2) (by kernel_rfl) (by kernel_rfl) (fun h_1 => ?_) (fun h_1 => ?_)
  · have hF_2 := cnd_t h_1 hF_1
    refine R_seq ?_
    refine R_reg ?_
    refine W_run (L' := [(11, S x_1.1)]) (w' := w_1) f_5 1 [11] (by kernel_rfl) (fun a_6 f_6 => ?_)
    obtain ⟨x_2, hx_2, hF_3⟩ := bind_some' hF_2
    refine W_okv (v := .bool x_2) f_6 p_1 (by kernel_rfl) (by kernel_rfl) rfl rfl (fun _ => by kernel_rfl) (runes_Name_ok n _ x_1.1 x_2 hx_2) (fun w_2 p_2 a_7 f_7 => ?_)
    refine W_run (L' := [(2, .bool x_2)]) (w' := w_2) f_7 1 [2] (by kernel_rfl) (fun a_8 f_8 => ?_)
    refine W_end rfl ?_
    refine T_n ?_
    refine wp_ret ?_
    refine T_r ?_
    refine E_ret1 f_8 rfl (by kernel_rfl : Vc.look _ 2 = some (.bool x_2)) ?_
    obtain rfl := Option.some.inj hF_3
    exact ⟨_, rfl, M1, (Mem.le_refl _), p_2, rfl⟩
  · have hF_4 := cnd_f h_1 hF_1
    refine wp_skip ?_
    refine T_n ?_
    refine R_seq ?_
    refine R_reg ?_
    refine W_run (L' := [(13, S d0)]) (w' := w_1) f_5 1 [13] (by kernel_rfl) (fun a_9 f_9 => ?_)
    obtain ⟨x_3, hx_3, hF_5⟩ := bind_some' hF_4
    refine W_okv (v := .bool x_3) f_9 p_1 (by kernel_rfl) (by kernel_rfl) rfl rfl (fun _ => by kernel_rfl) (runes_Name_ok n _ d0 x_3 hx_3) (fun w_3 p_3 a_10 f_10 => ?_)
    refine W_run (L' := [(2, .bool x_3)]) (w' := w_3) f_10 1 [2] (by kernel_rfl) (fun a_11 f_11 => ?_)
    refine W_end rfl ?_
    refine T_n ?_
    refine wp_ret ?_
    refine E_ret1 f_11 rfl (by kernel_rfl : Vc.look _ 2 = some (.bool x_3)) ?_
    obtain rfl := Option.some.inj hF_5
    exact ⟨_, rfl, M1, (Mem.le_refl _), p_3, rfl⟩

def sub_hole (n : Nat) (d0 : List UInt8) : Option (T_api_Expr × Bool) :=
  (h_Cut n d0 [46]).bind fun x_1 =>
  bif x_1.2.2 then
    ((((runes_Name n x_1.1).bind fun x_2 =>
      bif x_2 then
        ((sub_Attr n x_1.2.1).bind fun x_3 =>
        some ((x_3)))
      else
        some ((false)) : Option Bool)).bind fun y_1 =>
    some (((⟨(4 : Int), ([] : List UInt8), (0 : Int), x_1.1, x_1.2.1, ([] : List T_api_Expr)⟩ : T_api_Expr), (y_1))))
  else
    (runes_Name n x_1.1).bind fun x_4 =>
    some (((⟨(3 : Int), ([] : List UInt8), (0 : Int), x_1.1, ([] : List UInt8), ([] : List T_api_Expr)⟩ : T_api_Expr), (x_4)))
theorem sub_hole_ok (n : Nat) (M : Mem) (hG : GL M) (d0 : List UInt8) (r : T_api_Expr × Bool) (hF : sub_hole n d0 = some r) : Ok Tryd.prog M 26 [S d0] (fun M' v => ∃ (c0 : List Value), v = .tuple #[.agg c0.toArray, .bool r.2] ∧ Rep M' (emb_T_api_Expr r.1) c0) := by
  unfold sub_hole at hF
  intro M1 hM0 w0 H w p0
  replace hG := GL.mono hM0 hG
  refine R_enter 27 Tryd.func26 rfl rfl (by simp) (fun a0 f0 => ?_)
  replace f0 : Frm 27 [(0, S d0)] a0 := f0
  refine R_seq ?_
  refine R_reg ?_
  refine W_alloc f0 p0 1 [0, 2] (.cells #[.int .i8 0, S [], .int .i64 0, S [], S [], .slice none 0 0] 29 (0, 0)) (fun b_1 => [(0, S d0), (2, .pointer (some (⟨b_1, 0, none⟩)))]) (fun _ => by kernel_rfl) (fun b_1 w_1 p_1 a_1 f_1 => ?_)
  replace f_1 : Frm 27 [(0, S d0), (2, .pointer (some (⟨b_1, 0, none⟩)))] a_1 := f_1
  refine W_run (L' := [(0, S d0), (2, .pointer (some (⟨b_1, 0, none⟩)))]) (w' := w_1) f_1 1 [0, 2] (by kernel_rfl) (fun a_2 f_2 => ?_)
  refine W_end rfl ?_
  refine T_n ?_
  refine R_seq ?_
  refine R_reg ?_
  refine W_run (L' := [(2, .pointer (some (⟨b_1, 0, none⟩))), (8, S d0)]) (w' := w_1) f_2 1 [2, 8] (by kernel_rfl) (fun a_3 f_3 => ?_)
  obtain ⟨x_1, hx_1, hF_1⟩ := bind_some' hF
  refine W_okv (v := .tuple #[S x_1.1, S x_1.2.1, .bool x_1.2.2]) f_3 p_1 (by kernel_rfl) (by kernel_rfl) rfl rfl (fun _ => by kernel_rfl) (h_Cut_ok n _ hG d0 [46] x_1 hx_1) (fun w_2 p_2 a_4 f_4 => ?_)
  refine W_run (L' := [(2, .pointer (some (⟨b_1, 0, none⟩))), (4, S x_1.1), (5, S x_1.2.1), (6, .bool x_1.2.2)]) (w' := w_2) f_4 7 [2, 4, 5, 6] (by kernel_rfl) (fun a_5 f_5 => ?_)
  refine W_end rfl ?_
  refine T_n ?_
  refine R_seq ?_
  refine R_seq ?_
  refine R_reg ?_
  refine W_run (L' := [(2, .pointer (some (⟨b_1, 0, none⟩))), (4, S x_1.1), (5, S x_1.2.1), (13, .bool x_1.2.2)]) (w' := w_2) f_5 1 [2, 4, 5, 13] (by kernel_rfl) (fun a_6 f_6 => ?_)
  refine W_end rfl ?_
  refine T_n ?_
  refine R_cond f_6 (b := x_1.2.2) (by kernel_rfl) (by kernel_rfl) (fun h_1 => ?_) (fun h_1 => ?_)
  · have hF_2 := cnd_t h_1 hF_1
    refine R_seq ?_
    obtain ⟨j_1, hj_1, hF_3⟩ := bind_some' hF_2
    refine R_mid (fun a_18 w_7 => ∃ y_1 : Bool, j_1 = y_1 ∧ ∃ M_1 : Mem, M1.le M_1 ∧ Frm 27 [(2, .pointer (some (⟨b_1, 0, none⟩))), (3, .bool y_1)] a_18 ∧ Hp w0 M_1 ((Ent.obj b_1 (.cells #[.int .i8 4, S [], .int .i64 0, S x_1.1, S x_1.2.1, .slice none 0 0] 29 (0, 0))) :: H) w_7) ?_ ?_
    · refine R_reg ?_
      refine W_run (L' := [(2, .pointer (some (⟨b_1, 0, none⟩))), (5, S x_1.2.1), (16, .agg #[.int .i8 4, S [], .int .i64 0, S x_1.1, S x_1.2.1, .slice none 0 0]), (17, S x_1.1)]) (w' := w_2) f_6 4 [2, 5, 16, 17] (by kernel_rfl) (fun a_7 f_7 => ?_)
      obtain ⟨x_2, hx_2, hF_4⟩ := bind_some' hj_1
      refine W_okv (v := .bool x_2) f_7 p_2 (by kernel_rfl) (by kernel_rfl) rfl rfl (fun _ => by kernel_rfl) (runes_Name_ok n _ x_1.1 x_2 hx_2) (fun w_3 p_3 a_8 f_8 => ?_)
      refine W_run (L' := [(2, .pointer (some (⟨b_1, 0, none⟩))), (5, S x_1.2.1), (16, .agg #[.int .i8 4, S [], .int .i64 0, S x_1.1, S x_1.2.1, .slice none 0 0]), (19, .bool x_2)]) (w' := w_3) f_8 1 [2, 5, 16, 19] (by kernel_rfl) (fun a_9 f_9 => ?_)
      rcases Bool.eq_false_or_eq_true (x_2) with h_2 | h_2
      · have hF_5 := cnd_t h_2 hF_4
        have f_10 := Frm.set f_9 19 (v := .bool x_2) (v' := .bool true) (by kernel_rfl) (congrArg Value.bool h_2)
        have f_11 : Frm 27 [(2, .pointer (some (⟨b_1, 0, none⟩))), (5, S x_1.2.1), (16, .agg #[.int .i8 4, S [], .int .i64 0, S x_1.1, S x_1.2.1, .slice none 0 0]), (19, .bool true)] a_9 := f_10.keep (ks := [2, 5, 16, 19]) (by kernel_rfl)
        refine W_run (L' := [(2, .pointer (some (⟨b_1, 0, none⟩))), (16, .agg #[.int .i8 4, S [], .int .i64 0, S x_1.1, S x_1.2.1, .slice none 0 0]), (19, .bool true), (20, S x_1.2.1)]) (w' := w_3) f_11 1 [2, 16, 19, 20] (by kernel_rfl) (fun a_10 f_12 => ?_)
        obtain ⟨x_3, hx_3, hF_6⟩ := bind_some' hF_5
        refine W_okv (v := .bool x_3) f_12 p_3 (by kernel_rfl) (by kernel_rfl) rfl rfl (fun _ => by kernel_rfl) (sub_Attr_ok n _ hG x_1.2.1 x_3 hx_3) (fun w_4 p_4 a_11 f_13 => ?_)
        refine W_run (L' := [(2, .pointer (some (⟨b_1, 0, none⟩))), (16, .agg #[.int .i8 4, S [], .int .i64 0, S x_1.1, S x_1.2.1, .slice none 0 0]), (22, .bool x_3)]) (w' := w_4) f_13 1 [2, 16, 22] (by kernel_rfl) (fun a_12 f_14 => ?_)
        refine W_storeN (vs := [.int .i8 4, S [], .int .i64 0, S x_1.1, S x_1.2.1, .slice none 0 0]) (j := 0) f_14 p_4 (by kernel_rfl) (by kernel_rfl) rfl rfl (by kernel_rfl) (by kernel_rfl) (by simp [Value.oneCell', S]) (by kernel_rfl) (by simp) (by decide) (cs' := #[.int .i8 4, S [], .int .i64 0, S x_1.1, S x_1.2.1, .slice none 0 0]) rfl (fun w_5 p_5 a_13 f_15 => ?_)
        refine W_run (L' := [(2, .pointer (some (⟨b_1, 0, none⟩))), (3, .bool x_3)]) (w' := w_5) f_15 1 [2, 3] (by kernel_rfl) (fun a_14 f_16 => ?_)
        refine W_end rfl ?_
        refine T_n ?_
        exact ⟨(x_3), (Option.some.inj hF_6).symm, M1, (Mem.le_refl _), f_16.keep (ks := [2, 3]) (by kernel_rfl), p_5⟩
      · have hF_7 := cnd_f h_2 hF_4
        have f_17 := Frm.set f_9 19 (v := .bool x_2) (v' := .bool false) (by kernel_rfl) (congrArg Value.bool h_2)
        have f_18 : Frm 27 [(2, .pointer (some (⟨b_1, 0, none⟩))), (5, S x_1.2.1), (16, .agg #[.int .i8 4, S [], .int .i64 0, S x_1.1, S x_1.2.1, .slice none 0 0]), (19, .bool false)] a_9 := f_17.keep (ks := [2, 5, 16, 19]) (by kernel_rfl)
        refine W_run (L' := [(2, .pointer (some (⟨b_1, 0, none⟩))), (16, .agg #[.int .i8 4, S [], .int .i64 0, S x_1.1, S x_1.2.1, .slice none 0 0]), (22, .bool false)]) (w' := w_3) f_18 3 [2, 16, 22] (by kernel_rfl) (fun a_15 f_19 => ?_)
        refine W_storeN (vs := [.int .i8 4, S [], .int .i64 0, S x_1.1, S x_1.2.1, .slice none 0 0]) (j := 0) f_19 p_3 (by kernel_rfl) (by kernel_rfl) rfl rfl (by kernel_rfl) (by kernel_rfl) (by simp [Value.oneCell', S]) (by kernel_rfl) (by simp) (by decide) (cs' := #[.int .i8 4, S [], .int .i64 0, S x_1.1, S x_1.2.1, .slice none 0 0]) rfl (fun w_6 p_6 a_16 f_20 => ?_)
        refine W_run (L' := [(2, .pointer (some (⟨b_1, 0, none⟩))), (3, .bool false)]) (w' := w_6) f_20 1 [2, 3] (by kernel_rfl) (fun a_17 f_21 => ?_)
        refine W_end rfl ?_
        refine T_n ?_
        exact ⟨(false), (Option.some.inj hF_7).symm, M1, (Mem.le_refl _), f_21.keep (ks := [2, 3]) (by kernel_rfl), p_6⟩
    · rintro a_18 w_7 ⟨y_1, hq_1, M_1, hM_1, f_22, p_7⟩
      subst j_1
      refine T_n ?_
      refine wp_ret ?_
      refine T_r ?_
      refine E_rv2 f_22 rfl (Rv.cellN (cs := [.int .i8 4, S [], .int .i64 0, S x_1.1, S x_1.2.1, .slice none 0 0]) (ad := ⟨b_1, 0, none⟩) f_22 (by kernel_rfl) (by kernel_rfl) (own_cells (p_7.ownCell 0 rfl) 0 rfl)) (Rv.slot (v := .bool y_1) f_22 (by kernel_rfl)) ?_
      obtain rfl := Option.some.inj hF_3
      exact ⟨_, rfl, M_1, hM_1, (p_7.dropN 1), ⟨[.int .i8 4, S [], .int .i64 0, S x_1.1, S x_1.2.1, .slice none 0 0], rfl, (T_api_Expr.shut Sli.nil)⟩⟩
  · have hF_8 := cnd_f h_1 hF_1
    refine wp_skip ?_
    refine T_n ?_
    refine R_seq ?_
    refine R_reg ?_
    refine W_run (L' := [(2, .pointer (some (⟨b_1, 0, none⟩))), (24, .agg #[.int .i8 3, S [], .int .i64 0, S x_1.1, S [], .slice none 0 0]), (25, S x_1.1)]) (w' := w_2) f_6 3 [2, 24, 25] (by kernel_rfl) (fun a_19 f_23 => ?_)
    obtain ⟨x_4, hx_4, hF_9⟩ := bind_some' hF_8
    refine W_okv (v := .bool x_4) f_23 p_2 (by kernel_rfl) (by kernel_rfl) rfl rfl (fun _ => by kernel_rfl) (runes_Name_ok n _ x_1.1 x_4 hx_4) (fun w_8 p_8 a_20 f_24 => ?_)
    refine W_storeN (vs := [.int .i8 3, S [], .int .i64 0, S x_1.1, S [], .slice none 0 0]) (j := 0) f_24 p_8 (by kernel_rfl) (by kernel_rfl) rfl rfl (by kernel_rfl) (by kernel_rfl) (by simp [Value.oneCell', S]) (by kernel_rfl) (by simp) (by decide) (cs' := #[.int .i8 3, S [], .int .i64 0, S x_1.1, S [], .slice none 0 0]) rfl (fun w_9 p_9 a_21 f_25 => ?_)
    refine W_run (L' := [(2, .pointer (some (⟨b_1, 0, none⟩))), (3, .bool x_4)]) (w' := w_9) f_25 1 [2, 3] (by kernel_rfl) (fun a_22 f_26 => ?_)
    refine W_end rfl ?_
    refine T_n ?_
    refine wp_ret ?_
    refine E_rv2 f_26 rfl (Rv.cellN (cs := [.int .i8 3, S [], .int .i64 0, S x_1.1, S [], .slice none 0 0]) (ad := ⟨b_1, 0, none⟩) f_26 (by kernel_rfl) (by kernel_rfl) (own_cells (p_9.ownCell 0 rfl) 0 rfl)) (Rv.slot (v := .bool x_4) f_26 (by kernel_rfl)) ?_
    obtain rfl := Option.some.inj hF_9
    exact ⟨_, rfl, M1, (Mem.le_refl _), (p_9.dropN 1), ⟨[.int .i8 3, S [], .int .i64 0, S x_1.1, S [], .slice none 0 0], rfl, (T_api_Expr.shut Sli.nil)⟩⟩
end Go.Proofs.YtdmjgmleilgbpaaDoor
