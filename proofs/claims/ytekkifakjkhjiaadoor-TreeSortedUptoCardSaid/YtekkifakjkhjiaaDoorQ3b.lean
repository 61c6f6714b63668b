/-
  Printed by a program: of each function its shallow reading, and the proof that the function gives what the reading gives. No condition.
-/
import Derived.Test.YtekkifakjkhjiaaDoorQ1
import Derived.Test.YtekkifakjkhjiaaDoorTy
import Derived.Test.YtekkifakjkhjiaaDoorRows
import Derived.Test.YtekkifakjkhjiaaDoorVkF
set_option linter.unusedVariables false
set_option linter.unusedSimpArgs false
namespace Go.Proofs.YtekkifakjkhjiaaDoor
open Go Go.Vc Go.RowKit
def tree_Text (n : Nat) (d0 : List UInt8) : Option T_api_Value :=
  some ((⟨(3 : Int), (false), (0 : Int), d0, ([] : List T_api_Value), ([] : List (List UInt8))⟩ : T_api_Value))
theorem tree_Text_ok (n : Nat) (M : Mem) (d0 : List UInt8) (r : T_api_Value) (hF : tree_Text n d0 = some r) : Ok Tryd.prog M 32 [S d0] (fun M' v => ∃ (c0 : List Value), v = .agg c0.toArray ∧ Rep M' (emb_T_api_Value r) c0) := by
  unfold tree_Text at hF
  intro M1 hM0 w0 H w p0
  refine R_enter 5 Tryd.func32 rfl rfl (by simp) (fun a0 f0 => ?_)
  refine R_seq (R_reg ?_)
  refine V_alloc f0 p0 (.cells #[.int .i8 0, .bool false, .int .i64 0, S [], .slice none 0 0, .slice none 0 0] 26 (0, 0)) (by kernel_rfl) (fun _ => by kernel_rfl) (fun b_1 w_1 p_1 a_1 f_1 => ?_)
  refine W_end rfl (T_n (R_seq (R_reg ?_)))
  refine V_run f_1 2 (by kernel_rfl) (fun a_2 f_2 => ?_)
  refine W_storeN (vs := [.int .i8 3, .bool false, .int .i64 0, S d0, .slice none 0 0, .slice none 0 0]) (j := 0) f_2 p_1 (by kernel_rfl) (by kernel_rfl) rfl rfl (by kernel_rfl) (by kernel_rfl) (by simp [Value.oneCell', S]) (by kernel_rfl) (by simp) (by decide) (cs' := #[.int .i8 3, .bool false, .int .i64 0, S d0, .slice none 0 0, .slice none 0 0]) rfl (fun w_2 p_2 a_3 f_3 => ?_)
  refine W_end rfl (T_n (wp_ret ?_))
  refine E_rv1 f_3 rfl (Rv.cellN (cs := [.int .i8 3, .bool false, .int .i64 0, S d0, .slice none 0 0, .slice none 0 0]) (ad := ⟨b_1, 0, none⟩) f_3 (by kernel_rfl) (by kernel_rfl) (own_cells (p_2.ownCell 0 rfl) 0 rfl)) ?_
  obtain rfl := Option.some.inj hF
  exact ⟨_, rfl, M1, (Mem.le_refl _), (p_2.dropN 1), ⟨[.int .i8 3, .bool false, .int .i64 0, S d0, .slice none 0 0, .slice none 0 0], rfl, (T_api_Value.shut Sli.nil Sli.nil)⟩⟩

def tree_Num (n : Nat) (d0 : Int) : Option T_api_Value :=
  some ((⟨(2 : Int), (false), d0, ([] : List UInt8), ([] : List T_api_Value), ([] : List (List UInt8))⟩ : T_api_Value))
theorem tree_Num_ok (n : Nat) (M : Mem) (d0 : Int) (r : T_api_Value) (hF : tree_Num n d0 = some r) : Ok Tryd.prog M 34 [.int .i64 d0] (fun M' v => ∃ (c0 : List Value), v = .agg c0.toArray ∧ Rep M' (emb_T_api_Value r) c0) := by
  unfold tree_Num at hF
  intro M1 hM0 w0 H w p0
  refine R_enter 5 Tryd.func34 rfl rfl (by simp) (fun a0 f0 => ?_)
  refine R_seq (R_reg ?_)
  refine V_alloc f0 p0 (.cells #[.int .i8 0, .bool false, .int .i64 0, S [], .slice none 0 0, .slice none 0 0] 26 (0, 0)) (by kernel_rfl) (fun _ => by kernel_rfl) (fun b_1 w_1 p_1 a_1 f_1 => ?_)
  refine W_end rfl (T_n (R_seq (R_reg ?_)))
  refine V_run f_1 2 (by kernel_rfl) (fun a_2 f_2 => ?_)
  refine W_storeN (vs := [.int .i8 2, .bool false, .int .i64 d0, S [], .slice none 0 0, .slice none 0 0]) (j := 0) f_2 p_1 (by kernel_rfl) (by kernel_rfl) rfl rfl (by kernel_rfl) (by kernel_rfl) (by simp [Value.oneCell', S]) (by kernel_rfl) (by simp) (by decide) (cs' := #[.int .i8 2, .bool false, .int .i64 d0, S [], .slice none 0 0, .slice none 0 0]) rfl (fun w_2 p_2 a_3 f_3 => ?_)
  refine W_end rfl (T_n (wp_ret ?_))
  refine E_rv1 f_3 rfl (Rv.cellN (cs := [.int .i8 2, .bool false, .int .i64 d0, S [], .slice none 0 0, .slice none 0 0]) (ad := ⟨b_1, 0, none⟩) f_3 (by kernel_rfl) (by kernel_rfl) (own_cells (p_2.ownCell 0 rfl) 0 rfl)) ?_
  obtain rfl := Option.some.inj hF
  exact ⟨_, rfl, M1, (Mem.le_refl _), (p_2.dropN 1), ⟨[.int .i8 2, .bool false, .int .i64 d0, S [], .slice none 0 0, .slice none 0 0], rfl, (T_api_Value.shut Sli.nil Sli.nil)⟩⟩
end Go.Proofs.YtekkifakjkhjiaaDoor
