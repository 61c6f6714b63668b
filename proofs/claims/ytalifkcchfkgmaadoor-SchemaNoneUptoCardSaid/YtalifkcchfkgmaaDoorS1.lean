/-
  Printed by a program: of each function its shallow reading, and the proof that the function gives what the reading gives. No condition.
-/
import Derived.Test.YtalifkcchfkgmaaDoorQ4b
import Derived.Test.YtalifkcchfkgmaaDoorAllR
set_option linter.unusedVariables false
set_option linter.unusedSimpArgs false
namespace Go.Proofs.YtalifkcchfkgmaaDoor
open Go Go.Vc Go.RowKit
def schema_Find (n : Nat) (d0 : List UInt8) (d1 : List UInt8) : Option (T_api_Spec × Bool) :=
  some ((((specAt d0 d1).getD z_T_api_Spec), ((specAt d0 d1).isSome)))
theorem schema_Find_ok (n : Nat) (M : Mem) (hG : GL M) (d0 : List UInt8) (d1 : List UInt8) (r : T_api_Spec × Bool) (hF : schema_Find n d0 d1 = some r) : Ok Tryd.prog M 50 [S d0, S d1] (fun M' v => ∃ (c0 : List Value), v = .tuple #[.agg c0.toArray, .bool r.2] ∧ Rep M' (emb_T_api_Spec r.1) c0) := by
  unfold schema_Find at hF
  intro M1 hM0 w0 H w p0
  replace hG := GL.mono hM0 hG
  refine R_enter 18 Tryd.func50 rfl rfl (by simp) (fun a0 f0 => ?_)
  refine R_seq (R_reg ?_)
  refine V_alloc f0 p0 (.cells #[S [], .int .i8 0, .bool false] 81 (0, 0)) (by kernel_rfl) (fun _ => by kernel_rfl) (fun b_1 w_1 p_1 a_1 f_1 => ?_)
  refine V_run f_1 1 (by kernel_rfl) (fun a_2 f_2 => ?_)
  refine W_end rfl (T_n (R_seq (R_reg ?_)))
  refine V_ok f_2 p_1 (all_ok _) (by kernel_rfl) (fun _ => by kernel_rfl) (fun u_1 M_1 w_2 hM_1 p_2 q_1 a_3 f_3 => ?_)
  obtain ⟨b_2, b_3, b_4, b_5, b_6, rfl, hA_1⟩ := q_1
  refine V_run f_3 1 (by kernel_rfl) (fun a_4 f_4 => ?_)
  refine V_eq (v := .map (blkOf b_3 b_4 b_5 b_6 d0)) f_4 (by kernel_rfl) (X_all1 (k := d0) (kt := 9) (et := 70) hA_1 p_2 rfl (by kernel_rfl) (by kernel_rfl) (by kernel_rfl) (strKey (by kernel_rfl)) (by kernel_rfl)) (fun a_5 f_5 => ?_)
  refine V_run f_5 1 (by kernel_rfl) (fun a_6 f_6 => ?_)
  refine V_eq (v := .tuple #[.agg #[S ((specAt d0 d1).getD z_T_api_Spec).fName, .int .i8 ((specAt d0 d1).getD z_T_api_Spec).fKind, .bool ((specAt d0 d1).getD z_T_api_Spec).fReplace], .bool (specAt d0 d1).isSome]) f_6 (by kernel_rfl) (X_prop2 (k := d1) (kind := d0) (z := z_T_api_Spec) (kt := 9) (et := 81) hA_1 p_2 rfl (by kernel_rfl) (by kernel_rfl) (by kernel_rfl) (strKey (by kernel_rfl)) (by kernel_rfl)) (fun a_7 f_7 => ?_)
  refine V_run f_7 3 (by kernel_rfl) (fun a_8 f_8 => ?_)
  refine V_alloc f_8 p_2 (.cells #[S [], .int .i8 0, .bool false] 81 (0, 0)) (by kernel_rfl) (fun _ => by kernel_rfl) (fun b_7 w_3 p_3 a_9 f_9 => ?_)
  refine W_storeN (vs := [S ((specAt d0 d1).getD z_T_api_Spec).fName, .int .i8 ((specAt d0 d1).getD z_T_api_Spec).fKind, .bool ((specAt d0 d1).getD z_T_api_Spec).fReplace]) (j := 0) f_9 p_3 (by kernel_rfl) (by kernel_rfl) rfl rfl (by kernel_rfl) (by kernel_rfl) (by simp [Value.oneCell', S]) (by kernel_rfl) (by simp) (by decide) (cs' := #[S ((specAt d0 d1).getD z_T_api_Spec).fName, .int .i8 ((specAt d0 d1).getD z_T_api_Spec).fKind, .bool ((specAt d0 d1).getD z_T_api_Spec).fReplace]) rfl (fun w_4 p_4 a_10 f_10 => ?_)
  refine V_run f_10 1 (by kernel_rfl) (fun a_11 f_11 => ?_)
  refine W_end rfl (T_n (R_seq (R_reg ?_)))
  refine V_eq (v := .agg #[S ((specAt d0 d1).getD z_T_api_Spec).fName, .int .i8 ((specAt d0 d1).getD z_T_api_Spec).fKind, .bool ((specAt d0 d1).getD z_T_api_Spec).fReplace]) f_11 (by kernel_rfl) (X_loadN (cs := [S ((specAt d0 d1).getD z_T_api_Spec).fName, .int .i8 ((specAt d0 d1).getD z_T_api_Spec).fKind, .bool ((specAt d0 d1).getD z_T_api_Spec).fReplace]) rfl (ad := ⟨b_7, 0, none⟩) (by kernel_rfl) (by kernel_rfl) (own_cells (p_4.ownCell 0 rfl) 0 rfl)) (fun a_12 f_12 => ?_)
  refine V_run f_12 1 (by kernel_rfl) (fun a_13 f_13 => ?_)
  have p_5 := p_4.pl [1]
  refine W_storeN (vs := [S ((specAt d0 d1).getD z_T_api_Spec).fName, .int .i8 ((specAt d0 d1).getD z_T_api_Spec).fKind, .bool ((specAt d0 d1).getD z_T_api_Spec).fReplace]) (j := 0) f_13 p_5 (by kernel_rfl) (by kernel_rfl) rfl rfl (by kernel_rfl) (by kernel_rfl) (by simp [Value.oneCell', S]) (by kernel_rfl) (by simp) (by decide) (cs' := #[S ((specAt d0 d1).getD z_T_api_Spec).fName, .int .i8 ((specAt d0 d1).getD z_T_api_Spec).fKind, .bool ((specAt d0 d1).getD z_T_api_Spec).fReplace]) rfl (fun w_5 p_6 a_14 f_14 => ?_)
  refine V_run f_14 1 (by kernel_rfl) (fun a_15 f_15 => ?_)
  refine W_end rfl (T_n (wp_ret ?_))
  refine E_rv2 f_15 rfl (Rv.cellN (cs := [S ((specAt d0 d1).getD z_T_api_Spec).fName, .int .i8 ((specAt d0 d1).getD z_T_api_Spec).fKind, .bool ((specAt d0 d1).getD z_T_api_Spec).fReplace]) (ad := ⟨b_1, 0, none⟩) f_15 (by kernel_rfl) (by kernel_rfl) (own_cells (p_6.ownCell 0 rfl) 0 rfl)) (Rv.slot (v := .bool (specAt d0 d1).isSome) f_15 (by kernel_rfl)) ?_
  obtain rfl := Option.some.inj hF
  exact ⟨_, rfl, M_1, hM_1, (p_6.dropN 2), ⟨[S ((specAt d0 d1).getD z_T_api_Spec).fName, .int .i8 ((specAt d0 d1).getD z_T_api_Spec).fKind, .bool ((specAt d0 d1).getD z_T_api_Spec).fReplace], rfl, (T_api_Spec.shutx (x := ((specAt d0 d1).getD z_T_api_Spec)) )⟩⟩

def schema_Attr (n : Nat) (d0 : List UInt8) (d1 : List UInt8) (d2 : List UInt8) : Option (List UInt8 × Int) :=
  bif (!(kindIn d0)) then
    (some ((([] : List UInt8), (90 : Int))))
  else
    bif (decide (d2 = [65, 114, 110])) then
      (need (d0.length + [58].length ≤ 9223372036854775807) <|
      need ((d0 ++ [58]).length + d1.length ≤ 9223372036854775807) <|
      some (((d0 ++ [58]) ++ d1, (0 : Int))))
    else
      bif (decide (d2 = [90, 111, 110, 101])) then
        (need (inR .i64 ((max (d1.length : Int) (1 : Int)) - 1)) <|
        need (0 ≤ ((max (d1.length : Int) (1 : Int)) - 1) ∧ ((max (d1.length : Int) (1 : Int)) - 1) ≤ d1.length) <|
        some ((d1.drop ((max (d1.length : Int) (1 : Int)) - 1).toNat, (0 : Int))))
      else
        some ((([] : List UInt8), (91 : Int)))
set_option maxHeartbeats 2000000 in
theorem schema_Attr_ok (n : Nat) (M : Mem) (hG : GL M) (d0 : List UInt8) (d1 : List UInt8) (d2 : List UInt8) (r : List UInt8 × Int) (hF : schema_Attr n d0 d1 d2 = some r) : Ok Tryd.prog M 17 [S d0, S d1, S d2] (fun _ v => v = .tuple #[S r.1, .int .i64 r.2]) := by
  unfold schema_Attr at hF
  intro M1 hM0 w0 H w p0
  replace hG := GL.mono hM0 hG
  refine R_enter 33 Tryd.func17 rfl rfl (by simp) (fun a0 f0 => ?_)
  refine R_seq (R_reg ?_)
  refine V_run f0 2 (by kernel_rfl) (fun a_1 f_1 => ?_)
  refine W_end rfl (T_n (R_seq (R_seq (R_reg ?_))))
  refine V_ok f_1 p0 (all_ok _) (by kernel_rfl) (fun _ => by kernel_rfl) (fun u_1 M_1 w_1 hM_1 p_1 q_1 a_2 f_2 => ?_)
  obtain ⟨b_1, b_2, b_3, b_4, b_5, rfl, hA_1⟩ := q_1
  refine V_run f_2 1 (by kernel_rfl) (fun a_3 f_3 => ?_)
  refine V_eq (v := .tuple #[.map (blkOf b_2 b_3 b_4 b_5 d0), .bool (kindIn d0)]) f_3 (by kernel_rfl) (X_all2 (k := d0) (kt := 9) (et := 70) hA_1 p_1 rfl (by kernel_rfl) (by kernel_rfl) (by kernel_rfl) (strKey (by kernel_rfl)) (by kernel_rfl)) (fun a_4 f_4 => ?_)
  refine V_run f_4 5 (by kernel_rfl) (fun a_5 f_5 => ?_)
  refine W_end rfl (T_n (R_seq (R_reg ?_)))
  refine V_run f_5 2 (by kernel_rfl) (fun a_6 f_6 => ?_)
  refine W_end rfl (T_n ?_)
  refine R_cond f_6 (b := !(kindIn d0)) (by kernel_rfl) (by kernel_rfl) (fun h_1 => ?_) (fun h_1 => ?_)
  · have k_1 : (kindIn d0) = false := by simpa using h_1
    have hF_1 := cnd_t h_1 hF
    refine R_seq (R_reg ?_)
    refine V_run f_6 2 (by kernel_rfl) (fun a_7 f_7 => ?_)
    refine W_end rfl (T_n (wp_ret (T_r ?_)))
    refine E_ret2 f_7 rfl (by kernel_rfl : Vc.look _ 6 = some (S [])) (by kernel_rfl : Vc.look _ 7 = some (.int .i64 90)) ?_
    obtain rfl := Option.some.inj hF_1
    exact ⟨_, rfl, M_1, hM_1, p_1, rfl⟩
  · have k_2 : (kindIn d0) = true := by simpa using h_1
    have hF_2 := cnd_f h_1 hF
    refine wp_skip (T_n (R_seq (R_seq (R_reg ?_))))
    refine V_run f_6 1 (by kernel_rfl) (fun a_8 f_8 => ?_)
    refine W_end rfl (T_n (wp_block (R_seq (R_reg ?_))))
    refine V_eq (v := .bool (decide (d2 = [65, 114, 110]))) f_8 (by kernel_rfl) (X_streq rfl (l := d2) (m := [65, 114, 110]) (by kernel_rfl) (by kernel_rfl)) (fun a_9 f_9 => ?_)
    refine V_run f_9 1 (by kernel_rfl) (fun a_10 f_10 => ?_)
    refine W_end rfl (T_n ?_)
    refine R_cond f_10 (b := decide (d2 = [65, 114, 110])) (by kernel_rfl) (by kernel_rfl) (fun h_2 => ?_) (fun h_2 => ?_)
    · have k_3 : d2 = [65, 114, 110] := decide_eq_true_iff.1 h_2
      have hF_3 := cnd_t h_2 hF_2
      refine R_seq (R_reg ?_)
      refine V_run f_10 1 (by kernel_rfl) (fun a_11 f_11 => ?_)
      obtain ⟨g_1, hF_4⟩ := need_some hF_3
      refine V_eq (v := S (d0 ++ [58])) f_11 (by kernel_rfl) (X_concat rfl (l := d0) (m := [58]) (by kernel_rfl) (by kernel_rfl) g_1) (fun a_12 f_12 => ?_)
      refine V_run f_12 1 (by kernel_rfl) (fun a_13 f_13 => ?_)
      obtain ⟨g_2, hF_5⟩ := need_some hF_4
      refine V_eq (v := S ((d0 ++ [58]) ++ d1)) f_13 (by kernel_rfl) (X_concat rfl (l := d0 ++ [58]) (m := d1) (by kernel_rfl) (by kernel_rfl) g_2) (fun a_14 f_14 => ?_)
      refine V_run f_14 2 (by kernel_rfl) (fun a_15 f_15 => ?_)
      refine W_end rfl (T_n (wp_ret (B_r (T_r ?_))))
      refine E_ret2 f_15 rfl (by kernel_rfl : Vc.look _ 6 = some (S ((d0 ++ [58]) ++ d1))) (by kernel_rfl : Vc.look _ 7 = some (.int .i64 0)) ?_
      obtain rfl := Option.some.inj hF_5
      exact ⟨_, rfl, M_1, hM_1, p_1, rfl⟩
    · have k_4 : ¬ (d2 = [65, 114, 110]) := iff_f decide_eq_true_iff h_2
      have hF_6 := cnd_f h_2 hF_2
      refine R_seq (R_reg ?_)
      refine V_eq (v := .bool (decide (d2 = [90, 111, 110, 101]))) f_10 (by kernel_rfl) (X_streq rfl (l := d2) (m := [90, 111, 110, 101]) (by kernel_rfl) (by kernel_rfl)) (fun a_16 f_16 => ?_)
      refine V_run f_16 1 (by kernel_rfl) (fun a_17 f_17 => ?_)
      refine W_end rfl (T_n ?_)
      refine R_cond f_17 (b := decide (d2 = [90, 111, 110, 101])) (by kernel_rfl) (by kernel_rfl) (fun h_3 => ?_) (fun h_3 => ?_)
      · have k_5 : d2 = [90, 111, 110, 101] := decide_eq_true_iff.1 h_3
        have hF_7 := cnd_t h_3 hF_6
        refine R_seq (R_reg ?_)
        refine V_run f_17 3 (by kernel_rfl) (fun a_18 f_18 => ?_)
        refine V_eq (v := .int .i64 (max (d1.length : Int) (1 : Int))) f_18 (by kernel_rfl) (X_max (k := .i64) (a := (d1.length : Int)) (b := (1 : Int)) rfl (by kernel_rfl) (by kernel_rfl)) (fun a_19 f_19 => ?_)
        obtain ⟨g_3, hF_8⟩ := need_some hF_7
        refine V_run f_19 1 (by kernel_rfl) (fun a_20 f_20 => ?_)
        have f_21 := Frm.set f_20 31 (v := .int .i64 (IntKind.wrap .i64 ((max (d1.length : Int) (1 : Int)) - 1))) (v' := .int .i64 ((max (d1.length : Int) (1 : Int)) - 1)) (by kernel_rfl) (congrArg (Value.int .i64) (inR_wrap g_3))
        obtain ⟨g_4, hF_9⟩ := need_some hF_8
        refine V_eq (v := S (d1.drop ((max (d1.length : Int) (1 : Int)) - 1).toNat)) f_21 (by kernel_rfl) (X_strFrom rfl (l := d1) (k := .i64) (a := (max (d1.length : Int) (1 : Int)) - 1) (by kernel_rfl) (by kernel_rfl) (by kernel_rfl) g_4.1 g_4.2) (fun a_21 f_22 => ?_)
        refine V_run f_22 2 (by kernel_rfl) (fun a_22 f_23 => ?_)
        refine W_end rfl (T_n (wp_ret (B_r (T_r ?_))))
        refine E_ret2 f_23 rfl (by kernel_rfl : Vc.look _ 6 = some (S (d1.drop ((max (d1.length : Int) (1 : Int)) - 1).toNat))) (by kernel_rfl : Vc.look _ 7 = some (.int .i64 0)) ?_
        obtain rfl := Option.some.inj hF_9
        exact ⟨_, rfl, M_1, hM_1, p_1, rfl⟩
      · have k_6 : ¬ (d2 = [90, 111, 110, 101]) := iff_f decide_eq_true_iff h_3
        have hF_10 := cnd_f h_3 hF_6
        refine wp_skip (B_n (T_n (R_seq (R_reg ?_))))
        refine V_run f_17 2 (by kernel_rfl) (fun a_23 f_24 => ?_)
        refine W_end rfl (T_n (wp_ret ?_))
        refine E_ret2 f_24 rfl (by kernel_rfl : Vc.look _ 6 = some (S [])) (by kernel_rfl : Vc.look _ 7 = some (.int .i64 91)) ?_
        obtain rfl := Option.some.inj hF_10
        exact ⟨_, rfl, M_1, hM_1, p_1, rfl⟩

def schema_Types (n : Nat) : Option (List (List UInt8)) :=
  some ((kindsS))
theorem schema_Types_ok (n : Nat) (M : Mem) (hG : GL M) (r : List (List UInt8)) (hF : schema_Types n = some r) : Ok Tryd.prog M 18 [] (fun M' v => ∃ (A0 : Option Addr) (k0 : Nat), v = .slice A0 r.length k0 ∧ Sli M' 1 Dat.str A0 k0 r) := by
  unfold schema_Types at hF
  intro M1 hM0 w0 H w p0
  replace hG := GL.mono hM0 hG
  refine R_enter 3 Tryd.func18 rfl rfl (by simp) (fun a0 f0 => ?_)
  refine R_seq (R_reg ?_)
  refine V_run f0 1 (by kernel_rfl) (fun a_1 f_1 => ?_)
  refine W_end rfl (T_n (R_seq (R_reg ?_)))
  refine V_ok f_1 p0 (all_ok _) (by kernel_rfl) (fun _ => by kernel_rfl) (fun u_1 M_1 w_1 hM_1 p_1 q_1 a_2 f_2 => ?_)
  obtain ⟨b_1, b_2, b_3, b_4, b_5, rfl, hA_1⟩ := q_1
  refine V_ok f_2 p_1 (risingA_ok hA_1) (by kernel_rfl) (fun _ => by kernel_rfl) (fun u_2 M_2 w_2 hM_2 p_2 q_2 a_3 f_3 => ?_)
  obtain ⟨A_1, cap_1, rfl, h_1⟩ := q_2
  refine V_run f_3 1 (by kernel_rfl) (fun a_4 f_4 => ?_)
  refine W_end rfl (T_n (wp_ret ?_))
  refine E_ret1 f_4 rfl (by kernel_rfl : Vc.look _ 0 = some (.slice A_1 (kindsS).length cap_1)) ?_
  obtain rfl := Option.some.inj hF
  exact ⟨_, rfl, M_2, (hM_1.trans hM_2), p_2, ⟨A_1, cap_1, rfl, h_1⟩⟩

def schema_Specs_s1 (n : Nat) (d0 : List UInt8) (s_1 : List T_api_Spec × Int) : Option (Lp (List T_api_Spec × Int) (List T_api_Spec)) :=
    bif (decide (s_1.2 < (((namesS d0).length : Nat) : Int))) then
      ((getI (namesS d0) s_1.2).bind fun x_1 =>
      need ((s_1.1.length + 1) * 24 ≤ 140737488355328) <|
      need (inR .i64 (s_1.2 + 1)) <|
      some (.nx (s_1.1 ++ [(⟨((specAt d0 x_1).getD z_T_api_Spec).fName, ((specAt d0 x_1).getD z_T_api_Spec).fKind, (((specAt d0 x_1).getD z_T_api_Spec).fReplace)⟩ : T_api_Spec)], s_1.2 + 1)))
    else
      some (.br s_1.1)
def schema_Specs (n : Nat) (d0 : List UInt8) : Option (List T_api_Spec × Int) :=
  bif (!(kindIn d0)) then
    (some ((([] : List T_api_Spec), (90 : Int))))
  else
    (loopF (schema_Specs_s1 n d0) n (([] : List T_api_Spec), (0 : Int))).bind fun y_1 =>
    some ((y_1, (0 : Int)))
set_option maxHeartbeats 2000000 in
theorem schema_Specs_ok (n : Nat) (M : Mem) (hG : GL M) (d0 : List UInt8) (r : List T_api_Spec × Int) (hF : schema_Specs n d0 = some r) : OkH Tryd.prog M [] 22 [S d0] (fun M' E' v => ∃ (A0 : Option Addr) (k0 : Nat) (s0 : List Value), v = .tuple #[.slice A0 r.1.length k0, .int .i64 r.2] ∧ E' = [.row 81 3 (.slice A0 r.1.length k0) r.1.length s0] ∧ RepSeq M' (r.1.map emb_T_api_Spec) s0) := by
  unfold schema_Specs at hF
  intro M1 hM0 w0 H w p0
  replace hG := GL.mono hM0 hG
  refine R_enter 31 Tryd.func22 rfl rfl (by simp) (fun a0 f0 => ?_)
  refine R_seq (R_reg ?_)
  refine V_run f0 2 (by kernel_rfl) (fun a_1 f_1 => ?_)
  refine W_end rfl (T_n (R_seq (R_reg ?_)))
  refine V_ok f_1 p0 (all_ok _) (by kernel_rfl) (fun _ => by kernel_rfl) (fun u_1 M_1 w_1 hM_1 p_1 q_1 a_2 f_2 => ?_)
  obtain ⟨b_1, b_2, b_3, b_4, b_5, rfl, hA_1⟩ := q_1
  refine V_run f_2 1 (by kernel_rfl) (fun a_3 f_3 => ?_)
  refine V_eq (v := .tuple #[.map (blkOf b_2 b_3 b_4 b_5 d0), .bool (kindIn d0)]) f_3 (by kernel_rfl) (X_all2 (k := d0) (kt := 9) (et := 70) hA_1 p_1 rfl (by kernel_rfl) (by kernel_rfl) (by kernel_rfl) (strKey (by kernel_rfl)) (by kernel_rfl)) (fun a_4 f_4 => ?_)
  refine V_run f_4 5 (by kernel_rfl) (fun a_5 f_5 => ?_)
  refine W_end rfl (T_n (R_seq (R_seq (R_reg ?_))))
  refine V_run f_5 2 (by kernel_rfl) (fun a_6 f_6 => ?_)
  refine W_end rfl (T_n ?_)
  refine R_cond f_6 (b := !(kindIn d0)) (by kernel_rfl) (by kernel_rfl) (fun h_1 => ?_) (fun h_1 => ?_)
  · have k_1 : (kindIn d0) = false := by simpa using h_1
    have hF_1 := cnd_t h_1 hF
    refine R_seq (R_reg ?_)
    refine V_run f_6 2 (by kernel_rfl) (fun a_7 f_7 => ?_)
    refine W_end rfl (T_n (wp_ret (T_r ?_)))
    obtain ⟨A_1, cap_1, hv_1⟩ : ∃ A cap, Value.slice none 0 0 = .slice A ([] : List T_api_Spec).length cap := ⟨none, 0, rfl⟩
    have p_2 : Hp w0 M_1 ((Ent.row 81 3 (.slice A_1 ([] : List T_api_Spec).length cap_1) ([] : List T_api_Spec).length []) :: H) w_1 := by rw [← hv_1]; exact p_1.nilRow 81 3
    have f_8 := Frm.set f_7 2 (v := .slice none 0 0) (v' := .slice A_1 ([] : List T_api_Spec).length cap_1) (by kernel_rfl) (hv_1)
    have hr_1 : RepSeq M_1 (([] : List T_api_Spec).map emb_T_api_Spec) [] := rfl
    refine E_ret2 f_8 rfl (by kernel_rfl : Vc.look _ 2 = some (.slice A_1 ([] : List T_api_Spec).length cap_1)) (by kernel_rfl : Vc.look _ 3 = some (.int .i64 90)) ?_
    obtain rfl := Option.some.inj hF_1
    exact ⟨_, rfl, M_1, _, hM_1, p_2, ⟨A_1, cap_1, [], rfl, rfl, hr_1⟩⟩
  · have k_2 : (kindIn d0) = true := by simpa using h_1
    have hF_2 := cnd_f h_1 hF
    refine wp_skip (T_n (R_seq (R_seq (R_reg ?_))))
    refine V_run f_6 1 (by kernel_rfl) (fun a_8 f_9 => ?_)
    refine V_ok f_9 p_1 (risingP_ok d0 hA_1) (by kernel_rfl) (fun _ => by kernel_rfl) (fun u_2 M_2 w_2 hM_2 p_3 q_2 a_9 f_10 => ?_)
    obtain ⟨A_2, cap_2, rfl, h_2⟩ := q_2
    refine V_run f_10 2 (by kernel_rfl) (fun a_10 f_11 => ?_)
    refine W_end rfl (T_n (wp_block ?_))
    obtain ⟨A_3, cap_3, hv_2⟩ : ∃ A cap, Value.slice none 0 0 = .slice A ([] : List T_api_Spec).length cap := ⟨none, 0, rfl⟩
    have p_4 : Hp w0 M_2 ((Ent.row 81 3 (.slice A_3 ([] : List T_api_Spec).length cap_3) ([] : List T_api_Spec).length []) :: H) w_2 := by rw [← hv_2]; exact p_3.nilRow 81 3
    have f_12 := Frm.set f_11 2 (v := .slice none 0 0) (v' := .slice A_3 ([] : List T_api_Spec).length cap_3) (by kernel_rfl) (hv_2)
    have hr_2 : RepSeq M_2 (([] : List T_api_Spec).map emb_T_api_Spec) [] := rfl
    obtain ⟨b_6, hL_1, hF_3⟩ := bind_some' hF_2
    refine wp_mono (Q := fun e a w => (e = .exit 0 ∧ (∃ y_1 : List T_api_Spec, b_6 = y_1 ∧ ∃ M_4 : Mem, M_2.le M_4 ∧ ∃ (A_6 : Option Addr), ∃ (cap_6 : Nat), ∃ (cs_3 : List Value), RepSeq M_4 (y_1.map emb_T_api_Spec) cs_3 ∧ Frm 31 [(2, .slice A_6 y_1.length cap_6)] a ∧ Hp w0 M_4 ((Ent.row 81 3 (.slice A_6 y_1.length cap_6) y_1.length cs_3) :: H) w))) (R_loop (n := 31) (w0 := w0) (M := M_2) (fun (x : Nat × (List T_api_Spec × Int) × (Option Addr) × Nat × (List Value)) => match x with | (m_1, s_1, A_4, cap_4, cs_1) => [(2, .slice A_4 s_1.1.length cap_4), (4, .map (blkOf b_2 b_3 b_4 b_5 d0)), (17, .slice A_2 (namesS d0).length cap_2), (18, .int .i64 (((namesS d0).length : Nat) : Int)), (19, .int .i64 s_1.2)]) (fun (x : Nat × (List T_api_Spec × Int) × (Option Addr) × Nat × (List Value)) => match x with | (m_1, s_1, A_4, cap_4, cs_1) => ((Ent.row 81 3 (.slice A_4 s_1.1.length cap_4) s_1.1.length cs_1) :: H)) (fun (x : Nat × (List T_api_Spec × Int) × (Option Addr) × Nat × (List Value)) (MM : Mem) => match x with | (m_1, s_1, A_4, cap_4, cs_1) => loopF (schema_Specs_s1 n d0) m_1 s_1 = some b_6 ∧ RepSeq MM (s_1.1.map emb_T_api_Spec) cs_1) (fun (x : Nat × (List T_api_Spec × Int) × (Option Addr) × Nat × (List Value)) => match x with | (m_1, s_1, A_4, cap_4, cs_1) => m_1) (n, (([] : List T_api_Spec), (0 : Int)), A_3, cap_3, []) (f_12.keep (ks := [2, 4, 17, 18, 19]) (by kernel_rfl)) p_4 ⟨hL_1, hr_2⟩ ?_) ?_
    · rintro ⟨m_1, s_1, A_4, cap_4, cs_1⟩ M_3 a_11 w_3 hM_3 I_1 f_13 p_5
      obtain ⟨I_1L, hr_3⟩ := I_1
      obtain ⟨m_2, r_1, rfl, hs_1, hn_1⟩ := loop_step I_1L
      unfold schema_Specs_s1 at hs_1
      refine R_seq (R_reg ?_)
      refine V_run f_13 1 (by kernel_rfl) (fun a_12 f_14 => ?_)
      refine W_end rfl (T_n (R_seq ?_))
      refine R_cond f_14 (b := decide (s_1.2 < (((namesS d0).length : Nat) : Int))) (by kernel_rfl) (by kernel_rfl) (fun h_3 => ?_) (fun h_3 => ?_)
      · have k_3 : s_1.2 < (((namesS d0).length : Nat) : Int) := decide_eq_true_iff.1 h_3
        have hF_4 := cnd_t h_3 hs_1
        refine wp_skip (T_n (R_seq (wp_block (R_seq (R_reg ?_)))))
        obtain ⟨x_1, hx_1, hF_5⟩ := bind_some' hF_4
        obtain ⟨ad_1, c_1, e_1, hl_1, hr_4, hc_1⟩ := Sli.at_ (h_2.mono hM_3) hx_1
        clear hl_1
        obtain rfl : c_1 = [S x_1] := hr_4
        refine V_eq (v := .pointer (some (ad_1.add (s_1.2.toNat * 1)))) f_14 (by kernel_rfl) (X_indexAddrA e_1 rfl (len := (namesS d0).length) (cap := cap_2) (k := .i64) (i := s_1.2) (by kernel_rfl) (by kernel_rfl) (e := 9) (by kernel_rfl) (sz := 1) (by kernel_rfl) (getI_nn hx_1) (getI_lt hx_1)) (fun a_13 f_15 => ?_)
        refine V_ld f_15 p_5 hc_1 0 rfl (by kernel_rfl) (by kernel_rfl) (fun a_14 f_16 => ?_)
        refine V_run f_16 1 (by kernel_rfl) (fun a_15 f_17 => ?_)
        refine W_end rfl (T_n (R_reg ?_))
        refine V_run f_17 3 (by kernel_rfl) (fun a_16 f_18 => ?_)
        refine V_eq (v := .agg #[S ((specAt d0 x_1).getD z_T_api_Spec).fName, .int .i8 ((specAt d0 x_1).getD z_T_api_Spec).fKind, .bool ((specAt d0 x_1).getD z_T_api_Spec).fReplace]) f_18 (by kernel_rfl) (X_prop1 (k := x_1) (kind := d0) (z := z_T_api_Spec) (kt := 9) (et := 81) (hA_1.mono (hM_2.trans hM_3)) p_5 rfl (by kernel_rfl) (by kernel_rfl) (by kernel_rfl) (strKey (by kernel_rfl)) (by kernel_rfl)) (fun a_17 f_19 => ?_)
        refine V_allocS (k := 1) (c := 1) f_19 p_5 (.cells #[S ((specAt d0 x_1).getD z_T_api_Spec).fName, .int .i8 ((specAt d0 x_1).getD z_T_api_Spec).fKind, .bool ((specAt d0 x_1).getD z_T_api_Spec).fReplace] 81 (0, 0)) (by kernel_rfl) (fun _ => by kernel_rfl) (fun b_7 w_4 p_6 a_18 f_20 => ?_)
        have p_7 := p_6.pl [1]
        obtain ⟨g_1, hF_6⟩ := need_some hF_5
        refine W_appendL (z := .agg #[S [], .int .i8 0, .bool false]) (f := emb_T_api_Spec) (xs := s_1.1) (ys := [(⟨((specAt d0 x_1).getD z_T_api_Spec).fName, ((specAt d0 x_1).getD z_T_api_Spec).fKind, (((specAt d0 x_1).getD z_T_api_Spec).fReplace)⟩ : T_api_Spec)]) (news := [S ((specAt d0 x_1).getD z_T_api_Spec).fName, .int .i8 ((specAt d0 x_1).getD z_T_api_Spec).fKind, .bool ((specAt d0 x_1).getD z_T_api_Spec).fReplace]) (ad := ⟨b_7, 0, none⟩) (m := 1) (c := 1) f_20 p_7 hr_3 (by exact ⟨_, _, rfl, T_api_Spec.shut, rfl⟩) (by kernel_rfl) (by kernel_rfl) rfl rfl rfl (by kernel_rfl) (by kernel_rfl) (by kernel_rfl) (by kernel_rfl) rfl (own_cells (p_7.ownCell 1 rfl) 0 rfl) (by exact g_1) (by have hg_ := g_1; first | omega | (simp only [List.length_cons, List.length_nil] at *; omega)) (fun A_5 cap_5 cs_2 w_5 p_8 hr_5 a_19 f_21 => ?_)
        have p_9 := p_8.pl [1]
        have p_10 := p_9.drop
        refine V_run f_21 1 (by kernel_rfl) (fun a_20 f_22 => ?_)
        refine W_end rfl (B_n (T_n (R_reg ?_)))
        obtain ⟨g_2, hF_7⟩ := need_some hF_6
        refine V_run f_22 1 (by kernel_rfl) (fun a_21 f_23 => ?_)
        have f_24 := Frm.set f_23 29 (v := .int .i64 (IntKind.wrap .i64 (s_1.2 + 1))) (v' := .int .i64 (s_1.2 + 1)) (by kernel_rfl) (congrArg (Value.int .i64) (inR_wrap g_2))
        refine V_run f_24 1 (by kernel_rfl) (fun a_22 f_25 => ?_)
        refine W_end rfl (T_n ?_)
        obtain rfl := Option.some.inj hF_7
        exact ⟨⟨m_2, (s_1.1 ++ [(⟨((specAt d0 x_1).getD z_T_api_Spec).fName, ((specAt d0 x_1).getD z_T_api_Spec).fKind, (((specAt d0 x_1).getD z_T_api_Spec).fReplace)⟩ : T_api_Spec)], s_1.2 + 1), A_5, cap_5, cs_2⟩, Nat.lt_succ_self _, M_3, hM_3, ⟨hn_1, hr_5⟩, f_25.keep (ks := [2, 4, 17, 18, 19]) (by kernel_rfl), p_10⟩
      · have k_4 : ¬ (s_1.2 < (((namesS d0).length : Nat) : Int)) := iff_f decide_eq_true_iff h_3
        have hF_8 := cnd_f h_3 hs_1
        refine wp_exit (T_x (T_x ?_))
        obtain rfl := Option.some.inj hF_8
        exact ⟨rfl, s_1.1, (Option.some.inj hn_1).symm, M_3, hM_3, A_4, cap_4, cs_1, hr_3, f_14.keep (ks := [2]) (by kernel_rfl), p_5⟩
    · rintro _ a_24 w_7 ⟨rfl, y_1, hq_, M_4, hM_4, A_6, cap_6, cs_3, hr_6, f_26, p_11⟩
      subst b_6
      refine B_x (T_n (R_seq (R_reg ?_)))
      refine V_run f_26 3 (by kernel_rfl) (fun a_25 f_27 => ?_)
      refine W_end rfl (T_n (wp_ret ?_))
      refine E_ret2 f_27 rfl (by kernel_rfl : Vc.look _ 2 = some (.slice A_6 y_1.length cap_6)) (by kernel_rfl : Vc.look _ 3 = some (.int .i64 0)) ?_
      obtain rfl := Option.some.inj hF_3
      exact ⟨_, rfl, M_4, _, ((hM_1.trans hM_2).trans hM_4), p_11, ⟨A_6, cap_6, cs_3, rfl, rfl, hr_6⟩⟩
end Go.Proofs.YtalifkcchfkgmaaDoor
