/-
  Contracts of number.Text, its reference and what leans on them.
-/
import Derived.Test.YtpofillhffbalaaNumC
import Derived.Test.YtpofillhffbalaaVc7
set_option linter.unusedVariables false
set_option linter.unusedSimpArgs false
namespace Go.Proofs.Ytpofillhffbalaa
open Go Go.Vc Go.RowKit Go.Num
theorem textIn_ok (M : Mem) (bp bo n : Nat) : ∀ (hn : n ≤ 9007199254740992) (v : Value) (k : Nat) (xs : List Value) (hk : k ≤ 1000), OkH Try.prog M [Ent.obj bp (.cells #[.func (.func 20) #[] #[.pointer (some (⟨bp, 0, none⟩)), .pointer (some (⟨bo, 0, none⟩))]] 38 (0, 0)), Ent.obj bo (.cells #[v] 37 (0, 0)), Ent.row 5 1 v k xs] 20 [.int .i64 (n : Int), .pointer (some (⟨bp, 0, none⟩)), .pointer (some (⟨bo, 0, none⟩))] (fun _ E2 r => r = .tuple #[] ∧ ∃ v2, E2 = [Ent.obj bp (.cells #[.func (.func 20) #[] #[.pointer (some (⟨bp, 0, none⟩)), .pointer (some (⟨bo, 0, none⟩))]] 38 (0, 0)), Ent.obj bo (.cells #[v2] 37 (0, 0)), Ent.row 5 1 v2 (k + (digs n).length) (xs ++ byteCs (digs n))]) := by
  induction n using Nat.strongRecOn
  rename_i n ih
  intro hn v k xs hk
  have hl1 := digs_len16 hn
  have hl2 := digs_len16 (n := n / 10) (by omega)
  intro w0 H w p0
  replace p0 : Hp w0 M ((Ent.obj bp (.cells #[.func (.func 20) #[] #[.pointer (some (⟨bp, 0, none⟩)), .pointer (some (⟨bo, 0, none⟩))]] 38 (0, 0))) :: (Ent.obj bo (.cells #[v] 37 (0, 0))) :: (Ent.row 5 1 v k xs) :: H) w := p0
  refine R_enter 17 Try.func20 rfl rfl (by simp) (fun a0 f0 => ?_)
  replace f0 : Frm 17 [(0, .int .i64 (n : Int)), (1, .pointer (some (⟨bp, 0, none⟩))), (2, .pointer (some (⟨bo, 0, none⟩)))] a0 := f0
  refine R_seq ?_
  refine R_seq ?_
  refine R_reg ?_
  refine W_run (L' := [(0, .int .i64 (n : Int)), (1, .pointer (some (⟨bp, 0, none⟩))), (2, .pointer (some (⟨bo, 0, none⟩))), (5, .bool (decide ((9 : Int) < (n : Int))))]) (w' := w) f0 2 [0, 1, 2, 5] (by kernel_rfl) (fun a_1 f_1 => ?_)
  refine W_end rfl ?_
  refine T_n ?_
  refine R_cond f_1 (b := decide ((9 : Int) < (n : Int))) (by kernel_rfl) (by kernel_rfl) (fun h_1 => ?_) (fun h_1 => ?_)
  · have k_1 : (9 : Int) < (n : Int) := decide_eq_true_iff.1 h_1
    refine R_reg ?_
    refine W_eq f_1 (by kernel_rfl) (by kernel_rfl) rfl rfl (X_load1 (v := .func (.func 20) #[] #[.pointer (some (⟨bp, 0, none⟩)), .pointer (some (⟨bo, 0, none⟩))]) rfl (ad := ⟨bp, 0, none⟩) (by kernel_rfl) (by kernel_rfl) (p0.ownCell 0 rfl 0)) (fun a_2 f_2 => ?_)
    refine W_run (L' := [(0, .int .i64 (n : Int)), (2, .pointer (some (⟨bo, 0, none⟩))), (6, .func (.func 20) #[] #[.pointer (some (⟨bp, 0, none⟩)), .pointer (some (⟨bo, 0, none⟩))]), (7, .int .i64 (n : Int))]) (w' := w) f_2 1 [0, 2, 6, 7] (by kernel_rfl) (fun a_3 f_3 => ?_)
    refine W_run (L' := [(0, .int .i64 (n : Int)), (2, .pointer (some (⟨bo, 0, none⟩))), (6, .func (.func 20) #[] #[.pointer (some (⟨bp, 0, none⟩)), .pointer (some (⟨bo, 0, none⟩))]), (7, .int .i64 (n : Int)), (8, .int .i64 (IntKind.wrap .i64 ((n : Int).tdiv 10)))]) (w' := w) f_3 1 [0, 2, 6, 7, 8] (by kernel_rfl) (fun a_4 f_4 => ?_)
    have f_5 := Frm.set f_4 8 (v := .int .i64 (IntKind.wrap .i64 ((n : Int).tdiv 10))) (v' := .int .i64 ((n : Int) / 10)) (by kernel_rfl) (congrArg (Value.int .i64) (quo_i64 (by omega) (by decide) (by omega)))
    have f_6 : Frm 17 [(0, .int .i64 (n : Int)), (2, .pointer (some (⟨bo, 0, none⟩))), (6, .func (.func 20) #[] #[.pointer (some (⟨bp, 0, none⟩)), .pointer (some (⟨bo, 0, none⟩))]), (7, .int .i64 (n : Int)), (8, .int .i64 ((n : Int) / 10))] a_4 := f_5.keep (ks := [0, 2, 6, 7, 8]) (by kernel_rfl)
    have f_7 := Frm.set f_6 8 (v := .int .i64 ((n : Int) / 10)) (v' := .int .i64 ((n / 10 : Nat) : Int)) (by kernel_rfl) (congrArg (Value.int .i64) (by omega))
    have f_8 : Frm 17 [(0, .int .i64 (n : Int)), (2, .pointer (some (⟨bo, 0, none⟩))), (6, .func (.func 20) #[] #[.pointer (some (⟨bp, 0, none⟩)), .pointer (some (⟨bo, 0, none⟩))]), (7, .int .i64 (n : Int)), (8, .int .i64 ((n / 10 : Nat) : Int))] a_4 := f_7.keep (ks := [0, 2, 6, 7, 8]) (by kernel_rfl)
    refine W_okH (E := [Ent.obj bp (.cells #[.func (.func 20) #[] #[.pointer (some (⟨bp, 0, none⟩)), .pointer (some (⟨bo, 0, none⟩))]] 38 (0, 0)), Ent.obj bo (.cells #[v] 37 (0, 0)), Ent.row 5 1 v k xs]) (H := (H)) f_8 p0 (by kernel_rfl) (by kernel_rfl) rfl rfl (fun _ => by kernel_rfl) (ih (n / 10) (by omega) (by omega) v k xs hk) (fun v_1 M_1 E_1 w_1 hM_1 p_1 q_1 a_5 f_9 => ?_)
    obtain ⟨rfl, v2, rfl⟩ := q_1
    have p_2 : Hp w0 M ((Ent.obj bp (.cells #[.func (.func 20) #[] #[.pointer (some (⟨bp, 0, none⟩)), .pointer (some (⟨bo, 0, none⟩))]] 38 (0, 0))) :: (Ent.obj bo (.cells #[v2] 37 (0, 0))) :: (Ent.row 5 1 v2 (k + (digs (n / 10)).length) (xs ++ byteCs (digs (n / 10)))) :: H) w_1 := p_1.less hM_1
    refine W_end rfl ?_
    refine T_n ?_
    refine R_reg ?_
    refine W_eq f_9 (by kernel_rfl) (by kernel_rfl) rfl rfl (X_load1 (v := v2) rfl (ad := ⟨bo, 0, none⟩) (by kernel_rfl) (by kernel_rfl) (p_2.ownCell 1 rfl 0)) (fun a_6 f_10 => ?_)
    refine W_run (L' := [(2, .pointer (some (⟨bo, 0, none⟩))), (10, v2), (11, .int .i64 (n : Int))]) (w' := w_1) f_10 1 [2, 10, 11] (by kernel_rfl) (fun a_7 f_11 => ?_)
    refine W_run (L' := [(2, .pointer (some (⟨bo, 0, none⟩))), (10, v2), (11, .int .i64 (n : Int)), (12, .int .i64 ((n : Int).tmod 10))]) (w' := w_1) f_11 1 [2, 10, 11, 12] (by kernel_rfl) (fun a_8 f_12 => ?_)
    have f_13 := Frm.set f_12 12 (v := .int .i64 ((n : Int).tmod 10)) (v' := .int .i64 ((n : Int) % 10)) (by kernel_rfl) (congrArg (Value.int .i64) (rem_nn (by omega)))
    have f_14 : Frm 17 [(2, .pointer (some (⟨bo, 0, none⟩))), (10, v2), (11, .int .i64 (n : Int)), (12, .int .i64 ((n : Int) % 10))] a_8 := f_13.keep (ks := [2, 10, 11, 12]) (by kernel_rfl)
    refine W_run (L' := [(2, .pointer (some (⟨bo, 0, none⟩))), (10, v2), (11, .int .i64 (n : Int)), (12, .int .i64 ((n : Int) % 10)), (13, .int .i64 (IntKind.wrap .i64 ((48 : Int) + ((n : Int) % 10))))]) (w' := w_1) f_14 1 [2, 10, 11, 12, 13] (by kernel_rfl) (fun a_9 f_15 => ?_)
    have f_16 := Frm.set f_15 13 (v := .int .i64 (IntKind.wrap .i64 ((48 : Int) + ((n : Int) % 10)))) (v' := .int .i64 ((48 : Int) + ((n : Int) % 10))) (by kernel_rfl) (congrArg (Value.int .i64) (IntWalk.i64_in _ (by omega)))
    have f_17 : Frm 17 [(2, .pointer (some (⟨bo, 0, none⟩))), (10, v2), (11, .int .i64 (n : Int)), (12, .int .i64 ((n : Int) % 10)), (13, .int .i64 ((48 : Int) + ((n : Int) % 10)))] a_9 := f_16.keep (ks := [2, 10, 11, 12, 13]) (by kernel_rfl)
    refine W_run (L' := [(2, .pointer (some (⟨bo, 0, none⟩))), (10, v2), (11, .int .i64 (n : Int)), (12, .int .i64 ((n : Int) % 10)), (13, .int .i64 ((48 : Int) + ((n : Int) % 10))), (14, .int .u8 (IntKind.wrap .u8 ((48 : Int) + ((n : Int) % 10))))]) (w' := w_1) f_17 1 [2, 10, 11, 12, 13, 14] (by kernel_rfl) (fun a_10 f_18 => ?_)
    have f_19 := Frm.set f_18 14 (v := .int .u8 (IntKind.wrap .u8 ((48 : Int) + ((n : Int) % 10)))) (v' := .int .u8 (((48 : Int) + ((n : Int) % 10)) % 256)) (by kernel_rfl) (congrArg (Value.int .u8) (IntKind.wrap_u8 _))
    have f_20 : Frm 17 [(2, .pointer (some (⟨bo, 0, none⟩))), (10, v2), (11, .int .i64 (n : Int)), (12, .int .i64 ((n : Int) % 10)), (13, .int .i64 ((48 : Int) + ((n : Int) % 10))), (14, .int .u8 (((48 : Int) + ((n : Int) % 10)) % 256))] a_10 := f_19.keep (ks := [2, 10, 11, 12, 13, 14]) (by kernel_rfl)
    have f_21 := Frm.set f_20 14 (v := .int .u8 (((48 : Int) + ((n : Int) % 10)) % 256)) (v' := .int .u8 ((dch n).toNat : Int)) (by kernel_rfl) (congrArg (Value.int .u8) (dch_int n))
    have f_22 : Frm 17 [(2, .pointer (some (⟨bo, 0, none⟩))), (10, v2), (11, .int .i64 (n : Int)), (12, .int .i64 ((n : Int) % 10)), (13, .int .i64 ((48 : Int) + ((n : Int) % 10))), (14, .int .u8 ((dch n).toNat : Int))] a_10 := f_21.keep (ks := [2, 10, 11, 12, 13, 14]) (by kernel_rfl)
    refine W_alloc f_22 p_2 1 [2, 10, 11, 12, 13, 14, 15] (.cells #[.int .u8 ((dch n).toNat : Int)] 5 (0, 0)) (fun b_1 => [(2, .pointer (some (⟨bo, 0, none⟩))), (10, v2), (11, .int .i64 (n : Int)), (12, .int .i64 ((n : Int) % 10)), (13, .int .i64 ((48 : Int) + ((n : Int) % 10))), (14, .int .u8 ((dch n).toNat : Int)), (15, .slice (some ⟨b_1, 0, none⟩) 1 1)]) (fun _ => by kernel_rfl) (fun b_1 w_2 p_3 a_11 f_23 => ?_)
    replace f_23 : Frm 17 [(2, .pointer (some (⟨bo, 0, none⟩))), (10, v2), (11, .int .i64 (n : Int)), (12, .int .i64 ((n : Int) % 10)), (13, .int .i64 ((48 : Int) + ((n : Int) % 10))), (14, .int .u8 ((dch n).toNat : Int)), (15, .slice (some ⟨b_1, 0, none⟩) 1 1)] a_11 := f_23
    have p_4 : Hp w0 M ((Ent.row 5 1 v2 (k + (digs (n / 10)).length) (xs ++ byteCs (digs (n / 10)))) :: (Ent.obj b_1 (.cells #[.int .u8 ((dch n).toNat : Int)] 5 (0, 0))) :: (Ent.obj bp (.cells #[.func (.func 20) #[] #[.pointer (some (⟨bp, 0, none⟩)), .pointer (some (⟨bo, 0, none⟩))]] 38 (0, 0))) :: (Ent.obj bo (.cells #[v2] 37 (0, 0))) :: H) w_2 := p_3.pull 3 rfl rfl
    refine W_append (d := 16) (t := 37) (e := 5) (z := .int .u8 0) (v := v2) (size := 1) (bytes := 1) (k := k + (digs (n / 10)).length) (m := 1) (c := 1) (xs := xs ++ byteCs (digs (n / 10))) (news := [.int .u8 ((dch n).toNat : Int)]) (ad := ⟨b_1, 0, none⟩) f_23 p_4 (by kernel_rfl) (by kernel_rfl) rfl rfl rfl (by kernel_rfl) (by kernel_rfl) (by kernel_rfl) (by kernel_rfl) (rfl) (own_cells (p_4.ownCell 1 rfl) 0 rfl) (all_one (by kernel_rfl)) (by omega) (by omega) (fun v_2 w_3 p_5 a_12 f_24 => ?_)
    have p_6 : Hp w0 M ((Ent.obj b_1 (.cells #[.int .u8 ((dch n).toNat : Int)] 5 (0, 0))) :: (Ent.row 5 1 v_2 ((k + (digs (n / 10)).length) + 1) ((xs ++ byteCs (digs (n / 10))) ++ [.int .u8 ((dch n).toNat : Int)])) :: (Ent.obj bp (.cells #[.func (.func 20) #[] #[.pointer (some (⟨bp, 0, none⟩)), .pointer (some (⟨bo, 0, none⟩))]] 38 (0, 0))) :: (Ent.obj bo (.cells #[v2] 37 (0, 0))) :: H) w_3 := p_5.pull 1 rfl rfl
    have p_7 := p_6.drop
    refine W_store1 f_24 p_7 2 (by kernel_rfl) (by kernel_rfl) rfl rfl (b := bo) (j := 0) (v := v_2) (by kernel_rfl) (by kernel_rfl) (row_one (p_7.rowAt 0 rfl)) (by kernel_rfl) (by exact rfl) (by simp) (by simp) ((Ent.row 5 1 v_2 ((k + (digs (n / 10)).length) + 1) ((xs ++ byteCs (digs (n / 10))) ++ [.int .u8 ((dch n).toNat : Int)])) :: (Ent.obj bp (.cells #[.func (.func 20) #[] #[.pointer (some (⟨bp, 0, none⟩)), .pointer (some (⟨bo, 0, none⟩))]] 38 (0, 0))) :: (Ent.obj bo (.cells #[v_2] 37 (0, 0))) :: H) rfl (fun w_4 p_8 a_13 f_25 => ?_)
    refine W_end rfl ?_
    refine E_end0 f_25 rfl  ?_
    have p_9 : Hp w0 M ((Ent.row 5 1 v_2 (k + (digs n).length) (xs ++ byteCs (digs n))) :: (Ent.obj bp (.cells #[.func (.func 20) #[] #[.pointer (some (⟨bp, 0, none⟩)), .pointer (some (⟨bo, 0, none⟩))]] 38 (0, 0))) :: (Ent.obj bo (.cells #[v_2] 37 (0, 0))) :: H) w_4 := p_8.rowEq (by rw [digs_ge (n := n) (by omega)]; simp; omega) (by rw [digs_ge (n := n) (by omega), byteCs_append, List.append_assoc]; rfl)
    have p_10 : Hp w0 M ((Ent.obj bo (.cells #[v_2] 37 (0, 0))) :: (Ent.row 5 1 v_2 (k + (digs n).length) (xs ++ byteCs (digs n))) :: (Ent.obj bp (.cells #[.func (.func 20) #[] #[.pointer (some (⟨bp, 0, none⟩)), .pointer (some (⟨bo, 0, none⟩))]] 38 (0, 0))) :: H) w_4 := p_9.pull 2 rfl rfl
    have p_11 : Hp w0 M ((Ent.obj bp (.cells #[.func (.func 20) #[] #[.pointer (some (⟨bp, 0, none⟩)), .pointer (some (⟨bo, 0, none⟩))]] 38 (0, 0))) :: (Ent.obj bo (.cells #[v_2] 37 (0, 0))) :: (Ent.row 5 1 v_2 (k + (digs n).length) (xs ++ byteCs (digs n))) :: H) w_4 := p_10.pull 2 rfl rfl
    exact ⟨_, rfl, M, [Ent.obj bp (.cells #[.func (.func 20) #[] #[.pointer (some (⟨bp, 0, none⟩)), .pointer (some (⟨bo, 0, none⟩))]] 38 (0, 0)), Ent.obj bo (.cells #[v_2] 37 (0, 0)), Ent.row 5 1 v_2 (k + (digs n).length) (xs ++ byteCs (digs n))], Mem.le_refl _, p_11, rfl, v_2, rfl⟩
  · have k_2 : ¬ ((9 : Int) < (n : Int)) := iff_f decide_eq_true_iff h_1
    refine wp_skip ?_
    refine T_n ?_
    refine R_reg ?_
    refine W_eq f_1 (by kernel_rfl) (by kernel_rfl) rfl rfl (X_load1 (v := v) rfl (ad := ⟨bo, 0, none⟩) (by kernel_rfl) (by kernel_rfl) (p0.ownCell 1 rfl 0)) (fun a_14 f_26 => ?_)
    refine W_run (L' := [(2, .pointer (some (⟨bo, 0, none⟩))), (10, v), (11, .int .i64 (n : Int))]) (w' := w) f_26 1 [2, 10, 11] (by kernel_rfl) (fun a_15 f_27 => ?_)
    refine W_run (L' := [(2, .pointer (some (⟨bo, 0, none⟩))), (10, v), (11, .int .i64 (n : Int)), (12, .int .i64 ((n : Int).tmod 10))]) (w' := w) f_27 1 [2, 10, 11, 12] (by kernel_rfl) (fun a_16 f_28 => ?_)
    have f_29 := Frm.set f_28 12 (v := .int .i64 ((n : Int).tmod 10)) (v' := .int .i64 ((n : Int) % 10)) (by kernel_rfl) (congrArg (Value.int .i64) (rem_nn (by omega)))
    have f_30 : Frm 17 [(2, .pointer (some (⟨bo, 0, none⟩))), (10, v), (11, .int .i64 (n : Int)), (12, .int .i64 ((n : Int) % 10))] a_16 := f_29.keep (ks := [2, 10, 11, 12]) (by kernel_rfl)
    refine W_run (L' := [(2, .pointer (some (⟨bo, 0, none⟩))), (10, v), (11, .int .i64 (n : Int)), (12, .int .i64 ((n : Int) % 10)), (13, .int .i64 (IntKind.wrap .i64 ((48 : Int) + ((n : Int) % 10))))]) (w' := w) f_30 1 [2, 10, 11, 12, 13] (by kernel_rfl) (fun a_17 f_31 => ?_)
    have f_32 := Frm.set f_31 13 (v := .int .i64 (IntKind.wrap .i64 ((48 : Int) + ((n : Int) % 10)))) (v' := .int .i64 ((48 : Int) + ((n : Int) % 10))) (by kernel_rfl) (congrArg (Value.int .i64) (IntWalk.i64_in _ (by omega)))
    have f_33 : Frm 17 [(2, .pointer (some (⟨bo, 0, none⟩))), (10, v), (11, .int .i64 (n : Int)), (12, .int .i64 ((n : Int) % 10)), (13, .int .i64 ((48 : Int) + ((n : Int) % 10)))] a_17 := f_32.keep (ks := [2, 10, 11, 12, 13]) (by kernel_rfl)
    refine W_run (L' := [(2, .pointer (some (⟨bo, 0, none⟩))), (10, v), (11, .int .i64 (n : Int)), (12, .int .i64 ((n : Int) % 10)), (13, .int .i64 ((48 : Int) + ((n : Int) % 10))), (14, .int .u8 (IntKind.wrap .u8 ((48 : Int) + ((n : Int) % 10))))]) (w' := w) f_33 1 [2, 10, 11, 12, 13, 14] (by kernel_rfl) (fun a_18 f_34 => ?_)
    have f_35 := Frm.set f_34 14 (v := .int .u8 (IntKind.wrap .u8 ((48 : Int) + ((n : Int) % 10)))) (v' := .int .u8 (((48 : Int) + ((n : Int) % 10)) % 256)) (by kernel_rfl) (congrArg (Value.int .u8) (IntKind.wrap_u8 _))
    have f_36 : Frm 17 [(2, .pointer (some (⟨bo, 0, none⟩))), (10, v), (11, .int .i64 (n : Int)), (12, .int .i64 ((n : Int) % 10)), (13, .int .i64 ((48 : Int) + ((n : Int) % 10))), (14, .int .u8 (((48 : Int) + ((n : Int) % 10)) % 256))] a_18 := f_35.keep (ks := [2, 10, 11, 12, 13, 14]) (by kernel_rfl)
    have f_37 := Frm.set f_36 14 (v := .int .u8 (((48 : Int) + ((n : Int) % 10)) % 256)) (v' := .int .u8 ((dch n).toNat : Int)) (by kernel_rfl) (congrArg (Value.int .u8) (dch_int n))
    have f_38 : Frm 17 [(2, .pointer (some (⟨bo, 0, none⟩))), (10, v), (11, .int .i64 (n : Int)), (12, .int .i64 ((n : Int) % 10)), (13, .int .i64 ((48 : Int) + ((n : Int) % 10))), (14, .int .u8 ((dch n).toNat : Int))] a_18 := f_37.keep (ks := [2, 10, 11, 12, 13, 14]) (by kernel_rfl)
    refine W_alloc f_38 p0 1 [2, 10, 11, 12, 13, 14, 15] (.cells #[.int .u8 ((dch n).toNat : Int)] 5 (0, 0)) (fun b_2 => [(2, .pointer (some (⟨bo, 0, none⟩))), (10, v), (11, .int .i64 (n : Int)), (12, .int .i64 ((n : Int) % 10)), (13, .int .i64 ((48 : Int) + ((n : Int) % 10))), (14, .int .u8 ((dch n).toNat : Int)), (15, .slice (some ⟨b_2, 0, none⟩) 1 1)]) (fun _ => by kernel_rfl) (fun b_2 w_5 p_12 a_19 f_39 => ?_)
    replace f_39 : Frm 17 [(2, .pointer (some (⟨bo, 0, none⟩))), (10, v), (11, .int .i64 (n : Int)), (12, .int .i64 ((n : Int) % 10)), (13, .int .i64 ((48 : Int) + ((n : Int) % 10))), (14, .int .u8 ((dch n).toNat : Int)), (15, .slice (some ⟨b_2, 0, none⟩) 1 1)] a_19 := f_39
    have p_13 : Hp w0 M ((Ent.row 5 1 v k xs) :: (Ent.obj b_2 (.cells #[.int .u8 ((dch n).toNat : Int)] 5 (0, 0))) :: (Ent.obj bp (.cells #[.func (.func 20) #[] #[.pointer (some (⟨bp, 0, none⟩)), .pointer (some (⟨bo, 0, none⟩))]] 38 (0, 0))) :: (Ent.obj bo (.cells #[v] 37 (0, 0))) :: H) w_5 := p_12.pull 3 rfl rfl
    refine W_append (d := 16) (t := 37) (e := 5) (z := .int .u8 0) (v := v) (size := 1) (bytes := 1) (k := k) (m := 1) (c := 1) (xs := xs) (news := [.int .u8 ((dch n).toNat : Int)]) (ad := ⟨b_2, 0, none⟩) f_39 p_13 (by kernel_rfl) (by kernel_rfl) rfl rfl rfl (by kernel_rfl) (by kernel_rfl) (by kernel_rfl) (by kernel_rfl) (rfl) (own_cells (p_13.ownCell 1 rfl) 0 rfl) (all_one (by kernel_rfl)) (by omega) (by omega) (fun v_3 w_6 p_14 a_20 f_40 => ?_)
    have p_15 : Hp w0 M ((Ent.obj b_2 (.cells #[.int .u8 ((dch n).toNat : Int)] 5 (0, 0))) :: (Ent.row 5 1 v_3 (k + 1) (xs ++ [.int .u8 ((dch n).toNat : Int)])) :: (Ent.obj bp (.cells #[.func (.func 20) #[] #[.pointer (some (⟨bp, 0, none⟩)), .pointer (some (⟨bo, 0, none⟩))]] 38 (0, 0))) :: (Ent.obj bo (.cells #[v] 37 (0, 0))) :: H) w_6 := p_14.pull 1 rfl rfl
    have p_16 := p_15.drop
    refine W_store1 f_40 p_16 2 (by kernel_rfl) (by kernel_rfl) rfl rfl (b := bo) (j := 0) (v := v_3) (by kernel_rfl) (by kernel_rfl) (row_one (p_16.rowAt 0 rfl)) (by kernel_rfl) (by exact rfl) (by simp) (by simp) ((Ent.row 5 1 v_3 (k + 1) (xs ++ [.int .u8 ((dch n).toNat : Int)])) :: (Ent.obj bp (.cells #[.func (.func 20) #[] #[.pointer (some (⟨bp, 0, none⟩)), .pointer (some (⟨bo, 0, none⟩))]] 38 (0, 0))) :: (Ent.obj bo (.cells #[v_3] 37 (0, 0))) :: H) rfl (fun w_7 p_17 a_21 f_41 => ?_)
    refine W_end rfl ?_
    refine E_end0 f_41 rfl  ?_
    have p_18 : Hp w0 M ((Ent.row 5 1 v_3 (k + (digs n).length) (xs ++ byteCs (digs n))) :: (Ent.obj bp (.cells #[.func (.func 20) #[] #[.pointer (some (⟨bp, 0, none⟩)), .pointer (some (⟨bo, 0, none⟩))]] 38 (0, 0))) :: (Ent.obj bo (.cells #[v_3] 37 (0, 0))) :: H) w_7 := p_17.rowEq (by rw [digs_lt (n := n) (by omega)]; rfl) (by rw [digs_lt (n := n) (by omega)]; rfl)
    have p_19 : Hp w0 M ((Ent.obj bo (.cells #[v_3] 37 (0, 0))) :: (Ent.row 5 1 v_3 (k + (digs n).length) (xs ++ byteCs (digs n))) :: (Ent.obj bp (.cells #[.func (.func 20) #[] #[.pointer (some (⟨bp, 0, none⟩)), .pointer (some (⟨bo, 0, none⟩))]] 38 (0, 0))) :: H) w_7 := p_18.pull 2 rfl rfl
    have p_20 : Hp w0 M ((Ent.obj bp (.cells #[.func (.func 20) #[] #[.pointer (some (⟨bp, 0, none⟩)), .pointer (some (⟨bo, 0, none⟩))]] 38 (0, 0))) :: (Ent.obj bo (.cells #[v_3] 37 (0, 0))) :: (Ent.row 5 1 v_3 (k + (digs n).length) (xs ++ byteCs (digs n))) :: H) w_7 := p_19.pull 2 rfl rfl
    exact ⟨_, rfl, M, [Ent.obj bp (.cells #[.func (.func 20) #[] #[.pointer (some (⟨bp, 0, none⟩)), .pointer (some (⟨bo, 0, none⟩))]] 38 (0, 0)), Ent.obj bo (.cells #[v_3] 37 (0, 0)), Ent.row 5 1 v_3 (k + (digs n).length) (xs ++ byteCs (digs n))], Mem.le_refl _, p_20, rfl, v_3, rfl⟩

theorem textP_ok (M : Mem) (n : Int) : Ok Try.prog M 12 [.int .i64 n] (fun _ v => v = .tuple #[S (text n).1, .int .i64 (text n).2]) := by
  intro w0 H w p0
  refine R_enter 25 Try.func12 rfl rfl (by simp) (fun a0 f0 => ?_)
  replace f0 : Frm 25 [(0, .int .i64 n)] a0 := f0
  refine R_seq ?_
  refine R_reg ?_
  refine W_run (L' := [(0, .int .i64 n)]) (w' := w) f0 2 [0] (by kernel_rfl) (fun a_1 f_1 => ?_)
  refine W_end rfl ?_
  refine T_n ?_
  refine R_seq ?_
  refine R_seq ?_
  refine R_reg ?_
  refine W_run (L' := [(0, .int .i64 n), (6, .int .i64 n)]) (w' := w) f_1 1 [0, 6] (by kernel_rfl) (fun a_2 f_2 => ?_)
  refine W_okv (v := .bool (fitsB n)) f_2 p0 (by kernel_rfl) (by kernel_rfl) rfl rfl (fun _ => by kernel_rfl) (fits_ok _ (n)) (fun w_1 p_1 a_3 f_3 => ?_)
  refine W_run (L' := [(0, .int .i64 n), (8, .bool (!(fitsB n)))]) (w' := w_1) f_3 1 [0, 8] (by kernel_rfl) (fun a_4 f_4 => ?_)
  refine W_end rfl ?_
  refine T_n ?_
  refine R_cond f_4 (b := !(fitsB n)) (by kernel_rfl) (by kernel_rfl) (fun h_1 => ?_) (fun h_1 => ?_)
  · have k_1 : (fitsB n) = false := by simpa using h_1
    refine R_seq ?_
    refine R_reg ?_
    refine W_run (L' := [(2, S []), (3, .int .i64 20)]) (w' := w_1) f_4 2 [2, 3] (by kernel_rfl) (fun a_5 f_5 => ?_)
    refine W_end rfl ?_
    refine T_n ?_
    refine wp_ret ?_
    refine T_r ?_
    refine E_ret2 f_5 rfl (by kernel_rfl : Vc.look _ 2 = some (S [])) (by kernel_rfl : Vc.look _ 3 = some (.int .i64 20)) ?_
    refine ⟨_, rfl, M, (Mem.le_refl _), (p_1.dropN 0), ?_⟩
    rw [text_no k_1]
  · have k_2 : (fitsB n) = true := by simpa using h_1
    refine wp_skip ?_
    refine T_n ?_
    refine R_seq ?_
    have hfit := k_2
    have hfit2 := fitsB_iff.1 hfit
    refine R_reg ?_
    refine W_alloc f_4 p_1 1 [0, 4, 8] (.cells #[.slice none 0 0] 37 (0, 0)) (fun b_1 => [(0, .int .i64 n), (4, .pointer (some (⟨b_1, 0, none⟩))), (8, .bool (!(fitsB n)))]) (fun _ => by kernel_rfl) (fun b_1 w_2 p_2 a_6 f_6 => ?_)
    replace f_6 : Frm 25 [(0, .int .i64 n), (4, .pointer (some (⟨b_1, 0, none⟩))), (8, .bool (!(fitsB n)))] a_6 := f_6
    refine W_end rfl ?_
    refine T_n ?_
    refine R_seq ?_
    refine R_reg ?_
    refine W_alloc f_6 p_2 1 [0, 4, 5, 8] (.cells #[.nilFunc] 38 (0, 0)) (fun b_2 => [(0, .int .i64 n), (4, .pointer (some (⟨b_1, 0, none⟩))), (5, .pointer (some (⟨b_2, 0, none⟩))), (8, .bool (!(fitsB n)))]) (fun _ => by kernel_rfl) (fun b_2 w_3 p_3 a_7 f_7 => ?_)
    replace f_7 : Frm 25 [(0, .int .i64 n), (4, .pointer (some (⟨b_1, 0, none⟩))), (5, .pointer (some (⟨b_2, 0, none⟩))), (8, .bool (!(fitsB n)))] a_7 := f_7
    refine W_end rfl ?_
    refine T_n ?_
    refine R_seq ?_
    refine R_reg ?_
    refine W_run (L' := [(0, .int .i64 n), (4, .pointer (some (⟨b_1, 0, none⟩))), (5, .pointer (some (⟨b_2, 0, none⟩))), (9, .func (.func 20) #[] #[.pointer (some (⟨b_2, 0, none⟩)), .pointer (some (⟨b_1, 0, none⟩))])]) (w' := w_3) f_7 1 [0, 4, 5, 9] (by kernel_rfl) (fun a_8 f_8 => ?_)
    refine W_store1 f_8 p_3 0 (by kernel_rfl) (by kernel_rfl) rfl rfl (b := b_2) (j := 0) (v := .func (.func 20) #[] #[.pointer (some (⟨b_2, 0, none⟩)), .pointer (some (⟨b_1, 0, none⟩))]) (by kernel_rfl) (by kernel_rfl) rfl (by kernel_rfl) (by exact rfl) (by simp) (by simp) ((Ent.obj b_2 (.cells #[.func (.func 20) #[] #[.pointer (some (⟨b_2, 0, none⟩)), .pointer (some (⟨b_1, 0, none⟩))]] 38 (0, 0))) :: (Ent.obj b_1 (.cells #[.slice none 0 0] 37 (0, 0))) :: H) rfl (fun w_4 p_4 a_9 f_9 => ?_)
    refine W_end rfl ?_
    refine T_n ?_
    refine R_seq ?_
    refine wp_block ?_
    refine R_seq ?_
    refine R_reg ?_
    refine W_run (L' := [(0, .int .i64 n), (4, .pointer (some (⟨b_1, 0, none⟩))), (5, .pointer (some (⟨b_2, 0, none⟩))), (14, .int .i64 n)]) (w' := w_4) f_9 1 [0, 4, 5, 14] (by kernel_rfl) (fun a_10 f_10 => ?_)
    have p_5 := p_4.nilRow 5 1
    refine W_run (L' := [(0, .int .i64 n), (4, .pointer (some (⟨b_1, 0, none⟩))), (5, .pointer (some (⟨b_2, 0, none⟩))), (13, .bool (decide (n < 0)))]) (w' := w_4) f_10 2 [0, 4, 5, 13] (by kernel_rfl) (fun a_11 f_11 => ?_)
    refine W_end rfl ?_
    refine T_n ?_
    refine R_cond f_11 (b := decide (n < 0)) (by kernel_rfl) (by kernel_rfl) (fun h_2 => ?_) (fun h_2 => ?_)
    · have k_3 : n < 0 := decide_eq_true_iff.1 h_2
      refine R_seq ?_
      refine R_reg ?_
      refine W_eq f_11 (by kernel_rfl) (by kernel_rfl) rfl rfl (X_load1 (v := .slice none 0 0) rfl (ad := ⟨b_1, 0, none⟩) (by kernel_rfl) (by kernel_rfl) (p_5.ownCell 2 rfl 0)) (fun a_12 f_12 => ?_)
      refine W_alloc f_12 p_5 1 [0, 4, 5, 13, 16, 17] (.cells #[.int .u8 45] 5 (0, 0)) (fun b_3 => [(0, .int .i64 n), (4, .pointer (some (⟨b_1, 0, none⟩))), (5, .pointer (some (⟨b_2, 0, none⟩))), (13, .bool (decide (n < 0))), (16, .slice none 0 0), (17, .slice (some ⟨b_3, 0, none⟩) 1 1)]) (fun _ => by kernel_rfl) (fun b_3 w_5 p_6 a_13 f_13 => ?_)
      replace f_13 : Frm 25 [(0, .int .i64 n), (4, .pointer (some (⟨b_1, 0, none⟩))), (5, .pointer (some (⟨b_2, 0, none⟩))), (13, .bool (decide (n < 0))), (16, .slice none 0 0), (17, .slice (some ⟨b_3, 0, none⟩) 1 1)] a_13 := f_13
      have p_7 : Hp w0 M ((Ent.row 5 1 (.slice none 0 0) 0 []) :: (Ent.obj b_3 (.cells #[.int .u8 45] 5 (0, 0))) :: (Ent.obj b_2 (.cells #[.func (.func 20) #[] #[.pointer (some (⟨b_2, 0, none⟩)), .pointer (some (⟨b_1, 0, none⟩))]] 38 (0, 0))) :: (Ent.obj b_1 (.cells #[.slice none 0 0] 37 (0, 0))) :: H) w_5 := p_6.pull 1 rfl rfl
      refine W_append (d := 18) (t := 37) (e := 5) (z := .int .u8 0) (v := .slice none 0 0) (size := 1) (bytes := 1) (k := 0) (m := 1) (c := 1) (xs := []) (news := [.int .u8 45]) (ad := ⟨b_3, 0, none⟩) f_13 p_7 (by kernel_rfl) (by kernel_rfl) rfl rfl rfl (by kernel_rfl) (by kernel_rfl) (by kernel_rfl) (by kernel_rfl) (rfl) (own_cells (p_7.ownCell 1 rfl) 0 rfl) (all_one (by kernel_rfl)) (by omega) (by omega) (fun v_1 w_6 p_8 a_14 f_14 => ?_)
      have p_9 : Hp w0 M ((Ent.obj b_3 (.cells #[.int .u8 45] 5 (0, 0))) :: (Ent.row 5 1 v_1 (0 + 1) ([] ++ [.int .u8 45])) :: (Ent.obj b_2 (.cells #[.func (.func 20) #[] #[.pointer (some (⟨b_2, 0, none⟩)), .pointer (some (⟨b_1, 0, none⟩))]] 38 (0, 0))) :: (Ent.obj b_1 (.cells #[.slice none 0 0] 37 (0, 0))) :: H) w_6 := p_8.pull 1 rfl rfl
      have p_10 := p_9.drop
      refine W_store1 f_14 p_10 2 (by kernel_rfl) (by kernel_rfl) rfl rfl (b := b_1) (j := 0) (v := v_1) (by kernel_rfl) (by kernel_rfl) (row_one (p_10.rowAt 0 rfl)) (by kernel_rfl) (by exact rfl) (by simp) (by simp) ((Ent.row 5 1 v_1 (0 + 1) ([] ++ [.int .u8 45])) :: (Ent.obj b_2 (.cells #[.func (.func 20) #[] #[.pointer (some (⟨b_2, 0, none⟩)), .pointer (some (⟨b_1, 0, none⟩))]] 38 (0, 0))) :: (Ent.obj b_1 (.cells #[v_1] 37 (0, 0))) :: H) rfl (fun w_7 p_11 a_15 f_15 => ?_)
      refine W_end rfl ?_
      refine T_n ?_
      refine R_reg ?_
      refine W_eq f_15 (by kernel_rfl) (by kernel_rfl) rfl rfl (X_load1 (v := .func (.func 20) #[] #[.pointer (some (⟨b_2, 0, none⟩)), .pointer (some (⟨b_1, 0, none⟩))]) rfl (ad := ⟨b_2, 0, none⟩) (by kernel_rfl) (by kernel_rfl) (p_11.ownCell 1 rfl 0)) (fun a_16 f_16 => ?_)
      refine W_run (L' := [(4, .pointer (some (⟨b_1, 0, none⟩))), (19, .func (.func 20) #[] #[.pointer (some (⟨b_2, 0, none⟩)), .pointer (some (⟨b_1, 0, none⟩))]), (20, .int .i64 n)]) (w' := w_7) f_16 1 [4, 19, 20] (by kernel_rfl) (fun a_17 f_17 => ?_)
      refine W_run (L' := [(4, .pointer (some (⟨b_1, 0, none⟩))), (19, .func (.func 20) #[] #[.pointer (some (⟨b_2, 0, none⟩)), .pointer (some (⟨b_1, 0, none⟩))]), (20, .int .i64 n), (21, .int .i64 (IntKind.wrap .i64 (0 - n)))]) (w' := w_7) f_17 1 [4, 19, 20, 21] (by kernel_rfl) (fun a_18 f_18 => ?_)
      have f_19 := Frm.set f_18 21 (v := .int .i64 (IntKind.wrap .i64 (0 - n))) (v' := .int .i64 (-n)) (by kernel_rfl) (congrArg (Value.int .i64) ((IntWalk.i64_in _ (by omega)).trans (Int.zero_sub _)))
      have f_20 : Frm 25 [(4, .pointer (some (⟨b_1, 0, none⟩))), (19, .func (.func 20) #[] #[.pointer (some (⟨b_2, 0, none⟩)), .pointer (some (⟨b_1, 0, none⟩))]), (20, .int .i64 n), (21, .int .i64 (-n))] a_18 := f_19.keep (ks := [4, 19, 20, 21]) (by kernel_rfl)
      have f_21 := Frm.set f_20 21 (v := .int .i64 (-n)) (v' := .int .i64 ((-n).toNat : Int)) (by kernel_rfl) (congrArg (Value.int .i64) (by omega))
      have f_22 : Frm 25 [(4, .pointer (some (⟨b_1, 0, none⟩))), (19, .func (.func 20) #[] #[.pointer (some (⟨b_2, 0, none⟩)), .pointer (some (⟨b_1, 0, none⟩))]), (20, .int .i64 n), (21, .int .i64 ((-n).toNat : Int))] a_18 := f_21.keep (ks := [4, 19, 20, 21]) (by kernel_rfl)
      have p_12 : Hp w0 M ((Ent.obj b_1 (.cells #[v_1] 37 (0, 0))) :: (Ent.row 5 1 v_1 (0 + 1) ([] ++ [.int .u8 45])) :: (Ent.obj b_2 (.cells #[.func (.func 20) #[] #[.pointer (some (⟨b_2, 0, none⟩)), .pointer (some (⟨b_1, 0, none⟩))]] 38 (0, 0))) :: H) w_7 := p_11.pull 2 rfl rfl
      have p_13 : Hp w0 M ((Ent.obj b_2 (.cells #[.func (.func 20) #[] #[.pointer (some (⟨b_2, 0, none⟩)), .pointer (some (⟨b_1, 0, none⟩))]] 38 (0, 0))) :: (Ent.obj b_1 (.cells #[v_1] 37 (0, 0))) :: (Ent.row 5 1 v_1 (0 + 1) ([] ++ [.int .u8 45])) :: H) w_7 := p_12.pull 2 rfl rfl
      refine W_okH (E := [Ent.obj b_2 (.cells #[.func (.func 20) #[] #[.pointer (some (⟨b_2, 0, none⟩)), .pointer (some (⟨b_1, 0, none⟩))]] 38 (0, 0)), Ent.obj b_1 (.cells #[v_1] 37 (0, 0)), Ent.row 5 1 v_1 (0 + 1) ([] ++ [.int .u8 45])]) (H := (H)) f_22 p_13 (by kernel_rfl) (by kernel_rfl) rfl rfl (fun _ => by kernel_rfl) (textIn_ok _ b_2 b_1 ((-n).toNat) (by omega) (v_1) (0 + 1) ([] ++ [.int .u8 45]) (by omega)) (fun v_2 M_1 E_1 w_8 hM_1 p_14 q_1 a_19 f_23 => ?_)
      obtain ⟨rfl, v3, rfl⟩ := q_1
      have p_15 : Hp w0 M ((Ent.obj b_2 (.cells #[.func (.func 20) #[] #[.pointer (some (⟨b_2, 0, none⟩)), .pointer (some (⟨b_1, 0, none⟩))]] 38 (0, 0))) :: (Ent.obj b_1 (.cells #[v3] 37 (0, 0))) :: (Ent.row 5 1 v3 ((0 + 1) + (digs (-n).toNat).length) (([] ++ [.int .u8 45]) ++ byteCs (digs (-n).toNat))) :: H) w_8 := p_14.less hM_1
      refine W_end rfl ?_
      refine B_n ?_
      refine T_n ?_
      refine R_seq ?_
      refine R_reg ?_
      refine W_eq f_23 (by kernel_rfl) (by kernel_rfl) rfl rfl (X_load1 (v := v3) rfl (ad := ⟨b_1, 0, none⟩) (by kernel_rfl) (by kernel_rfl) (p_15.ownCell 1 rfl 0)) (fun a_20 f_24 => ?_)
      have p_16 : Hp w0 M ((Ent.row 5 1 v3 ((0 + 1) + (digs (-n).toNat).length) (([] ++ [.int .u8 45]) ++ byteCs (digs (-n).toNat))) :: (Ent.obj b_2 (.cells #[.func (.func 20) #[] #[.pointer (some (⟨b_2, 0, none⟩)), .pointer (some (⟨b_1, 0, none⟩))]] 38 (0, 0))) :: (Ent.obj b_1 (.cells #[v3] 37 (0, 0))) :: H) w_8 := p_15.pull 2 rfl rfl
      have p_17 : Hp w0 M ((Ent.row 5 1 v3 (45 :: digs (-n).toNat).length (byteCs (45 :: digs (-n).toNat))) :: (Ent.obj b_2 (.cells #[.func (.func 20) #[] #[.pointer (some (⟨b_2, 0, none⟩)), .pointer (some (⟨b_1, 0, none⟩))]] 38 (0, 0))) :: (Ent.obj b_1 (.cells #[v3] 37 (0, 0))) :: H) w_8 := p_16.rowEq (by simp <;> omega) (by simp [byteCs])
      refine W_eq f_24 (by kernel_rfl) (by kernel_rfl) rfl rfl (X_string_row rfl (l := 45 :: digs (-n).toNat) (v := v3) (by kernel_rfl) (e := 5) (by kernel_rfl) (by kernel_rfl) (by kernel_rfl) (p_17.rowAt 0 rfl)) (fun a_21 f_25 => ?_)
      refine W_run (L' := [(2, S (45 :: digs (-n).toNat)), (3, .int .i64 0)]) (w' := w_8) f_25 2 [2, 3] (by kernel_rfl) (fun a_22 f_26 => ?_)
      refine W_end rfl ?_
      refine T_n ?_
      refine wp_ret ?_
      refine E_ret2 f_26 rfl (by kernel_rfl : Vc.look _ 2 = some (S (45 :: digs (-n).toNat))) (by kernel_rfl : Vc.look _ 3 = some (.int .i64 0)) ?_
      refine ⟨_, rfl, M, (Mem.le_refl _), (p_17.dropN 3), ?_⟩
      rw [text_neg hfit k_3]
    · have k_4 : ¬ (n < 0) := iff_f decide_eq_true_iff h_2
      refine R_reg ?_
      refine W_eq f_11 (by kernel_rfl) (by kernel_rfl) rfl rfl (X_load1 (v := .func (.func 20) #[] #[.pointer (some (⟨b_2, 0, none⟩)), .pointer (some (⟨b_1, 0, none⟩))]) rfl (ad := ⟨b_2, 0, none⟩) (by kernel_rfl) (by kernel_rfl) (p_5.ownCell 1 rfl 0)) (fun a_23 f_27 => ?_)
      refine W_run (L' := [(4, .pointer (some (⟨b_1, 0, none⟩))), (10, .func (.func 20) #[] #[.pointer (some (⟨b_2, 0, none⟩)), .pointer (some (⟨b_1, 0, none⟩))]), (11, .int .i64 n)]) (w' := w_4) f_27 1 [4, 10, 11] (by kernel_rfl) (fun a_24 f_28 => ?_)
      have f_29 := Frm.set f_28 11 (v := .int .i64 n) (v' := .int .i64 (n.toNat : Int)) (by kernel_rfl) (congrArg (Value.int .i64) (by omega))
      have f_30 : Frm 25 [(4, .pointer (some (⟨b_1, 0, none⟩))), (10, .func (.func 20) #[] #[.pointer (some (⟨b_2, 0, none⟩)), .pointer (some (⟨b_1, 0, none⟩))]), (11, .int .i64 (n.toNat : Int))] a_24 := f_29.keep (ks := [4, 10, 11]) (by kernel_rfl)
      have p_18 : Hp w0 M ((Ent.obj b_1 (.cells #[.slice none 0 0] 37 (0, 0))) :: (Ent.row 5 1 (.slice none 0 0) 0 []) :: (Ent.obj b_2 (.cells #[.func (.func 20) #[] #[.pointer (some (⟨b_2, 0, none⟩)), .pointer (some (⟨b_1, 0, none⟩))]] 38 (0, 0))) :: H) w_4 := p_5.pull 2 rfl rfl
      have p_19 : Hp w0 M ((Ent.obj b_2 (.cells #[.func (.func 20) #[] #[.pointer (some (⟨b_2, 0, none⟩)), .pointer (some (⟨b_1, 0, none⟩))]] 38 (0, 0))) :: (Ent.obj b_1 (.cells #[.slice none 0 0] 37 (0, 0))) :: (Ent.row 5 1 (.slice none 0 0) 0 []) :: H) w_4 := p_18.pull 2 rfl rfl
      refine W_okH (E := [Ent.obj b_2 (.cells #[.func (.func 20) #[] #[.pointer (some (⟨b_2, 0, none⟩)), .pointer (some (⟨b_1, 0, none⟩))]] 38 (0, 0)), Ent.obj b_1 (.cells #[.slice none 0 0] 37 (0, 0)), Ent.row 5 1 (.slice none 0 0) 0 []]) (H := (H)) f_30 p_19 (by kernel_rfl) (by kernel_rfl) rfl rfl (fun _ => by kernel_rfl) (textIn_ok _ b_2 b_1 (n.toNat) (by omega) (.slice none 0 0) (0) ([]) (by omega)) (fun v_3 M_2 E_2 w_9 hM_2 p_20 q_2 a_25 f_31 => ?_)
      obtain ⟨rfl, v3, rfl⟩ := q_2
      have p_21 : Hp w0 M ((Ent.obj b_2 (.cells #[.func (.func 20) #[] #[.pointer (some (⟨b_2, 0, none⟩)), .pointer (some (⟨b_1, 0, none⟩))]] 38 (0, 0))) :: (Ent.obj b_1 (.cells #[v3] 37 (0, 0))) :: (Ent.row 5 1 v3 (0 + (digs n.toNat).length) ([] ++ byteCs (digs n.toNat))) :: H) w_9 := p_20.less hM_2
      refine W_end rfl ?_
      refine B_n ?_
      refine T_n ?_
      refine R_seq ?_
      refine R_reg ?_
      refine W_eq f_31 (by kernel_rfl) (by kernel_rfl) rfl rfl (X_load1 (v := v3) rfl (ad := ⟨b_1, 0, none⟩) (by kernel_rfl) (by kernel_rfl) (p_21.ownCell 1 rfl 0)) (fun a_26 f_32 => ?_)
      have p_22 : Hp w0 M ((Ent.row 5 1 v3 (0 + (digs n.toNat).length) ([] ++ byteCs (digs n.toNat))) :: (Ent.obj b_2 (.cells #[.func (.func 20) #[] #[.pointer (some (⟨b_2, 0, none⟩)), .pointer (some (⟨b_1, 0, none⟩))]] 38 (0, 0))) :: (Ent.obj b_1 (.cells #[v3] 37 (0, 0))) :: H) w_9 := p_21.pull 2 rfl rfl
      have p_23 : Hp w0 M ((Ent.row 5 1 v3 (digs n.toNat).length (byteCs (digs n.toNat))) :: (Ent.obj b_2 (.cells #[.func (.func 20) #[] #[.pointer (some (⟨b_2, 0, none⟩)), .pointer (some (⟨b_1, 0, none⟩))]] 38 (0, 0))) :: (Ent.obj b_1 (.cells #[v3] 37 (0, 0))) :: H) w_9 := p_22.rowEq (by simp) (by simp)
      refine W_eq f_32 (by kernel_rfl) (by kernel_rfl) rfl rfl (X_string_row rfl (l := digs n.toNat) (v := v3) (by kernel_rfl) (e := 5) (by kernel_rfl) (by kernel_rfl) (by kernel_rfl) (p_23.rowAt 0 rfl)) (fun a_27 f_33 => ?_)
      refine W_run (L' := [(2, S (digs n.toNat)), (3, .int .i64 0)]) (w' := w_9) f_33 2 [2, 3] (by kernel_rfl) (fun a_28 f_34 => ?_)
      refine W_end rfl ?_
      refine T_n ?_
      refine wp_ret ?_
      refine E_ret2 f_34 rfl (by kernel_rfl : Vc.look _ 2 = some (S (digs n.toNat))) (by kernel_rfl : Vc.look _ 3 = some (.int .i64 0)) ?_
      refine ⟨_, rfl, M, (Mem.le_refl _), (p_23.dropN 3), ?_⟩
      rw [text_pos hfit k_4]

theorem digitsR_ok (M : Mem) (n : Nat) : ∀ (hn : n ≤ 9007199254740992), Ok Try.prog M 21 [.int .i64 (n : Int)] (fun _ v => v = S (digs n)) := by
  induction n using Nat.strongRecOn
  rename_i n ih
  intro hn
  have hl1 := digs_len16 (n := n / 10) (by omega)
  have hl2 := digs_len16 (n := n % 10) (by omega)
  intro w0 H w p0
  refine R_enter 17 Try.func21 rfl rfl (by simp) (fun a0 f0 => ?_)
  replace f0 : Frm 17 [(0, .int .i64 (n : Int))] a0 := f0
  refine R_seq ?_
  refine R_reg ?_
  refine W_run (L' := [(0, .int .i64 (n : Int))]) (w' := w) f0 1 [0] (by kernel_rfl) (fun a_1 f_1 => ?_)
  refine W_end rfl ?_
  refine T_n ?_
  refine R_seq ?_
  refine R_seq ?_
  refine R_reg ?_
  refine W_run (L' := [(0, .int .i64 (n : Int)), (4, .bool (decide ((n : Int) < 10)))]) (w' := w) f_1 2 [0, 4] (by kernel_rfl) (fun a_2 f_2 => ?_)
  refine W_end rfl ?_
  refine T_n ?_
  refine R_cond f_2 (b := decide ((n : Int) < 10)) (by kernel_rfl) (by kernel_rfl) (fun h_1 => ?_) (fun h_1 => ?_)
  · have k_1 : (n : Int) < 10 := decide_eq_true_iff.1 h_1
    refine R_seq ?_
    refine R_reg ?_
    refine W_run (L' := [(5, .int .i64 (n : Int))]) (w' := w) f_2 1 [5] (by kernel_rfl) (fun a_3 f_3 => ?_)
    refine W_run (L' := [(5, .int .i64 (n : Int)), (6, .int .i64 (IntKind.wrap .i64 ((48 : Int) + (n : Int))))]) (w' := w) f_3 1 [5, 6] (by kernel_rfl) (fun a_4 f_4 => ?_)
    have f_5 := Frm.set f_4 6 (v := .int .i64 (IntKind.wrap .i64 ((48 : Int) + (n : Int)))) (v' := .int .i64 ((48 : Int) + (n : Int))) (by kernel_rfl) (congrArg (Value.int .i64) (IntWalk.i64_in _ (by omega)))
    have f_6 : Frm 17 [(5, .int .i64 (n : Int)), (6, .int .i64 ((48 : Int) + (n : Int)))] a_4 := f_5.keep (ks := [5, 6]) (by kernel_rfl)
    refine W_run (L' := [(5, .int .i64 (n : Int)), (6, .int .i64 ((48 : Int) + (n : Int))), (7, .int .u8 (IntKind.wrap .u8 ((48 : Int) + (n : Int))))]) (w' := w) f_6 1 [5, 6, 7] (by kernel_rfl) (fun a_5 f_7 => ?_)
    have f_8 := Frm.set f_7 7 (v := .int .u8 (IntKind.wrap .u8 ((48 : Int) + (n : Int)))) (v' := .int .u8 (((48 : Int) + (n : Int)) % 256)) (by kernel_rfl) (congrArg (Value.int .u8) (IntKind.wrap_u8 _))
    have f_9 : Frm 17 [(5, .int .i64 (n : Int)), (6, .int .i64 ((48 : Int) + (n : Int))), (7, .int .u8 (((48 : Int) + (n : Int)) % 256))] a_5 := f_8.keep (ks := [5, 6, 7]) (by kernel_rfl)
    have f_10 := Frm.set f_9 7 (v := .int .u8 (((48 : Int) + (n : Int)) % 256)) (v' := .int .u8 ((dch n).toNat : Int)) (by kernel_rfl) (congrArg (Value.int .u8) (dch_small (by omega)))
    have f_11 : Frm 17 [(5, .int .i64 (n : Int)), (6, .int .i64 ((48 : Int) + (n : Int))), (7, .int .u8 ((dch n).toNat : Int))] a_5 := f_10.keep (ks := [5, 6, 7]) (by kernel_rfl)
    refine W_alloc f_11 p0 1 [5, 6, 7, 8] (.cells #[.int .u8 ((dch n).toNat : Int)] 5 (0, 0)) (fun b_1 => [(5, .int .i64 (n : Int)), (6, .int .i64 ((48 : Int) + (n : Int))), (7, .int .u8 ((dch n).toNat : Int)), (8, .slice (some ⟨b_1, 0, none⟩) 1 1)]) (fun _ => by kernel_rfl) (fun b_1 w_1 p_1 a_6 f_12 => ?_)
    replace f_12 : Frm 17 [(5, .int .i64 (n : Int)), (6, .int .i64 ((48 : Int) + (n : Int))), (7, .int .u8 ((dch n).toNat : Int)), (8, .slice (some ⟨b_1, 0, none⟩) 1 1)] a_6 := f_12
    refine W_eq f_12 (by kernel_rfl) (by kernel_rfl) rfl rfl (X_string rfl (l := [dch n]) (ad := ⟨b_1, 0, none⟩) (cap := 1) (by kernel_rfl) (e := 5) (by kernel_rfl) (by kernel_rfl) (by kernel_rfl) (own_cells (p_1.ownCell 0 rfl) 0 rfl)) (fun a_7 f_13 => ?_)
    refine W_run (L' := [(2, S [dch n])]) (w' := w_1) f_13 1 [2] (by kernel_rfl) (fun a_8 f_14 => ?_)
    refine W_end rfl ?_
    refine T_n ?_
    refine wp_ret ?_
    refine T_r ?_
    refine E_ret1 f_14 rfl (by kernel_rfl : Vc.look _ 2 = some (S [dch n])) ?_
    refine ⟨_, rfl, M, Mem.le_refl _, (p_1.dropN 1), ?_⟩
    rw [digs_lt (n := n) (by omega)]
  · have k_2 : ¬ ((n : Int) < 10) := iff_f decide_eq_true_iff h_1
    refine wp_skip ?_
    refine T_n ?_
    refine R_seq ?_
    refine R_reg ?_
    refine W_run (L' := [(0, .int .i64 (n : Int)), (10, .int .i64 (n : Int))]) (w' := w) f_2 1 [0, 10] (by kernel_rfl) (fun a_9 f_15 => ?_)
    refine W_run (L' := [(0, .int .i64 (n : Int)), (10, .int .i64 (n : Int)), (11, .int .i64 (IntKind.wrap .i64 ((n : Int).tdiv 10)))]) (w' := w) f_15 1 [0, 10, 11] (by kernel_rfl) (fun a_10 f_16 => ?_)
    have f_17 := Frm.set f_16 11 (v := .int .i64 (IntKind.wrap .i64 ((n : Int).tdiv 10))) (v' := .int .i64 ((n : Int) / 10)) (by kernel_rfl) (congrArg (Value.int .i64) (quo_i64 (by omega) (by decide) (by omega)))
    have f_18 : Frm 17 [(0, .int .i64 (n : Int)), (10, .int .i64 (n : Int)), (11, .int .i64 ((n : Int) / 10))] a_10 := f_17.keep (ks := [0, 10, 11]) (by kernel_rfl)
    have f_19 := Frm.set f_18 11 (v := .int .i64 ((n : Int) / 10)) (v' := .int .i64 ((n / 10 : Nat) : Int)) (by kernel_rfl) (congrArg (Value.int .i64) (by omega))
    have f_20 : Frm 17 [(0, .int .i64 (n : Int)), (10, .int .i64 (n : Int)), (11, .int .i64 ((n / 10 : Nat) : Int))] a_10 := f_19.keep (ks := [0, 10, 11]) (by kernel_rfl)
    refine W_okv (v := S (digs (n / 10))) f_20 p0 (by kernel_rfl) (by kernel_rfl) rfl rfl (fun _ => by kernel_rfl) (ih (n / 10) (by omega) (by omega)) (fun w_2 p_2 a_11 f_21 => ?_)
    refine W_run (L' := [(12, S (digs (n / 10))), (13, .int .i64 (n : Int))]) (w' := w_2) f_21 1 [12, 13] (by kernel_rfl) (fun a_12 f_22 => ?_)
    refine W_run (L' := [(12, S (digs (n / 10))), (13, .int .i64 (n : Int)), (14, .int .i64 ((n : Int).tmod 10))]) (w' := w_2) f_22 1 [12, 13, 14] (by kernel_rfl) (fun a_13 f_23 => ?_)
    have f_24 := Frm.set f_23 14 (v := .int .i64 ((n : Int).tmod 10)) (v' := .int .i64 ((n : Int) % 10)) (by kernel_rfl) (congrArg (Value.int .i64) (rem_nn (by omega)))
    have f_25 : Frm 17 [(12, S (digs (n / 10))), (13, .int .i64 (n : Int)), (14, .int .i64 ((n : Int) % 10))] a_13 := f_24.keep (ks := [12, 13, 14]) (by kernel_rfl)
    have f_26 := Frm.set f_25 14 (v := .int .i64 ((n : Int) % 10)) (v' := .int .i64 ((n % 10 : Nat) : Int)) (by kernel_rfl) (congrArg (Value.int .i64) (by omega))
    have f_27 : Frm 17 [(12, S (digs (n / 10))), (13, .int .i64 (n : Int)), (14, .int .i64 ((n % 10 : Nat) : Int))] a_13 := f_26.keep (ks := [12, 13, 14]) (by kernel_rfl)
    refine W_okv (v := S (digs (n % 10))) f_27 p_2 (by kernel_rfl) (by kernel_rfl) rfl rfl (fun _ => by kernel_rfl) (ih (n % 10) (by omega) (by omega)) (fun w_3 p_3 a_14 f_28 => ?_)
    refine W_eq f_28 (by kernel_rfl) (by kernel_rfl) rfl rfl (X_concat rfl (l := digs (n / 10)) (m := digs (n % 10)) (by kernel_rfl) (by kernel_rfl) (by first | omega | (simp only [List.length_cons, List.length_nil, List.length_append]; omega))) (fun a_15 f_29 => ?_)
    refine W_run (L' := [(2, S ((digs (n / 10)) ++ (digs (n % 10))))]) (w' := w_3) f_29 1 [2] (by kernel_rfl) (fun a_16 f_30 => ?_)
    refine W_end rfl ?_
    refine T_n ?_
    refine wp_ret ?_
    refine E_ret1 f_30 rfl (by kernel_rfl : Vc.look _ 2 = some (S ((digs (n / 10)) ++ (digs (n % 10))))) ?_
    refine ⟨_, rfl, M, Mem.le_refl _, (p_3.dropN 0), ?_⟩
    rw [digs_ge (n := n) (by omega), digs_lt (n := n % 10) (by omega), dch_mod]

theorem textR_ok (M : Mem) (n : Int) : Ok Try.prog M 13 [.int .i64 n] (fun _ v => v = .tuple #[S (text n).1, .int .i64 (text n).2]) := by
  intro w0 H w p0
  refine R_enter 15 Try.func13 rfl rfl (by simp) (fun a0 f0 => ?_)
  replace f0 : Frm 15 [(0, .int .i64 n)] a0 := f0
  refine R_seq ?_
  refine R_reg ?_
  refine W_run (L' := [(0, .int .i64 n)]) (w' := w) f0 2 [0] (by kernel_rfl) (fun a_1 f_1 => ?_)
  refine W_end rfl ?_
  refine T_n ?_
  refine R_seq ?_
  refine R_seq ?_
  refine R_reg ?_
  refine W_run (L' := [(0, .int .i64 n), (4, .int .i64 n)]) (w' := w) f_1 1 [0, 4] (by kernel_rfl) (fun a_2 f_2 => ?_)
  refine W_okv (v := .bool (fitsB n)) f_2 p0 (by kernel_rfl) (by kernel_rfl) rfl rfl (fun _ => by kernel_rfl) (fitsR_ok _ (n)) (fun w_1 p_1 a_3 f_3 => ?_)
  refine W_run (L' := [(0, .int .i64 n), (6, .bool (!(fitsB n)))]) (w' := w_1) f_3 1 [0, 6] (by kernel_rfl) (fun a_4 f_4 => ?_)
  refine W_end rfl ?_
  refine T_n ?_
  refine R_cond f_4 (b := !(fitsB n)) (by kernel_rfl) (by kernel_rfl) (fun h_1 => ?_) (fun h_1 => ?_)
  · have k_1 : (fitsB n) = false := by simpa using h_1
    refine R_seq ?_
    refine R_reg ?_
    refine W_run (L' := [(2, S []), (3, .int .i64 20)]) (w' := w_1) f_4 2 [2, 3] (by kernel_rfl) (fun a_5 f_5 => ?_)
    refine W_end rfl ?_
    refine T_n ?_
    refine wp_ret ?_
    refine T_r ?_
    refine E_ret2 f_5 rfl (by kernel_rfl : Vc.look _ 2 = some (S [])) (by kernel_rfl : Vc.look _ 3 = some (.int .i64 20)) ?_
    refine ⟨_, rfl, M, Mem.le_refl _, p_1, ?_⟩
    rw [text_no k_1]
  · have k_2 : (fitsB n) = true := by simpa using h_1
    refine wp_skip ?_
    refine T_n ?_
    refine R_seq ?_
    refine R_seq ?_
    have hfit := k_2
    have hfit2 := fitsB_iff.1 hfit
    refine R_reg ?_
    refine W_run (L' := [(0, .int .i64 n), (8, .bool (decide (n < 0)))]) (w' := w_1) f_4 2 [0, 8] (by kernel_rfl) (fun a_6 f_6 => ?_)
    refine W_end rfl ?_
    refine T_n ?_
    refine R_cond f_6 (b := decide (n < 0)) (by kernel_rfl) (by kernel_rfl) (fun h_2 => ?_) (fun h_2 => ?_)
    · have k_3 : n < 0 := decide_eq_true_iff.1 h_2
      refine R_seq ?_
      refine R_reg ?_
      refine W_run (L' := [(9, .int .i64 n)]) (w' := w_1) f_6 1 [9] (by kernel_rfl) (fun a_7 f_7 => ?_)
      refine W_run (L' := [(9, .int .i64 n), (10, .int .i64 (IntKind.wrap .i64 (0 - n)))]) (w' := w_1) f_7 1 [9, 10] (by kernel_rfl) (fun a_8 f_8 => ?_)
      have f_9 := Frm.set f_8 10 (v := .int .i64 (IntKind.wrap .i64 (0 - n))) (v' := .int .i64 (-n)) (by kernel_rfl) (congrArg (Value.int .i64) ((IntWalk.i64_in _ (by omega)).trans (Int.zero_sub _)))
      have f_10 : Frm 15 [(9, .int .i64 n), (10, .int .i64 (-n))] a_8 := f_9.keep (ks := [9, 10]) (by kernel_rfl)
      have hl1 := digs_len16 (n := (-n).toNat) (by omega)
      have f_11 := Frm.set f_10 10 (v := .int .i64 (-n)) (v' := .int .i64 ((-n).toNat : Int)) (by kernel_rfl) (congrArg (Value.int .i64) (by omega))
      have f_12 : Frm 15 [(9, .int .i64 n), (10, .int .i64 ((-n).toNat : Int))] a_8 := f_11.keep (ks := [9, 10]) (by kernel_rfl)
      refine W_okv (v := S (digs (-n).toNat)) f_12 p_1 (by kernel_rfl) (by kernel_rfl) rfl rfl (fun _ => by kernel_rfl) (digitsR_ok _ (-n).toNat (by omega)) (fun w_2 p_2 a_9 f_13 => ?_)
      refine W_eq f_13 (by kernel_rfl) (by kernel_rfl) rfl rfl (X_concat rfl (l := [45]) (m := digs (-n).toNat) (by kernel_rfl) (by kernel_rfl) (by first | omega | (simp only [List.length_cons, List.length_nil, List.length_append]; omega))) (fun a_10 f_14 => ?_)
      refine W_run (L' := [(2, S ([45] ++ (digs (-n).toNat))), (3, .int .i64 0)]) (w' := w_2) f_14 2 [2, 3] (by kernel_rfl) (fun a_11 f_15 => ?_)
      refine W_end rfl ?_
      refine T_n ?_
      refine wp_ret ?_
      refine T_r ?_
      refine E_ret2 f_15 rfl (by kernel_rfl : Vc.look _ 2 = some (S ([45] ++ (digs (-n).toNat)))) (by kernel_rfl : Vc.look _ 3 = some (.int .i64 0)) ?_
      refine ⟨_, rfl, M, Mem.le_refl _, p_2, ?_⟩
      rw [text_neg hfit k_3]
      rfl
    · have k_4 : ¬ (n < 0) := iff_f decide_eq_true_iff h_2
      refine wp_skip ?_
      refine T_n ?_
      refine R_seq ?_
      refine R_reg ?_
      refine W_run (L' := [(13, .int .i64 n)]) (w' := w_1) f_6 1 [13] (by kernel_rfl) (fun a_12 f_16 => ?_)
      have f_17 := Frm.set f_16 13 (v := .int .i64 n) (v' := .int .i64 (n.toNat : Int)) (by kernel_rfl) (congrArg (Value.int .i64) (by omega))
      have f_18 : Frm 15 [(13, .int .i64 (n.toNat : Int))] a_12 := f_17.keep (ks := [13]) (by kernel_rfl)
      refine W_okv (v := S (digs n.toNat)) f_18 p_1 (by kernel_rfl) (by kernel_rfl) rfl rfl (fun _ => by kernel_rfl) (digitsR_ok _ n.toNat (by omega)) (fun w_3 p_3 a_13 f_19 => ?_)
      refine W_run (L' := [(2, S (digs n.toNat)), (3, .int .i64 0)]) (w' := w_3) f_19 2 [2, 3] (by kernel_rfl) (fun a_14 f_20 => ?_)
      refine W_end rfl ?_
      refine T_n ?_
      refine wp_ret ?_
      refine E_ret2 f_20 rfl (by kernel_rfl : Vc.look _ 2 = some (S (digs n.toNat))) (by kernel_rfl : Vc.look _ 3 = some (.int .i64 0)) ?_
      refine ⟨_, rfl, M, Mem.le_refl _, p_3, ?_⟩
      rw [text_pos hfit k_4]

theorem lenP_ok (M : Mem) (n : Int) : Ok Try.prog M 16 [.int .i64 n] (fun _ v => v = .int .i64 ((text n).1.length : Int)) := by
  intro w0 H w p0
  refine R_enter 12 Try.func16 rfl rfl (by simp) (fun a0 f0 => ?_)
  replace f0 : Frm 12 [(0, .int .i64 n)] a0 := f0
  refine R_seq ?_
  refine R_reg ?_
  refine W_run (L' := [(0, .int .i64 n)]) (w' := w) f0 1 [0] (by kernel_rfl) (fun a_1 f_1 => ?_)
  refine W_end rfl ?_
  refine T_n ?_
  refine R_seq ?_
  refine R_reg ?_
  refine W_run (L' := [(6, .int .i64 n)]) (w' := w) f_1 1 [6] (by kernel_rfl) (fun a_2 f_2 => ?_)
  refine W_okv (v := .tuple #[S (text n).1, .int .i64 (text n).2]) f_2 p0 (by kernel_rfl) (by kernel_rfl) rfl rfl (fun _ => by kernel_rfl) (textP_ok _ (n)) (fun w_1 p_1 a_3 f_3 => ?_)
  refine W_run (L' := [(3, S (text n).1)]) (w' := w_1) f_3 5 [3] (by kernel_rfl) (fun a_4 f_4 => ?_)
  refine W_end rfl ?_
  refine T_n ?_
  refine R_seq ?_
  refine R_reg ?_
  refine W_run (L' := [(2, .int .i64 ((text n).1.length : Int))]) (w' := w_1) f_4 3 [2] (by kernel_rfl) (fun a_5 f_5 => ?_)
  refine W_end rfl ?_
  refine T_n ?_
  refine wp_ret ?_
  refine E_ret1 f_5 rfl (by kernel_rfl : Vc.look _ 2 = some (.int .i64 ((text n).1.length : Int))) ?_
  refine ⟨_, rfl, M, (Mem.le_refl _), p_1, ?_⟩
  rfl

theorem lenR_ok (M : Mem) (n : Int) : Ok Try.prog M 17 [.int .i64 n] (fun _ v => v = .int .i64 ((text n).1.length : Int)) := by
  intro w0 H w p0
  refine R_enter 12 Try.func17 rfl rfl (by simp) (fun a0 f0 => ?_)
  replace f0 : Frm 12 [(0, .int .i64 n)] a0 := f0
  refine R_seq ?_
  refine R_reg ?_
  refine W_run (L' := [(0, .int .i64 n)]) (w' := w) f0 1 [0] (by kernel_rfl) (fun a_1 f_1 => ?_)
  refine W_end rfl ?_
  refine T_n ?_
  refine R_seq ?_
  refine R_reg ?_
  refine W_run (L' := [(6, .int .i64 n)]) (w' := w) f_1 1 [6] (by kernel_rfl) (fun a_2 f_2 => ?_)
  refine W_okv (v := .tuple #[S (text n).1, .int .i64 (text n).2]) f_2 p0 (by kernel_rfl) (by kernel_rfl) rfl rfl (fun _ => by kernel_rfl) (textR_ok _ (n)) (fun w_1 p_1 a_3 f_3 => ?_)
  refine W_run (L' := [(3, S (text n).1)]) (w' := w_1) f_3 5 [3] (by kernel_rfl) (fun a_4 f_4 => ?_)
  refine W_end rfl ?_
  refine T_n ?_
  refine R_seq ?_
  refine R_reg ?_
  refine W_run (L' := [(2, .int .i64 ((text n).1.length : Int))]) (w' := w_1) f_4 3 [2] (by kernel_rfl) (fun a_5 f_5 => ?_)
  refine W_end rfl ?_
  refine T_n ?_
  refine wp_ret ?_
  refine E_ret1 f_5 rfl (by kernel_rfl : Vc.look _ 2 = some (.int .i64 ((text n).1.length : Int))) ?_
  refine ⟨_, rfl, M, (Mem.le_refl _), p_1, ?_⟩
  rfl
end Go.Proofs.Ytpofillhffbalaa
