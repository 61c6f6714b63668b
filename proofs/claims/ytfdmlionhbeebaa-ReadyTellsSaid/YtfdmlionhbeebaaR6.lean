import Derived.Test.YtfdmlionhbeebaaVkA
import Derived.Test.YtfdmlionhbeebaaShelf
import Derived.Test.YtfdmlionhbeebaaRows
import Derived.Test.YtfdmlionhbeebaaRdyPlain
set_option linter.unusedVariables false
set_option linter.unusedSimpArgs false
namespace Go.Proofs.Ytfdmlionhbeebaa
open Go Go.Vc Go.RowKit
theorem insNil_ok (M : Mem)  : Ok Try.prog M 80 [.slice none 0 0, .int .i64 0, .int .i64 0] (fun _ v => v = .tuple #[]) := by
  intro M hM0 w0 H w p0
  refine R_enter 49 Try.func80 rfl rfl (by simp) (fun a0 f0 => ?_)
  replace f0 : Frm 49 [(0, .slice none 0 0), (1, .int .i64 0), (2, .int .i64 0)] a0 := f0
  refine R_seq ?_
  refine R_reg ?_
  refine W_run (L' := [(0, .slice none 0 0), (1, .int .i64 0), (2, .int .i64 0), (6, .int .i64 1)]) (w' := w) f0 3 [0, 1, 2, 6] (by kernel_rfl) (fun a_1 f_1 => ?_)
  refine W_end rfl ?_
  refine T_n ?_
  refine wp_block ?_
  refine R_loop (n := 49) (w0 := w0) (M := M) (fun (_ : Unit) => [(0, .slice none 0 0), (1, .int .i64 0), (2, .int .i64 0), (6, .int .i64 1)]) (fun (_ : Unit) => (H)) (fun (_ : Unit) (_ : Mem) => True) (fun (_ : Unit) => 0) () (f_1.keep (ks := [0, 1, 2, 6]) (by kernel_rfl)) p0 ?_ ?_
  · trivial
  · rintro ⟨⟩ M_1 a_2 w_1 hM_1 I_1 f_2 p_1
    replace f_2 : Frm 49 [(0, .slice none 0 0), (1, .int .i64 0), (2, .int .i64 0), (6, .int .i64 1)] a_2 := f_2
    replace p_1 : Hp w0 M_1 (H) w_1 := p_1
    refine R_seq ?_
    refine R_seq ?_
    refine R_reg ?_
    refine W_run (L' := [(0, .slice none 0 0), (1, .int .i64 0), (2, .int .i64 0), (6, .int .i64 1), (12, .bool false)]) (w' := w_1) f_2 3 [0, 1, 2, 6, 12] (by kernel_rfl) (fun a_3 f_3 => ?_)
    refine W_end rfl ?_
    refine T_n ?_
    refine R_cond_f f_3 (by kernel_rfl) (by kernel_rfl) ?_
    refine wp_exit ?_
    refine T_x ?_
    refine T_x ?_
    refine B_x ?_
    refine E_end0 f_3 rfl  ?_
    refine ⟨_, rfl, M_1, hM_1, p_1, ?_⟩
    rfl

theorem pdqNil_ok (M : Mem)  : Ok Try.prog M 71 [.slice none 0 0, .int .i64 0, .int .i64 0, .int .i64 0] (fun _ v => v = .tuple #[]) := by
  intro M hM0 w0 H w p0
  refine R_enter 134 Try.func71 rfl rfl (by simp) (fun a0 f0 => ?_)
  replace f0 : Frm 134 [(0, .slice none 0 0), (1, .int .i64 0), (2, .int .i64 0), (3, .int .i64 0)] a0 := f0
  refine R_seq ?_
  refine R_reg ?_
  refine W_run (L' := [(0, .slice none 0 0), (1, .int .i64 0), (2, .int .i64 0), (3, .int .i64 0), (8, .bool true)]) (w' := w) f0 1 [0, 1, 2, 3, 8] (by kernel_rfl) (fun a_1 f_1 => ?_)
  refine W_end rfl ?_
  refine T_n ?_
  refine R_seq ?_
  refine R_reg ?_
  refine W_run (L' := [(0, .slice none 0 0), (1, .int .i64 0), (2, .int .i64 0), (3, .int .i64 0), (8, .bool true), (9, .bool true)]) (w' := w) f_1 1 [0, 1, 2, 3, 8, 9] (by kernel_rfl) (fun a_2 f_2 => ?_)
  refine W_end rfl ?_
  refine T_n ?_
  refine wp_block ?_
  refine R_loop (n := 134) (w0 := w0) (M := M) (fun (_ : Unit) => [(0, .slice none 0 0), (1, .int .i64 0), (2, .int .i64 0), (3, .int .i64 0), (8, .bool true), (9, .bool true)]) (fun (_ : Unit) => (H)) (fun (_ : Unit) (_ : Mem) => True) (fun (_ : Unit) => 0) () (f_2.keep (ks := [0, 1, 2, 3, 8, 9]) (by kernel_rfl)) p0 ?_ ?_
  · trivial
  · rintro ⟨⟩ M_1 a_3 w_1 hM_1 I_1 f_3 p_1
    replace f_3 : Frm 134 [(0, .slice none 0 0), (1, .int .i64 0), (2, .int .i64 0), (3, .int .i64 0), (8, .bool true), (9, .bool true)] a_3 := f_3
    replace p_1 : Hp w0 M_1 (H) w_1 := p_1
    refine wp_block ?_
    refine R_seq ?_
    refine R_reg ?_
    refine W_run (L' := [(0, .slice none 0 0), (1, .int .i64 0), (2, .int .i64 0), (3, .int .i64 0), (8, .bool true), (9, .bool true), (10, .int .i64 0)]) (w' := w_1) f_3 4 [0, 1, 2, 3, 8, 9, 10] (by kernel_rfl) (fun a_4 f_4 => ?_)
    refine W_end rfl ?_
    refine T_n ?_
    refine R_seq ?_
    refine R_seq ?_
    refine R_reg ?_
    refine W_run (L' := [(0, .slice none 0 0), (1, .int .i64 0), (2, .int .i64 0), (3, .int .i64 0), (8, .bool true), (9, .bool true), (10, .int .i64 0), (23, .bool true)]) (w' := w_1) f_4 2 [0, 1, 2, 3, 8, 9, 10, 23] (by kernel_rfl) (fun a_5 f_5 => ?_)
    refine W_end rfl ?_
    refine T_n ?_
    refine R_cond_t f_5 (by kernel_rfl) (by kernel_rfl) ?_
    refine R_seq ?_
    refine R_reg ?_
    refine W_run (L' := [(24, .slice none 0 0), (25, .int .i64 0), (26, .int .i64 0)]) (w' := w_1) f_5 3 [24, 25, 26] (by kernel_rfl) (fun a_6 f_6 => ?_)
    refine W_okv (v := .tuple #[]) f_6 p_1 (by kernel_rfl) (by kernel_rfl) rfl rfl (fun _ => by kernel_rfl) (insNil_ok _) (fun w_2 p_2 a_7 f_7 => ?_)
    refine W_end rfl ?_
    refine T_n ?_
    refine wp_ret ?_
    refine T_r ?_
    refine B_r ?_
    refine T_r ?_
    refine B_r ?_
    refine E_ret0 f_7 rfl  ?_
    refine ⟨_, rfl, M_1, hM_1, p_2, ?_⟩
    rfl

theorem sortNil_ok (M : Mem)  : Ok Try.prog M 57 [.slice none 0 0] (fun _ v => v = .tuple #[]) := by
  intro M hM0 w0 H w p0
  refine R_enter 11 Try.func57 rfl rfl (by simp) (fun a0 f0 => ?_)
  replace f0 : Frm 11 [(0, .slice none 0 0)] a0 := f0
  refine R_seq ?_
  refine R_reg ?_
  refine W_run (L' := [(0, .slice none 0 0), (2, .int .i64 0)]) (w' := w) f0 3 [0, 2] (by kernel_rfl) (fun a_1 f_1 => ?_)
  refine W_end rfl ?_
  refine T_n ?_
  refine R_reg ?_
  refine W_run (L' := [(5, .slice none 0 0), (6, .int .i64 0), (7, .int .i64 0)]) (w' := w) f_1 3 [5, 6, 7] (by kernel_rfl) (fun a_2 f_2 => ?_)
  refine W_run (L' := [(5, .slice none 0 0), (6, .int .i64 0), (7, .int .i64 0), (8, .int .u64 (IntKind.wrap .u64 (0)))]) (w' := w) f_2 1 [5, 6, 7, 8] (by kernel_rfl) (fun a_3 f_3 => ?_)
  have f_4 := Frm.set f_3 8 (v := .int .u64 (IntKind.wrap .u64 (0))) (v' := .int .u64 0) (by kernel_rfl) (congrArg (Value.int .u64) (IntWalk.u64_in _ (by omega)))
  have f_5 : Frm 11 [(5, .slice none 0 0), (6, .int .i64 0), (7, .int .i64 0), (8, .int .u64 0)] a_3 := f_4.keep (ks := [5, 6, 7, 8]) (by kernel_rfl)
  refine W_okv (v := .int .i64 0) f_5 p0 (by kernel_rfl) (by kernel_rfl) rfl rfl (fun _ => by kernel_rfl) ((Ok.ofPure fun w => Try.bits_Len 0 w (by decide) (by decide)).mono (fun _ _ _ h => h.trans (by kernel_rfl))) (fun w_1 p_1 a_4 f_6 => ?_)
  refine W_okv (v := .tuple #[]) f_6 p_1 (by kernel_rfl) (by kernel_rfl) rfl rfl (fun _ => by kernel_rfl) (pdqNil_ok _) (fun w_2 p_2 a_5 f_7 => ?_)
  refine W_end rfl ?_
  refine E_end0 f_7 rfl  ?_
  refine ⟨_, rfl, M, (Mem.le_refl _), p_2, ?_⟩
  rfl

theorem sort_ok (M : Mem) (v : Value) (xs : List Int) (h : xs.length ≤ 1099511627776) : OkH Try.prog M [.row 3 1 v xs.length (xs.map (Value.int .i64))] 57 [v] fun _ E' u => u = .tuple #[] ∧ E' = [.row 3 1 v xs.length ((rise xs).map (Value.int .i64))] :=
  sortRow (rise_len xs) (fun blk off cap w hH hb => Try.slices_Sort_int blk off cap xs w hH hb (by omega)) (fun _ M => sortNil_ok M) M v

theorem rising_ok (M : Mem) (b : Nat) (ms : List (Int × Value)) (hb : M b = some (mObj (Value.int .i64) ms)) (msL : ms.length ≤ 1099511627776) : Ok Try.prog M 67 [.map (some b)] (fun M' v => RetInts M .i64 (rise (ms.map (·.1))) M' v) := by
  intro M1 hM0 w0 H w p0
  replace hb := hM0 _ _ hb
  refine R_enter 17 Try.func67 rfl rfl (by simp) (fun a0 f0 => ?_)
  replace f0 : Frm 17 [(0, .map (some b))] a0 := f0
  refine R_seq ?_
  refine R_reg ?_
  refine W_run (L' := [(0, .map (some b)), (2, .slice none 0 0)]) (w' := w) f0 1 [0, 2] (by kernel_rfl) (fun a_1 f_1 => ?_)
  refine W_end rfl ?_
  refine T_n ?_
  refine R_seq ?_
  refine R_seq ?_
  have p_1 : Hp w0 M1 ((Ent.row 3 1 (.slice none 0 0) 0 []) :: H) w := p0.nilRow 3 1
  refine R_reg ?_
  refine W_run (L' := [(2, .slice none 0 0), (4, .map (some b))]) (w' := w) f_1 1 [2, 4] (by kernel_rfl) (fun a_2 f_2 => ?_)
  refine W_range (enc := (Value.int .i64)) (m := ms) (b := b) (kt := 3) (et := 4) f_2 p_1 (by kernel_rfl) (by kernel_rfl) rfl rfl rfl (by kernel_rfl) (by kernel_rfl) (p_1.mem _ _ hb) (fun r_1 w_1 p_2 a_3 f_3 => ?_)
  refine W_end rfl ?_
  refine T_n ?_
  refine wp_block ?_
  have f_4 := Frm.set f_3 2 (v := .slice none 0 0) (v' := (.slice none 0 0)) (by kernel_rfl) (by first | rfl | (congr 1; omega) | simp)
  refine R_loop (n := 17) (w0 := w0) (M := M1) (fun (x : Array Nat × Value × List Int) => match x with | (seen, v, xs) => [(2, v), (5, .pointer (some (⟨r_1, 0, none⟩)))]) (fun (x : Array Nat × Value × List Int) => match x with | (seen, v, xs) => ((Ent.obj r_1 (.mapIter (some b) ms.length seen ms.length)) :: (Ent.row 3 1 v xs.length (xs.map (Value.int .i64))) :: H)) (fun (x : Array Nat × Value × List Int) (_ : Mem) => match x with | (seen, v, xs) => (CollI ms seen xs)) (fun (x : Array Nat × Value × List Int) => match x with | (seen, v, xs) => (todo ms seen).length) (#[], .slice none 0 0, []) (f_4.keep (ks := [2, 5]) (by kernel_rfl)) p_2 ?_ ?_
  · exact CollI.start ms
  · rintro ⟨seen, v, xs⟩ M_1 a_4 w_2 hM_1 I_1 f_5 p_3
    replace f_5 : Frm 17 [(2, v), (5, .pointer (some (⟨r_1, 0, none⟩)))] a_4 := f_5
    replace p_3 : Hp w0 M_1 ((Ent.obj r_1 (.mapIter (some b) ms.length seen ms.length)) :: (Ent.row 3 1 v xs.length (xs.map (Value.int .i64))) :: H) w_2 := p_3
    replace I_1 : (CollI ms seen xs) := I_1
    have hC := I_1
    have hCl := hC.len
    refine R_seq ?_
    refine R_reg ?_
    refine W_next (enc := (Value.int .i64)) (m := ms) (seen := seen) (b := b) (r := r_1) f_5 p_3 (by kernel_rfl) (by kernel_rfl) rfl rfl rfl (by kernel_rfl) (p_3.mem _ _ (hM_1 _ _ hb)) (fun ht_1 w_3 p_4 a_5 f_6 => ?_) (fun q_1 hq_1 w_4 p_5 a_6 f_7 => ?_)
    · refine W_run (L' := [(2, v), (5, .pointer (some (⟨r_1, 0, none⟩))), (7, .bool false)]) (w' := w_3) f_6 1 [2, 5, 7] (by kernel_rfl) (fun a_7 f_8 => ?_)
      refine W_end rfl ?_
      refine T_n ?_
      refine R_seq ?_
      refine R_cond_f f_8 (by kernel_rfl) (by kernel_rfl) ?_
      refine wp_exit ?_
      refine T_x ?_
      refine T_x ?_
      refine B_x ?_
      refine T_n ?_
      refine R_seq ?_
      refine R_reg ?_
      refine W_run (L' := [(2, v), (14, v)]) (w' := w_3) f_8 1 [2, 14] (by kernel_rfl) (fun a_8 f_9 => ?_)
      have p_6 : Hp w0 M_1 ((Ent.row 3 1 v xs.length (xs.map (Value.int .i64))) :: (Ent.obj r_1 (.mapIter (some b) ms.length seen ms.length)) :: H) w_3 := p_4.pull 1 rfl rfl
      refine W_okH (E := [Ent.row 3 1 v xs.length (xs.map (Value.int .i64))]) (H := ((Ent.obj r_1 (.mapIter (some b) ms.length seen ms.length)) :: H)) f_9 p_6 (by kernel_rfl) (by kernel_rfl) rfl rfl (fun _ => by kernel_rfl) (sort_ok _ v xs (by omega)) (fun v_1 M_2 E_1 w_5 hM_2 p_7 q_2 a_9 f_10 => ?_)
      obtain ⟨rfl, rfl⟩ := q_2
      have p_8 : Hp w0 M_1 ((Ent.row 3 1 v xs.length ((rise xs).map (Value.int .i64))) :: (Ent.obj r_1 (.mapIter (some b) ms.length seen ms.length)) :: H) w_5 := p_7.less hM_2
      refine W_end rfl ?_
      refine T_n ?_
      refine R_seq ?_
      refine R_reg ?_
      refine W_run (L' := [(2, v)]) (w' := w_5) f_10 2 [2] (by kernel_rfl) (fun a_10 f_11 => ?_)
      refine W_end rfl ?_
      refine T_n ?_
      refine wp_ret ?_
      refine E_ret1 f_11 rfl (by kernel_rfl : Vc.look _ 2 = some (v)) ?_
      have p_9 : Hp w0 M_1 ((Ent.row 3 1 v (rise (ms.map (·.1))).length ((rise (ms.map (·.1))).map (Value.int .i64))) :: (Ent.obj r_1 (.mapIter (some b) ms.length seen ms.length)) :: H) w_5 := p_8.rowEq (by rw [rise_perm (hC.all ht_1).symm, rise_len]) (by rw [rise_perm (hC.all ht_1).symm])
      obtain ⟨M9, hM9, p9, r9⟩ := p_9.rowInts
      exact ⟨_, rfl, M9, hM_1.trans hM9, p9.dropN 1, r9.more (hM0.trans hM_1) (Mem.le_refl _)⟩
    · refine W_run (L' := [(2, v), (5, .pointer (some (⟨r_1, 0, none⟩))), (7, .bool true)]) (w' := w_4) f_7 1 [2, 5, 7] (by kernel_rfl) (fun a_11 f_12 => ?_)
      refine W_end rfl ?_
      refine T_n ?_
      refine R_seq ?_
      refine R_cond_t f_12 (by kernel_rfl) (by kernel_rfl) ?_
      refine wp_skip ?_
      refine T_n ?_
      refine wp_block ?_
      refine R_seq ?_
      refine R_reg ?_
      refine W_eq (v := .tuple #[.int .i64 q_1.1.1, q_1.1.2]) f_12 (by kernel_rfl) (by kernel_rfl) rfl rfl (X_entry (enc := (Value.int .i64)) (m := ms) (seen := seen) (p := q_1.1) (j := q_1.2) (b := b) (r := r_1) rfl (by kernel_rfl) (p_5.ownObj 0 rfl) (p_5.mem _ _ (hM_1 _ _ hb)) (todo_mem hq_1).1) (fun a_12 f_13 => ?_)
      refine W_run (L' := [(2, v), (3, .int .i64 q_1.1.1), (5, .pointer (some (⟨r_1, 0, none⟩)))]) (w' := w_4) f_13 2 [2, 3, 5] (by kernel_rfl) (fun a_13 f_14 => ?_)
      refine W_end rfl ?_
      refine T_n ?_
      refine R_reg ?_
      refine W_run (L' := [(5, .pointer (some (⟨r_1, 0, none⟩))), (10, v), (11, .int .i64 q_1.1.1)]) (w' := w_4) f_14 2 [5, 10, 11] (by kernel_rfl) (fun a_14 f_15 => ?_)
      refine W_alloc f_15 p_5 1 [5, 10, 11, 12] (.cells #[.int .i64 q_1.1.1] 3 (0, 0)) (fun b_1 => [(5, .pointer (some (⟨r_1, 0, none⟩))), (10, v), (11, .int .i64 q_1.1.1), (12, .slice (some ⟨b_1, 0, none⟩) 1 1)]) (fun _ => by kernel_rfl) (fun b_1 w_6 p_10 a_15 f_16 => ?_)
      replace f_16 : Frm 17 [(5, .pointer (some (⟨r_1, 0, none⟩))), (10, v), (11, .int .i64 q_1.1.1), (12, .slice (some ⟨b_1, 0, none⟩) 1 1)] a_15 := f_16
      have p_11 : Hp w0 M_1 ((Ent.row 3 1 v xs.length (xs.map (Value.int .i64))) :: (Ent.obj b_1 (.cells #[.int .i64 q_1.1.1] 3 (0, 0))) :: (Ent.obj r_1 (.mapIter (some b) ms.length (seen.push q_1.2) ms.length)) :: H) w_6 := p_10.pull 2 rfl rfl
      refine W_append (d := 13) (t := 27) (e := 3) (z := .int .i64 0) (v := v) (size := 1) (bytes := 8) (k := xs.length) (m := 1) (c := 1) (xs := xs.map (Value.int .i64)) (news := [.int .i64 q_1.1.1]) (ad := ⟨b_1, 0, none⟩) f_16 p_11 (by kernel_rfl) (by kernel_rfl) rfl rfl rfl (by kernel_rfl) (by kernel_rfl) (by kernel_rfl) (by kernel_rfl) (rfl) (own_cells (p_11.ownCell 1 rfl) 0 rfl) (all_one (by kernel_rfl)) (by omega) (by omega) (fun v_2 w_7 p_12 a_16 f_17 => ?_)
      have p_13 : Hp w0 M_1 ((Ent.obj b_1 (.cells #[.int .i64 q_1.1.1] 3 (0, 0))) :: (Ent.row 3 1 v_2 (xs.length + 1) ((xs.map (Value.int .i64)) ++ [.int .i64 q_1.1.1])) :: (Ent.obj r_1 (.mapIter (some b) ms.length (seen.push q_1.2) ms.length)) :: H) w_7 := p_12.pull 1 rfl rfl
      have p_14 := p_13.drop
      refine W_run (L' := [(2, v_2), (5, .pointer (some (⟨r_1, 0, none⟩)))]) (w' := w_7) f_17 1 [2, 5] (by kernel_rfl) (fun a_17 f_18 => ?_)
      refine W_end rfl ?_
      refine B_n ?_
      refine T_n ?_
      have p_15 : Hp w0 M_1 ((Ent.row 3 1 v_2 (xs ++ [q_1.1.1]).length ((xs ++ [q_1.1.1]).map (Value.int .i64))) :: (Ent.obj r_1 (.mapIter (some b) ms.length (seen.push q_1.2) ms.length)) :: H) w_7 := p_14.rowEq (by simp) (by simp)
      have p_16 : Hp w0 M_1 ((Ent.obj r_1 (.mapIter (some b) ms.length (seen.push q_1.2) ms.length)) :: (Ent.row 3 1 v_2 (xs ++ [q_1.1.1]).length ((xs ++ [q_1.1.1]).map (Value.int .i64))) :: H) w_7 := p_15.pull 1 rfl rfl
      refine ⟨((seen.push q_1.2, v_2, xs ++ [q_1.1.1]) : Array Nat × Value × List Int), ?_, M_1, hM_1, ?_, f_18.keep (ks := [2, 5]) (by kernel_rfl), p_16⟩
      · exact todo_less hq_1
      · exact hC.step hq_1

theorem risingNil_ok (M : Mem)  : Ok Try.prog M 67 [.map none] (fun M' v => RetInts M .i64 [] M' v) := by
  intro M hM0 w0 H w p0
  refine R_enter 17 Try.func67 rfl rfl (by simp) (fun a0 f0 => ?_)
  replace f0 : Frm 17 [(0, .map none)] a0 := f0
  refine R_seq ?_
  refine R_reg ?_
  refine W_run (L' := [(0, .map none), (2, .slice none 0 0)]) (w' := w) f0 1 [0, 2] (by kernel_rfl) (fun a_1 f_1 => ?_)
  refine W_end rfl ?_
  refine T_n ?_
  refine R_seq ?_
  refine R_seq ?_
  have p_1 : Hp w0 M ((Ent.row 3 1 (.slice none 0 0) 0 []) :: H) w := p0.nilRow 3 1
  refine R_reg ?_
  refine W_run (L' := [(2, .slice none 0 0), (4, .map none)]) (w' := w) f_1 1 [2, 4] (by kernel_rfl) (fun a_2 f_2 => ?_)
  refine W_range_nil (kt := 3) (et := 4) f_2 p_1 (by kernel_rfl) (by kernel_rfl) rfl rfl rfl (by kernel_rfl) (by kernel_rfl) (fun r_1 w_1 p_2 a_3 f_3 => ?_)
  refine W_end rfl ?_
  refine T_n ?_
  refine wp_block ?_
  refine R_loop (n := 17) (w0 := w0) (M := M) (fun (_ : Unit) => [(2, .slice none 0 0), (5, .pointer (some (⟨r_1, 0, none⟩)))]) (fun (_ : Unit) => ((Ent.obj r_1 (.mapIter none 0 #[] 0)) :: (Ent.row 3 1 (.slice none 0 0) 0 []) :: H)) (fun (_ : Unit) (_ : Mem) => True) (fun (_ : Unit) => 0) () (f_3.keep (ks := [2, 5]) (by kernel_rfl)) p_2 ?_ ?_
  · trivial
  · rintro ⟨⟩ M_1 a_4 w_2 hM_1 I_1 f_4 p_3
    replace f_4 : Frm 17 [(2, .slice none 0 0), (5, .pointer (some (⟨r_1, 0, none⟩)))] a_4 := f_4
    replace p_3 : Hp w0 M_1 ((Ent.obj r_1 (.mapIter none 0 #[] 0)) :: (Ent.row 3 1 (.slice none 0 0) 0 []) :: H) w_2 := p_3
    refine R_seq ?_
    refine R_reg ?_
    refine W_eq (v := .tuple #[.bool false]) f_4 (by kernel_rfl) (by kernel_rfl) rfl rfl (X_next_nil rfl (by kernel_rfl) (p_3.ownObj 0 rfl)) (fun a_5 f_5 => ?_)
    refine W_run (L' := [(2, .slice none 0 0), (5, .pointer (some (⟨r_1, 0, none⟩))), (7, .bool false)]) (w' := w_2) f_5 1 [2, 5, 7] (by kernel_rfl) (fun a_6 f_6 => ?_)
    refine W_end rfl ?_
    refine T_n ?_
    refine R_seq ?_
    refine R_cond_f f_6 (by kernel_rfl) (by kernel_rfl) ?_
    refine wp_exit ?_
    refine T_x ?_
    refine T_x ?_
    refine B_x ?_
    refine T_n ?_
    refine R_seq ?_
    refine R_reg ?_
    refine W_run (L' := [(2, .slice none 0 0), (14, .slice none 0 0)]) (w' := w_2) f_6 1 [2, 14] (by kernel_rfl) (fun a_7 f_7 => ?_)
    have p_4 : Hp w0 M_1 ((Ent.row 3 1 (.slice none 0 0) 0 []) :: (Ent.obj r_1 (.mapIter none 0 #[] 0)) :: H) w_2 := p_3.pull 1 rfl rfl
    refine W_okH (E := [Ent.row 3 1 (.slice none 0 0) 0 []]) (H := ((Ent.obj r_1 (.mapIter none 0 #[] 0)) :: H)) f_7 p_4 (by kernel_rfl) (by kernel_rfl) rfl rfl (fun _ => by kernel_rfl) (sort_ok _ (.slice none 0 0) [] (by simp)) (fun v_1 M_2 E_1 w_3 hM_2 p_5 q_1 a_8 f_8 => ?_)
    obtain ⟨rfl, rfl⟩ := q_1
    have p_6 : Hp w0 M_1 ((Ent.row 3 1 (.slice none 0 0) ([] : List Int).length ((rise []).map (Value.int .i64))) :: (Ent.obj r_1 (.mapIter none 0 #[] 0)) :: H) w_3 := p_5.less hM_2
    refine W_end rfl ?_
    refine T_n ?_
    refine R_seq ?_
    refine R_reg ?_
    refine W_run (L' := [(2, .slice none 0 0)]) (w' := w_3) f_8 2 [2] (by kernel_rfl) (fun a_9 f_9 => ?_)
    refine W_end rfl ?_
    refine T_n ?_
    refine wp_ret ?_
    refine E_ret1 f_9 rfl (by kernel_rfl : Vc.look _ 2 = some (.slice none 0 0)) ?_
    have p_7 : Hp w0 M_1 ((Ent.row 3 1 (.slice none 0 0) ([] : List Int).length (([] : List Int).map (Value.int .i64))) :: (Ent.obj r_1 (.mapIter none 0 #[] 0)) :: H) w_3 := p_6.rowEq (rfl) (by rw [rise_nil])
    obtain ⟨M9, hM9, p9, r9⟩ := p_7.rowInts
    exact ⟨_, rfl, M9, hM_1.trans hM9, p9.dropN 1, r9.more (hM0.trans hM_1) (Mem.le_refl _)⟩
end Go.Proofs.Ytfdmlionhbeebaa
