import Derived.Test.YtfdmlionhbeebaaR6
import Derived.Test.YtfdmlionhbeebaaRdyTurned
set_option linter.unusedVariables false
set_option linter.unusedSimpArgs false
namespace Go.Proofs.Ytfdmlionhbeebaa
open Go Go.Vc Go.RowKit
theorem risingAny_ok (M : Mem) (g : Option (Nat × List (Int × Value))) (hb : ∀ b m, g = some (b, m) → M b = some (mObj (Value.int .i64) m)) (hL : (keysOf g).length ≤ 1099511627776) : Ok Try.prog M 67 [hdOf g] (fun M' v => RetInts M .i64 (rise (keysOf g)) M' v) := by
  rcases g with _ | ⟨b, m⟩
  · exact (risingNil_ok M).mono fun M' v _ h => by rw [show rise (keysOf (none : Option (Nat × List (Int × Value)))) = [] from rise_nil]; exact h
  · exact rising_ok M b m (hb b m rfl) (by simpa [keysOf] using hL)

theorem turned_ok (M : Mem) (A : Option Addr) (l : LL) (cap : Nat) (hl : Vc.Rows M .i64 A l) (lL : l.length ≤ 1099511627776) (rL : ∀ r ∈ l, r.length ≤ 1099511627776) : Ok Try.prog M 49 [.slice A l.length cap] (fun M' v => ∃ ad, v = .slice (some ad) (turnedL l).length (turnedL l).length ∧ Vc.Rows M' .i64 (some ad) (turnedL l)) := by
  intro M1 hM0 w0 H w p0
  replace hl := hl.mono hM0
  refine R_enter 68 Try.func49 rfl rfl (by simp) (fun a0 f0 => ?_)
  replace f0 : Frm 68 [(0, .slice A l.length cap)] a0 := f0
  refine R_seq ?_
  refine R_reg ?_
  refine W_run (L' := [(0, .slice A l.length cap)]) (w' := w) f0 1 [0] (by kernel_rfl) (fun a_1 f_1 => ?_)
  refine W_end rfl ?_
  refine T_n ?_
  refine R_seq ?_
  refine R_reg ?_
  refine W_run (L' := [(0, .slice A l.length cap), (12, .int .i64 ((l.length : Nat) : Int))]) (w' := w) f_1 2 [0, 12] (by kernel_rfl) (fun a_2 f_2 => ?_)
  refine W_make (m := l.length) (z := .map none) (bytes := 8) (e := 121) f_2 p0 (by kernel_rfl) (by kernel_rfl) rfl rfl rfl (by kernel_rfl) (by kernel_rfl) (by kernel_rfl) (by kernel_rfl) rfl (by omega) (by omega) (fun b_1 w_1 p_1 a_3 f_3 => ?_)
  have p_2 : Hp w0 M1 ((Ent.obj b_1 (.cells ((List.replicate l.length none : MapRow Int).map hdOf).toArray 121 (0, 0))) :: (bag (Value.int .i64) (List.replicate l.length none : MapRow Int) ++ H)) w_1 := by rw [hd_none, bag_none]; exact p_1
  refine W_run (L' := [(0, .slice A l.length cap), (3, .slice (some ⟨b_1, 0, none⟩) l.length l.length)]) (w' := w_1) f_3 1 [0, 3] (by kernel_rfl) (fun a_4 f_4 => ?_)
  refine W_end rfl ?_
  refine T_n ?_
  refine R_seq ?_
  refine R_seq ?_
  refine R_reg ?_
  refine W_run (L' := [(0, .slice A l.length cap), (3, .slice (some ⟨b_1, 0, none⟩) l.length l.length), (14, .slice A l.length cap), (15, .int .i64 ((l.length : Nat) : Int)), (16, .int .i64 0)]) (w' := w_1) f_4 3 [0, 3, 14, 15, 16] (by kernel_rfl) (fun a_5 f_5 => ?_)
  refine W_end rfl ?_
  refine T_n ?_
  refine wp_block ?_
  have f_6 := Frm.set f_5 16 (v := .int .i64 0) (v' := .int .i64 (0 : Int)) (by kernel_rfl) (by first | rfl | (congr 1; omega) | simp)
  refine R_loop (n := 68) (w0 := w0) (M := M1) (fun (x : Nat × MapRow Int) => match x with | (i, G) => [(0, .slice A l.length cap), (3, .slice (some ⟨b_1, 0, none⟩) l.length l.length), (14, .slice A l.length cap), (15, .int .i64 ((l.length : Nat) : Int)), (16, .int .i64 (i : Int))]) (fun (x : Nat × MapRow Int) => match x with | (i, G) => ((Ent.obj b_1 (.cells (G.map hdOf).toArray 121 (0, 0))) :: (bag (Value.int .i64) G ++ H))) (fun (x : Nat × MapRow Int) (_ : Mem) => match x with | (i, G) => (i ≤ l.length) ∧ (TI l i 0 G)) (fun (x : Nat × MapRow Int) => match x with | (i, G) => l.length - i) (0, List.replicate l.length none) (f_6.keep (ks := [0, 3, 14, 15, 16]) (by kernel_rfl)) p_2 ?_ ?_
  · exact ⟨Nat.zero_le _, TI.start l⟩
  · rintro ⟨i, G⟩ M_1 a_6 w_2 hM_1 I_1 f_7 p_3
    replace f_7 : Frm 68 [(0, .slice A l.length cap), (3, .slice (some ⟨b_1, 0, none⟩) l.length l.length), (14, .slice A l.length cap), (15, .int .i64 ((l.length : Nat) : Int)), (16, .int .i64 (i : Int))] a_6 := f_7
    replace p_3 : Hp w0 M_1 ((Ent.obj b_1 (.cells (G.map hdOf).toArray 121 (0, 0))) :: (bag (Value.int .i64) G ++ H)) w_2 := p_3
    replace I_1 : (i ≤ l.length) ∧ (TI l i 0 G) := I_1
    obtain ⟨hi, hT⟩ := I_1
    have hGl := hT.1
    refine R_seq ?_
    refine R_reg ?_
    refine W_run (L' := [(0, .slice A l.length cap), (3, .slice (some ⟨b_1, 0, none⟩) l.length l.length), (14, .slice A l.length cap), (15, .int .i64 ((l.length : Nat) : Int)), (16, .int .i64 (i : Int)), (17, .bool (decide ((i : Int) < ((l.length : Nat) : Int))))]) (w' := w_2) f_7 1 [0, 3, 14, 15, 16, 17] (by kernel_rfl) (fun a_7 f_8 => ?_)
    refine W_end rfl ?_
    refine T_n ?_
    refine R_seq ?_
    refine R_cond f_8 (b := decide ((i : Int) < ((l.length : Nat) : Int))) (by kernel_rfl) (by kernel_rfl) (fun h_1 => ?_) (fun h_1 => ?_)
    · have k_1 : (i : Int) < ((l.length : Nat) : Int) := decide_eq_true_iff.1 h_1
      refine wp_skip ?_
      refine T_n ?_
      refine R_seq ?_
      refine wp_block ?_
      refine R_seq ?_
      refine R_reg ?_
      refine W_run (L' := [(0, .slice A l.length cap), (3, .slice (some ⟨b_1, 0, none⟩) l.length l.length), (14, .slice A l.length cap), (15, .int .i64 ((l.length : Nat) : Int)), (16, .int .i64 (i : Int)), (18, .int .i64 (i : Int))]) (w' := w_2) f_8 1 [0, 3, 14, 15, 16, 18] (by kernel_rfl) (fun a_8 f_9 => ?_)
      obtain ⟨ad_1, e_1, B_1, cap_1, hc_1, hcap_1, hi_1⟩ := Vc.Rows.at_ (hl.mono hM_1) (i := (i : Int)) (by omega) (by omega)
      replace hcap_1 : (l.getD i []).length ≤ cap_1 := hcap_1
      replace hi_1 : Ints _ .i64 B_1 (l.getD i []) := hi_1
      refine W_eq (v := .pointer (some (ad_1.add ((i : Int).toNat * 1)))) f_9 (by kernel_rfl) (by kernel_rfl) rfl rfl (X_indexAddrA e_1 rfl (len := l.length) (cap := cap) (k := .i64) (i := (i : Int)) (by kernel_rfl) (by kernel_rfl) (e := 27) (by kernel_rfl) (sz := 1) (by kernel_rfl) (by omega) (by omega)) (fun a_9 f_10 => ?_)
      refine W_eq (v := .slice B_1 (l.getD i []).length cap_1) f_10 (by kernel_rfl) (by kernel_rfl) rfl rfl (X_load1 (v := .slice B_1 (l.getD i []).length cap_1) rfl (ad := ad_1.add ((i : Int).toNat * 1)) (by kernel_rfl) (by kernel_rfl) (p_3.cell hc_1)) (fun a_10 f_11 => ?_)
      refine W_run (L' := [(0, .slice A l.length cap), (3, .slice (some ⟨b_1, 0, none⟩) l.length l.length), (4, .int .i64 (i : Int)), (5, .slice B_1 (l.getD i []).length cap_1), (14, .slice A l.length cap), (15, .int .i64 ((l.length : Nat) : Int)), (16, .int .i64 (i : Int))]) (w' := w_2) f_11 2 [0, 3, 4, 5, 14, 15, 16] (by kernel_rfl) (fun a_11 f_12 => ?_)
      refine W_end rfl ?_
      refine T_n ?_
      refine R_seq ?_
      refine R_reg ?_
      refine W_run (L' := [(0, .slice A l.length cap), (3, .slice (some ⟨b_1, 0, none⟩) l.length l.length), (4, .int .i64 (i : Int)), (14, .slice A l.length cap), (15, .int .i64 ((l.length : Nat) : Int)), (16, .int .i64 (i : Int)), (21, .slice B_1 (l.getD i []).length cap_1), (22, .int .i64 (((l.getD i []).length : Nat) : Int)), (23, .int .i64 0)]) (w' := w_2) f_12 3 [0, 3, 4, 14, 15, 16, 21, 22, 23] (by kernel_rfl) (fun a_12 f_13 => ?_)
      refine W_end rfl ?_
      refine T_n ?_
      refine wp_block ?_
      have f_14 := Frm.set f_13 23 (v := .int .i64 0) (v' := .int .i64 (0 : Int)) (by kernel_rfl) (by first | rfl | (congr 1; omega) | simp)
      have hrl := rL _ (row_mem (l := l) (k := i) (by omega))
      refine R_loop (n := 68) (w0 := w0) (M := M_1) (fun (x : Nat × MapRow Int) => match x with | (j, G) => [(0, .slice A l.length cap), (3, .slice (some ⟨b_1, 0, none⟩) l.length l.length), (4, .int .i64 (i : Int)), (14, .slice A l.length cap), (15, .int .i64 ((l.length : Nat) : Int)), (16, .int .i64 (i : Int)), (21, .slice B_1 (l.getD i []).length cap_1), (22, .int .i64 (((l.getD i []).length : Nat) : Int)), (23, .int .i64 (j : Int))]) (fun (x : Nat × MapRow Int) => match x with | (j, G) => ((Ent.obj b_1 (.cells (G.map hdOf).toArray 121 (0, 0))) :: (bag (Value.int .i64) G ++ H))) (fun (x : Nat × MapRow Int) (_ : Mem) => match x with | (j, G) => (j ≤ (l.getD i []).length) ∧ (TI l i j G)) (fun (x : Nat × MapRow Int) => match x with | (j, G) => (l.getD i []).length - j) (0, G) (f_14.keep (ks := [0, 3, 4, 14, 15, 16, 21, 22, 23]) (by kernel_rfl)) p_3 ?_ ?_
      · exact ⟨Nat.zero_le _, hT⟩
      · rintro ⟨j, G⟩ M_2 a_13 w_3 hM_2 I_2 f_15 p_4
        replace f_15 : Frm 68 [(0, .slice A l.length cap), (3, .slice (some ⟨b_1, 0, none⟩) l.length l.length), (4, .int .i64 (i : Int)), (14, .slice A l.length cap), (15, .int .i64 ((l.length : Nat) : Int)), (16, .int .i64 (i : Int)), (21, .slice B_1 (l.getD i []).length cap_1), (22, .int .i64 (((l.getD i []).length : Nat) : Int)), (23, .int .i64 (j : Int))] a_13 := f_15
        replace p_4 : Hp w0 M_2 ((Ent.obj b_1 (.cells (G.map hdOf).toArray 121 (0, 0))) :: (bag (Value.int .i64) G ++ H)) w_3 := p_4
        replace I_2 : (j ≤ (l.getD i []).length) ∧ (TI l i j G) := I_2
        obtain ⟨hj, hT2⟩ := I_2
        have hGl2 := hT2.1
        refine R_seq ?_
        refine R_reg ?_
        refine W_run (L' := [(0, .slice A l.length cap), (3, .slice (some ⟨b_1, 0, none⟩) l.length l.length), (4, .int .i64 (i : Int)), (14, .slice A l.length cap), (15, .int .i64 ((l.length : Nat) : Int)), (16, .int .i64 (i : Int)), (21, .slice B_1 (l.getD i []).length cap_1), (22, .int .i64 (((l.getD i []).length : Nat) : Int)), (23, .int .i64 (j : Int)), (24, .bool (decide ((j : Int) < (((l.getD i []).length : Nat) : Int))))]) (w' := w_3) f_15 1 [0, 3, 4, 14, 15, 16, 21, 22, 23, 24] (by kernel_rfl) (fun a_14 f_16 => ?_)
        refine W_end rfl ?_
        refine T_n ?_
        refine R_seq ?_
        refine R_cond f_16 (b := decide ((j : Int) < (((l.getD i []).length : Nat) : Int))) (by kernel_rfl) (by kernel_rfl) (fun h_2 => ?_) (fun h_2 => ?_)
        · have k_2 : (j : Int) < (((l.getD i []).length : Nat) : Int) := decide_eq_true_iff.1 h_2
          refine wp_skip ?_
          refine T_n ?_
          refine R_seq ?_
          refine wp_block ?_
          refine R_seq ?_
          refine R_reg ?_
          obtain ⟨ad_2, e_2, hc_2⟩ := Ints.at_ (hi_1.mono hM_2) (i := (j : Int)) (by omega) (by omega)
          refine W_eq (v := .pointer (some (ad_2.add ((j : Int).toNat * 1)))) f_16 (by kernel_rfl) (by kernel_rfl) rfl rfl (X_indexAddrA e_2 rfl (len := (l.getD i []).length) (cap := cap_1) (k := .i64) (i := (j : Int)) (by kernel_rfl) (by kernel_rfl) (e := 3) (by kernel_rfl) (sz := 1) (by kernel_rfl) (by omega) (by omega)) (fun a_15 f_17 => ?_)
          refine W_eq (v := .int .i64 ((l.getD i []).getD j 0)) f_17 (by kernel_rfl) (by kernel_rfl) rfl rfl (X_load1 (v := .int .i64 ((l.getD i []).getD j 0)) rfl (ad := ad_2.add ((j : Int).toNat * 1)) (by kernel_rfl) (by kernel_rfl) (p_4.cell hc_2)) (fun a_16 f_18 => ?_)
          refine W_run (L' := [(0, .slice A l.length cap), (3, .slice (some ⟨b_1, 0, none⟩) l.length l.length), (4, .int .i64 (i : Int)), (7, .int .i64 ((l.getD i []).getD j 0)), (14, .slice A l.length cap), (15, .int .i64 ((l.length : Nat) : Int)), (16, .int .i64 (i : Int)), (21, .slice B_1 (l.getD i []).length cap_1), (22, .int .i64 (((l.getD i []).length : Nat) : Int)), (23, .int .i64 (j : Int))]) (w' := w_3) f_18 1 [0, 3, 4, 7, 14, 15, 16, 21, 22, 23] (by kernel_rfl) (fun a_17 f_19 => ?_)
          refine W_end rfl ?_
          refine T_n ?_
          refine R_seq ?_
          refine R_seq ?_
          refine R_mid (fun a_18 w_4 => Frm 68 [(0, .slice A l.length cap), (3, .slice (some ⟨b_1, 0, none⟩) l.length l.length), (4, .int .i64 (i : Int)), (7, .int .i64 ((l.getD i []).getD j 0)), (14, .slice A l.length cap), (15, .int .i64 ((l.length : Nat) : Int)), (16, .int .i64 (i : Int)), (21, .slice B_1 (l.getD i []).length cap_1), (22, .int .i64 (((l.getD i []).length : Nat) : Int)), (23, .int .i64 (j : Int)), (34, .bool ((decide (((l.getD i []).getD j 0) < 0)) || (decide (((l.length : Nat) : Int) ≤ ((l.getD i []).getD j 0)))))] a_18 ∧ Hp w0 M_2 ((Ent.obj b_1 (.cells (G.map hdOf).toArray 121 (0, 0))) :: (bag (Value.int .i64) G ++ H)) w_4) ?_ ?_
          · refine R_reg ?_
            refine W_run (L' := [(0, .slice A l.length cap), (3, .slice (some ⟨b_1, 0, none⟩) l.length l.length), (4, .int .i64 (i : Int)), (7, .int .i64 ((l.getD i []).getD j 0)), (14, .slice A l.length cap), (15, .int .i64 ((l.length : Nat) : Int)), (16, .int .i64 (i : Int)), (21, .slice B_1 (l.getD i []).length cap_1), (22, .int .i64 (((l.getD i []).length : Nat) : Int)), (23, .int .i64 (j : Int)), (29, .bool (decide (((l.getD i []).getD j 0) < 0)))]) (w' := w_3) f_19 3 [0, 3, 4, 7, 14, 15, 16, 21, 22, 23, 29] (by kernel_rfl) (fun a_19 f_21 => ?_)
            rcases Bool.eq_false_or_eq_true (decide (((l.getD i []).getD j 0) < 0)) with h_3 | h_3
            · have k_3 : ((l.getD i []).getD j 0) < 0 := decide_eq_true_iff.1 h_3
              have f_22 := Frm.set f_21 29 (v := .bool (decide (((l.getD i []).getD j 0) < 0))) (v' := .bool true) (by kernel_rfl) (congrArg Value.bool h_3)
              have f_23 : Frm 68 [(0, .slice A l.length cap), (3, .slice (some ⟨b_1, 0, none⟩) l.length l.length), (4, .int .i64 (i : Int)), (7, .int .i64 ((l.getD i []).getD j 0)), (14, .slice A l.length cap), (15, .int .i64 ((l.length : Nat) : Int)), (16, .int .i64 (i : Int)), (21, .slice B_1 (l.getD i []).length cap_1), (22, .int .i64 (((l.getD i []).length : Nat) : Int)), (23, .int .i64 (j : Int)), (29, .bool true)] a_19 := f_22.keep (ks := [0, 3, 4, 7, 14, 15, 16, 21, 22, 23, 29]) (by kernel_rfl)
              refine W_run (L' := [(0, .slice A l.length cap), (3, .slice (some ⟨b_1, 0, none⟩) l.length l.length), (4, .int .i64 (i : Int)), (7, .int .i64 ((l.getD i []).getD j 0)), (14, .slice A l.length cap), (15, .int .i64 ((l.length : Nat) : Int)), (16, .int .i64 (i : Int)), (21, .slice B_1 (l.getD i []).length cap_1), (22, .int .i64 (((l.getD i []).length : Nat) : Int)), (23, .int .i64 (j : Int)), (34, .bool true)]) (w' := w_3) f_23 5 [0, 3, 4, 7, 14, 15, 16, 21, 22, 23, 34] (by kernel_rfl) (fun a_20 f_24 => ?_)
              refine W_end rfl ?_
              refine T_n ?_
              have f_25 := Frm.set f_24 34 (v := .bool true) (v' := .bool ((decide (((l.getD i []).getD j 0) < 0)) || (decide (((l.length : Nat) : Int) ≤ ((l.getD i []).getD j 0))))) (by kernel_rfl) (by simp only [h_3, Bool.and_true, Bool.true_and, Bool.false_and, Bool.and_false, Bool.or_true, Bool.true_or, Bool.or_false, Bool.false_or, Bool.not_true, Bool.not_false, cond_true, cond_false])
              exact ⟨f_25.keep (ks := [0, 3, 4, 7, 14, 15, 16, 21, 22, 23, 34]) (by kernel_rfl), p_4⟩
            · have k_4 : ¬ (((l.getD i []).getD j 0) < 0) := iff_f decide_eq_true_iff h_3
              have f_26 := Frm.set f_21 29 (v := .bool (decide (((l.getD i []).getD j 0) < 0))) (v' := .bool false) (by kernel_rfl) (congrArg Value.bool h_3)
              have f_27 : Frm 68 [(0, .slice A l.length cap), (3, .slice (some ⟨b_1, 0, none⟩) l.length l.length), (4, .int .i64 (i : Int)), (7, .int .i64 ((l.getD i []).getD j 0)), (14, .slice A l.length cap), (15, .int .i64 ((l.length : Nat) : Int)), (16, .int .i64 (i : Int)), (21, .slice B_1 (l.getD i []).length cap_1), (22, .int .i64 (((l.getD i []).length : Nat) : Int)), (23, .int .i64 (j : Int)), (29, .bool false)] a_19 := f_26.keep (ks := [0, 3, 4, 7, 14, 15, 16, 21, 22, 23, 29]) (by kernel_rfl)
              refine W_run (L' := [(0, .slice A l.length cap), (3, .slice (some ⟨b_1, 0, none⟩) l.length l.length), (4, .int .i64 (i : Int)), (7, .int .i64 ((l.getD i []).getD j 0)), (14, .slice A l.length cap), (15, .int .i64 ((l.length : Nat) : Int)), (16, .int .i64 (i : Int)), (21, .slice B_1 (l.getD i []).length cap_1), (22, .int .i64 (((l.getD i []).length : Nat) : Int)), (23, .int .i64 (j : Int)), (34, .bool (decide (((l.length : Nat) : Int) ≤ ((l.getD i []).getD j 0))))]) (w' := w_3) f_27 5 [0, 3, 4, 7, 14, 15, 16, 21, 22, 23, 34] (by kernel_rfl) (fun a_21 f_28 => ?_)
              refine W_end rfl ?_
              refine T_n ?_
              have f_29 := Frm.set f_28 34 (v := .bool (decide (((l.length : Nat) : Int) ≤ ((l.getD i []).getD j 0)))) (v' := .bool ((decide (((l.getD i []).getD j 0) < 0)) || (decide (((l.length : Nat) : Int) ≤ ((l.getD i []).getD j 0))))) (by kernel_rfl) (by simp only [h_3, Bool.and_true, Bool.true_and, Bool.false_and, Bool.and_false, Bool.or_true, Bool.true_or, Bool.or_false, Bool.false_or, Bool.not_true, Bool.not_false, cond_true, cond_false])
              exact ⟨f_29.keep (ks := [0, 3, 4, 7, 14, 15, 16, 21, 22, 23, 34]) (by kernel_rfl), p_4⟩
          · rintro a_18 w_4 ⟨f_20, p_5⟩
            refine T_n ?_
            refine R_cond f_20 (b := (decide (((l.getD i []).getD j 0) < 0)) || (decide (((l.length : Nat) : Int) ≤ ((l.getD i []).getD j 0)))) (by kernel_rfl) (by kernel_rfl) (fun h_4 => ?_) (fun h_4 => ?_)
            · have k_5 : (((l.getD i []).getD j 0) < 0) ∨ (((l.length : Nat) : Int) ≤ ((l.getD i []).getD j 0)) := (or_iff decide_eq_true_iff decide_eq_true_iff).1 h_4
              refine wp_exit ?_
              refine T_x ?_
              refine B_x ?_
              refine T_n ?_
              refine R_reg ?_
              refine W_run (L' := [(0, .slice A l.length cap), (3, .slice (some ⟨b_1, 0, none⟩) l.length l.length), (4, .int .i64 (i : Int)), (7, .int .i64 ((l.getD i []).getD j 0)), (14, .slice A l.length cap), (15, .int .i64 ((l.length : Nat) : Int)), (16, .int .i64 (i : Int)), (21, .slice B_1 (l.getD i []).length cap_1), (22, .int .i64 (((l.getD i []).length : Nat) : Int)), (23, .int .i64 (j : Int)), (34, .bool ((decide (((l.getD i []).getD j 0) < 0)) || (decide (((l.length : Nat) : Int) ≤ ((l.getD i []).getD j 0))))), (49, .int .i64 (IntKind.wrap .i64 ((j : Int) + 1)))]) (w' := w_4) f_20 1 [0, 3, 4, 7, 14, 15, 16, 21, 22, 23, 34, 49] (by kernel_rfl) (fun a_22 f_30 => ?_)
              have f_31 := Frm.set f_30 49 (v := .int .i64 (IntKind.wrap .i64 ((j : Int) + 1))) (v' := .int .i64 ((j : Int) + 1)) (by kernel_rfl) (congrArg (Value.int .i64) (IntWalk.i64_in _ (by omega)))
              have f_32 : Frm 68 [(0, .slice A l.length cap), (3, .slice (some ⟨b_1, 0, none⟩) l.length l.length), (4, .int .i64 (i : Int)), (7, .int .i64 ((l.getD i []).getD j 0)), (14, .slice A l.length cap), (15, .int .i64 ((l.length : Nat) : Int)), (16, .int .i64 (i : Int)), (21, .slice B_1 (l.getD i []).length cap_1), (22, .int .i64 (((l.getD i []).length : Nat) : Int)), (23, .int .i64 (j : Int)), (34, .bool ((decide (((l.getD i []).getD j 0) < 0)) || (decide (((l.length : Nat) : Int) ≤ ((l.getD i []).getD j 0))))), (49, .int .i64 ((j : Int) + 1))] a_22 := f_31.keep (ks := [0, 3, 4, 7, 14, 15, 16, 21, 22, 23, 34, 49]) (by kernel_rfl)
              refine W_run (L' := [(0, .slice A l.length cap), (3, .slice (some ⟨b_1, 0, none⟩) l.length l.length), (4, .int .i64 (i : Int)), (14, .slice A l.length cap), (15, .int .i64 ((l.length : Nat) : Int)), (16, .int .i64 (i : Int)), (21, .slice B_1 (l.getD i []).length cap_1), (22, .int .i64 (((l.getD i []).length : Nat) : Int)), (23, .int .i64 ((j : Int) + 1))]) (w' := w_4) f_32 1 [0, 3, 4, 14, 15, 16, 21, 22, 23] (by kernel_rfl) (fun a_23 f_33 => ?_)
              refine W_end rfl ?_
              refine T_n ?_
              have f_34 := Frm.set f_33 23 (v := .int .i64 ((j : Int) + 1)) (v' := .int .i64 ((j + 1) : Int)) (by kernel_rfl) (by first | rfl | (congr 1; omega) | simp)
              refine ⟨((j + 1, G) : Nat × MapRow Int), ?_, M_2, hM_2, ?_, f_34.keep (ks := [0, 3, 4, 14, 15, 16, 21, 22, 23]) (by kernel_rfl), p_5⟩
              · show (l.getD i []).length - (j + 1) < (l.getD i []).length - j; omega
              · exact ⟨by omega, hT2.skip (by omega) (by omega)⟩
            · have k_6 : ¬ ((((l.getD i []).getD j 0) < 0) ∨ (((l.length : Nat) : Int) ≤ ((l.getD i []).getD j 0))) := iff_f (or_iff decide_eq_true_iff decide_eq_true_iff) h_4
              refine wp_skip ?_
              refine T_n ?_
              refine R_seq ?_
              refine R_seq ?_
              refine R_reg ?_
              refine W_run (L' := [(0, .slice A l.length cap), (3, .slice (some ⟨b_1, 0, none⟩) l.length l.length), (4, .int .i64 (i : Int)), (7, .int .i64 ((l.getD i []).getD j 0)), (14, .slice A l.length cap), (15, .int .i64 ((l.length : Nat) : Int)), (16, .int .i64 (i : Int)), (21, .slice B_1 (l.getD i []).length cap_1), (22, .int .i64 (((l.getD i []).length : Nat) : Int)), (23, .int .i64 (j : Int)), (35, .slice (some ⟨b_1, 0, none⟩) l.length l.length), (36, .int .i64 ((l.getD i []).getD j 0))]) (w' := w_4) f_20 2 [0, 3, 4, 7, 14, 15, 16, 21, 22, 23, 35, 36] (by kernel_rfl) (fun a_24 f_35 => ?_)
              refine W_eq (v := .pointer (some ((⟨b_1, 0, none⟩ : Addr).add (((l.getD i []).getD j 0).toNat * 1)))) f_35 (by kernel_rfl) (by kernel_rfl) rfl rfl (X_indexAddr rfl (ad := ⟨b_1, 0, none⟩) (len := l.length) (cap := l.length) (k := .i64) (i := (l.getD i []).getD j 0) (by kernel_rfl) (by kernel_rfl) (e := 121) (by kernel_rfl) (sz := 1) (by kernel_rfl) (by omega) (by omega)) (fun a_25 f_36 => ?_)
              have f_37 := Frm.set f_36 37 (v := .pointer (some ((⟨b_1, 0, none⟩ : Addr).add (((l.getD i []).getD j 0).toNat * 1)))) (v' := .pointer (some (⟨b_1, ((l.getD i []).getD j 0).toNat, none⟩))) (by kernel_rfl) (congrArg (fun a => Value.pointer (some a)) (by rw [Nat.mul_one, Addr.add_lit]; simp))
              have f_38 : Frm 68 [(0, .slice A l.length cap), (3, .slice (some ⟨b_1, 0, none⟩) l.length l.length), (4, .int .i64 (i : Int)), (7, .int .i64 ((l.getD i []).getD j 0)), (14, .slice A l.length cap), (15, .int .i64 ((l.length : Nat) : Int)), (16, .int .i64 (i : Int)), (21, .slice B_1 (l.getD i []).length cap_1), (22, .int .i64 (((l.getD i []).length : Nat) : Int)), (23, .int .i64 (j : Int)), (35, .slice (some ⟨b_1, 0, none⟩) l.length l.length), (36, .int .i64 ((l.getD i []).getD j 0)), (37, .pointer (some (⟨b_1, ((l.getD i []).getD j 0).toNat, none⟩)))] a_25 := f_37.keep (ks := [0, 3, 4, 7, 14, 15, 16, 21, 22, 23, 35, 36, 37]) (by kernel_rfl)
              refine W_eq (v := hdOf (G.getD ((l.getD i []).getD j 0).toNat none)) f_38 (by kernel_rfl) (by kernel_rfl) rfl rfl (X_load1 (v := hdOf (G.getD ((l.getD i []).getD j 0).toNat none)) rfl (ad := ⟨b_1, ((l.getD i []).getD j 0).toNat, none⟩) (by kernel_rfl) (by kernel_rfl) (gotCell p_5 0 rfl (by omega))) (fun a_26 f_39 => ?_)
              refine W_eq (v := .bool (G.getD ((l.getD i []).getD j 0).toNat none).isNone) f_39 (by kernel_rfl) (by kernel_rfl) rfl rfl (X_mapnil (g := G.getD ((l.getD i []).getD j 0).toNat none) (kt := 3) (et := 4) rfl (by kernel_rfl) (by kernel_rfl) (by kernel_rfl) _) (fun a_27 f_40 => ?_)
              refine W_end rfl ?_
              refine T_n ?_
              refine R_cond f_40 (b := (G.getD ((l.getD i []).getD j 0).toNat none).isNone) (by kernel_rfl) (by kernel_rfl) (fun h_5 => ?_) (fun h_5 => ?_)
              · have hgn : G.getD ((l.getD i []).getD j 0).toNat none = none := Option.isNone_iff_eq_none.1 h_5
                refine R_reg ?_
                refine W_run (L' := [(0, .slice A l.length cap), (3, .slice (some ⟨b_1, 0, none⟩) l.length l.length), (4, .int .i64 (i : Int)), (7, .int .i64 ((l.getD i []).getD j 0)), (14, .slice A l.length cap), (15, .int .i64 ((l.length : Nat) : Int)), (16, .int .i64 (i : Int)), (21, .slice B_1 (l.getD i []).length cap_1), (22, .int .i64 (((l.getD i []).length : Nat) : Int)), (23, .int .i64 (j : Int)), (40, .slice (some ⟨b_1, 0, none⟩) l.length l.length), (41, .int .i64 ((l.getD i []).getD j 0))]) (w' := w_4) f_40 2 [0, 3, 4, 7, 14, 15, 16, 21, 22, 23, 40, 41] (by kernel_rfl) (fun a_28 f_41 => ?_)
                refine W_makeMap (Value.int .i64) f_41 p_5 (by kernel_rfl) (by kernel_rfl) rfl rfl rfl (fun bn_1 w_5 p_6 a_29 f_42 => ?_)
                refine W_eq (v := .pointer (some ((⟨b_1, 0, none⟩ : Addr).add (((l.getD i []).getD j 0).toNat * 1)))) f_42 (by kernel_rfl) (by kernel_rfl) rfl rfl (X_indexAddr rfl (ad := ⟨b_1, 0, none⟩) (len := l.length) (cap := l.length) (k := .i64) (i := (l.getD i []).getD j 0) (by kernel_rfl) (by kernel_rfl) (e := 121) (by kernel_rfl) (sz := 1) (by kernel_rfl) (by omega) (by omega)) (fun a_30 f_43 => ?_)
                have f_44 := Frm.set f_43 43 (v := .pointer (some ((⟨b_1, 0, none⟩ : Addr).add (((l.getD i []).getD j 0).toNat * 1)))) (v' := .pointer (some (⟨b_1, ((l.getD i []).getD j 0).toNat, none⟩))) (by kernel_rfl) (congrArg (fun a => Value.pointer (some a)) (by rw [Nat.mul_one, Addr.add_lit]; simp))
                have f_45 : Frm 68 [(0, .slice A l.length cap), (3, .slice (some ⟨b_1, 0, none⟩) l.length l.length), (4, .int .i64 (i : Int)), (7, .int .i64 ((l.getD i []).getD j 0)), (14, .slice A l.length cap), (15, .int .i64 ((l.length : Nat) : Int)), (16, .int .i64 (i : Int)), (21, .slice B_1 (l.getD i []).length cap_1), (22, .int .i64 (((l.getD i []).length : Nat) : Int)), (23, .int .i64 (j : Int)), (40, .slice (some ⟨b_1, 0, none⟩) l.length l.length), (41, .int .i64 ((l.getD i []).getD j 0)), (42, .map (some bn_1)), (43, .pointer (some (⟨b_1, ((l.getD i []).getD j 0).toNat, none⟩)))] a_30 := f_44.keep (ks := [0, 3, 4, 7, 14, 15, 16, 21, 22, 23, 40, 41, 42, 43]) (by kernel_rfl)
                refine W_store1 f_45 p_6 1 (by kernel_rfl) (by kernel_rfl) rfl rfl (b := b_1) (j := ((l.getD i []).getD j 0).toNat) (v := .map (some bn_1)) (by kernel_rfl) (by kernel_rfl) rfl (by kernel_rfl) (by exact rfl) (by simp only [List.size_toArray, List.length_map]; omega) (by omega) ((Ent.obj bn_1 (mObj (Value.int .i64) [])) :: ((Ent.obj b_1 (.cells ((G.map hdOf).toArray.setIfInBounds ((l.getD i []).getD j 0).toNat (.map (some bn_1))) 121 (0, 0))) :: (bag (Value.int .i64) G ++ H))) rfl (fun w_6 p_7 a_31 f_46 => ?_)
                have p_8 : Hp w0 M_2 ((Ent.obj b_1 (.cells ((G.set ((l.getD i []).getD j 0).toNat (some (bn_1, []))).map hdOf).toArray 121 (0, 0))) :: (bag (Value.int .i64) (G.set ((l.getD i []).getD j 0).toNat (some (bn_1, []))) ++ H)) w_6 := Hp.bagNew p_7 (by omega) hgn
                have hg : (G.set ((l.getD i []).getD j 0).toNat (some (bn_1, []))).getD ((l.getD i []).getD j 0).toNat none = some (bn_1, []) := Vc.getD_set_self (by omega)
                refine W_end rfl ?_
                refine T_n ?_
                refine R_reg ?_
                refine W_run (L' := [(0, .slice A l.length cap), (3, .slice (some ⟨b_1, 0, none⟩) l.length l.length), (4, .int .i64 (i : Int)), (14, .slice A l.length cap), (15, .int .i64 ((l.length : Nat) : Int)), (16, .int .i64 (i : Int)), (21, .slice B_1 (l.getD i []).length cap_1), (22, .int .i64 (((l.getD i []).length : Nat) : Int)), (23, .int .i64 (j : Int)), (44, .slice (some ⟨b_1, 0, none⟩) l.length l.length), (45, .int .i64 ((l.getD i []).getD j 0))]) (w' := w_6) f_46 2 [0, 3, 4, 14, 15, 16, 21, 22, 23, 44, 45] (by kernel_rfl) (fun a_32 f_47 => ?_)
                refine W_eq (v := .pointer (some ((⟨b_1, 0, none⟩ : Addr).add (((l.getD i []).getD j 0).toNat * 1)))) f_47 (by kernel_rfl) (by kernel_rfl) rfl rfl (X_indexAddr rfl (ad := ⟨b_1, 0, none⟩) (len := l.length) (cap := l.length) (k := .i64) (i := (l.getD i []).getD j 0) (by kernel_rfl) (by kernel_rfl) (e := 121) (by kernel_rfl) (sz := 1) (by kernel_rfl) (by omega) (by omega)) (fun a_33 f_48 => ?_)
                have f_49 := Frm.set f_48 46 (v := .pointer (some ((⟨b_1, 0, none⟩ : Addr).add (((l.getD i []).getD j 0).toNat * 1)))) (v' := .pointer (some (⟨b_1, ((l.getD i []).getD j 0).toNat, none⟩))) (by kernel_rfl) (congrArg (fun a => Value.pointer (some a)) (by rw [Nat.mul_one, Addr.add_lit]; simp))
                have f_50 : Frm 68 [(0, .slice A l.length cap), (3, .slice (some ⟨b_1, 0, none⟩) l.length l.length), (4, .int .i64 (i : Int)), (14, .slice A l.length cap), (15, .int .i64 ((l.length : Nat) : Int)), (16, .int .i64 (i : Int)), (21, .slice B_1 (l.getD i []).length cap_1), (22, .int .i64 (((l.getD i []).length : Nat) : Int)), (23, .int .i64 (j : Int)), (44, .slice (some ⟨b_1, 0, none⟩) l.length l.length), (45, .int .i64 ((l.getD i []).getD j 0)), (46, .pointer (some (⟨b_1, ((l.getD i []).getD j 0).toNat, none⟩)))] a_33 := f_49.keep (ks := [0, 3, 4, 14, 15, 16, 21, 22, 23, 44, 45, 46]) (by kernel_rfl)
                refine W_eq (v := .map (some bn_1)) f_50 (by kernel_rfl) (by kernel_rfl) rfl rfl (X_load1 (v := .map (some bn_1)) rfl (ad := ⟨b_1, ((l.getD i []).getD j 0).toNat, none⟩) (by kernel_rfl) (by kernel_rfl) ((gotCell p_8 0 rfl (by first | omega | (simp only [List.length_set]; omega))).trans (by rw [hg]; rfl))) (fun a_34 f_51 => ?_)
                refine W_run (L' := [(0, .slice A l.length cap), (3, .slice (some ⟨b_1, 0, none⟩) l.length l.length), (4, .int .i64 (i : Int)), (14, .slice A l.length cap), (15, .int .i64 ((l.length : Nat) : Int)), (16, .int .i64 (i : Int)), (21, .slice B_1 (l.getD i []).length cap_1), (22, .int .i64 (((l.getD i []).length : Nat) : Int)), (23, .int .i64 (j : Int)), (47, .map (some bn_1)), (48, .int .i64 (i : Int))]) (w' := w_6) f_51 1 [0, 3, 4, 14, 15, 16, 21, 22, 23, 47, 48] (by kernel_rfl) (fun a_35 f_52 => ?_)
                refine W_bagUpdate (enc := (Value.int .i64)) (kt := 3) (et := 4) (k := (i : Int)) (v := .bool true) f_52 p_8 hg (by kernel_rfl) (by kernel_rfl) rfl (.inl rfl) (by kernel_rfl) (by kernel_rfl) (by kernel_rfl) (by kernel_rfl) (intKey (k := .i64) (by kernel_rfl)) (fun w_7 p_9 a_36 f_53 => ?_)
                refine W_end rfl ?_
                refine B_n ?_
                refine T_n ?_
                refine R_reg ?_
                refine W_run (L' := [(0, .slice A l.length cap), (3, .slice (some ⟨b_1, 0, none⟩) l.length l.length), (4, .int .i64 (i : Int)), (14, .slice A l.length cap), (15, .int .i64 ((l.length : Nat) : Int)), (16, .int .i64 (i : Int)), (21, .slice B_1 (l.getD i []).length cap_1), (22, .int .i64 (((l.getD i []).length : Nat) : Int)), (23, .int .i64 (j : Int)), (47, .map (some bn_1)), (48, .int .i64 (i : Int)), (49, .int .i64 (IntKind.wrap .i64 ((j : Int) + 1)))]) (w' := w_7) f_53 1 [0, 3, 4, 14, 15, 16, 21, 22, 23, 47, 48, 49] (by kernel_rfl) (fun a_37 f_54 => ?_)
                have f_55 := Frm.set f_54 49 (v := .int .i64 (IntKind.wrap .i64 ((j : Int) + 1))) (v' := .int .i64 ((j : Int) + 1)) (by kernel_rfl) (congrArg (Value.int .i64) (IntWalk.i64_in _ (by omega)))
                have f_56 : Frm 68 [(0, .slice A l.length cap), (3, .slice (some ⟨b_1, 0, none⟩) l.length l.length), (4, .int .i64 (i : Int)), (14, .slice A l.length cap), (15, .int .i64 ((l.length : Nat) : Int)), (16, .int .i64 (i : Int)), (21, .slice B_1 (l.getD i []).length cap_1), (22, .int .i64 (((l.getD i []).length : Nat) : Int)), (23, .int .i64 (j : Int)), (47, .map (some bn_1)), (48, .int .i64 (i : Int)), (49, .int .i64 ((j : Int) + 1))] a_37 := f_55.keep (ks := [0, 3, 4, 14, 15, 16, 21, 22, 23, 47, 48, 49]) (by kernel_rfl)
                refine W_run (L' := [(0, .slice A l.length cap), (3, .slice (some ⟨b_1, 0, none⟩) l.length l.length), (4, .int .i64 (i : Int)), (14, .slice A l.length cap), (15, .int .i64 ((l.length : Nat) : Int)), (16, .int .i64 (i : Int)), (21, .slice B_1 (l.getD i []).length cap_1), (22, .int .i64 (((l.getD i []).length : Nat) : Int)), (23, .int .i64 ((j : Int) + 1))]) (w' := w_7) f_56 1 [0, 3, 4, 14, 15, 16, 21, 22, 23] (by kernel_rfl) (fun a_38 f_57 => ?_)
                refine W_end rfl ?_
                refine T_n ?_
                have f_58 := Frm.set f_57 23 (v := .int .i64 ((j : Int) + 1)) (v' := .int .i64 ((j + 1) : Int)) (by kernel_rfl) (by first | rfl | (congr 1; omega) | simp)
                refine ⟨((j + 1, (G.set ((l.getD i []).getD j 0).toNat (some (bn_1, []))).set ((l.getD i []).getD j 0).toNat (some (bn_1, updM [] (i : Int) (.bool true)))) : Nat × MapRow Int), ?_, M_2, hM_2, ?_, f_58.keep (ks := [0, 3, 4, 14, 15, 16, 21, 22, 23]) (by kernel_rfl), p_9⟩
                · show (l.getD i []).length - (j + 1) < (l.getD i []).length - j; omega
                · exact ⟨by omega, hT2.put (by omega) (by omega) (by simp) (fun k hk => by rw [Vc.getD_set_ne hk, Vc.getD_set_ne hk]) (by rw [Vc.getD_set_self (by simp only [List.length_set]; omega), hgn]; exact keys_upd [] _ _)⟩
              · refine wp_skip ?_
                refine T_n ?_
                obtain ⟨bo, mo, hg⟩ : ∃ b m, G.getD ((l.getD i []).getD j 0).toNat none = some (b, m) := by
                  cases hq : G.getD ((l.getD i []).getD j 0).toNat none with
                  | none => rw [hq] at h_5; cases h_5
                  | some q => exact ⟨q.1, q.2, rfl⟩
                refine R_reg ?_
                refine W_run (L' := [(0, .slice A l.length cap), (3, .slice (some ⟨b_1, 0, none⟩) l.length l.length), (4, .int .i64 (i : Int)), (14, .slice A l.length cap), (15, .int .i64 ((l.length : Nat) : Int)), (16, .int .i64 (i : Int)), (21, .slice B_1 (l.getD i []).length cap_1), (22, .int .i64 (((l.getD i []).length : Nat) : Int)), (23, .int .i64 (j : Int)), (44, .slice (some ⟨b_1, 0, none⟩) l.length l.length), (45, .int .i64 ((l.getD i []).getD j 0))]) (w' := w_4) f_40 2 [0, 3, 4, 14, 15, 16, 21, 22, 23, 44, 45] (by kernel_rfl) (fun a_39 f_59 => ?_)
                refine W_eq (v := .pointer (some ((⟨b_1, 0, none⟩ : Addr).add (((l.getD i []).getD j 0).toNat * 1)))) f_59 (by kernel_rfl) (by kernel_rfl) rfl rfl (X_indexAddr rfl (ad := ⟨b_1, 0, none⟩) (len := l.length) (cap := l.length) (k := .i64) (i := (l.getD i []).getD j 0) (by kernel_rfl) (by kernel_rfl) (e := 121) (by kernel_rfl) (sz := 1) (by kernel_rfl) (by omega) (by omega)) (fun a_40 f_60 => ?_)
                have f_61 := Frm.set f_60 46 (v := .pointer (some ((⟨b_1, 0, none⟩ : Addr).add (((l.getD i []).getD j 0).toNat * 1)))) (v' := .pointer (some (⟨b_1, ((l.getD i []).getD j 0).toNat, none⟩))) (by kernel_rfl) (congrArg (fun a => Value.pointer (some a)) (by rw [Nat.mul_one, Addr.add_lit]; simp))
                have f_62 : Frm 68 [(0, .slice A l.length cap), (3, .slice (some ⟨b_1, 0, none⟩) l.length l.length), (4, .int .i64 (i : Int)), (14, .slice A l.length cap), (15, .int .i64 ((l.length : Nat) : Int)), (16, .int .i64 (i : Int)), (21, .slice B_1 (l.getD i []).length cap_1), (22, .int .i64 (((l.getD i []).length : Nat) : Int)), (23, .int .i64 (j : Int)), (44, .slice (some ⟨b_1, 0, none⟩) l.length l.length), (45, .int .i64 ((l.getD i []).getD j 0)), (46, .pointer (some (⟨b_1, ((l.getD i []).getD j 0).toNat, none⟩)))] a_40 := f_61.keep (ks := [0, 3, 4, 14, 15, 16, 21, 22, 23, 44, 45, 46]) (by kernel_rfl)
                refine W_eq (v := .map (some bo)) f_62 (by kernel_rfl) (by kernel_rfl) rfl rfl (X_load1 (v := .map (some bo)) rfl (ad := ⟨b_1, ((l.getD i []).getD j 0).toNat, none⟩) (by kernel_rfl) (by kernel_rfl) ((gotCell p_5 0 rfl (by first | omega | (simp only [List.length_set]; omega))).trans (by rw [hg]; rfl))) (fun a_41 f_63 => ?_)
                refine W_run (L' := [(0, .slice A l.length cap), (3, .slice (some ⟨b_1, 0, none⟩) l.length l.length), (4, .int .i64 (i : Int)), (14, .slice A l.length cap), (15, .int .i64 ((l.length : Nat) : Int)), (16, .int .i64 (i : Int)), (21, .slice B_1 (l.getD i []).length cap_1), (22, .int .i64 (((l.getD i []).length : Nat) : Int)), (23, .int .i64 (j : Int)), (47, .map (some bo)), (48, .int .i64 (i : Int))]) (w' := w_4) f_63 1 [0, 3, 4, 14, 15, 16, 21, 22, 23, 47, 48] (by kernel_rfl) (fun a_42 f_64 => ?_)
                refine W_bagUpdate (enc := (Value.int .i64)) (kt := 3) (et := 4) (k := (i : Int)) (v := .bool true) f_64 p_5 hg (by kernel_rfl) (by kernel_rfl) rfl (.inl rfl) (by kernel_rfl) (by kernel_rfl) (by kernel_rfl) (by kernel_rfl) (intKey (k := .i64) (by kernel_rfl)) (fun w_8 p_10 a_43 f_65 => ?_)
                refine W_end rfl ?_
                refine B_n ?_
                refine T_n ?_
                refine R_reg ?_
                refine W_run (L' := [(0, .slice A l.length cap), (3, .slice (some ⟨b_1, 0, none⟩) l.length l.length), (4, .int .i64 (i : Int)), (14, .slice A l.length cap), (15, .int .i64 ((l.length : Nat) : Int)), (16, .int .i64 (i : Int)), (21, .slice B_1 (l.getD i []).length cap_1), (22, .int .i64 (((l.getD i []).length : Nat) : Int)), (23, .int .i64 (j : Int)), (47, .map (some bo)), (48, .int .i64 (i : Int)), (49, .int .i64 (IntKind.wrap .i64 ((j : Int) + 1)))]) (w' := w_8) f_65 1 [0, 3, 4, 14, 15, 16, 21, 22, 23, 47, 48, 49] (by kernel_rfl) (fun a_44 f_66 => ?_)
                have f_67 := Frm.set f_66 49 (v := .int .i64 (IntKind.wrap .i64 ((j : Int) + 1))) (v' := .int .i64 ((j : Int) + 1)) (by kernel_rfl) (congrArg (Value.int .i64) (IntWalk.i64_in _ (by omega)))
                have f_68 : Frm 68 [(0, .slice A l.length cap), (3, .slice (some ⟨b_1, 0, none⟩) l.length l.length), (4, .int .i64 (i : Int)), (14, .slice A l.length cap), (15, .int .i64 ((l.length : Nat) : Int)), (16, .int .i64 (i : Int)), (21, .slice B_1 (l.getD i []).length cap_1), (22, .int .i64 (((l.getD i []).length : Nat) : Int)), (23, .int .i64 (j : Int)), (47, .map (some bo)), (48, .int .i64 (i : Int)), (49, .int .i64 ((j : Int) + 1))] a_44 := f_67.keep (ks := [0, 3, 4, 14, 15, 16, 21, 22, 23, 47, 48, 49]) (by kernel_rfl)
                refine W_run (L' := [(0, .slice A l.length cap), (3, .slice (some ⟨b_1, 0, none⟩) l.length l.length), (4, .int .i64 (i : Int)), (14, .slice A l.length cap), (15, .int .i64 ((l.length : Nat) : Int)), (16, .int .i64 (i : Int)), (21, .slice B_1 (l.getD i []).length cap_1), (22, .int .i64 (((l.getD i []).length : Nat) : Int)), (23, .int .i64 ((j : Int) + 1))]) (w' := w_8) f_68 1 [0, 3, 4, 14, 15, 16, 21, 22, 23] (by kernel_rfl) (fun a_45 f_69 => ?_)
                refine W_end rfl ?_
                refine T_n ?_
                have f_70 := Frm.set f_69 23 (v := .int .i64 ((j : Int) + 1)) (v' := .int .i64 ((j + 1) : Int)) (by kernel_rfl) (by first | rfl | (congr 1; omega) | simp)
                refine ⟨((j + 1, G.set ((l.getD i []).getD j 0).toNat (some (bo, updM mo (i : Int) (.bool true)))) : Nat × MapRow Int), ?_, M_2, hM_2, ?_, f_70.keep (ks := [0, 3, 4, 14, 15, 16, 21, 22, 23]) (by kernel_rfl), p_10⟩
                · show (l.getD i []).length - (j + 1) < (l.getD i []).length - j; omega
                · exact ⟨by omega, hT2.put (by omega) (by omega) (by simp) (fun k hk => Vc.getD_set_ne hk) (by rw [Vc.getD_set_self (by omega), hg]; exact keys_upd mo _ _)⟩
        · have k_9 : ¬ ((j : Int) < (((l.getD i []).length : Nat) : Int)) := iff_f decide_eq_true_iff h_2
          refine wp_exit ?_
          refine T_x ?_
          refine T_x ?_
          refine B_x ?_
          refine B_n ?_
          refine T_n ?_
          refine R_reg ?_
          refine W_run (L' := [(0, .slice A l.length cap), (3, .slice (some ⟨b_1, 0, none⟩) l.length l.length), (4, .int .i64 (i : Int)), (14, .slice A l.length cap), (15, .int .i64 ((l.length : Nat) : Int)), (16, .int .i64 (i : Int)), (21, .slice B_1 (l.getD i []).length cap_1), (22, .int .i64 (((l.getD i []).length : Nat) : Int)), (23, .int .i64 (j : Int)), (24, .bool (decide ((j : Int) < (((l.getD i []).length : Nat) : Int)))), (50, .int .i64 (IntKind.wrap .i64 ((i : Int) + 1)))]) (w' := w_3) f_16 1 [0, 3, 4, 14, 15, 16, 21, 22, 23, 24, 50] (by kernel_rfl) (fun a_46 f_71 => ?_)
          have f_72 := Frm.set f_71 50 (v := .int .i64 (IntKind.wrap .i64 ((i : Int) + 1))) (v' := .int .i64 ((i : Int) + 1)) (by kernel_rfl) (congrArg (Value.int .i64) (IntWalk.i64_in _ (by omega)))
          have f_73 : Frm 68 [(0, .slice A l.length cap), (3, .slice (some ⟨b_1, 0, none⟩) l.length l.length), (4, .int .i64 (i : Int)), (14, .slice A l.length cap), (15, .int .i64 ((l.length : Nat) : Int)), (16, .int .i64 (i : Int)), (21, .slice B_1 (l.getD i []).length cap_1), (22, .int .i64 (((l.getD i []).length : Nat) : Int)), (23, .int .i64 (j : Int)), (24, .bool (decide ((j : Int) < (((l.getD i []).length : Nat) : Int)))), (50, .int .i64 ((i : Int) + 1))] a_46 := f_72.keep (ks := [0, 3, 4, 14, 15, 16, 21, 22, 23, 24, 50]) (by kernel_rfl)
          refine W_run (L' := [(0, .slice A l.length cap), (3, .slice (some ⟨b_1, 0, none⟩) l.length l.length), (14, .slice A l.length cap), (15, .int .i64 ((l.length : Nat) : Int)), (16, .int .i64 ((i : Int) + 1))]) (w' := w_3) f_73 1 [0, 3, 14, 15, 16] (by kernel_rfl) (fun a_47 f_74 => ?_)
          refine W_end rfl ?_
          refine T_n ?_
          have f_75 := Frm.set f_74 16 (v := .int .i64 ((i : Int) + 1)) (v' := .int .i64 ((i + 1) : Int)) (by kernel_rfl) (by first | rfl | (congr 1; omega) | simp)
          refine ⟨((i + 1, G) : Nat × MapRow Int), ?_, M_2, (hM_1.trans hM_2), ?_, f_75.keep (ks := [0, 3, 14, 15, 16]) (by kernel_rfl), p_4⟩
          · show l.length - (i + 1) < l.length - i; omega
          · exact ⟨by omega, hT2.row (by omega)⟩
    · have k_10 : ¬ ((i : Int) < ((l.length : Nat) : Int)) := iff_f decide_eq_true_iff h_1
      refine wp_exit ?_
      refine T_x ?_
      refine T_x ?_
      refine B_x ?_
      refine T_n ?_
      refine R_seq ?_
      obtain ⟨kf_1, pf_1⟩ := p_3.freeze
      obtain ⟨M_3, hM_3, p_11, hbag_1⟩ := Hp.bagKnown pf_1
      have hgot_1 : ∀ k, k < l.length → M_3.cell? ⟨b_1, k, none⟩ = some (hdOf (G.getD k none)) := fun k hk => hM_3.cell (by rw [add_cell]; simp [List.getD, hGl, hk])
      have hie : i = l.length := by omega
      subst hie
      refine R_reg ?_
      refine W_run (L' := [(3, .slice (some ⟨b_1, 0, none⟩) l.length l.length), (52, .int .i64 ((l.length : Nat) : Int))]) (w' := w_2) f_8 2 [3, 52] (by kernel_rfl) (fun a_48 f_76 => ?_)
      refine W_make (m := l.length) (z := .slice none 0 0) (bytes := 24) (e := 27) f_76 p_11 (by kernel_rfl) (by kernel_rfl) rfl rfl rfl (by kernel_rfl) (by kernel_rfl) (by kernel_rfl) (by kernel_rfl) rfl (by omega) (by omega) (fun b_2 w_9 p_12 a_49 f_77 => ?_)
      refine W_run (L' := [(3, .slice (some ⟨b_1, 0, none⟩) l.length l.length), (8, .slice (some ⟨b_2, 0, none⟩) l.length l.length)]) (w' := w_9) f_77 1 [3, 8] (by kernel_rfl) (fun a_50 f_78 => ?_)
      refine W_end rfl ?_
      refine T_n ?_
      refine R_seq ?_
      refine R_seq ?_
      refine R_reg ?_
      refine W_run (L' := [(8, .slice (some ⟨b_2, 0, none⟩) l.length l.length), (54, .slice (some ⟨b_1, 0, none⟩) l.length l.length), (55, .int .i64 ((l.length : Nat) : Int)), (56, .int .i64 0)]) (w' := w_9) f_78 3 [8, 54, 55, 56] (by kernel_rfl) (fun a_51 f_79 => ?_)
      refine W_end rfl ?_
      refine T_n ?_
      refine wp_block ?_
      have f_80 := Frm.set f_79 56 (v := .int .i64 0) (v' := .int .i64 (0 : Int)) (by kernel_rfl) (by first | rfl | (congr 1; omega) | simp)
      refine R_loop (n := 68) (w0 := w0) (M := M_3) (fun (x : Nat × List Value) => match x with | (k, O) => [(8, .slice (some ⟨b_2, 0, none⟩) l.length l.length), (54, .slice (some ⟨b_1, 0, none⟩) l.length l.length), (55, .int .i64 ((l.length : Nat) : Int)), (56, .int .i64 (k : Int))]) (fun (x : Nat × List Value) => match x with | (k, O) => ((Ent.obj b_2 (.cells O.toArray 27 (0, 0))) :: H)) (fun (x : Nat × List Value) (M_4 : Mem) => match x with | (k, O) => (k ≤ l.length) ∧ (O.length = l.length) ∧ (∀ q, q < k → IntRow M_4 .i64 (O.getD q undef) ((turnedL l).getD q []))) (fun (x : Nat × List Value) => match x with | (k, O) => l.length - k) (0, List.replicate l.length (.slice none 0 0)) (f_80.keep (ks := [8, 54, 55, 56]) (by kernel_rfl)) p_12 ?_ ?_
      · exact ⟨Nat.zero_le _, by simp, lt_zero⟩
      · rintro ⟨k, O⟩ M_4 a_52 w_10 hM_4 I_3 f_81 p_13
        replace f_81 : Frm 68 [(8, .slice (some ⟨b_2, 0, none⟩) l.length l.length), (54, .slice (some ⟨b_1, 0, none⟩) l.length l.length), (55, .int .i64 ((l.length : Nat) : Int)), (56, .int .i64 (k : Int))] a_52 := f_81
        replace p_13 : Hp w0 M_4 ((Ent.obj b_2 (.cells O.toArray 27 (0, 0))) :: H) w_10 := p_13
        replace I_3 : (k ≤ l.length) ∧ (O.length = l.length) ∧ (∀ q, q < k → IntRow M_4 .i64 (O.getD q undef) ((turnedL l).getD q [])) := I_3
        obtain ⟨hk, hOl, hO⟩ := I_3
        refine R_seq ?_
        refine R_reg ?_
        refine W_run (L' := [(8, .slice (some ⟨b_2, 0, none⟩) l.length l.length), (54, .slice (some ⟨b_1, 0, none⟩) l.length l.length), (55, .int .i64 ((l.length : Nat) : Int)), (56, .int .i64 (k : Int)), (57, .bool (decide ((k : Int) < ((l.length : Nat) : Int))))]) (w' := w_10) f_81 1 [8, 54, 55, 56, 57] (by kernel_rfl) (fun a_53 f_82 => ?_)
        refine W_end rfl ?_
        refine T_n ?_
        refine R_seq ?_
        refine R_cond f_82 (b := decide ((k : Int) < ((l.length : Nat) : Int))) (by kernel_rfl) (by kernel_rfl) (fun h_6 => ?_) (fun h_6 => ?_)
        · have k_11 : (k : Int) < ((l.length : Nat) : Int) := decide_eq_true_iff.1 h_6
          refine wp_skip ?_
          refine T_n ?_
          refine R_seq ?_
          refine wp_block ?_
          refine R_seq ?_
          refine R_reg ?_
          refine W_run (L' := [(8, .slice (some ⟨b_2, 0, none⟩) l.length l.length), (54, .slice (some ⟨b_1, 0, none⟩) l.length l.length), (55, .int .i64 ((l.length : Nat) : Int)), (56, .int .i64 (k : Int)), (58, .int .i64 (k : Int))]) (w' := w_10) f_82 1 [8, 54, 55, 56, 58] (by kernel_rfl) (fun a_54 f_83 => ?_)
          refine W_eq (v := .pointer (some ((⟨b_1, 0, none⟩ : Addr).add ((k : Int).toNat * 1)))) f_83 (by kernel_rfl) (by kernel_rfl) rfl rfl (X_indexAddr rfl (ad := ⟨b_1, 0, none⟩) (len := l.length) (cap := l.length) (k := .i64) (i := (k : Int)) (by kernel_rfl) (by kernel_rfl) (e := 121) (by kernel_rfl) (sz := 1) (by kernel_rfl) (by omega) (by omega)) (fun a_55 f_84 => ?_)
          have f_85 := Frm.set f_84 59 (v := .pointer (some ((⟨b_1, 0, none⟩ : Addr).add ((k : Int).toNat * 1)))) (v' := .pointer (some (⟨b_1, k, none⟩))) (by kernel_rfl) (congrArg (fun a => Value.pointer (some a)) (by rw [Nat.mul_one, Addr.add_lit]; simp))
          have f_86 : Frm 68 [(8, .slice (some ⟨b_2, 0, none⟩) l.length l.length), (54, .slice (some ⟨b_1, 0, none⟩) l.length l.length), (55, .int .i64 ((l.length : Nat) : Int)), (56, .int .i64 (k : Int)), (58, .int .i64 (k : Int)), (59, .pointer (some (⟨b_1, k, none⟩)))] a_55 := f_85.keep (ks := [8, 54, 55, 56, 58, 59]) (by kernel_rfl)
          refine W_eq (v := hdOf (G.getD k none)) f_86 (by kernel_rfl) (by kernel_rfl) rfl rfl (X_load1 (v := hdOf (G.getD k none)) rfl (ad := ⟨b_1, k, none⟩) (by kernel_rfl) (by kernel_rfl) (p_13.cell (hM_4.cell (hgot_1 _ (by omega))))) (fun a_56 f_87 => ?_)
          refine W_run (L' := [(8, .slice (some ⟨b_2, 0, none⟩) l.length l.length), (9, .int .i64 (k : Int)), (10, hdOf (G.getD k none)), (54, .slice (some ⟨b_1, 0, none⟩) l.length l.length), (55, .int .i64 ((l.length : Nat) : Int)), (56, .int .i64 (k : Int))]) (w' := w_10) f_87 2 [8, 9, 10, 54, 55, 56] (by kernel_rfl) (fun a_57 f_88 => ?_)
          refine W_end rfl ?_
          refine T_n ?_
          refine R_reg ?_
          refine W_run (L' := [(8, .slice (some ⟨b_2, 0, none⟩) l.length l.length), (54, .slice (some ⟨b_1, 0, none⟩) l.length l.length), (55, .int .i64 ((l.length : Nat) : Int)), (56, .int .i64 (k : Int)), (61, .slice (some ⟨b_2, 0, none⟩) l.length l.length), (62, .int .i64 (k : Int)), (63, hdOf (G.getD k none))]) (w' := w_10) f_88 3 [8, 54, 55, 56, 61, 62, 63] (by kernel_rfl) (fun a_58 f_89 => ?_)
          refine W_ok f_89 p_13 (by kernel_rfl) (by kernel_rfl) rfl rfl (fun _ => by kernel_rfl) (risingAny_ok _ (G.getD k none) (fun b m e => hM_4 _ _ (hbag_1 b m (memOf (by omega) e))) (Nat.le_trans (hT.len (by omega)) lL)) (fun v_1 M_5 w_11 hM_5 p_14 q_1 a_59 f_90 => ?_)
          obtain ⟨A_1, cap_2, rfl, hcap_2, hi_2, hnew_1⟩ := q_1
          refine W_eq (v := .pointer (some ((⟨b_2, 0, none⟩ : Addr).add ((k : Int).toNat * 1)))) f_90 (by kernel_rfl) (by kernel_rfl) rfl rfl (X_indexAddr rfl (ad := ⟨b_2, 0, none⟩) (len := l.length) (cap := l.length) (k := .i64) (i := (k : Int)) (by kernel_rfl) (by kernel_rfl) (e := 27) (by kernel_rfl) (sz := 1) (by kernel_rfl) (by omega) (by omega)) (fun a_60 f_91 => ?_)
          have f_92 := Frm.set f_91 65 (v := .pointer (some ((⟨b_2, 0, none⟩ : Addr).add ((k : Int).toNat * 1)))) (v' := .pointer (some (⟨b_2, k, none⟩))) (by kernel_rfl) (congrArg (fun a => Value.pointer (some a)) (by rw [Nat.mul_one, Addr.add_lit]; simp))
          have f_93 : Frm 68 [(8, .slice (some ⟨b_2, 0, none⟩) l.length l.length), (54, .slice (some ⟨b_1, 0, none⟩) l.length l.length), (55, .int .i64 ((l.length : Nat) : Int)), (56, .int .i64 (k : Int)), (61, .slice (some ⟨b_2, 0, none⟩) l.length l.length), (62, .int .i64 (k : Int)), (63, hdOf (G.getD k none)), (64, .slice A_1 (rise (keysOf (G.getD k none))).length cap_2), (65, .pointer (some (⟨b_2, k, none⟩)))] a_60 := f_92.keep (ks := [8, 54, 55, 56, 61, 62, 63, 64, 65]) (by kernel_rfl)
          refine W_store1 f_93 p_14 0 (by kernel_rfl) (by kernel_rfl) rfl rfl (b := b_2) (j := k) (v := .slice A_1 (rise (keysOf (G.getD k none))).length cap_2) (by kernel_rfl) (by kernel_rfl) rfl (by kernel_rfl) (by exact rfl) (by simp only [List.size_toArray]; omega) (by omega) _ rfl (fun w_12 p_15 a_61 f_94 => ?_)
          have p_16 : Hp w0 M_5 ((Ent.obj b_2 (.cells (O.set k (.slice A_1 (rise (keysOf (G.getD k none))).length cap_2)).toArray 27 (0, 0))) :: H) w_12 := by simpa using p_15
          refine W_end rfl ?_
          refine B_n ?_
          refine T_n ?_
          refine R_reg ?_
          refine W_run (L' := [(8, .slice (some ⟨b_2, 0, none⟩) l.length l.length), (54, .slice (some ⟨b_1, 0, none⟩) l.length l.length), (55, .int .i64 ((l.length : Nat) : Int)), (56, .int .i64 (k : Int)), (61, .slice (some ⟨b_2, 0, none⟩) l.length l.length), (62, .int .i64 (k : Int)), (63, hdOf (G.getD k none)), (64, .slice A_1 (rise (keysOf (G.getD k none))).length cap_2), (65, .pointer (some (⟨b_2, k, none⟩))), (66, .int .i64 (IntKind.wrap .i64 ((k : Int) + 1)))]) (w' := w_12) f_94 1 [8, 54, 55, 56, 61, 62, 63, 64, 65, 66] (by kernel_rfl) (fun a_62 f_95 => ?_)
          have f_96 := Frm.set f_95 66 (v := .int .i64 (IntKind.wrap .i64 ((k : Int) + 1))) (v' := .int .i64 ((k : Int) + 1)) (by kernel_rfl) (congrArg (Value.int .i64) (IntWalk.i64_in _ (by omega)))
          have f_97 : Frm 68 [(8, .slice (some ⟨b_2, 0, none⟩) l.length l.length), (54, .slice (some ⟨b_1, 0, none⟩) l.length l.length), (55, .int .i64 ((l.length : Nat) : Int)), (56, .int .i64 (k : Int)), (61, .slice (some ⟨b_2, 0, none⟩) l.length l.length), (62, .int .i64 (k : Int)), (63, hdOf (G.getD k none)), (64, .slice A_1 (rise (keysOf (G.getD k none))).length cap_2), (65, .pointer (some (⟨b_2, k, none⟩))), (66, .int .i64 ((k : Int) + 1))] a_62 := f_96.keep (ks := [8, 54, 55, 56, 61, 62, 63, 64, 65, 66]) (by kernel_rfl)
          refine W_run (L' := [(8, .slice (some ⟨b_2, 0, none⟩) l.length l.length), (54, .slice (some ⟨b_1, 0, none⟩) l.length l.length), (55, .int .i64 ((l.length : Nat) : Int)), (56, .int .i64 ((k : Int) + 1))]) (w' := w_12) f_97 1 [8, 54, 55, 56] (by kernel_rfl) (fun a_63 f_98 => ?_)
          refine W_end rfl ?_
          refine T_n ?_
          have f_99 := Frm.set f_98 56 (v := .int .i64 ((k : Int) + 1)) (v' := .int .i64 ((k + 1) : Int)) (by kernel_rfl) (by first | rfl | (congr 1; omega) | simp)
          refine ⟨((k + 1, O.set k (.slice A_1 (rise (keysOf (G.getD k none))).length cap_2)) : Nat × List Value), ?_, M_5, (hM_4.trans hM_5), ?_, f_99.keep (ks := [8, 54, 55, 56]) (by kernel_rfl), p_16⟩
          · show l.length - (k + 1) < l.length - k; omega
          · exact ⟨by omega, by simp only [List.length_set]; omega, outStep (by omega) (fun q hq => (hO q hq).mono hM_5) (hT.done (k := k) (by omega) ▸ ⟨_, _, rfl, by assumption, hi_2⟩)⟩
        · have k_12 : ¬ ((k : Int) < ((l.length : Nat) : Int)) := iff_f decide_eq_true_iff h_6
          refine wp_exit ?_
          refine T_x ?_
          refine T_x ?_
          refine B_x ?_
          refine T_n ?_
          refine R_seq ?_
          refine R_reg ?_
          refine W_run (L' := [(2, .slice (some ⟨b_2, 0, none⟩) l.length l.length)]) (w' := w_10) f_82 2 [2] (by kernel_rfl) (fun a_64 f_100 => ?_)
          refine W_end rfl ?_
          refine T_n ?_
          refine wp_ret ?_
          refine E_ret1 f_100 rfl (by kernel_rfl : Vc.look _ 2 = some (.slice (some ⟨b_2, 0, none⟩) l.length l.length)) ?_
          obtain ⟨k9, p9⟩ := p_13.freeze
          refine ⟨_, rfl, _, ((hM_1.trans (kf_1.trans hM_3)).trans hM_4).trans k9, p9, _, by rw [turned_len], O, by rw [turned_len]; exact hOl, .inr ⟨_, rfl, fun q u hq => ?_⟩, fun q hq => (hO q (by rw [turned_len] at hq; omega)).mono k9⟩
          rw [Addr.add_lit, add_cell]; simpa using hq
end Go.Proofs.Ytfdmlionhbeebaa
