/-
  Printed by a program: of each function its shallow reading, and the proof that the function gives what the reading gives. No condition.
-/
import Derived.Test.YtfdmlionhbeebaaQ3
set_option linter.unusedVariables false
set_option linter.unusedSimpArgs false
namespace Go.Proofs.Ytfdmlionhbeebaa
open Go Go.Vc Go.RowKit
def law21_wakes (n : Nat) : Option Bool :=
  (ready_Ready n [([] : List Int), [(0 : Int)]] [(3 : Int), (1 : Int)] (false)).bind fun x_1 =>
  (ready_Ready n [([] : List Int), [(0 : Int)]] [(3 : Int), (1 : Int)] (true)).bind fun x_2 =>
  bif (decide (x_1.2 = 0)) then
    (bif (decide (x_2.2 = 0)) then
      (bif (decide (((x_1.1.length : Nat) : Int) = 1)) then
        ((getI x_1.1 (0 : Int)).bind fun x_3 =>
        bif (decide (x_3 = 1)) then
          (bif (decide (((x_2.1.length : Nat) : Int) = 1)) then
            ((getI x_2.1 (0 : Int)).bind fun x_4 =>
            bif (decide (x_4 = 1)) then
              ((ready_Count n [(3 : Int), (3 : Int)] (3 : Int)).bind fun x_5 =>
              some ((decide (x_5 = 2))))
            else
              some ((false)))
          else
            some ((false)))
        else
          some ((false)))
      else
        some ((false)))
    else
      some ((false)))
  else
    some ((false))
set_option maxRecDepth 20000 in
theorem law21_wakes_ok (n : Nat) (M : Mem)  (r : Bool) (hF : law21_wakes n = some r) : Ok Try.prog M 6 [] (fun _ v => v = .bool r) := by
  unfold law21_wakes at hF
  intro M1 hM0 w0 H w p0
  refine R_enter 53 Try.func6 rfl rfl (by simp) (fun a0 f0 => ?_)
  replace f0 : Frm 53 [] a0 := f0
  refine R_seq ?_
  refine R_reg ?_
  refine W_run (L' := []) (w' := w) f0 1 [] (by kernel_rfl) (fun a_1 f_1 => ?_)
  refine W_end rfl ?_
  refine T_n ?_
  refine R_seq ?_
  refine R_reg ?_
  refine W_alloc f_1 p0 1 [6] (.cells #[.int .i64 0] 3 (0, 0)) (fun b_1 => [(6, .slice (some ⟨b_1, 0, none⟩) 1 1)]) (fun _ => by kernel_rfl) (fun b_1 w_1 p_1 a_2 f_2 => ?_)
  replace f_2 : Frm 53 [(6, .slice (some ⟨b_1, 0, none⟩) 1 1)] a_2 := f_2
  refine W_alloc f_2 p_1 1 [6, 7] (.cells #[.slice none 0 0, .slice (some ⟨b_1, 0, none⟩) 1 1] 27 (0, 0)) (fun b_2 => [(6, .slice (some ⟨b_1, 0, none⟩) 1 1), (7, .slice (some ⟨b_2, 0, none⟩) 2 2)]) (fun _ => by kernel_rfl) (fun b_2 w_2 p_2 a_3 f_3 => ?_)
  replace f_3 : Frm 53 [(6, .slice (some ⟨b_1, 0, none⟩) 1 1), (7, .slice (some ⟨b_2, 0, none⟩) 2 2)] a_3 := f_3
  refine W_run (L' := [(1, .slice (some ⟨b_2, 0, none⟩) 2 2)]) (w' := w_2) f_3 1 [1] (by kernel_rfl) (fun a_4 f_4 => ?_)
  refine W_end rfl ?_
  refine T_n ?_
  refine R_seq ?_
  refine R_reg ?_
  refine W_run (L' := [(1, .slice (some ⟨b_2, 0, none⟩) 2 2), (9, .slice (some ⟨b_2, 0, none⟩) 2 2)]) (w' := w_2) f_4 1 [1, 9] (by kernel_rfl) (fun a_5 f_5 => ?_)
  refine W_alloc f_5 p_2 1 [1, 9, 10] (.cells #[.int .i8 3, .int .i8 1] 24 (0, 0)) (fun b_3 => [(1, .slice (some ⟨b_2, 0, none⟩) 2 2), (9, .slice (some ⟨b_2, 0, none⟩) 2 2), (10, .slice (some ⟨b_3, 0, none⟩) 2 2)]) (fun _ => by kernel_rfl) (fun b_3 w_3 p_3 a_6 f_6 => ?_)
  replace f_6 : Frm 53 [(1, .slice (some ⟨b_2, 0, none⟩) 2 2), (9, .slice (some ⟨b_2, 0, none⟩) 2 2), (10, .slice (some ⟨b_3, 0, none⟩) 2 2)] a_6 := f_6
  have p_4 : Hp w0 M1 ((Ent.obj b_1 (.cells #[.int .i64 0] 3 (0, 0))) :: (Ent.obj b_3 (.cells #[.int .i8 3, .int .i8 1] 24 (0, 0))) :: (Ent.obj b_2 (.cells #[.slice none 0 0, .slice (some ⟨b_1, 0, none⟩) 1 1] 27 (0, 0))) :: H) w_3 := p_3.pull 2 rfl rfl
  have hr_1 : RepSeq M1 ([(0 : Int)].map (Dat.int .i64)) [.int .i64 0] := ⟨_, _, rfl, rfl, rfl⟩
  have p_5 : Hp w0 M1 ((Ent.row 3 1 (.slice (some ⟨b_1, 0, none⟩) 1 1) [(0 : Int)].length [.int .i64 0]) :: (Ent.obj b_3 (.cells #[.int .i8 3, .int .i8 1] 24 (0, 0))) :: (Ent.obj b_2 (.cells #[.slice none 0 0, .slice (some ⟨b_1, 0, none⟩) 1 1] 27 (0, 0))) :: H) w_3 := p_4.objRow (n := 1) (cap := 1) (size := 1) (by decide) (by decide) (blk_eq (by decide) rfl) rfl rfl
  obtain ⟨A_1, cap_1, M_1, hv_1, hM_1, p_6, h_1⟩ := p_5.rowSli (f := (Dat.int .i64)) (xs := [(0 : Int)]) (szd_int .i64) hr_1
  have p_7 : Hp w0 M_1 ((Ent.obj b_3 (.cells #[.int .i8 3, .int .i8 1] 24 (0, 0))) :: (Ent.obj b_2 (.cells #[.slice none 0 0, .slice A_1 [(0 : Int)].length cap_1] 27 (0, 0))) :: H) w_3 := by rw [hv_1] at p_6; exact p_6
  have p_8 : Hp w0 M_1 ((Ent.obj b_2 (.cells #[.slice none 0 0, .slice A_1 [(0 : Int)].length cap_1] 27 (0, 0))) :: (Ent.obj b_3 (.cells #[.int .i8 3, .int .i8 1] 24 (0, 0))) :: H) w_3 := p_7.pull 1 rfl rfl
  have hr_2 : RepSeq M_1 ([([] : List Int), [(0 : Int)]].map (eL 1 (Dat.int .i64))) [.slice none 0 0, .slice A_1 [(0 : Int)].length cap_1] := ⟨_, _, rfl, Sli.rep Sli.nil, ⟨_, _, rfl, Sli.rep h_1, rfl⟩⟩
  have p_9 : Hp w0 M_1 ((Ent.row 27 1 (.slice (some ⟨b_2, 0, none⟩) 2 2) [([] : List Int), [(0 : Int)]].length [.slice none 0 0, .slice A_1 [(0 : Int)].length cap_1]) :: (Ent.obj b_3 (.cells #[.int .i8 3, .int .i8 1] 24 (0, 0))) :: H) w_3 := p_8.objRow (n := 2) (cap := 2) (size := 1) (by decide) (by decide) (blk_eq (by decide) rfl) rfl rfl
  obtain ⟨M_2, A_2, cap_2, hM_2, hv_2, p_10, h_2, hb_1⟩ := p_9.lend (f := (eL 1 (Dat.int .i64))) (xs := [([] : List Int), [(0 : Int)]]) (fun _ => szd_list _ _) hr_2
  have f_7 := Frm.set f_6 1 (v := .slice (some ⟨b_2, 0, none⟩) 2 2) (v' := .slice A_2 [([] : List Int), [(0 : Int)]].length cap_2) (by kernel_rfl) (hv_2)
  have f_8 := Frm.set f_7 9 (v := .slice (some ⟨b_2, 0, none⟩) 2 2) (v' := .slice A_2 [([] : List Int), [(0 : Int)]].length cap_2) (by kernel_rfl) (hv_2)
  have f_9 : Frm 53 [(1, .slice A_2 [([] : List Int), [(0 : Int)]].length cap_2), (9, .slice A_2 [([] : List Int), [(0 : Int)]].length cap_2), (10, .slice (some ⟨b_3, 0, none⟩) 2 2)] a_6 := f_8.keep (ks := [1, 9, 10]) (by kernel_rfl)
  have hr_3 : RepSeq M_2 ([(3 : Int), (1 : Int)].map (Dat.int .i8)) [.int .i8 3, .int .i8 1] := ⟨_, _, rfl, rfl, ⟨_, _, rfl, rfl, rfl⟩⟩
  have p_11 : Hp w0 M_2 ((Ent.row 24 1 (.slice (some ⟨b_3, 0, none⟩) 2 2) [(3 : Int), (1 : Int)].length [.int .i8 3, .int .i8 1]) :: H) w_3 := p_10.objRow (n := 2) (cap := 2) (size := 1) (by decide) (by decide) (blk_eq (by decide) rfl) rfl rfl
  obtain ⟨M_3, A_3, cap_3, hM_3, hv_3, p_12, h_3, hb_2⟩ := p_11.lend (f := (Dat.int .i8)) (xs := [(3 : Int), (1 : Int)]) (szd_int .i8) hr_3
  have f_10 := Frm.set f_9 10 (v := .slice (some ⟨b_3, 0, none⟩) 2 2) (v' := .slice A_3 [(3 : Int), (1 : Int)].length cap_3) (by kernel_rfl) (hv_3)
  have f_11 : Frm 53 [(1, .slice A_2 [([] : List Int), [(0 : Int)]].length cap_2), (9, .slice A_2 [([] : List Int), [(0 : Int)]].length cap_2), (10, .slice A_3 [(3 : Int), (1 : Int)].length cap_3)] a_6 := f_10.keep (ks := [1, 9, 10]) (by kernel_rfl)
  obtain ⟨x_1, hx_1, hF_1⟩ := bind_some' hF
  refine W_okH (E := []) (H := (H)) f_11 p_12 (by kernel_rfl) (by kernel_rfl) rfl rfl (fun _ => by kernel_rfl) (ready_Ready_ok n _ A_2 cap_2 [([] : List Int), [(0 : Int)]] (h_2.mono hM_3) A_3 cap_3 [(3 : Int), (1 : Int)] h_3 (false) x_1 hx_1) (fun u_1 M_4 E_1 w_4 hM_4 p_13 q_1 a_7 f_12 => ?_)
  obtain ⟨A_4, cap_4, cs_1, rfl, rfl, hr_4⟩ := q_1
  replace p_13 : Hp w0 M_4 ((Ent.row 3 1 (.slice A_4 x_1.1.length cap_4) x_1.1.length cs_1) :: H) w_4 := p_13
  have hr_5 : ∀ M, RepSeq M (x_1.1.map (Dat.int .i64)) cs_1 := fun M => RepSeq.flat (flat_int .i64) _ hr_4
  obtain ⟨M_5, hM_5, p_14⟩ := hb_2 _ _ _ hM_4 p_13
  have f_13 := Frm.set f_12 10 (v := .slice A_3 [(3 : Int), (1 : Int)].length cap_3) (v' := .slice (some ⟨b_3, 0, none⟩) 2 2) (by kernel_rfl) (hv_3.symm)
  have f_14 : Frm 53 [(1, .slice A_2 [([] : List Int), [(0 : Int)]].length cap_2), (9, .slice A_2 [([] : List Int), [(0 : Int)]].length cap_2), (10, .slice (some ⟨b_3, 0, none⟩) 2 2), (11, .tuple #[.slice A_4 x_1.1.length cap_4, .int .i64 x_1.2])] a_7 := f_13.keep (ks := [1, 9, 10, 11]) (by kernel_rfl)
  obtain ⟨M_6, hM_6, p_15⟩ := hb_1 _ _ _ hM_5 p_14
  have f_15 := Frm.set f_14 1 (v := .slice A_2 [([] : List Int), [(0 : Int)]].length cap_2) (v' := .slice (some ⟨b_2, 0, none⟩) 2 2) (by kernel_rfl) (hv_2.symm)
  have f_16 := Frm.set f_15 9 (v := .slice A_2 [([] : List Int), [(0 : Int)]].length cap_2) (v' := .slice (some ⟨b_2, 0, none⟩) 2 2) (by kernel_rfl) (hv_2.symm)
  have f_17 : Frm 53 [(1, .slice (some ⟨b_2, 0, none⟩) 2 2), (9, .slice (some ⟨b_2, 0, none⟩) 2 2), (10, .slice (some ⟨b_3, 0, none⟩) 2 2), (11, .tuple #[.slice A_4 x_1.1.length cap_4, .int .i64 x_1.2])] a_7 := f_16.keep (ks := [1, 9, 10, 11]) (by kernel_rfl)
  have hr_6 := hr_5 M_6
  refine W_run (L' := [(1, .slice (some ⟨b_2, 0, none⟩) 2 2), (2, .slice A_4 x_1.1.length cap_4), (3, .int .i64 x_1.2)]) (w' := w_4) f_17 5 [1, 2, 3] (by kernel_rfl) (fun a_8 f_18 => ?_)
  refine W_end rfl ?_
  refine T_n ?_
  refine R_seq ?_
  refine R_reg ?_
  refine W_run (L' := [(2, .slice A_4 x_1.1.length cap_4), (3, .int .i64 x_1.2), (15, .slice (some ⟨b_2, 0, none⟩) 2 2)]) (w' := w_4) f_18 1 [2, 3, 15] (by kernel_rfl) (fun a_9 f_19 => ?_)
  refine W_alloc f_19 p_15 1 [2, 3, 15, 16] (.cells #[.int .i8 3, .int .i8 1] 24 (0, 0)) (fun b_4 => [(2, .slice A_4 x_1.1.length cap_4), (3, .int .i64 x_1.2), (15, .slice (some ⟨b_2, 0, none⟩) 2 2), (16, .slice (some ⟨b_4, 0, none⟩) 2 2)]) (fun _ => by kernel_rfl) (fun b_4 w_5 p_16 a_10 f_20 => ?_)
  replace f_20 : Frm 53 [(2, .slice A_4 x_1.1.length cap_4), (3, .int .i64 x_1.2), (15, .slice (some ⟨b_2, 0, none⟩) 2 2), (16, .slice (some ⟨b_4, 0, none⟩) 2 2)] a_10 := f_20
  have p_17 : Hp w0 M_6 ((Ent.row 27 1 (.slice (some ⟨b_2, 0, none⟩) 2 2) [([] : List Int), [(0 : Int)]].length [.slice none 0 0, .slice A_1 [(0 : Int)].length cap_1]) :: (Ent.obj b_4 (.cells #[.int .i8 3, .int .i8 1] 24 (0, 0))) :: (Ent.row 24 1 (.slice (some ⟨b_3, 0, none⟩) 2 2) [(3 : Int), (1 : Int)].length [.int .i8 3, .int .i8 1]) :: (Ent.row 3 1 (.slice A_4 x_1.1.length cap_4) x_1.1.length cs_1) :: H) w_5 := p_16.pull 1 rfl rfl
  obtain ⟨M_7, A_5, cap_5, hM_7, hv_4, p_18, h_4, hb_3⟩ := p_17.lend (f := (eL 1 (Dat.int .i64))) (xs := [([] : List Int), [(0 : Int)]]) (fun _ => szd_list _ _) (RepSeq.mono hM_6 _ _ hr_2)
  have f_21 := Frm.set f_20 15 (v := .slice (some ⟨b_2, 0, none⟩) 2 2) (v' := .slice A_5 [([] : List Int), [(0 : Int)]].length cap_5) (by kernel_rfl) (hv_4)
  have f_22 : Frm 53 [(2, .slice A_4 x_1.1.length cap_4), (3, .int .i64 x_1.2), (15, .slice A_5 [([] : List Int), [(0 : Int)]].length cap_5), (16, .slice (some ⟨b_4, 0, none⟩) 2 2)] a_10 := f_21.keep (ks := [2, 3, 15, 16]) (by kernel_rfl)
  have hr_7 : RepSeq M_7 ([(3 : Int), (1 : Int)].map (Dat.int .i8)) [.int .i8 3, .int .i8 1] := ⟨_, _, rfl, rfl, ⟨_, _, rfl, rfl, rfl⟩⟩
  have p_19 : Hp w0 M_7 ((Ent.row 24 1 (.slice (some ⟨b_4, 0, none⟩) 2 2) [(3 : Int), (1 : Int)].length [.int .i8 3, .int .i8 1]) :: (Ent.row 24 1 (.slice (some ⟨b_3, 0, none⟩) 2 2) [(3 : Int), (1 : Int)].length [.int .i8 3, .int .i8 1]) :: (Ent.row 3 1 (.slice A_4 x_1.1.length cap_4) x_1.1.length cs_1) :: H) w_5 := p_18.objRow (n := 2) (cap := 2) (size := 1) (by decide) (by decide) (blk_eq (by decide) rfl) rfl rfl
  obtain ⟨M_8, A_6, cap_6, hM_8, hv_5, p_20, h_5, hb_4⟩ := p_19.lend (f := (Dat.int .i8)) (xs := [(3 : Int), (1 : Int)]) (szd_int .i8) hr_7
  have f_23 := Frm.set f_22 16 (v := .slice (some ⟨b_4, 0, none⟩) 2 2) (v' := .slice A_6 [(3 : Int), (1 : Int)].length cap_6) (by kernel_rfl) (hv_5)
  have f_24 : Frm 53 [(2, .slice A_4 x_1.1.length cap_4), (3, .int .i64 x_1.2), (15, .slice A_5 [([] : List Int), [(0 : Int)]].length cap_5), (16, .slice A_6 [(3 : Int), (1 : Int)].length cap_6)] a_10 := f_23.keep (ks := [2, 3, 15, 16]) (by kernel_rfl)
  obtain ⟨x_2, hx_2, hF_2⟩ := bind_some' hF_1
  refine W_okH (E := []) (H := ((Ent.row 24 1 (.slice (some ⟨b_3, 0, none⟩) 2 2) [(3 : Int), (1 : Int)].length [.int .i8 3, .int .i8 1]) :: (Ent.row 3 1 (.slice A_4 x_1.1.length cap_4) x_1.1.length cs_1) :: H)) f_24 p_20 (by kernel_rfl) (by kernel_rfl) rfl rfl (fun _ => by kernel_rfl) (ready_Ready_ok n _ A_5 cap_5 [([] : List Int), [(0 : Int)]] (h_4.mono hM_8) A_6 cap_6 [(3 : Int), (1 : Int)] h_5 (true) x_2 hx_2) (fun u_2 M_9 E_2 w_6 hM_9 p_21 q_2 a_11 f_25 => ?_)
  obtain ⟨A_7, cap_7, cs_2, rfl, rfl, hr_8⟩ := q_2
  replace p_21 : Hp w0 M_9 ((Ent.row 3 1 (.slice A_7 x_2.1.length cap_7) x_2.1.length cs_2) :: (Ent.row 24 1 (.slice (some ⟨b_3, 0, none⟩) 2 2) [(3 : Int), (1 : Int)].length [.int .i8 3, .int .i8 1]) :: (Ent.row 3 1 (.slice A_4 x_1.1.length cap_4) x_1.1.length cs_1) :: H) w_6 := p_21
  have hr_9 : ∀ M, RepSeq M (x_2.1.map (Dat.int .i64)) cs_2 := fun M => RepSeq.flat (flat_int .i64) _ hr_8
  obtain ⟨M_10, hM_10, p_22⟩ := hb_4 _ _ _ hM_9 p_21
  have f_26 := Frm.set f_25 16 (v := .slice A_6 [(3 : Int), (1 : Int)].length cap_6) (v' := .slice (some ⟨b_4, 0, none⟩) 2 2) (by kernel_rfl) (hv_5.symm)
  have f_27 : Frm 53 [(2, .slice A_4 x_1.1.length cap_4), (3, .int .i64 x_1.2), (15, .slice A_5 [([] : List Int), [(0 : Int)]].length cap_5), (16, .slice (some ⟨b_4, 0, none⟩) 2 2), (17, .tuple #[.slice A_7 x_2.1.length cap_7, .int .i64 x_2.2])] a_11 := f_26.keep (ks := [2, 3, 15, 16, 17]) (by kernel_rfl)
  obtain ⟨M_11, hM_11, p_23⟩ := hb_3 _ _ _ hM_10 p_22
  have f_28 := Frm.set f_27 15 (v := .slice A_5 [([] : List Int), [(0 : Int)]].length cap_5) (v' := .slice (some ⟨b_2, 0, none⟩) 2 2) (by kernel_rfl) (hv_4.symm)
  have f_29 : Frm 53 [(2, .slice A_4 x_1.1.length cap_4), (3, .int .i64 x_1.2), (15, .slice (some ⟨b_2, 0, none⟩) 2 2), (16, .slice (some ⟨b_4, 0, none⟩) 2 2), (17, .tuple #[.slice A_7 x_2.1.length cap_7, .int .i64 x_2.2])] a_11 := f_28.keep (ks := [2, 3, 15, 16, 17]) (by kernel_rfl)
  have hr_10 := hr_9 M_11
  refine W_run (L' := [(2, .slice A_4 x_1.1.length cap_4), (3, .int .i64 x_1.2), (4, .slice A_7 x_2.1.length cap_7), (5, .int .i64 x_2.2)]) (w' := w_6) f_29 5 [2, 3, 4, 5] (by kernel_rfl) (fun a_12 f_30 => ?_)
  refine W_end rfl ?_
  refine T_n ?_
  refine R_seq ?_
  refine R_reg ?_
  refine W_run (L' := [(2, .slice A_4 x_1.1.length cap_4), (4, .slice A_7 x_2.1.length cap_7), (5, .int .i64 x_2.2), (22, .bool (decide (x_1.2 = 0)))]) (w' := w_6) f_30 3 [2, 4, 5, 22] (by kernel_rfl) (fun a_13 f_31 => ?_)
  rcases Bool.eq_false_or_eq_true (decide (x_1.2 = 0)) with h_6 | h_6
  · have k_1 : x_1.2 = 0 := decide_eq_true_iff.1 h_6
    have hF_3 := cnd_t h_6 hF_2
    have f_32 := Frm.set f_31 22 (v := .bool (decide (x_1.2 = 0))) (v' := .bool true) (by kernel_rfl) (congrArg Value.bool h_6)
    have f_33 : Frm 53 [(2, .slice A_4 x_1.1.length cap_4), (4, .slice A_7 x_2.1.length cap_7), (5, .int .i64 x_2.2), (22, .bool true)] a_13 := f_32.keep (ks := [2, 4, 5, 22]) (by kernel_rfl)
    refine W_run (L' := [(2, .slice A_4 x_1.1.length cap_4), (4, .slice A_7 x_2.1.length cap_7), (26, .bool (decide (x_2.2 = 0)))]) (w' := w_6) f_33 4 [2, 4, 26] (by kernel_rfl) (fun a_14 f_34 => ?_)
    rcases Bool.eq_false_or_eq_true (decide (x_2.2 = 0)) with h_7 | h_7
    · have k_2 : x_2.2 = 0 := decide_eq_true_iff.1 h_7
      have hF_4 := cnd_t h_7 hF_3
      have f_35 := Frm.set f_34 26 (v := .bool (decide (x_2.2 = 0))) (v' := .bool true) (by kernel_rfl) (congrArg Value.bool h_7)
      have f_36 : Frm 53 [(2, .slice A_4 x_1.1.length cap_4), (4, .slice A_7 x_2.1.length cap_7), (26, .bool true)] a_14 := f_35.keep (ks := [2, 4, 26]) (by kernel_rfl)
      refine W_run (L' := [(2, .slice A_4 x_1.1.length cap_4), (4, .slice A_7 x_2.1.length cap_7), (31, .bool (decide (((x_1.1.length : Nat) : Int) = 1)))]) (w' := w_6) f_36 5 [2, 4, 31] (by kernel_rfl) (fun a_15 f_37 => ?_)
      rcases Bool.eq_false_or_eq_true (decide (((x_1.1.length : Nat) : Int) = 1)) with h_8 | h_8
      · have k_3 : ((x_1.1.length : Nat) : Int) = 1 := decide_eq_true_iff.1 h_8
        have hF_5 := cnd_t h_8 hF_4
        have f_38 := Frm.set f_37 31 (v := .bool (decide (((x_1.1.length : Nat) : Int) = 1))) (v' := .bool true) (by kernel_rfl) (congrArg Value.bool h_8)
        have f_39 : Frm 53 [(2, .slice A_4 x_1.1.length cap_4), (4, .slice A_7 x_2.1.length cap_7), (31, .bool true)] a_15 := f_38.keep (ks := [2, 4, 31]) (by kernel_rfl)
        refine W_run (L' := [(4, .slice A_7 x_2.1.length cap_7), (31, .bool true), (32, .slice A_4 x_1.1.length cap_4)]) (w' := w_6) f_39 1 [4, 31, 32] (by kernel_rfl) (fun a_16 f_40 => ?_)
        obtain ⟨x_3, hx_3, hF_6⟩ := bind_some' hF_5
        obtain ⟨b_5, cap_8, hv_6, hcap_1⟩ := p_23.rowAddr 4 rfl (getI_pos hx_3)
        have f_41 := Frm.set f_40 32 (v := .slice A_4 x_1.1.length cap_4) (v' := .slice (some ⟨b_5, 0, none⟩) x_1.1.length cap_8) (by kernel_rfl) (hv_6)
        have f_42 : Frm 53 [(4, .slice A_7 x_2.1.length cap_7), (31, .bool true), (32, .slice (some ⟨b_5, 0, none⟩) x_1.1.length cap_8)] a_16 := f_41.keep (ks := [4, 31, 32]) (by kernel_rfl)
        refine W_eq (v := .pointer (some ((⟨b_5, 0, none⟩ : Addr).add ((0 : Int).toNat * 1)))) f_42 (by kernel_rfl) (by kernel_rfl) rfl rfl (X_indexAddr rfl (ad := ⟨b_5, 0, none⟩) (len := x_1.1.length) (cap := cap_8) (k := .i64) (i := (0 : Int)) (by kernel_rfl) (by kernel_rfl) (e := 3) (by kernel_rfl) (sz := 1) (by kernel_rfl) (getI_nn hx_3) (getI_lt hx_3)) (fun a_17 f_43 => ?_)
        have f_44 := Frm.set f_43 32 (v := .slice (some ⟨b_5, 0, none⟩) x_1.1.length cap_8) (v' := .slice A_4 x_1.1.length cap_4) (by kernel_rfl) (hv_6.symm)
        have f_45 : Frm 53 [(4, .slice A_7 x_2.1.length cap_7), (31, .bool true), (32, .slice A_4 x_1.1.length cap_4), (33, .pointer (some ((⟨b_5, 0, none⟩ : Addr).add ((0 : Int).toNat * 1))))] a_17 := f_44.keep (ks := [4, 31, 32, 33]) (by kernel_rfl)
        obtain ⟨c_1, hl_1, hr_11, hc_1⟩ := RepSeq.get (0 : Int).toNat (szd_all (szd_int .i64)) (RepSeq.mono hM_11 _ _ hr_6) (getI_map hx_3)
        clear hl_1
        obtain rfl : c_1 = [.int .i64 x_3] := hr_11
        refine W_eq (v := .int .i64 x_3) f_45 (by kernel_rfl) (by kernel_rfl) rfl rfl (X_load1 (v := .int .i64 x_3) rfl (ad := (⟨b_5, 0, none⟩ : Addr).add ((0 : Int).toNat * 1)) (by kernel_rfl) (by kernel_rfl) (by simpa [Addr.add] using (fun j v h => row_at (p_23.rowCell 4 rfl hv_6) hc_1 j v h) 0 _ rfl)) (fun a_18 f_46 => ?_)
        refine W_run (L' := [(4, .slice A_7 x_2.1.length cap_7), (37, .bool (decide (x_3 = 1)))]) (w' := w_6) f_46 3 [4, 37] (by kernel_rfl) (fun a_19 f_47 => ?_)
        rcases Bool.eq_false_or_eq_true (decide (x_3 = 1)) with h_9 | h_9
        · have k_4 : x_3 = 1 := decide_eq_true_iff.1 h_9
          have hF_7 := cnd_t h_9 hF_6
          have f_48 := Frm.set f_47 37 (v := .bool (decide (x_3 = 1))) (v' := .bool true) (by kernel_rfl) (congrArg Value.bool h_9)
          have f_49 : Frm 53 [(4, .slice A_7 x_2.1.length cap_7), (37, .bool true)] a_19 := f_48.keep (ks := [4, 37]) (by kernel_rfl)
          refine W_run (L' := [(4, .slice A_7 x_2.1.length cap_7), (42, .bool (decide (((x_2.1.length : Nat) : Int) = 1)))]) (w' := w_6) f_49 5 [4, 42] (by kernel_rfl) (fun a_20 f_50 => ?_)
          rcases Bool.eq_false_or_eq_true (decide (((x_2.1.length : Nat) : Int) = 1)) with h_10 | h_10
          · have k_5 : ((x_2.1.length : Nat) : Int) = 1 := decide_eq_true_iff.1 h_10
            have hF_8 := cnd_t h_10 hF_7
            have f_51 := Frm.set f_50 42 (v := .bool (decide (((x_2.1.length : Nat) : Int) = 1))) (v' := .bool true) (by kernel_rfl) (congrArg Value.bool h_10)
            have f_52 : Frm 53 [(4, .slice A_7 x_2.1.length cap_7), (42, .bool true)] a_20 := f_51.keep (ks := [4, 42]) (by kernel_rfl)
            refine W_run (L' := [(42, .bool true), (43, .slice A_7 x_2.1.length cap_7)]) (w' := w_6) f_52 1 [42, 43] (by kernel_rfl) (fun a_21 f_53 => ?_)
            obtain ⟨x_4, hx_4, hF_9⟩ := bind_some' hF_8
            obtain ⟨b_6, cap_9, hv_7, hcap_2⟩ := p_23.rowAddr 2 rfl (getI_pos hx_4)
            have f_54 := Frm.set f_53 43 (v := .slice A_7 x_2.1.length cap_7) (v' := .slice (some ⟨b_6, 0, none⟩) x_2.1.length cap_9) (by kernel_rfl) (hv_7)
            have f_55 : Frm 53 [(42, .bool true), (43, .slice (some ⟨b_6, 0, none⟩) x_2.1.length cap_9)] a_21 := f_54.keep (ks := [42, 43]) (by kernel_rfl)
            refine W_eq (v := .pointer (some ((⟨b_6, 0, none⟩ : Addr).add ((0 : Int).toNat * 1)))) f_55 (by kernel_rfl) (by kernel_rfl) rfl rfl (X_indexAddr rfl (ad := ⟨b_6, 0, none⟩) (len := x_2.1.length) (cap := cap_9) (k := .i64) (i := (0 : Int)) (by kernel_rfl) (by kernel_rfl) (e := 3) (by kernel_rfl) (sz := 1) (by kernel_rfl) (getI_nn hx_4) (getI_lt hx_4)) (fun a_22 f_56 => ?_)
            have f_57 := Frm.set f_56 43 (v := .slice (some ⟨b_6, 0, none⟩) x_2.1.length cap_9) (v' := .slice A_7 x_2.1.length cap_7) (by kernel_rfl) (hv_7.symm)
            have f_58 : Frm 53 [(42, .bool true), (43, .slice A_7 x_2.1.length cap_7), (44, .pointer (some ((⟨b_6, 0, none⟩ : Addr).add ((0 : Int).toNat * 1))))] a_22 := f_57.keep (ks := [42, 43, 44]) (by kernel_rfl)
            obtain ⟨c_2, hl_2, hr_12, hc_2⟩ := RepSeq.get (0 : Int).toNat (szd_all (szd_int .i64)) hr_10 (getI_map hx_4)
            clear hl_2
            obtain rfl : c_2 = [.int .i64 x_4] := hr_12
            refine W_eq (v := .int .i64 x_4) f_58 (by kernel_rfl) (by kernel_rfl) rfl rfl (X_load1 (v := .int .i64 x_4) rfl (ad := (⟨b_6, 0, none⟩ : Addr).add ((0 : Int).toNat * 1)) (by kernel_rfl) (by kernel_rfl) (by simpa [Addr.add] using (fun j v h => row_at (p_23.rowCell 2 rfl hv_7) hc_2 j v h) 0 _ rfl)) (fun a_23 f_59 => ?_)
            refine W_run (L' := [(48, .bool (decide (x_4 = 1)))]) (w' := w_6) f_59 3 [48] (by kernel_rfl) (fun a_24 f_60 => ?_)
            rcases Bool.eq_false_or_eq_true (decide (x_4 = 1)) with h_11 | h_11
            · have k_6 : x_4 = 1 := decide_eq_true_iff.1 h_11
              have hF_10 := cnd_t h_11 hF_9
              have f_61 := Frm.set f_60 48 (v := .bool (decide (x_4 = 1))) (v' := .bool true) (by kernel_rfl) (congrArg Value.bool h_11)
              have f_62 : Frm 53 [(48, .bool true)] a_24 := f_61.keep (ks := [48]) (by kernel_rfl)
              refine W_alloc f_62 p_23 1 [48, 49] (.cells #[.int .i8 3, .int .i8 3] 24 (0, 0)) (fun b_7 => [(48, .bool true), (49, .slice (some ⟨b_7, 0, none⟩) 2 2)]) (fun _ => by kernel_rfl) (fun b_7 w_7 p_24 a_25 f_63 => ?_)
              replace f_63 : Frm 53 [(48, .bool true), (49, .slice (some ⟨b_7, 0, none⟩) 2 2)] a_25 := f_63
              have hr_13 : RepSeq M_11 ([(3 : Int), (3 : Int)].map (Dat.int .i8)) [.int .i8 3, .int .i8 3] := ⟨_, _, rfl, rfl, ⟨_, _, rfl, rfl, rfl⟩⟩
              have p_25 : Hp w0 M_11 ((Ent.row 24 1 (.slice (some ⟨b_7, 0, none⟩) 2 2) [(3 : Int), (3 : Int)].length [.int .i8 3, .int .i8 3]) :: (Ent.row 27 1 (.slice (some ⟨b_2, 0, none⟩) 2 2) [([] : List Int), [(0 : Int)]].length [.slice none 0 0, .slice A_1 [(0 : Int)].length cap_1]) :: (Ent.row 24 1 (.slice (some ⟨b_4, 0, none⟩) 2 2) [(3 : Int), (1 : Int)].length [.int .i8 3, .int .i8 1]) :: (Ent.row 3 1 (.slice A_7 x_2.1.length cap_7) x_2.1.length cs_2) :: (Ent.row 24 1 (.slice (some ⟨b_3, 0, none⟩) 2 2) [(3 : Int), (1 : Int)].length [.int .i8 3, .int .i8 1]) :: (Ent.row 3 1 (.slice A_4 x_1.1.length cap_4) x_1.1.length cs_1) :: H) w_7 := p_24.objRow (n := 2) (cap := 2) (size := 1) (by decide) (by decide) (blk_eq (by decide) rfl) rfl rfl
              obtain ⟨M_12, A_8, cap_10, hM_12, hv_8, p_26, h_12, hb_5⟩ := p_25.lend (f := (Dat.int .i8)) (xs := [(3 : Int), (3 : Int)]) (szd_int .i8) hr_13
              have f_64 := Frm.set f_63 49 (v := .slice (some ⟨b_7, 0, none⟩) 2 2) (v' := .slice A_8 [(3 : Int), (3 : Int)].length cap_10) (by kernel_rfl) (hv_8)
              have f_65 : Frm 53 [(48, .bool true), (49, .slice A_8 [(3 : Int), (3 : Int)].length cap_10)] a_25 := f_64.keep (ks := [48, 49]) (by kernel_rfl)
              obtain ⟨x_5, hx_5, hF_11⟩ := bind_some' hF_10
              refine W_okv (v := .int .i64 x_5) f_65 p_26 (by kernel_rfl) (by kernel_rfl) rfl rfl (fun _ => by kernel_rfl) (ready_Count_ok n _ A_8 cap_10 [(3 : Int), (3 : Int)] h_12 (3 : Int) x_5 hx_5) (fun w_8 p_27 a_26 f_66 => ?_)
              obtain ⟨M_13, hM_13, p_28⟩ := hb_5 _ _ _ (Mem.le_refl _) p_27
              have f_67 := Frm.set f_66 49 (v := .slice A_8 [(3 : Int), (3 : Int)].length cap_10) (v' := .slice (some ⟨b_7, 0, none⟩) 2 2) (by kernel_rfl) (hv_8.symm)
              have f_68 : Frm 53 [(48, .bool true), (49, .slice (some ⟨b_7, 0, none⟩) 2 2), (50, .int .i64 x_5)] a_26 := f_67.keep (ks := [48, 49, 50]) (by kernel_rfl)
              refine W_run (L' := [(0, .bool (decide (x_5 = 2)))]) (w' := w_8) f_68 3 [0] (by kernel_rfl) (fun a_27 f_69 => ?_)
              refine W_end rfl ?_
              refine T_n ?_
              refine wp_ret ?_
              refine E_ret1 f_69 rfl (by kernel_rfl : Vc.look _ 0 = some (.bool (decide (x_5 = 2)))) ?_
              obtain rfl := Option.some.inj hF_11
              exact ⟨_, rfl, M_13, (((hM_1.trans hM_6).trans hM_11).trans hM_13), (p_28.dropN 6), rfl⟩
            · have k_7 : ¬ (x_4 = 1) := iff_f decide_eq_true_iff h_11
              have hF_12 := cnd_f h_11 hF_9
              have f_70 := Frm.set f_60 48 (v := .bool (decide (x_4 = 1))) (v' := .bool false) (by kernel_rfl) (congrArg Value.bool h_11)
              have f_71 : Frm 53 [(48, .bool false)] a_24 := f_70.keep (ks := [48]) (by kernel_rfl)
              refine W_run (L' := [(0, .bool false)]) (w' := w_6) f_71 5 [0] (by kernel_rfl) (fun a_28 f_72 => ?_)
              refine W_end rfl ?_
              refine T_n ?_
              refine wp_ret ?_
              refine E_ret1 f_72 rfl (by kernel_rfl : Vc.look _ 0 = some (.bool false)) ?_
              obtain rfl := Option.some.inj hF_12
              exact ⟨_, rfl, M_11, ((hM_1.trans hM_6).trans hM_11), (p_23.dropN 5), rfl⟩
          · have k_8 : ¬ (((x_2.1.length : Nat) : Int) = 1) := iff_f decide_eq_true_iff h_10
            have hF_13 := cnd_f h_10 hF_7
            have f_73 := Frm.set f_50 42 (v := .bool (decide (((x_2.1.length : Nat) : Int) = 1))) (v' := .bool false) (by kernel_rfl) (congrArg Value.bool h_10)
            have f_74 : Frm 53 [(4, .slice A_7 x_2.1.length cap_7), (42, .bool false)] a_20 := f_73.keep (ks := [4, 42]) (by kernel_rfl)
            refine W_run (L' := [(0, .bool false)]) (w' := w_6) f_74 11 [0] (by kernel_rfl) (fun a_29 f_75 => ?_)
            refine W_end rfl ?_
            refine T_n ?_
            refine wp_ret ?_
            refine E_ret1 f_75 rfl (by kernel_rfl : Vc.look _ 0 = some (.bool false)) ?_
            obtain rfl := Option.some.inj hF_13
            exact ⟨_, rfl, M_11, ((hM_1.trans hM_6).trans hM_11), (p_23.dropN 5), rfl⟩
        · have k_9 : ¬ (x_3 = 1) := iff_f decide_eq_true_iff h_9
          have hF_14 := cnd_f h_9 hF_6
          have f_76 := Frm.set f_47 37 (v := .bool (decide (x_3 = 1))) (v' := .bool false) (by kernel_rfl) (congrArg Value.bool h_9)
          have f_77 : Frm 53 [(4, .slice A_7 x_2.1.length cap_7), (37, .bool false)] a_19 := f_76.keep (ks := [4, 37]) (by kernel_rfl)
          refine W_run (L' := [(0, .bool false)]) (w' := w_6) f_77 16 [0] (by kernel_rfl) (fun a_30 f_78 => ?_)
          refine W_end rfl ?_
          refine T_n ?_
          refine wp_ret ?_
          refine E_ret1 f_78 rfl (by kernel_rfl : Vc.look _ 0 = some (.bool false)) ?_
          obtain rfl := Option.some.inj hF_14
          exact ⟨_, rfl, M_11, ((hM_1.trans hM_6).trans hM_11), (p_23.dropN 5), rfl⟩
      · have k_10 : ¬ (((x_1.1.length : Nat) : Int) = 1) := iff_f decide_eq_true_iff h_8
        have hF_15 := cnd_f h_8 hF_4
        have f_79 := Frm.set f_37 31 (v := .bool (decide (((x_1.1.length : Nat) : Int) = 1))) (v' := .bool false) (by kernel_rfl) (congrArg Value.bool h_8)
        have f_80 : Frm 53 [(2, .slice A_4 x_1.1.length cap_4), (4, .slice A_7 x_2.1.length cap_7), (31, .bool false)] a_15 := f_79.keep (ks := [2, 4, 31]) (by kernel_rfl)
        refine W_run (L' := [(0, .bool false)]) (w' := w_6) f_80 22 [0] (by kernel_rfl) (fun a_31 f_81 => ?_)
        refine W_end rfl ?_
        refine T_n ?_
        refine wp_ret ?_
        refine E_ret1 f_81 rfl (by kernel_rfl : Vc.look _ 0 = some (.bool false)) ?_
        obtain rfl := Option.some.inj hF_15
        exact ⟨_, rfl, M_11, ((hM_1.trans hM_6).trans hM_11), (p_23.dropN 5), rfl⟩
    · have k_11 : ¬ (x_2.2 = 0) := iff_f decide_eq_true_iff h_7
      have hF_16 := cnd_f h_7 hF_3
      have f_82 := Frm.set f_34 26 (v := .bool (decide (x_2.2 = 0))) (v' := .bool false) (by kernel_rfl) (congrArg Value.bool h_7)
      have f_83 : Frm 53 [(2, .slice A_4 x_1.1.length cap_4), (4, .slice A_7 x_2.1.length cap_7), (26, .bool false)] a_14 := f_82.keep (ks := [2, 4, 26]) (by kernel_rfl)
      refine W_run (L' := [(0, .bool false)]) (w' := w_6) f_83 27 [0] (by kernel_rfl) (fun a_32 f_84 => ?_)
      refine W_end rfl ?_
      refine T_n ?_
      refine wp_ret ?_
      refine E_ret1 f_84 rfl (by kernel_rfl : Vc.look _ 0 = some (.bool false)) ?_
      obtain rfl := Option.some.inj hF_16
      exact ⟨_, rfl, M_11, ((hM_1.trans hM_6).trans hM_11), (p_23.dropN 5), rfl⟩
  · have k_12 : ¬ (x_1.2 = 0) := iff_f decide_eq_true_iff h_6
    have hF_17 := cnd_f h_6 hF_2
    have f_85 := Frm.set f_31 22 (v := .bool (decide (x_1.2 = 0))) (v' := .bool false) (by kernel_rfl) (congrArg Value.bool h_6)
    have f_86 : Frm 53 [(2, .slice A_4 x_1.1.length cap_4), (4, .slice A_7 x_2.1.length cap_7), (5, .int .i64 x_2.2), (22, .bool false)] a_13 := f_85.keep (ks := [2, 4, 5, 22]) (by kernel_rfl)
    refine W_run (L' := [(0, .bool false)]) (w' := w_6) f_86 31 [0] (by kernel_rfl) (fun a_33 f_87 => ?_)
    refine W_end rfl ?_
    refine T_n ?_
    refine wp_ret ?_
    refine E_ret1 f_87 rfl (by kernel_rfl : Vc.look _ 0 = some (.bool false)) ?_
    obtain rfl := Option.some.inj hF_17
    exact ⟨_, rfl, M_11, ((hM_1.trans hM_6).trans hM_11), (p_23.dropN 5), rfl⟩

def ref21_States_s1 (n : Nat) (d0 : List Int) (d1 : List Int) (s_1 : Int) : Option (Lp Int (Sum Unit Unit)) :=
    bif (decide (s_1 < ((d0.length : Nat) : Int))) then
      ((getI d0 s_1).bind fun x_1 =>
      (getI d1 s_1).bind fun x_2 =>
      bif (!(decide (x_1 = x_2))) then
        (some (.br (.inl ())))
      else
        need (inR .i64 (s_1 + 1)) <|
        some (.nx (s_1 + 1)))
    else
      some (.br (.inr ()))
def ref21_States (n : Nat) (d0 : List Int) (d1 : List Int) : Option Bool :=
  bif (!(decide (((d0.length : Nat) : Int) = ((d1.length : Nat) : Int)))) then
    (some ((false)))
  else
    (loopF (ref21_States_s1 n d0 d1) n (0 : Int)).bind fun b_1 =>
    (match b_1 with 
    | .inl y_1 => some ((false)) 
    | .inr y_2 => some ((true)))
set_option maxRecDepth 20000 in
theorem ref21_States_ok (n : Nat) (M : Mem) (A0 : Option Addr) (cap0 : Nat) (d0 : List Int) (h0 : Sli M 1 (Dat.int .i8) A0 cap0 d0) (A1 : Option Addr) (cap1 : Nat) (d1 : List Int) (h1 : Sli M 1 (Dat.int .i8) A1 cap1 d1) (r : Bool) (hF : ref21_States n d0 d1 = some r) : Ok Try.prog M 12 [.slice A0 d0.length cap0, .slice A1 d1.length cap1] (fun _ v => v = .bool r) := by
  unfold ref21_States at hF
  intro M1 hM0 w0 H w p0
  replace h0 := h0.mono hM0
  replace h1 := h1.mono hM0
  refine R_enter 26 Try.func12 rfl rfl (by simp) (fun a0 f0 => ?_)
  replace f0 : Frm 26 [(0, .slice A0 d0.length cap0), (1, .slice A1 d1.length cap1)] a0 := f0
  refine R_seq ?_
  refine R_reg ?_
  refine W_run (L' := [(0, .slice A0 d0.length cap0), (1, .slice A1 d1.length cap1)]) (w' := w) f0 1 [0, 1] (by kernel_rfl) (fun a_1 f_1 => ?_)
  refine W_end rfl ?_
  refine T_n ?_
  refine R_seq ?_
  refine R_seq ?_
  refine R_reg ?_
  refine W_run (L' := [(0, .slice A0 d0.length cap0), (1, .slice A1 d1.length cap1), (10, .bool (!(decide (((d0.length : Nat) : Int) = ((d1.length : Nat) : Int)))))]) (w' := w) f_1 5 [0, 1, 10] (by kernel_rfl) (fun a_2 f_2 => ?_)
  refine W_end rfl ?_
  refine T_n ?_
  refine R_cond f_2 (b := !(decide (((d0.length : Nat) : Int) = ((d1.length : Nat) : Int)))) (by kernel_rfl) (by kernel_rfl) (fun h_1 => ?_) (fun h_1 => ?_)
  · have k_1 : ¬ (((d0.length : Nat) : Int) = ((d1.length : Nat) : Int)) := (not_iff decide_eq_true_iff).1 h_1
    have hF_1 := cnd_t h_1 hF
    refine R_seq ?_
    refine R_reg ?_
    refine W_run (L' := [(4, .bool false)]) (w' := w) f_2 1 [4] (by kernel_rfl) (fun a_3 f_3 => ?_)
    refine W_end rfl ?_
    refine T_n ?_
    refine wp_ret ?_
    refine T_r ?_
    refine E_ret1 f_3 rfl (by kernel_rfl : Vc.look _ 4 = some (.bool false)) ?_
    obtain rfl := Option.some.inj hF_1
    exact ⟨_, rfl, M1, (Mem.le_refl _), p0, rfl⟩
  · have k_2 : ¬ (¬ (((d0.length : Nat) : Int) = ((d1.length : Nat) : Int))) := iff_f (not_iff decide_eq_true_iff) h_1
    have hF_2 := cnd_f h_1 hF
    refine wp_skip ?_
    refine T_n ?_
    refine R_seq ?_
    refine R_seq ?_
    refine R_reg ?_
    refine W_run (L' := [(0, .slice A0 d0.length cap0), (1, .slice A1 d1.length cap1), (5, .int .i64 0)]) (w' := w) f_2 1 [0, 1, 5] (by kernel_rfl) (fun a_4 f_4 => ?_)
    refine W_end rfl ?_
    refine T_n ?_
    refine wp_block ?_
    obtain ⟨b_1, hL_1, hF_3⟩ := bind_some' hF_2
    refine wp_mono (Q := fun e a w => (e = .ret ∧ (∃ y_1 : Unit, b_1 = .inl y_1 ∧ ∃ M_2 : Mem, M1.le M_2 ∧ Frm 26 [(4, .bool false)] a ∧ Hp w0 M_2 (H) w)) ∨ (e = .exit 0 ∧ (∃ y_2 : Unit, b_1 = .inr y_2 ∧ ∃ M_3 : Mem, M1.le M_3 ∧ Frm 26 [] a ∧ Hp w0 M_3 (H) w))) (R_loop (n := 26) (w0 := w0) (M := M1) (fun (x : Nat × Int) => match x with | (m_1, s_1) => [(0, .slice A0 d0.length cap0), (1, .slice A1 d1.length cap1), (5, .int .i64 s_1)]) (fun (x : Nat × Int) => match x with | (m_1, s_1) => (H)) (fun (x : Nat × Int) (MM : Mem) => match x with | (m_1, s_1) => loopF (ref21_States_s1 n d0 d1) m_1 s_1 = some b_1) (fun (x : Nat × Int) => match x with | (m_1, s_1) => m_1) (n, (0 : Int)) (f_4.keep (ks := [0, 1, 5]) (by kernel_rfl)) p0 hL_1 ?_) ?_
    · rintro ⟨m_1, s_1⟩ M_1 a_5 w_1 hM_1 I_1 f_5 p_1
      replace f_5 : Frm 26 [(0, .slice A0 d0.length cap0), (1, .slice A1 d1.length cap1), (5, .int .i64 s_1)] a_5 := f_5
      replace p_1 : Hp w0 M_1 (H) w_1 := p_1
      have I_1L := I_1
      obtain ⟨m_2, r_1, rfl, hs_1, hn_1⟩ := loop_step I_1L
      unfold ref21_States_s1 at hs_1
      refine R_seq ?_
      refine R_seq ?_
      refine R_reg ?_
      refine W_run (L' := [(0, .slice A0 d0.length cap0), (1, .slice A1 d1.length cap1), (5, .int .i64 s_1), (14, .bool (decide (s_1 < ((d0.length : Nat) : Int))))]) (w' := w_1) f_5 4 [0, 1, 5, 14] (by kernel_rfl) (fun a_6 f_6 => ?_)
      refine W_end rfl ?_
      refine T_n ?_
      refine R_cond f_6 (b := decide (s_1 < ((d0.length : Nat) : Int))) (by kernel_rfl) (by kernel_rfl) (fun h_2 => ?_) (fun h_2 => ?_)
      · have k_3 : s_1 < ((d0.length : Nat) : Int) := decide_eq_true_iff.1 h_2
        have hF_4 := cnd_t h_2 hs_1
        refine wp_skip ?_
        refine T_n ?_
        refine R_seq ?_
        refine wp_block ?_
        refine R_seq ?_
        refine R_draw p_1 (by kernel_rfl) (by kernel_rfl) ?_
        refine Q_eq (v := .slice A0 d0.length cap0) f_6 (by kernel_rfl) (by kernel_rfl) rfl rfl (fun _ _ => by kernel_rfl) (fun a_7 f_7 => ?_)
        refine Q_eq (v := .int .i64 s_1) f_7 (by kernel_rfl) (by kernel_rfl) rfl rfl (fun _ _ => by kernel_rfl) (fun a_8 f_8 => ?_)
        have f_9 : Frm 26 [(0, .slice A0 d0.length cap0), (1, .slice A1 d1.length cap1), (5, .int .i64 s_1), (17, .slice A0 d0.length cap0), (18, .int .i64 s_1)] a_8 := f_8.keep (ks := [0, 1, 5, 17, 18]) (by kernel_rfl)
        obtain ⟨x_1, hx_1, hF_5⟩ := bind_some' hF_4
        obtain ⟨ad_1, c_1, e_1, hl_1, hr_1, hc_1⟩ := Sli.at_ (h0.mono hM_1) hx_1
        clear hl_1
        obtain rfl : c_1 = [.int .i8 x_1] := hr_1
        refine Q_eq (v := .pointer (some (ad_1.add (s_1.toNat * 1)))) f_9 (by kernel_rfl) (by kernel_rfl) rfl rfl (fun _ pq => X_indexAddrA e_1 rfl (len := d0.length) (cap := cap0) (k := .i64) (i := s_1) (by kernel_rfl) (by kernel_rfl) (e := 24) (by kernel_rfl) (sz := 1) (by kernel_rfl) (getI_nn hx_1) (getI_lt hx_1)) (fun a_9 f_10 => ?_)
        refine Q_eq (v := .int .i8 x_1) f_10 (by kernel_rfl) (by kernel_rfl) rfl rfl (fun _ pq => X_load1 (v := .int .i8 x_1) rfl (ad := ad_1.add (s_1.toNat * 1)) (by kernel_rfl) (by kernel_rfl) (pq.cell (hc_1 0 _ rfl))) (fun a_10 f_11 => ?_)
        refine Q_eq (v := .slice A1 d1.length cap1) f_11 (by kernel_rfl) (by kernel_rfl) rfl rfl (fun _ _ => by kernel_rfl) (fun a_11 f_12 => ?_)
        refine Q_eq (v := .int .i64 s_1) f_12 (by kernel_rfl) (by kernel_rfl) rfl rfl (fun _ _ => by kernel_rfl) (fun a_12 f_13 => ?_)
        have f_14 : Frm 26 [(0, .slice A0 d0.length cap0), (1, .slice A1 d1.length cap1), (5, .int .i64 s_1), (20, .int .i8 x_1), (21, .slice A1 d1.length cap1), (22, .int .i64 s_1)] a_12 := f_13.keep (ks := [0, 1, 5, 20, 21, 22]) (by kernel_rfl)
        obtain ⟨x_2, hx_2, hF_6⟩ := bind_some' hF_5
        obtain ⟨ad_2, c_2, e_2, hl_2, hr_2, hc_2⟩ := Sli.at_ (h1.mono hM_1) hx_2
        clear hl_2
        obtain rfl : c_2 = [.int .i8 x_2] := hr_2
        refine Q_eq (v := .pointer (some (ad_2.add (s_1.toNat * 1)))) f_14 (by kernel_rfl) (by kernel_rfl) rfl rfl (fun _ pq => X_indexAddrA e_2 rfl (len := d1.length) (cap := cap1) (k := .i64) (i := s_1) (by kernel_rfl) (by kernel_rfl) (e := 24) (by kernel_rfl) (sz := 1) (by kernel_rfl) (getI_nn hx_2) (getI_lt hx_2)) (fun a_13 f_15 => ?_)
        refine Q_eq (v := .int .i8 x_2) f_15 (by kernel_rfl) (by kernel_rfl) rfl rfl (fun _ pq => X_load1 (v := .int .i8 x_2) rfl (ad := ad_2.add (s_1.toNat * 1)) (by kernel_rfl) (by kernel_rfl) (pq.cell (hc_2 0 _ rfl))) (fun a_14 f_16 => ?_)
        refine Q_eq (v := .bool (!(decide (x_1 = x_2)))) f_16 (by kernel_rfl) (by kernel_rfl) rfl rfl (fun _ _ => by kernel_rfl) (fun a_15 f_17 => ?_)
        have f_18 : Frm 26 [(0, .slice A0 d0.length cap0), (1, .slice A1 d1.length cap1), (5, .int .i64 s_1), (25, .bool (!(decide (x_1 = x_2))))] a_15 := f_17.keep (ks := [0, 1, 5, 25]) (by kernel_rfl)
        refine Q_end rfl ?_
        intro w_2 p_2
        refine T_n ?_
        refine R_cond f_18 (b := !(decide (x_1 = x_2))) (by kernel_rfl) (by kernel_rfl) (fun h_3 => ?_) (fun h_3 => ?_)
        · have k_4 : ¬ (x_1 = x_2) := (not_iff decide_eq_true_iff).1 h_3
          have hF_7 := cnd_t h_3 hF_6
          refine R_seq ?_
          refine R_reg ?_
          refine W_run (L' := [(4, .bool false)]) (w' := w_2) f_18 1 [4] (by kernel_rfl) (fun a_16 f_19 => ?_)
          refine W_end rfl ?_
          refine T_n ?_
          refine wp_ret ?_
          refine B_r ?_
          refine T_r ?_
          refine T_r ?_
          obtain rfl := Option.some.inj hF_7
          exact .inl ⟨rfl, (), (Option.some.inj hn_1).symm, M_1, hM_1, f_19.keep (ks := [4]) (by kernel_rfl), p_2⟩
        · have k_5 : ¬ (¬ (x_1 = x_2)) := iff_f (not_iff decide_eq_true_iff) h_3
          have hF_8 := cnd_f h_3 hF_6
          refine wp_skip ?_
          refine B_n ?_
          refine T_n ?_
          refine R_reg ?_
          refine W_run (L' := [(0, .slice A0 d0.length cap0), (1, .slice A1 d1.length cap1), (15, .int .i64 s_1)]) (w' := w_2) f_18 1 [0, 1, 15] (by kernel_rfl) (fun a_17 f_20 => ?_)
          obtain ⟨g_1, hF_9⟩ := need_some hF_8
          refine W_run (L' := [(0, .slice A0 d0.length cap0), (1, .slice A1 d1.length cap1), (15, .int .i64 s_1), (16, .int .i64 (IntKind.wrap .i64 (s_1 + 1)))]) (w' := w_2) f_20 1 [0, 1, 15, 16] (by kernel_rfl) (fun a_18 f_21 => ?_)
          have f_22 := Frm.set f_21 16 (v := .int .i64 (IntKind.wrap .i64 (s_1 + 1))) (v' := .int .i64 (s_1 + 1)) (by kernel_rfl) (congrArg (Value.int .i64) (inR_wrap g_1))
          have f_23 : Frm 26 [(0, .slice A0 d0.length cap0), (1, .slice A1 d1.length cap1), (15, .int .i64 s_1), (16, .int .i64 (s_1 + 1))] a_18 := f_22.keep (ks := [0, 1, 15, 16]) (by kernel_rfl)
          refine W_run (L' := [(0, .slice A0 d0.length cap0), (1, .slice A1 d1.length cap1), (5, .int .i64 (s_1 + 1))]) (w' := w_2) f_23 1 [0, 1, 5] (by kernel_rfl) (fun a_19 f_24 => ?_)
          refine W_end rfl ?_
          refine T_n ?_
          obtain rfl := Option.some.inj hF_9
          exact ⟨⟨m_2, s_1 + 1⟩, Nat.lt_succ_self _, M_1, hM_1, hn_1, f_24.keep (ks := [0, 1, 5]) (by kernel_rfl), p_2⟩
      · have k_6 : ¬ (s_1 < ((d0.length : Nat) : Int)) := iff_f decide_eq_true_iff h_2
        have hF_10 := cnd_f h_2 hs_1
        refine wp_exit ?_
        refine T_x ?_
        refine T_x ?_
        obtain rfl := Option.some.inj hF_10
        exact .inr ⟨rfl, (), (Option.some.inj hn_1).symm, M_1, hM_1, f_6.keep (ks := []) (by kernel_rfl), p_1⟩
    · rintro _ a_22 w_5 (⟨rfl, y_1, rfl, M_2, hM_2, f_25, p_3⟩ | ⟨rfl, y_2, rfl, M_3, hM_3, f_26, p_4⟩)
      · refine B_r ?_
        refine T_r ?_
        refine E_ret1 f_25 rfl (by kernel_rfl : Vc.look _ 4 = some (.bool false)) ?_
        obtain rfl := Option.some.inj hF_3
        exact ⟨_, rfl, M_2, hM_2, p_3, rfl⟩
      · refine B_x ?_
        refine T_n ?_
        refine R_seq ?_
        refine R_reg ?_
        refine W_run (L' := [(4, .bool true)]) (w' := w_5) f_26 1 [4] (by kernel_rfl) (fun a_23 f_27 => ?_)
        refine W_end rfl ?_
        refine T_n ?_
        refine wp_ret ?_
        refine E_ret1 f_27 rfl (by kernel_rfl : Vc.look _ 4 = some (.bool true)) ?_
        obtain rfl := Option.some.inj hF_3
        exact ⟨_, rfl, M_3, hM_3, p_4, rfl⟩
end Go.Proofs.Ytfdmlionhbeebaa
