/-
  Printed by a program: of each function its shallow reading, and the proof that the function gives what the reading gives. No condition.
-/
import Derived.Test.YtoonlehffohpaaaQ3
set_option linter.unusedVariables false
set_option linter.unusedSimpArgs false
namespace Go.Proofs.Ytoonlehffohpaaa
open Go Go.Vc Go.RowKit
def law21_wakes (n : Nat) : Option Bool :=
  (ready_Ready n [([] : List Int), [(0 : Int)]] [(3 : Int), (1 : Int)] (false)).bind fun x_1 =>
  (ready_Ready n [([] : List Int), [(0 : Int)]] [(3 : Int), (1 : Int)] (true)).bind fun x_2 =>
  bif (decide (x_1.2 = 0)) then
    (bif (decide (x_2.2 = 0)) then
      (bif (decide (((x_1.1.length : Nat) : Int) = 1)) then
        ((getI x_1.1 (0 : Int)).bind fun x_3 =>
        bif (decide (x_3 = 1)) then
          (bif (decide (((x_2.1.length : Nat) : Int) = 1)) then
            ((getI x_2.1 (0 : Int)).bind fun x_4 =>
            bif (decide (x_4 = 1)) then
              ((ready_Count n [(3 : Int), (3 : Int)] (3 : Int)).bind fun x_5 =>
              some ((decide (x_5 = 2))))
            else
              some ((false)))
          else
            some ((false)))
        else
          some ((false)))
      else
        some ((false)))
    else
      some ((false)))
  else
    some ((false))
theorem law21_wakes_ok (n : Nat) (M : Mem)  (r : Bool) (hF : law21_wakes n = some r) : Ok Try.prog M 10 [] (fun _ v => v = .bool r) := by
  unfold law21_wakes at hF
  intro M1 hM0 w0 H w p0
  refine R_enter 53 Try.func10 rfl rfl (by simp) (fun a0 f0 => ?_)
  replace f0 : Frm 53 [] a0 := f0
  refine R_seq ?_
  refine R_reg ?_
  refine W_run (L' := []) (w' := w) f0 1 [] (by kernel_rfl) (fun a_1 f_1 => ?_)
  refine W_end rfl ?_
  refine T_n ?_
  refine R_seq ?_
  refine R_reg ?_
  refine W_alloc f_1 p0 1 [6] (.cells #[.int .i64 0] 3 (0, 0)) (fun b_1 => [(6, .slice (some ⟨b_1, 0, none⟩) 1 1)]) (fun _ => by kernel_rfl) (fun b_1 w_1 p_1 a_2 f_2 => ?_)
  replace f_2 : Frm 53 [(6, .slice (some ⟨b_1, 0, none⟩) 1 1)] a_2 := f_2
  refine W_alloc f_2 p_1 1 [6, 7] (.cells #[.slice none 0 0, .slice (some ⟨b_1, 0, none⟩) 1 1] 26 (0, 0)) (fun b_2 => [(6, .slice (some ⟨b_1, 0, none⟩) 1 1), (7, .slice (some ⟨b_2, 0, none⟩) 2 2)]) (fun _ => by kernel_rfl) (fun b_2 w_2 p_2 a_3 f_3 => ?_)
  replace f_3 : Frm 53 [(6, .slice (some ⟨b_1, 0, none⟩) 1 1), (7, .slice (some ⟨b_2, 0, none⟩) 2 2)] a_3 := f_3
  refine W_run (L' := [(1, .slice (some ⟨b_2, 0, none⟩) 2 2)]) (w' := w_2) f_3 1 [1] (by kernel_rfl) (fun a_4 f_4 => ?_)
  refine W_end rfl ?_
  refine T_n ?_
  refine R_seq ?_
  refine R_reg ?_
  refine W_run (L' := [(1, .slice (some ⟨b_2, 0, none⟩) 2 2), (9, .slice (some ⟨b_2, 0, none⟩) 2 2)]) (w' := w_2) f_4 1 [1, 9] (by kernel_rfl) (fun a_5 f_5 => ?_)
  refine W_alloc f_5 p_2 1 [1, 9, 10] (.cells #[.int .i8 3, .int .i8 1] 30 (0, 0)) (fun b_3 => [(1, .slice (some ⟨b_2, 0, none⟩) 2 2), (9, .slice (some ⟨b_2, 0, none⟩) 2 2), (10, .slice (some ⟨b_3, 0, none⟩) 2 2)]) (fun _ => by kernel_rfl) (fun b_3 w_3 p_3 a_6 f_6 => ?_)
  replace f_6 : Frm 53 [(1, .slice (some ⟨b_2, 0, none⟩) 2 2), (9, .slice (some ⟨b_2, 0, none⟩) 2 2), (10, .slice (some ⟨b_3, 0, none⟩) 2 2)] a_6 := f_6
  have p_4 : Hp w0 M1 ((Ent.obj b_1 (.cells #[.int .i64 0] 3 (0, 0))) :: (Ent.obj b_3 (.cells #[.int .i8 3, .int .i8 1] 30 (0, 0))) :: (Ent.obj b_2 (.cells #[.slice none 0 0, .slice (some ⟨b_1, 0, none⟩) 1 1] 26 (0, 0))) :: H) w_3 := p_3.pull 2 rfl rfl
  have hr_1 : RepSeq M1 ([(0 : Int)].map (Dat.int .i64)) [.int .i64 0] := ⟨_, _, rfl, rfl, rfl⟩
  have p_5 : Hp w0 M1 ((Ent.row 3 1 (.slice (some ⟨b_1, 0, none⟩) 1 1) [(0 : Int)].length [.int .i64 0]) :: (Ent.obj b_3 (.cells #[.int .i8 3, .int .i8 1] 30 (0, 0))) :: (Ent.obj b_2 (.cells #[.slice none 0 0, .slice (some ⟨b_1, 0, none⟩) 1 1] 26 (0, 0))) :: H) w_3 := p_4.objRow (n := 1) (cap := 1) (size := 1) (by decide) (by decide) rfl rfl rfl
  obtain ⟨A_1, cap_1, M_1, hv_1, hM_1, p_6, h_1⟩ := p_5.rowSli (f := (Dat.int .i64)) (xs := [(0 : Int)]) (szd_int .i64) hr_1
  have p_7 : Hp w0 M_1 ((Ent.obj b_3 (.cells #[.int .i8 3, .int .i8 1] 30 (0, 0))) :: (Ent.obj b_2 (.cells #[.slice none 0 0, .slice A_1 [(0 : Int)].length cap_1] 26 (0, 0))) :: H) w_3 := by rw [hv_1] at p_6; exact p_6
  have p_8 : Hp w0 M_1 ((Ent.obj b_2 (.cells #[.slice none 0 0, .slice A_1 [(0 : Int)].length cap_1] 26 (0, 0))) :: (Ent.obj b_3 (.cells #[.int .i8 3, .int .i8 1] 30 (0, 0))) :: H) w_3 := p_7.pull 1 rfl rfl
  have hr_2 : RepSeq M_1 ([([] : List Int), [(0 : Int)]].map (eL 1 (Dat.int .i64))) [.slice none 0 0, .slice A_1 [(0 : Int)].length cap_1] := ⟨_, _, rfl, Sli.rep Sli.nil, ⟨_, _, rfl, Sli.rep h_1, rfl⟩⟩
  have p_9 : Hp w0 M_1 ((Ent.row 26 1 (.slice (some ⟨b_2, 0, none⟩) 2 2) [([] : List Int), [(0 : Int)]].length [.slice none 0 0, .slice A_1 [(0 : Int)].length cap_1]) :: (Ent.obj b_3 (.cells #[.int .i8 3, .int .i8 1] 30 (0, 0))) :: H) w_3 := p_8.objRow (n := 2) (cap := 2) (size := 1) (by decide) (by decide) rfl rfl rfl
  obtain ⟨M_2, A_2, cap_2, hM_2, hv_2, p_10, h_2, hb_1⟩ := p_9.lend (f := (eL 1 (Dat.int .i64))) (xs := [([] : List Int), [(0 : Int)]]) (fun _ => szd_list _ _) hr_2
  have f_7 := Frm.set f_6 1 (v := .slice (some ⟨b_2, 0, none⟩) 2 2) (v' := .slice A_2 [([] : List Int), [(0 : Int)]].length cap_2) (by kernel_rfl) (hv_2)
  have f_8 := Frm.set f_7 9 (v := .slice (some ⟨b_2, 0, none⟩) 2 2) (v' := .slice A_2 [([] : List Int), [(0 : Int)]].length cap_2) (by kernel_rfl) (hv_2)
  have f_9 : Frm 53 [(1, .slice A_2 [([] : List Int), [(0 : Int)]].length cap_2), (9, .slice A_2 [([] : List Int), [(0 : Int)]].length cap_2), (10, .slice (some ⟨b_3, 0, none⟩) 2 2)] a_6 := f_8.keep (ks := [1, 9, 10]) (by kernel_rfl)
  have hr_3 : RepSeq M_2 ([(3 : Int), (1 : Int)].map (Dat.int .i8)) [.int .i8 3, .int .i8 1] := ⟨_, _, rfl, rfl, ⟨_, _, rfl, rfl, rfl⟩⟩
  have p_11 : Hp w0 M_2 ((Ent.row 30 1 (.slice (some ⟨b_3, 0, none⟩) 2 2) [(3 : Int), (1 : Int)].length [.int .i8 3, .int .i8 1]) :: H) w_3 := p_10.objRow (n := 2) (cap := 2) (size := 1) (by decide) (by decide) rfl rfl rfl
  obtain ⟨M_3, A_3, cap_3, hM_3, hv_3, p_12, h_3, hb_2⟩ := p_11.lend (f := (Dat.int .i8)) (xs := [(3 : Int), (1 : Int)]) (szd_int .i8) hr_3
  have f_10 := Frm.set f_9 10 (v := .slice (some ⟨b_3, 0, none⟩) 2 2) (v' := .slice A_3 [(3 : Int), (1 : Int)].length cap_3) (by kernel_rfl) (hv_3)
  have f_11 : Frm 53 [(1, .slice A_2 [([] : List Int), [(0 : Int)]].length cap_2), (9, .slice A_2 [([] : List Int), [(0 : Int)]].length cap_2), (10, .slice A_3 [(3 : Int), (1 : Int)].length cap_3)] a_6 := f_10.keep (ks := [1, 9, 10]) (by kernel_rfl)
  obtain ⟨x_1, hx_1, hF_1⟩ := bind_some' hF
  refine W_okH (E := []) (H := (H)) f_11 p_12 (by kernel_rfl) (by kernel_rfl) rfl rfl (fun _ => by kernel_rfl) (ready_Ready_ok n _ A_2 cap_2 [([] : List Int), [(0 : Int)]] (h_2.mono hM_3) A_3 cap_3 [(3 : Int), (1 : Int)] h_3 (false) x_1 hx_1) (fun u_1 M_4 E_1 w_4 hM_4 p_13 q_1 a_7 f_12 => ?_)
  obtain ⟨A_4, cap_4, cs_1, rfl, rfl, hr_4⟩ := q_1
  replace p_13 : Hp w0 M_4 ((Ent.row 3 1 (.slice A_4 x_1.1.length cap_4) x_1.1.length cs_1) :: H) w_4 := p_13
  have hr_5 : ∀ M, RepSeq M (x_1.1.map (Dat.int .i64)) cs_1 := fun M => RepSeq.flat (flat_int .i64) _ hr_4
  obtain ⟨M_5, hM_5, p_14⟩ := hb_2 _ _ _ hM_4 p_13
  have f_13 := Frm.set f_12 10 (v := .slice A_3 [(3 : Int), (1 : Int)].length cap_3) (v' := .slice (some ⟨b_3, 0, none⟩) 2 2) (by kernel_rfl) (hv_3.symm)
  have f_14 : Frm 53 [(1, .slice A_2 [([] : List Int), [(0 : Int)]].length cap_2), (9, .slice A_2 [([] : List Int), [(0 : Int)]].length cap_2), (10, .slice (some ⟨b_3, 0, none⟩) 2 2), (11, .tuple #[.slice A_4 x_1.1.length cap_4, .int .i64 x_1.2])] a_7 := f_13.keep (ks := [1, 9, 10, 11]) (by kernel_rfl)
  obtain ⟨M_6, hM_6, p_15⟩ := hb_1 _ _ _ hM_5 p_14
  have f_15 := Frm.set f_14 1 (v := .slice A_2 [([] : List Int), [(0 : Int)]].length cap_2) (v' := .slice (some ⟨b_2, 0, none⟩) 2 2) (by kernel_rfl) (hv_2.symm)
  have f_16 := Frm.set f_15 9 (v := .slice A_2 [([] : List Int), [(0 : Int)]].length cap_2) (v' := .slice (some ⟨b_2, 0, none⟩) 2 2) (by kernel_rfl) (hv_2.symm)
  have f_17 : Frm 53 [(1, .slice (some ⟨b_2, 0, none⟩) 2 2), (9, .slice (some ⟨b_2, 0, none⟩) 2 2), (10, .slice (some ⟨b_3, 0, none⟩) 2 2), (11, .tuple #[.slice A_4 x_1.1.length cap_4, .int .i64 x_1.2])] a_7 := f_16.keep (ks := [1, 9, 10, 11]) (by kernel_rfl)
  have hr_6 := hr_5 M_6
  refine W_run (L' := [(1, .slice (some ⟨b_2, 0, none⟩) 2 2), (2, .slice A_4 x_1.1.length cap_4), (3, .int .i64 x_1.2)]) (w' := w_4) f_17 5 [1, 2, 3] (by kernel_rfl) (fun a_8 f_18 => ?_)
  refine W_end rfl ?_
  refine T_n ?_
  refine R_seq ?_
  refine R_reg ?_
  refine W_run (L' := [(2, .slice A_4 x_1.1.length cap_4), (3, .int .i64 x_1.2), (15, .slice (some ⟨b_2, 0, none⟩) 2 2)]) (w' := w_4) f_18 1 [2, 3, 15] (by kernel_rfl) (fun a_9 f_19 => ?_)
  refine W_alloc f_19 p_15 1 [2, 3, 15, 16] (.cells #[.int .i8 3, .int .i8 1] 30 (0, 0)) (fun b_4 => [(2, .slice A_4 x_1.1.length cap_4), (3, .int .i64 x_1.2), (15, .slice (some ⟨b_2, 0, none⟩) 2 2), (16, .slice (some ⟨b_4, 0, none⟩) 2 2)]) (fun _ => by kernel_rfl) (fun b_4 w_5 p_16 a_10 f_20 => ?_)
  replace f_20 : Frm 53 [(2, .slice A_4 x_1.1.length cap_4), (3, .int .i64 x_1.2), (15, .slice (some ⟨b_2, 0, none⟩) 2 2), (16, .slice (some ⟨b_4, 0, none⟩) 2 2)] a_10 := f_20
  have p_17 : Hp w0 M_6 ((Ent.row 26 1 (.slice (some ⟨b_2, 0, none⟩) 2 2) [([] : List Int), [(0 : Int)]].length [.slice none 0 0, .slice A_1 [(0 : Int)].length cap_1]) :: (Ent.obj b_4 (.cells #[.int .i8 3, .int .i8 1] 30 (0, 0))) :: (Ent.row 30 1 (.slice (some ⟨b_3, 0, none⟩) 2 2) [(3 : Int), (1 : Int)].length [.int .i8 3, .int .i8 1]) :: (Ent.row 3 1 (.slice A_4 x_1.1.length cap_4) x_1.1.length cs_1) :: H) w_5 := p_16.pull 1 rfl rfl
  obtain ⟨M_7, A_5, cap_5, hM_7, hv_4, p_18, h_4, hb_3⟩ := p_17.lend (f := (eL 1 (Dat.int .i64))) (xs := [([] : List Int), [(0 : Int)]]) (fun _ => szd_list _ _) (RepSeq.mono hM_6 _ _ hr_2)
  have f_21 := Frm.set f_20 15 (v := .slice (some ⟨b_2, 0, none⟩) 2 2) (v' := .slice A_5 [([] : List Int), [(0 : Int)]].length cap_5) (by kernel_rfl) (hv_4)
  have f_22 : Frm 53 [(2, .slice A_4 x_1.1.length cap_4), (3, .int .i64 x_1.2), (15, .slice A_5 [([] : List Int), [(0 : Int)]].length cap_5), (16, .slice (some ⟨b_4, 0, none⟩) 2 2)] a_10 := f_21.keep (ks := [2, 3, 15, 16]) (by kernel_rfl)
  have hr_7 : RepSeq M_7 ([(3 : Int), (1 : Int)].map (Dat.int .i8)) [.int .i8 3, .int .i8 1] := ⟨_, _, rfl, rfl, ⟨_, _, rfl, rfl, rfl⟩⟩
  have p_19 : Hp w0 M_7 ((Ent.row 30 1 (.slice (some ⟨b_4, 0, none⟩) 2 2) [(3 : Int), (1 : Int)].length [.int .i8 3, .int .i8 1]) :: (Ent.row 30 1 (.slice (some ⟨b_3, 0, none⟩) 2 2) [(3 : Int), (1 : Int)].length [.int .i8 3, .int .i8 1]) :: (Ent.row 3 1 (.slice A_4 x_1.1.length cap_4) x_1.1.length cs_1) :: H) w_5 := p_18.objRow (n := 2) (cap := 2) (size := 1) (by decide) (by decide) rfl rfl rfl
  obtain ⟨M_8, A_6, cap_6, hM_8, hv_5, p_20, h_5, hb_4⟩ := p_19.lend (f := (Dat.int .i8)) (xs := [(3 : Int), (1 : Int)]) (szd_int .i8) hr_7
  have f_23 := Frm.set f_22 16 (v := .slice (some ⟨b_4, 0, none⟩) 2 2) (v' := .slice A_6 [(3 : Int), (1 : Int)].length cap_6) (by kernel_rfl) (hv_5)
  have f_24 : Frm 53 [(2, .slice A_4 x_1.1.length cap_4), (3, .int .i64 x_1.2), (15, .slice A_5 [([] : List Int), [(0 : Int)]].length cap_5), (16, .slice A_6 [(3 : Int), (1 : Int)].length cap_6)] a_10 := f_23.keep (ks := [2, 3, 15, 16]) (by kernel_rfl)
  obtain ⟨x_2, hx_2, hF_2⟩ := bind_some' hF_1
  refine W_okH (E := []) (H := ((Ent.row 30 1 (.slice (some ⟨b_3, 0, none⟩) 2 2) [(3 : Int), (1 : Int)].length [.int .i8 3, .int .i8 1]) :: (Ent.row 3 1 (.slice A_4 x_1.1.length cap_4) x_1.1.length cs_1) :: H)) f_24 p_20 (by kernel_rfl) (by kernel_rfl) rfl rfl (fun _ => by kernel_rfl) (ready_Ready_ok n _ A_5 cap_5 [([] : List Int), [(0 : Int)]] (h_4.mono hM_8) A_6 cap_6 [(3 : Int), (1 : Int)] h_5 (true) x_2 hx_2) (fun u_2 M_9 E_2 w_6 hM_9 p_21 q_2 a_11 f_25 => ?_)
  obtain ⟨A_7, cap_7, cs_2, rfl, rfl, hr_8⟩ := q_2
  replace p_21 : Hp w0 M_9 ((Ent.row 3 1 (.slice A_7 x_2.1.length cap_7) x_2.1.length cs_2) :: (Ent.row 30 1 (.slice (some ⟨b_3, 0, none⟩) 2 2) [(3 : Int), (1 : Int)].length [.int .i8 3, .int .i8 1]) :: (Ent.row 3 1 (.slice A_4 x_1.1.length cap_4) x_1.1.length cs_1) :: H) w_6 := p_21
  have hr_9 : ∀ M, RepSeq M (x_2.1.map (Dat.int .i64)) cs_2 := fun M => RepSeq.flat (flat_int .i64) _ hr_8
  obtain ⟨M_10, hM_10, p_22⟩ := hb_4 _ _ _ hM_9 p_21
  have f_26 := Frm.set f_25 16 (v := .slice A_6 [(3 : Int), (1 : Int)].length cap_6) (v' := .slice (some ⟨b_4, 0, none⟩) 2 2) (by kernel_rfl) (hv_5.symm)
  have f_27 : Frm 53 [(2, .slice A_4 x_1.1.length cap_4), (3, .int .i64 x_1.2), (15, .slice A_5 [([] : List Int), [(0 : Int)]].length cap_5), (16, .slice (some ⟨b_4, 0, none⟩) 2 2), (17, .tuple #[.slice A_7 x_2.1.length cap_7, .int .i64 x_2.2])] a_11 := f_26.keep (ks := [2, 3, 15, 16, 17]) (by kernel_rfl)
  obtain ⟨M_11, hM_11, p_23⟩ := hb_3 _ _ _ hM_10 p_22
  have f_28 := Frm.set f_27 15 (v := .slice A_5 [([] : List Int), [(0 : Int)]].length cap_5) (v' := .slice (some ⟨b_2, 0, none⟩) 2 2) (by kernel_rfl) (hv_4.symm)
  have f_29 : Frm 53 [(2, .slice A_4 x_1.1.length cap_4), (3, .int .i64 x_1.2), (15, .slice (some ⟨b_2, 0, none⟩) 2 2), (16, .slice (some ⟨b_4, 0, none⟩) 2 2), (17, .tuple #[.slice A_7 x_2.1.length cap_7, .int .i64 x_2.2])] a_11 := f_28.keep (ks := [2, 3, 15, 16, 17]) (by kernel_rfl)
  have hr_10 := hr_9 M_11
  refine W_run (L' := [(2, .slice A_4 x_1.1.length cap_4), (3, .int .i64 x_1.2), (4, .slice A_7 x_2.1.length cap_7), (5, .int .i64 x_2.2)]) (w' := w_6) f_29 5 [2, 3, 4, 5] (by kernel_rfl) (fun a_12 f_30 => ?_)
  refine W_end rfl ?_
  refine T_n ?_
  refine R_seq ?_
  refine R_reg ?_
  refine W_run (L' := [(2, .slice A_4 x_1.1.length cap_4), (4, .slice A_7 x_2.1.length cap_7), (5, .int .i64 x_2.2), (22, .bool (decide (x_1.2 = 0)))]) (w' := w_6) f_30 3 [2, 4, 5, 22] (by kernel_rfl) (fun a_13 f_31 => ?_)
  rcases Bool.eq_false_or_eq_true (decide (x_1.2 = 0)) with h_6 | h_6
  · have k_1 : x_1.2 = 0 := decide_eq_true_iff.1 h_6
    have hF_3 := cnd_t h_6 hF_2
    have f_32 := Frm.set f_31 22 (v := .bool (decide (x_1.2 = 0))) (v' := .bool true) (by kernel_rfl) (congrArg Value.bool h_6)
    have f_33 : Frm 53 [(2, .slice A_4 x_1.1.length cap_4), (4, .slice A_7 x_2.1.length cap_7), (5, .int .i64 x_2.2), (22, .bool true)] a_13 := f_32.keep (ks := [2, 4, 5, 22]) (by kernel_rfl)
    refine W_run (L' := [(2, .slice A_4 x_1.1.length cap_4), (4, .slice A_7 x_2.1.length cap_7), (26, .bool (decide (x_2.2 = 0)))]) (w' := w_6) f_33 4 [2, 4, 26] (by kernel_rfl) (fun a_14 f_34 => ?_)
    rcases Bool.eq_false_or_eq_true (decide (x_2.2 = 0)) with h_7 | h_7
    · have k_2 : x_2.2 = 0 := decide_eq_true_iff.1 h_7
      have hF_4 := cnd_t h_7 hF_3
      have f_35 := Frm.set f_34 26 (v := .bool (decide (x_2.2 = 0))) (v' := .bool true) (by kernel_rfl) (congrArg Value.bool h_7)
      have f_36 : Frm 53 [(2, .slice A_4 x_1.1.length cap_4), (4, .slice A_7 x_2.1.length cap_7), (26, .bool true)] a_14 := f_35.keep (ks := [2, 4, 26]) (by kernel_rfl)
      refine W_run (L' := [(2, .slice A_4 x_1.1.length cap_4), (4, .slice A_7 x_2.1.length cap_7), (31, .bool (decide (((x_1.1.length : Nat) : Int) = 1)))]) (w' := w_6) f_36 5 [2, 4, 31] (by kernel_rfl) (fun a_15 f_37 => ?_)
      rcases Bool.eq_false_or_eq_true (decide (((x_1.1.length : Nat) : Int) = 1)) with h_8 | h_8
      · have k_3 : ((x_1.1.length : Nat) : Int) = 1 := decide_eq_true_iff.1 h_8
        have hF_5 := cnd_t h_8 hF_4
        have f_38 := Frm.set f_37 31 (v := .bool (decide (((x_1.1.length : Nat) : Int) = 1))) (v' := .bool true) (by kernel_rfl) (congrArg Value.bool h_8)
        have f_39 : Frm 53 [(2, .slice A_4 x_1.1.length cap_4), (4, .slice A_7 x_2.1.length cap_7), (31, .bool true)] a_15 := f_38.keep (ks := [2, 4, 31]) (by kernel_rfl)
        refine W_run (L' := [(4, .slice A_7 x_2.1.length cap_7), (31, .bool true), (32, .slice A_4 x_1.1.length cap_4)]) (w' := w_6) f_39 1 [4, 31, 32] (by kernel_rfl) (fun a_16 f_40 => ?_)
        obtain ⟨x_3, hx_3, hF_6⟩ := bind_some' hF_5
        obtain ⟨b_5, cap_8, hv_6, hcap_1⟩ := p_23.rowAddr 4 rfl (getI_pos hx_3)
        have f_41 := Frm.set f_40 32 (v := .slice A_4 x_1.1.length cap_4) (v' := .slice (some ⟨b_5, 0, none⟩) x_1.1.length cap_8) (by kernel_rfl) (hv_6)
        have f_42 : Frm 53 [(4, .slice A_7 x_2.1.length cap_7), (31, .bool true), (32, .slice (some ⟨b_5, 0, none⟩) x_1.1.length cap_8)] a_16 := f_41.keep (ks := [4, 31, 32]) (by kernel_rfl)
        refine W_eq (v := .pointer (some ((⟨b_5, 0, none⟩ : Addr).add ((0 : Int).toNat * 1)))) f_42 (by kernel_rfl) (by kernel_rfl) rfl rfl (X_indexAddr rfl (ad := ⟨b_5, 0, none⟩) (len := x_1.1.length) (cap := cap_8) (k := .i64) (i := (0 : Int)) (by kernel_rfl) (by kernel_rfl) (e := 3) (by kernel_rfl) (sz := 1) (by kernel_rfl) (getI_nn hx_3) (getI_lt hx_3)) (fun a_17 f_43 => ?_)
        have f_44 := Frm.set f_43 32 (v := .slice (some ⟨b_5, 0, none⟩) x_1.1.length cap_8) (v' := .slice A_4 x_1.1.length cap_4) (by kernel_rfl) (hv_6.symm)
        have f_45 : Frm 53 [(4, .slice A_7 x_2.1.length cap_7), (31, .bool true), (32, .slice A_4 x_1.1.length cap_4), (33, .pointer (some ((⟨b_5, 0, none⟩ : Addr).add ((0 : Int).toNat * 1))))] a_17 := f_44.keep (ks := [4, 31, 32, 33]) (by kernel_rfl)
        obtain ⟨c_1, hl_1, hr_11, hc_1⟩ := RepSeq.get (0 : Int).toNat (szd_all (szd_int .i64)) (RepSeq.mono hM_11 _ _ hr_6) (getI_map hx_3)
        clear hl_1
        obtain rfl : c_1 = [.int .i64 x_3] := hr_11
        refine W_eq (v := .int .i64 x_3) f_45 (by kernel_rfl) (by kernel_rfl) rfl rfl (X_load1 (v := .int .i64 x_3) rfl (ad := (⟨b_5, 0, none⟩ : Addr).add ((0 : Int).toNat * 1)) (by kernel_rfl) (by kernel_rfl) (by simpa [Addr.add] using (fun j v h => row_at (p_23.rowCell 4 rfl hv_6) hc_1 j v h) 0 _ rfl)) (fun a_18 f_46 => ?_)
        refine W_run (L' := [(4, .slice A_7 x_2.1.length cap_7), (37, .bool (decide (x_3 = 1)))]) (w' := w_6) f_46 3 [4, 37] (by kernel_rfl) (fun a_19 f_47 => ?_)
        rcases Bool.eq_false_or_eq_true (decide (x_3 = 1)) with h_9 | h_9
        · have k_4 : x_3 = 1 := decide_eq_true_iff.1 h_9
          have hF_7 := cnd_t h_9 hF_6
          have f_48 := Frm.set f_47 37 (v := .bool (decide (x_3 = 1))) (v' := .bool true) (by kernel_rfl) (congrArg Value.bool h_9)
          have f_49 : Frm 53 [(4, .slice A_7 x_2.1.length cap_7), (37, .bool true)] a_19 := f_48.keep (ks := [4, 37]) (by kernel_rfl)
          refine W_run (L' := [(4, .slice A_7 x_2.1.length cap_7), (42, .bool (decide (((x_2.1.length : Nat) : Int) = 1)))]) (w' := w_6) f_49 5 [4, 42] (by kernel_rfl) (fun a_20 f_50 => ?_)
          rcases Bool.eq_false_or_eq_true (decide (((x_2.1.length : Nat) : Int) = 1)) with h_10 | h_10
          · have k_5 : ((x_2.1.length : Nat) : Int) = 1 := decide_eq_true_iff.1 h_10
            have hF_8 := cnd_t h_10 hF_7
            have f_51 := Frm.set f_50 42 (v := .bool (decide (((x_2.1.length : Nat) : Int) = 1))) (v' := .bool true) (by kernel_rfl) (congrArg Value.bool h_10)
            have f_52 : Frm 53 [(4, .slice A_7 x_2.1.length cap_7), (42, .bool true)] a_20 := f_51.keep (ks := [4, 42]) (by kernel_rfl)
            refine W_run (L' := [(42, .bool true), (43, .slice A_7 x_2.1.length cap_7)]) (w' := w_6) f_52 1 [42, 43] (by kernel_rfl) (fun a_21 f_53 => ?_)
            obtain ⟨x_4, hx_4, hF_9⟩ := bind_some' hF_8
            obtain ⟨b_6, cap_9, hv_7, hcap_2⟩ := p_23.rowAddr 2 rfl (getI_pos hx_4)
            have f_54 := Frm.set f_53 43 (v := .slice A_7 x_2.1.length cap_7) (v' := .slice (some ⟨b_6, 0, none⟩) x_2.1.length cap_9) (by kernel_rfl) (hv_7)
            have f_55 : Frm 53 [(42, .bool true), (43, .slice (some ⟨b_6, 0, none⟩) x_2.1.length cap_9)] a_21 := f_54.keep (ks := [42, 43]) (by kernel_rfl)
            refine W_eq (v := .pointer (some ((⟨b_6, 0, none⟩ : Addr).add ((0 : Int).toNat * 1)))) f_55 (by kernel_rfl) (by kernel_rfl) rfl rfl (X_indexAddr rfl (ad := ⟨b_6, 0, none⟩) (len := x_2.1.length) (cap := cap_9) (k := .i64) (i := (0 : Int)) (by kernel_rfl) (by kernel_rfl) (e := 3) (by kernel_rfl) (sz := 1) (by kernel_rfl) (getI_nn hx_4) (getI_lt hx_4)) (fun a_22 f_56 => ?_)
            have f_57 := Frm.set f_56 43 (v := .slice (some ⟨b_6, 0, none⟩) x_2.1.length cap_9) (v' := .slice A_7 x_2.1.length cap_7) (by kernel_rfl) (hv_7.symm)
            have f_58 : Frm 53 [(42, .bool true), (43, .slice A_7 x_2.1.length cap_7), (44, .pointer (some ((⟨b_6, 0, none⟩ : Addr).add ((0 : Int).toNat * 1))))] a_22 := f_57.keep (ks := [42, 43, 44]) (by kernel_rfl)
            obtain ⟨c_2, hl_2, hr_12, hc_2⟩ := RepSeq.get (0 : Int).toNat (szd_all (szd_int .i64)) hr_10 (getI_map hx_4)
            clear hl_2
            obtain rfl : c_2 = [.int .i64 x_4] := hr_12
            refine W_eq (v := .int .i64 x_4) f_58 (by kernel_rfl) (by kernel_rfl) rfl rfl (X_load1 (v := .int .i64 x_4) rfl (ad := (⟨b_6, 0, none⟩ : Addr).add ((0 : Int).toNat * 1)) (by kernel_rfl) (by kernel_rfl) (by simpa [Addr.add] using (fun j v h => row_at (p_23.rowCell 2 rfl hv_7) hc_2 j v h) 0 _ rfl)) (fun a_23 f_59 => ?_)
            refine W_run (L' := [(48, .bool (decide (x_4 = 1)))]) (w' := w_6) f_59 3 [48] (by kernel_rfl) (fun a_24 f_60 => ?_)
            rcases Bool.eq_false_or_eq_true (decide (x_4 = 1)) with h_11 | h_11
            · have k_6 : x_4 = 1 := decide_eq_true_iff.1 h_11
              have hF_10 := cnd_t h_11 hF_9
              have f_61 := Frm.set f_60 48 (v := .bool (decide (x_4 = 1))) (v' := .bool true) (by kernel_rfl) (congrArg Value.bool h_11)
              have f_62 : Frm 53 [(48, .bool true)] a_24 := f_61.keep (ks := [48]) (by kernel_rfl)
              refine W_alloc f_62 p_23 1 [48, 49] (.cells #[.int .i8 3, .int .i8 3] 30 (0, 0)) (fun b_7 => [(48, .bool true), (49, .slice (some ⟨b_7, 0, none⟩) 2 2)]) (fun _ => by kernel_rfl) (fun b_7 w_7 p_24 a_25 f_63 => ?_)
              replace f_63 : Frm 53 [(48, .bool true), (49, .slice (some ⟨b_7, 0, none⟩) 2 2)] a_25 := f_63
              have hr_13 : RepSeq M_11 ([(3 : Int), (3 : Int)].map (Dat.int .i8)) [.int .i8 3, .int .i8 3] := ⟨_, _, rfl, rfl, ⟨_, _, rfl, rfl, rfl⟩⟩
              have p_25 : Hp w0 M_11 ((Ent.row 30 1 (.slice (some ⟨b_7, 0, none⟩) 2 2) [(3 : Int), (3 : Int)].length [.int .i8 3, .int .i8 3]) :: (Ent.row 26 1 (.slice (some ⟨b_2, 0, none⟩) 2 2) [([] : List Int), [(0 : Int)]].length [.slice none 0 0, .slice A_1 [(0 : Int)].length cap_1]) :: (Ent.row 30 1 (.slice (some ⟨b_4, 0, none⟩) 2 2) [(3 : Int), (1 : Int)].length [.int .i8 3, .int .i8 1]) :: (Ent.row 3 1 (.slice A_7 x_2.1.length cap_7) x_2.1.length cs_2) :: (Ent.row 30 1 (.slice (some ⟨b_3, 0, none⟩) 2 2) [(3 : Int), (1 : Int)].length [.int .i8 3, .int .i8 1]) :: (Ent.row 3 1 (.slice A_4 x_1.1.length cap_4) x_1.1.length cs_1) :: H) w_7 := p_24.objRow (n := 2) (cap := 2) (size := 1) (by decide) (by decide) rfl rfl rfl
              obtain ⟨M_12, A_8, cap_10, hM_12, hv_8, p_26, h_12, hb_5⟩ := p_25.lend (f := (Dat.int .i8)) (xs := [(3 : Int), (3 : Int)]) (szd_int .i8) hr_13
              have f_64 := Frm.set f_63 49 (v := .slice (some ⟨b_7, 0, none⟩) 2 2) (v' := .slice A_8 [(3 : Int), (3 : Int)].length cap_10) (by kernel_rfl) (hv_8)
              have f_65 : Frm 53 [(48, .bool true), (49, .slice A_8 [(3 : Int), (3 : Int)].length cap_10)] a_25 := f_64.keep (ks := [48, 49]) (by kernel_rfl)
              obtain ⟨x_5, hx_5, hF_11⟩ := bind_some' hF_10
              refine W_okv (v := .int .i64 x_5) f_65 p_26 (by kernel_rfl) (by kernel_rfl) rfl rfl (fun _ => by kernel_rfl) (ready_Count_ok n _ A_8 cap_10 [(3 : Int), (3 : Int)] h_12 (3 : Int) x_5 hx_5) (fun w_8 p_27 a_26 f_66 => ?_)
              obtain ⟨M_13, hM_13, p_28⟩ := hb_5 _ _ _ (Mem.le_refl _) p_27
              have f_67 := Frm.set f_66 49 (v := .slice A_8 [(3 : Int), (3 : Int)].length cap_10) (v' := .slice (some ⟨b_7, 0, none⟩) 2 2) (by kernel_rfl) (hv_8.symm)
              have f_68 : Frm 53 [(48, .bool true), (49, .slice (some ⟨b_7, 0, none⟩) 2 2), (50, .int .i64 x_5)] a_26 := f_67.keep (ks := [48, 49, 50]) (by kernel_rfl)
              refine W_run (L' := [(0, .bool (decide (x_5 = 2)))]) (w' := w_8) f_68 3 [0] (by kernel_rfl) (fun a_27 f_69 => ?_)
              refine W_end rfl ?_
              refine T_n ?_
              refine wp_ret ?_
              refine E_ret1 f_69 rfl (by kernel_rfl : Vc.look _ 0 = some (.bool (decide (x_5 = 2)))) ?_
              obtain rfl := Option.some.inj hF_11
              exact ⟨_, rfl, M_13, (((hM_1.trans hM_6).trans hM_11).trans hM_13), (p_28.dropN 6), rfl⟩
            · have k_7 : ¬ (x_4 = 1) := iff_f decide_eq_true_iff h_11
              have hF_12 := cnd_f h_11 hF_9
              have f_70 := Frm.set f_60 48 (v := .bool (decide (x_4 = 1))) (v' := .bool false) (by kernel_rfl) (congrArg Value.bool h_11)
              have f_71 : Frm 53 [(48, .bool false)] a_24 := f_70.keep (ks := [48]) (by kernel_rfl)
              refine W_run (L' := [(0, .bool false)]) (w' := w_6) f_71 5 [0] (by kernel_rfl) (fun a_28 f_72 => ?_)
              refine W_end rfl ?_
              refine T_n ?_
              refine wp_ret ?_
              refine E_ret1 f_72 rfl (by kernel_rfl : Vc.look _ 0 = some (.bool false)) ?_
              obtain rfl := Option.some.inj hF_12
              exact ⟨_, rfl, M_11, ((hM_1.trans hM_6).trans hM_11), (p_23.dropN 5), rfl⟩
          · have k_8 : ¬ (((x_2.1.length : Nat) : Int) = 1) := iff_f decide_eq_true_iff h_10
            have hF_13 := cnd_f h_10 hF_7
            have f_73 := Frm.set f_50 42 (v := .bool (decide (((x_2.1.length : Nat) : Int) = 1))) (v' := .bool false) (by kernel_rfl) (congrArg Value.bool h_10)
            have f_74 : Frm 53 [(4, .slice A_7 x_2.1.length cap_7), (42, .bool false)] a_20 := f_73.keep (ks := [4, 42]) (by kernel_rfl)
            refine W_run (L' := [(0, .bool false)]) (w' := w_6) f_74 11 [0] (by kernel_rfl) (fun a_29 f_75 => ?_)
            refine W_end rfl ?_
            refine T_n ?_
            refine wp_ret ?_
            refine E_ret1 f_75 rfl (by kernel_rfl : Vc.look _ 0 = some (.bool false)) ?_
            obtain rfl := Option.some.inj hF_13
            exact ⟨_, rfl, M_11, ((hM_1.trans hM_6).trans hM_11), (p_23.dropN 5), rfl⟩
        · have k_9 : ¬ (x_3 = 1) := iff_f decide_eq_true_iff h_9
          have hF_14 := cnd_f h_9 hF_6
          have f_76 := Frm.set f_47 37 (v := .bool (decide (x_3 = 1))) (v' := .bool false) (by kernel_rfl) (congrArg Value.bool h_9)
          have f_77 : Frm 53 [(4, .slice A_7 x_2.1.length cap_7), (37, .bool false)] a_19 := f_76.keep (ks := [4, 37]) (by kernel_rfl)
          refine W_run (L' := [(0, .bool false)]) (w' := w_6) f_77 16 [0] (by kernel_rfl) (fun a_30 f_78 => ?_)
          refine W_end rfl ?_
          refine T_n ?_
          refine wp_ret ?_
          refine E_ret1 f_78 rfl (by kernel_rfl : Vc.look _ 0 = some (.bool false)) ?_
          obtain rfl := Option.some.inj hF_14
          exact ⟨_, rfl, M_11, ((hM_1.trans hM_6).trans hM_11), (p_23.dropN 5), rfl⟩
      · have k_10 : ¬ (((x_1.1.length : Nat) : Int) = 1) := iff_f decide_eq_true_iff h_8
        have hF_15 := cnd_f h_8 hF_4
        have f_79 := Frm.set f_37 31 (v := .bool (decide (((x_1.1.length : Nat) : Int) = 1))) (v' := .bool false) (by kernel_rfl) (congrArg Value.bool h_8)
        have f_80 : Frm 53 [(2, .slice A_4 x_1.1.length cap_4), (4, .slice A_7 x_2.1.length cap_7), (31, .bool false)] a_15 := f_79.keep (ks := [2, 4, 31]) (by kernel_rfl)
        refine W_run (L' := [(0, .bool false)]) (w' := w_6) f_80 22 [0] (by kernel_rfl) (fun a_31 f_81 => ?_)
        refine W_end rfl ?_
        refine T_n ?_
        refine wp_ret ?_
        refine E_ret1 f_81 rfl (by kernel_rfl : Vc.look _ 0 = some (.bool false)) ?_
        obtain rfl := Option.some.inj hF_15
        exact ⟨_, rfl, M_11, ((hM_1.trans hM_6).trans hM_11), (p_23.dropN 5), rfl⟩
    · have k_11 : ¬ (x_2.2 = 0) := iff_f decide_eq_true_iff h_7
      have hF_16 := cnd_f h_7 hF_3
      have f_82 := Frm.set f_34 26 (v := .bool (decide (x_2.2 = 0))) (v' := .bool false) (by kernel_rfl) (congrArg Value.bool h_7)
      have f_83 : Frm 53 [(2, .slice A_4 x_1.1.length cap_4), (4, .slice A_7 x_2.1.length cap_7), (26, .bool false)] a_14 := f_82.keep (ks := [2, 4, 26]) (by kernel_rfl)
      refine W_run (L' := [(0, .bool false)]) (w' := w_6) f_83 27 [0] (by kernel_rfl) (fun a_32 f_84 => ?_)
      refine W_end rfl ?_
      refine T_n ?_
      refine wp_ret ?_
      refine E_ret1 f_84 rfl (by kernel_rfl : Vc.look _ 0 = some (.bool false)) ?_
      obtain rfl := Option.some.inj hF_16
      exact ⟨_, rfl, M_11, ((hM_1.trans hM_6).trans hM_11), (p_23.dropN 5), rfl⟩
  · have k_12 : ¬ (x_1.2 = 0) := iff_f decide_eq_true_iff h_6
    have hF_17 := cnd_f h_6 hF_2
    have f_85 := Frm.set f_31 22 (v := .bool (decide (x_1.2 = 0))) (v' := .bool false) (by kernel_rfl) (congrArg Value.bool h_6)
    have f_86 : Frm 53 [(2, .slice A_4 x_1.1.length cap_4), (4, .slice A_7 x_2.1.length cap_7), (5, .int .i64 x_2.2), (22, .bool false)] a_13 := f_85.keep (ks := [2, 4, 5, 22]) (by kernel_rfl)
    refine W_run (L' := [(0, .bool false)]) (w' := w_6) f_86 31 [0] (by kernel_rfl) (fun a_33 f_87 => ?_)
    refine W_end rfl ?_
    refine T_n ?_
    refine wp_ret ?_
    refine E_ret1 f_87 rfl (by kernel_rfl : Vc.look _ 0 = some (.bool false)) ?_
    obtain rfl := Option.some.inj hF_17
    exact ⟨_, rfl, M_11, ((hM_1.trans hM_6).trans hM_11), (p_23.dropN 5), rfl⟩

def ref21_States_s1 (n : Nat) (d0 : List Int) (d1 : List Int) (s_1 : Int) : Option (Lp Int (Sum Unit Unit)) :=
    bif (decide (s_1 < ((d0.length : Nat) : Int))) then
      ((getI d0 s_1).bind fun x_1 =>
      (getI d1 s_1).bind fun x_2 =>
      bif (!(decide (x_1 = x_2))) then
        (some (.br (.inl ())))
      else
        need (inR .i64 (s_1 + 1)) <|
        some (.nx (s_1 + 1)))
    else
      some (.br (.inr ()))
def ref21_States (n : Nat) (d0 : List Int) (d1 : List Int) : Option Bool :=
  bif (!(decide (((d0.length : Nat) : Int) = ((d1.length : Nat) : Int)))) then
    (some ((false)))
  else
    (loopF (ref21_States_s1 n d0 d1) n (0 : Int)).bind fun b_1 =>
    (match b_1 with 
    | .inl y_1 => some ((false)) 
    | .inr y_2 => some ((true)))
theorem ref21_States_ok (n : Nat) (M : Mem) (A0 : Option Addr) (cap0 : Nat) (d0 : List Int) (h0 : Sli M 1 (Dat.int .i8) A0 cap0 d0) (A1 : Option Addr) (cap1 : Nat) (d1 : List Int) (h1 : Sli M 1 (Dat.int .i8) A1 cap1 d1) (r : Bool) (hF : ref21_States n d0 d1 = some r) : Ok Try.prog M 15 [.slice A0 d0.length cap0, .slice A1 d1.length cap1] (fun _ v => v = .bool r) := by
  unfold ref21_States at hF
  intro M1 hM0 w0 H w p0
  replace h0 := h0.mono hM0
  replace h1 := h1.mono hM0
  refine R_enter 26 Try.func15 rfl rfl (by simp) (fun a0 f0 => ?_)
  replace f0 : Frm 26 [(0, .slice A0 d0.length cap0), (1, .slice A1 d1.length cap1)] a0 := f0
  refine R_seq ?_
  refine R_reg ?_
  refine W_run (L' := [(0, .slice A0 d0.length cap0), (1, .slice A1 d1.length cap1)]) (w' := w) f0 1 [0, 1] (by kernel_rfl) (fun a_1 f_1 => ?_)
  refine W_end rfl ?_
  refine T_n ?_
  refine R_seq ?_
  refine R_seq ?_
  refine R_reg ?_
  refine W_run (L' := [(0, .slice A0 d0.length cap0), (1, .slice A1 d1.length cap1), (10, .bool (!(decide (((d0.length : Nat) : Int) = ((d1.length : Nat) : Int)))))]) (w' := w) f_1 5 [0, 1, 10] (by kernel_rfl) (fun a_2 f_2 => ?_)
  refine W_end rfl ?_
  refine T_n ?_
  refine R_cond f_2 (b := !(decide (((d0.length : Nat) : Int) = ((d1.length : Nat) : Int)))) (by kernel_rfl) (by kernel_rfl) (fun h_1 => ?_) (fun h_1 => ?_)
  · have k_1 : ¬ (((d0.length : Nat) : Int) = ((d1.length : Nat) : Int)) := (not_iff decide_eq_true_iff).1 h_1
    have hF_1 := cnd_t h_1 hF
    refine R_seq ?_
    refine R_reg ?_
    refine W_run (L' := [(4, .bool false)]) (w' := w) f_2 1 [4] (by kernel_rfl) (fun a_3 f_3 => ?_)
    refine W_end rfl ?_
    refine T_n ?_
    refine wp_ret ?_
    refine T_r ?_
    refine E_ret1 f_3 rfl (by kernel_rfl : Vc.look _ 4 = some (.bool false)) ?_
    obtain rfl := Option.some.inj hF_1
    exact ⟨_, rfl, M1, (Mem.le_refl _), p0, rfl⟩
  · have k_2 : ¬ (¬ (((d0.length : Nat) : Int) = ((d1.length : Nat) : Int))) := iff_f (not_iff decide_eq_true_iff) h_1
    have hF_2 := cnd_f h_1 hF
    refine wp_skip ?_
    refine T_n ?_
    refine R_seq ?_
    refine R_seq ?_
    refine R_reg ?_
    refine W_run (L' := [(0, .slice A0 d0.length cap0), (1, .slice A1 d1.length cap1), (5, .int .i64 0)]) (w' := w) f_2 1 [0, 1, 5] (by kernel_rfl) (fun a_4 f_4 => ?_)
    refine W_end rfl ?_
    refine T_n ?_
    refine wp_block ?_
    obtain ⟨b_1, hL_1, hF_3⟩ := bind_some' hF_2
    refine wp_mono (Q := fun e a w => (e = .ret ∧ (∃ y_1 : Unit, b_1 = .inl y_1 ∧ ∃ M_2 : Mem, M1.le M_2 ∧ Frm 26 [(4, .bool false)] a ∧ Hp w0 M_2 (H) w)) ∨ (e = .exit 0 ∧ (∃ y_2 : Unit, b_1 = .inr y_2 ∧ ∃ M_3 : Mem, M1.le M_3 ∧ Frm 26 [] a ∧ Hp w0 M_3 (H) w))) (R_loop (n := 26) (w0 := w0) (M := M1) (fun (x : Nat × Int) => match x with | (m_1, s_1) => [(0, .slice A0 d0.length cap0), (1, .slice A1 d1.length cap1), (5, .int .i64 s_1)]) (fun (x : Nat × Int) => match x with | (m_1, s_1) => (H)) (fun (x : Nat × Int) (MM : Mem) => match x with | (m_1, s_1) => loopF (ref21_States_s1 n d0 d1) m_1 s_1 = some b_1) (fun (x : Nat × Int) => match x with | (m_1, s_1) => m_1) (n, (0 : Int)) (f_4.keep (ks := [0, 1, 5]) (by kernel_rfl)) p0 hL_1 ?_) ?_
    · rintro ⟨m_1, s_1⟩ M_1 a_5 w_1 hM_1 I_1 f_5 p_1
      replace f_5 : Frm 26 [(0, .slice A0 d0.length cap0), (1, .slice A1 d1.length cap1), (5, .int .i64 s_1)] a_5 := f_5
      replace p_1 : Hp w0 M_1 (H) w_1 := p_1
      have I_1L := I_1
      obtain ⟨m_2, r_1, rfl, hs_1, hn_1⟩ := loop_step I_1L
      unfold ref21_States_s1 at hs_1
      refine R_seq ?_
      refine R_seq ?_
      refine R_reg ?_
      refine W_run (L' := [(0, .slice A0 d0.length cap0), (1, .slice A1 d1.length cap1), (5, .int .i64 s_1), (14, .bool (decide (s_1 < ((d0.length : Nat) : Int))))]) (w' := w_1) f_5 4 [0, 1, 5, 14] (by kernel_rfl) (fun a_6 f_6 => ?_)
      refine W_end rfl ?_
      refine T_n ?_
      refine R_cond f_6 (b := decide (s_1 < ((d0.length : Nat) : Int))) (by kernel_rfl) (by kernel_rfl) (fun h_2 => ?_) (fun h_2 => ?_)
      · have k_3 : s_1 < ((d0.length : Nat) : Int) := decide_eq_true_iff.1 h_2
        have hF_4 := cnd_t h_2 hs_1
        refine wp_skip ?_
        refine T_n ?_
        refine R_seq ?_
        refine wp_block ?_
        refine R_seq ?_
        refine R_draw p_1 (by kernel_rfl) (by kernel_rfl) ?_
        refine Q_eq (v := .slice A0 d0.length cap0) f_6 (by kernel_rfl) (by kernel_rfl) rfl rfl (fun _ _ => by kernel_rfl) (fun a_7 f_7 => ?_)
        refine Q_eq (v := .int .i64 s_1) f_7 (by kernel_rfl) (by kernel_rfl) rfl rfl (fun _ _ => by kernel_rfl) (fun a_8 f_8 => ?_)
        have f_9 : Frm 26 [(0, .slice A0 d0.length cap0), (1, .slice A1 d1.length cap1), (5, .int .i64 s_1), (17, .slice A0 d0.length cap0), (18, .int .i64 s_1)] a_8 := f_8.keep (ks := [0, 1, 5, 17, 18]) (by kernel_rfl)
        obtain ⟨x_1, hx_1, hF_5⟩ := bind_some' hF_4
        obtain ⟨ad_1, c_1, e_1, hl_1, hr_1, hc_1⟩ := Sli.at_ (h0.mono hM_1) hx_1
        clear hl_1
        obtain rfl : c_1 = [.int .i8 x_1] := hr_1
        refine Q_eq (v := .pointer (some (ad_1.add (s_1.toNat * 1)))) f_9 (by kernel_rfl) (by kernel_rfl) rfl rfl (fun _ pq => X_indexAddrA e_1 rfl (len := d0.length) (cap := cap0) (k := .i64) (i := s_1) (by kernel_rfl) (by kernel_rfl) (e := 30) (by kernel_rfl) (sz := 1) (by kernel_rfl) (getI_nn hx_1) (getI_lt hx_1)) (fun a_9 f_10 => ?_)
        refine Q_eq (v := .int .i8 x_1) f_10 (by kernel_rfl) (by kernel_rfl) rfl rfl (fun _ pq => X_load1 (v := .int .i8 x_1) rfl (ad := ad_1.add (s_1.toNat * 1)) (by kernel_rfl) (by kernel_rfl) (pq.cell (hc_1 0 _ rfl))) (fun a_10 f_11 => ?_)
        refine Q_eq (v := .slice A1 d1.length cap1) f_11 (by kernel_rfl) (by kernel_rfl) rfl rfl (fun _ _ => by kernel_rfl) (fun a_11 f_12 => ?_)
        refine Q_eq (v := .int .i64 s_1) f_12 (by kernel_rfl) (by kernel_rfl) rfl rfl (fun _ _ => by kernel_rfl) (fun a_12 f_13 => ?_)
        have f_14 : Frm 26 [(0, .slice A0 d0.length cap0), (1, .slice A1 d1.length cap1), (5, .int .i64 s_1), (20, .int .i8 x_1), (21, .slice A1 d1.length cap1), (22, .int .i64 s_1)] a_12 := f_13.keep (ks := [0, 1, 5, 20, 21, 22]) (by kernel_rfl)
        obtain ⟨x_2, hx_2, hF_6⟩ := bind_some' hF_5
        obtain ⟨ad_2, c_2, e_2, hl_2, hr_2, hc_2⟩ := Sli.at_ (h1.mono hM_1) hx_2
        clear hl_2
        obtain rfl : c_2 = [.int .i8 x_2] := hr_2
        refine Q_eq (v := .pointer (some (ad_2.add (s_1.toNat * 1)))) f_14 (by kernel_rfl) (by kernel_rfl) rfl rfl (fun _ pq => X_indexAddrA e_2 rfl (len := d1.length) (cap := cap1) (k := .i64) (i := s_1) (by kernel_rfl) (by kernel_rfl) (e := 30) (by kernel_rfl) (sz := 1) (by kernel_rfl) (getI_nn hx_2) (getI_lt hx_2)) (fun a_13 f_15 => ?_)
        refine Q_eq (v := .int .i8 x_2) f_15 (by kernel_rfl) (by kernel_rfl) rfl rfl (fun _ pq => X_load1 (v := .int .i8 x_2) rfl (ad := ad_2.add (s_1.toNat * 1)) (by kernel_rfl) (by kernel_rfl) (pq.cell (hc_2 0 _ rfl))) (fun a_14 f_16 => ?_)
        refine Q_eq (v := .bool (!(decide (x_1 = x_2)))) f_16 (by kernel_rfl) (by kernel_rfl) rfl rfl (fun _ _ => by kernel_rfl) (fun a_15 f_17 => ?_)
        have f_18 : Frm 26 [(0, .slice A0 d0.length cap0), (1, .slice A1 d1.length cap1), (5, .int .i64 s_1), (25, .bool (!(decide (x_1 = x_2))))] a_15 := f_17.keep (ks := [0, 1, 5, 25]) (by kernel_rfl)
        refine Q_end rfl ?_
        intro w_2 p_2
        refine T_n ?_
        refine R_cond f_18 (b := !(decide (x_1 = x_2))) (by kernel_rfl) (by kernel_rfl) (fun h_3 => ?_) (fun h_3 => ?_)
        · have k_4 : ¬ (x_1 = x_2) := (not_iff decide_eq_true_iff).1 h_3
          have hF_7 := cnd_t h_3 hF_6
          refine R_seq ?_
          refine R_reg ?_
          refine W_run (L' := [(4, .bool false)]) (w' := w_2) f_18 1 [4] (by kernel_rfl) (fun a_16 f_19 => ?_)
          refine W_end rfl ?_
          refine T_n ?_
          refine wp_ret ?_
          refine B_r ?_
          refine T_r ?_
          refine T_r ?_
          obtain rfl := Option.some.inj hF_7
          exact .inl ⟨rfl, (), (Option.some.inj hn_1).symm, M_1, hM_1, f_19.keep (ks := [4]) (by kernel_rfl), p_2⟩
        · have k_5 : ¬ (¬ (x_1 = x_2)) := iff_f (not_iff decide_eq_true_iff) h_3
          have hF_8 := cnd_f h_3 hF_6
          refine wp_skip ?_
          refine B_n ?_
          refine T_n ?_
          refine R_reg ?_
          refine W_run (L' := [(0, .slice A0 d0.length cap0), (1, .slice A1 d1.length cap1), (15, .int .i64 s_1)]) (w' := w_2) f_18 1 [0, 1, 15] (by kernel_rfl) (fun a_17 f_20 => ?_)
          obtain ⟨g_1, hF_9⟩ := need_some hF_8
          refine W_run (L' := [(0, .slice A0 d0.length cap0), (1, .slice A1 d1.length cap1), (15, .int .i64 s_1), (16, .int .i64 (IntKind.wrap .i64 (s_1 + 1)))]) (w' := w_2) f_20 1 [0, 1, 15, 16] (by kernel_rfl) (fun a_18 f_21 => ?_)
          have f_22 := Frm.set f_21 16 (v := .int .i64 (IntKind.wrap .i64 (s_1 + 1))) (v' := .int .i64 (s_1 + 1)) (by kernel_rfl) (congrArg (Value.int .i64) (inR_wrap g_1))
          have f_23 : Frm 26 [(0, .slice A0 d0.length cap0), (1, .slice A1 d1.length cap1), (15, .int .i64 s_1), (16, .int .i64 (s_1 + 1))] a_18 := f_22.keep (ks := [0, 1, 15, 16]) (by kernel_rfl)
          refine W_run (L' := [(0, .slice A0 d0.length cap0), (1, .slice A1 d1.length cap1), (5, .int .i64 (s_1 + 1))]) (w' := w_2) f_23 1 [0, 1, 5] (by kernel_rfl) (fun a_19 f_24 => ?_)
          refine W_end rfl ?_
          refine T_n ?_
          obtain rfl := Option.some.inj hF_9
          exact ⟨⟨m_2, s_1 + 1⟩, Nat.lt_succ_self _, M_1, hM_1, hn_1, f_24.keep (ks := [0, 1, 5]) (by kernel_rfl), p_2⟩
      · have k_6 : ¬ (s_1 < ((d0.length : Nat) : Int)) := iff_f decide_eq_true_iff h_2
        have hF_10 := cnd_f h_2 hs_1
        refine wp_exit ?_
        refine T_x ?_
        refine T_x ?_
        obtain rfl := Option.some.inj hF_10
        exact .inr ⟨rfl, (), (Option.some.inj hn_1).symm, M_1, hM_1, f_6.keep (ks := []) (by kernel_rfl), p_1⟩
    · rintro _ a_22 w_5 (⟨rfl, y_1, rfl, M_2, hM_2, f_25, p_3⟩ | ⟨rfl, y_2, rfl, M_3, hM_3, f_26, p_4⟩)
      · refine B_r ?_
        refine T_r ?_
        refine E_ret1 f_25 rfl (by kernel_rfl : Vc.look _ 4 = some (.bool false)) ?_
        obtain rfl := Option.some.inj hF_3
        exact ⟨_, rfl, M_2, hM_2, p_3, rfl⟩
      · refine B_x ?_
        refine T_n ?_
        refine R_seq ?_
        refine R_reg ?_
        refine W_run (L' := [(4, .bool true)]) (w' := w_5) f_26 1 [4] (by kernel_rfl) (fun a_23 f_27 => ?_)
        refine W_end rfl ?_
        refine T_n ?_
        refine wp_ret ?_
        refine E_ret1 f_27 rfl (by kernel_rfl : Vc.look _ 4 = some (.bool true)) ?_
        obtain rfl := Option.some.inj hF_3
        exact ⟨_, rfl, M_3, hM_3, p_4, rfl⟩

def law21_ReadySettles_s1 (n : Nat) (d1 : List Int) (x_3 : List Int × Int) (s_1 : List Int × Int) : Option (Lp (List Int × Int) (Sum Unit (List Int))) :=
    bif (decide (s_1.2 < ((x_3.1.length : Nat) : Int))) then
      ((getI s_1.1 s_1.2).bind fun x_6 =>
      (getI d1 s_1.2).bind fun x_7 =>
      bif (!(decide (x_6 = x_7))) then
        ((getI d1 s_1.2).bind fun x_8 =>
        bif (!(decide (x_8 = 1))) then
          (some (.br (.inl ())))
        else
          (getI s_1.1 s_1.2).bind fun x_9 =>
          bif (!(decide (x_9 = 5))) then
            (some (.br (.inl ())))
          else
            need (inR .i64 (s_1.2 + 1)) <|
            some (.nx (s_1.1, s_1.2 + 1)))
      else
        need (inR .i64 (s_1.2 + 1)) <|
        some (.nx (s_1.1, s_1.2 + 1)))
    else
      some (.br (.inr s_1.1))
def law21_ReadySettles (n : Nat) (d0 : List (List Int)) (d1 : List Int) (d2 : Bool) : Option Bool :=
  (((ref21_Great n d0).bind fun x_1 =>
    bif x_1 then
      (some ((true)))
    else
      some ((decide ((100 : Int) < ((d1.length : Nat) : Int)))) : Option Bool)).bind fun y_1 =>
  bif y_1 then
    ((law21_wakes n).bind fun x_2 =>
    some ((x_2)))
  else
    (ready_Settle n d0 d1 (d2)).bind fun x_3 =>
    bif (!(decide (x_3.2 = 0))) then
      (((bif (decide (((x_3.1.length : Nat) : Int) = 0)) then
          ((ready_May n d0 d1).bind fun x_4 =>
          bif !x_4 then
            ((law21_wakes n).bind fun x_5 =>
            some ((x_5)))
          else
            some ((false)))
        else
          some ((false)) : Option Bool)).bind fun y_2 =>
      some ((y_2)))
    else
      bif (!(decide (((x_3.1.length : Nat) : Int) = ((d1.length : Nat) : Int)))) then
        (some ((false)))
      else
        (loopF (law21_ReadySettles_s1 n d1 x_3) n (x_3.1, (0 : Int))).bind fun b_1 =>
        (match b_1 with 
        | .inl y_3 => some ((false)) 
        | .inr y_4 => (ready_Settle n d0 y_4 (d2)).bind fun x_10 =>
          (ready_Ready n d0 d1 (d2)).bind fun x_11 =>
          (ready_Ready n d0 y_4 (d2)).bind fun x_12 =>
          bif (decide (x_10.2 = 0)) then
            (bif (decide (x_11.2 = 0)) then
              (bif (decide (x_12.2 = 0)) then
                ((ref21_States n x_10.1 y_4).bind fun x_13 =>
                bif x_13 then
                  ((ref21_Ints n x_11.1 x_12.1).bind fun x_14 =>
                  bif x_14 then
                    ((law21_wakes n).bind fun x_15 =>
                    some ((x_15)))
                  else
                    some ((false)))
                else
                  some ((false)))
              else
                some ((false)))
            else
              some ((false)))
          else
            some ((false)))
theorem law21_ReadySettles_ok (n : Nat) (M : Mem) (A0 : Option Addr) (cap0 : Nat) (d0 : List (List Int)) (h0 : Sli M 1 (eL 1 (Dat.int .i64)) A0 cap0 d0) (A1 : Option Addr) (cap1 : Nat) (d1 : List Int) (h1 : Sli M 1 (Dat.int .i8) A1 cap1 d1) (d2 : Bool) (r : Bool) (hF : law21_ReadySettles n d0 d1 d2 = some r) : Ok Try.prog M 4 [.slice A0 d0.length cap0, .slice A1 d1.length cap1, .bool d2] (fun _ v => v = .bool r) := by
  unfold law21_ReadySettles at hF
  intro M1 hM0 w0 H w p0
  replace h0 := h0.mono hM0
  replace h1 := h1.mono hM0
  refine R_enter 123 Try.func4 rfl rfl (by simp) (fun a0 f0 => ?_)
  replace f0 : Frm 123 [(0, .slice A0 d0.length cap0), (1, .slice A1 d1.length cap1), (2, .bool d2)] a0 := f0
  refine R_seq ?_
  refine R_reg ?_
  refine W_run (L' := [(0, .slice A0 d0.length cap0), (1, .slice A1 d1.length cap1), (2, .bool d2)]) (w' := w) f0 1 [0, 1, 2] (by kernel_rfl) (fun a_1 f_1 => ?_)
  refine W_end rfl ?_
  refine T_n ?_
  refine R_seq ?_
  refine R_seq ?_
  obtain ⟨j_1, hj_1, hF_1⟩ := bind_some' hF
  refine R_mid (fun a_7 w_2 => ∃ y_1 : Bool, j_1 = y_1 ∧ ∃ M_1 : Mem, M1.le M_1 ∧ Frm 123 [(0, .slice A0 d0.length cap0), (1, .slice A1 d1.length cap1), (2, .bool d2), (22, .bool y_1)] a_7 ∧ Hp w0 M_1 (H) w_2) ?_ ?_
  · refine R_reg ?_
    refine W_run (L' := [(0, .slice A0 d0.length cap0), (1, .slice A1 d1.length cap1), (2, .bool d2), (16, .slice A0 d0.length cap0)]) (w' := w) f_1 1 [0, 1, 2, 16] (by kernel_rfl) (fun a_2 f_2 => ?_)
    obtain ⟨x_1, hx_1, hF_2⟩ := bind_some' hj_1
    refine W_okv (v := .bool x_1) f_2 p0 (by kernel_rfl) (by kernel_rfl) rfl rfl (fun _ => by kernel_rfl) (ref21_Great_ok n _ A0 cap0 d0 h0 x_1 hx_1) (fun w_1 p_1 a_3 f_3 => ?_)
    refine W_run (L' := [(0, .slice A0 d0.length cap0), (1, .slice A1 d1.length cap1), (2, .bool d2), (18, .bool x_1)]) (w' := w_1) f_3 1 [0, 1, 2, 18] (by kernel_rfl) (fun a_4 f_4 => ?_)
    rcases Bool.eq_false_or_eq_true (x_1) with h_1 | h_1
    · have hF_3 := cnd_t h_1 hF_2
      have f_5 := Frm.set f_4 18 (v := .bool x_1) (v' := .bool true) (by kernel_rfl) (congrArg Value.bool h_1)
      have f_6 : Frm 123 [(0, .slice A0 d0.length cap0), (1, .slice A1 d1.length cap1), (2, .bool d2), (18, .bool true)] a_4 := f_5.keep (ks := [0, 1, 2, 18]) (by kernel_rfl)
      refine W_run (L' := [(0, .slice A0 d0.length cap0), (1, .slice A1 d1.length cap1), (2, .bool d2), (22, .bool true)]) (w' := w_1) f_6 4 [0, 1, 2, 22] (by kernel_rfl) (fun a_5 f_7 => ?_)
      refine W_end rfl ?_
      refine T_n ?_
      exact ⟨(true), (Option.some.inj hF_3).symm, M1, (Mem.le_refl _), f_7.keep (ks := [0, 1, 2, 22]) (by kernel_rfl), p_1⟩
    · have hF_4 := cnd_f h_1 hF_2
      have f_8 := Frm.set f_4 18 (v := .bool x_1) (v' := .bool false) (by kernel_rfl) (congrArg Value.bool h_1)
      have f_9 : Frm 123 [(0, .slice A0 d0.length cap0), (1, .slice A1 d1.length cap1), (2, .bool d2), (18, .bool false)] a_4 := f_8.keep (ks := [0, 1, 2, 18]) (by kernel_rfl)
      refine W_run (L' := [(0, .slice A0 d0.length cap0), (1, .slice A1 d1.length cap1), (2, .bool d2), (22, .bool (decide ((100 : Int) < ((d1.length : Nat) : Int))))]) (w' := w_1) f_9 4 [0, 1, 2, 22] (by kernel_rfl) (fun a_6 f_10 => ?_)
      refine W_end rfl ?_
      refine T_n ?_
      exact ⟨(decide ((100 : Int) < ((d1.length : Nat) : Int))), (Option.some.inj hF_4).symm, M1, (Mem.le_refl _), f_10.keep (ks := [0, 1, 2, 22]) (by kernel_rfl), p_1⟩
  · rintro a_7 w_2 ⟨y_1, hq_1, M_1, hM_1, f_11, p_2⟩
    subst j_1
    refine T_n ?_
    refine R_cond f_11 (b := y_1) (by kernel_rfl) (by kernel_rfl) (fun h_2 => ?_) (fun h_2 => ?_)
    · have hF_5 := cnd_t h_2 hF_1
      refine R_seq ?_
      refine R_reg ?_
      obtain ⟨x_2, hx_2, hF_6⟩ := bind_some' hF_5
      refine W_okv (v := .bool x_2) f_11 p_2 (by kernel_rfl) (by kernel_rfl) rfl rfl (fun _ => by kernel_rfl) (law21_wakes_ok n _  x_2 hx_2) (fun w_3 p_3 a_8 f_12 => ?_)
      refine W_run (L' := [(6, .bool x_2)]) (w' := w_3) f_12 1 [6] (by kernel_rfl) (fun a_9 f_13 => ?_)
      refine W_end rfl ?_
      refine T_n ?_
      refine wp_ret ?_
      refine T_r ?_
      refine E_ret1 f_13 rfl (by kernel_rfl : Vc.look _ 6 = some (.bool x_2)) ?_
      obtain rfl := Option.some.inj hF_6
      exact ⟨_, rfl, M_1, hM_1, p_3, rfl⟩
    · have hF_7 := cnd_f h_2 hF_1
      refine wp_skip ?_
      refine T_n ?_
      refine R_seq ?_
      refine R_reg ?_
      refine W_run (L' := [(0, .slice A0 d0.length cap0), (1, .slice A1 d1.length cap1), (2, .bool d2), (25, .slice A0 d0.length cap0), (26, .slice A1 d1.length cap1), (27, .bool d2)]) (w' := w_2) f_11 3 [0, 1, 2, 25, 26, 27] (by kernel_rfl) (fun a_10 f_14 => ?_)
      obtain ⟨x_3, hx_3, hF_8⟩ := bind_some' hF_7
      refine W_okH (E := []) (H := (H)) f_14 p_2 (by kernel_rfl) (by kernel_rfl) rfl rfl (fun _ => by kernel_rfl) (ready_Settle_ok n _ A0 cap0 d0 (h0.mono hM_1) A1 cap1 d1 (h1.mono hM_1) (d2) x_3 hx_3) (fun u_1 M_2 E_1 w_4 hM_2 p_4 q_1 a_11 f_15 => ?_)
      obtain ⟨A_1, cap_1, cs_1, rfl, rfl, hr_1⟩ := q_1
      replace p_4 : Hp w0 M_2 ((Ent.row 30 1 (.slice A_1 x_3.1.length cap_1) x_3.1.length cs_1) :: H) w_4 := p_4
      refine W_run (L' := [(0, .slice A0 d0.length cap0), (1, .slice A1 d1.length cap1), (2, .bool d2), (7, .slice A_1 x_3.1.length cap_1), (8, .int .i64 x_3.2)]) (w' := w_4) f_15 5 [0, 1, 2, 7, 8] (by kernel_rfl) (fun a_12 f_16 => ?_)
      refine W_end rfl ?_
      refine T_n ?_
      refine R_seq ?_
      refine R_seq ?_
      refine R_reg ?_
      refine W_run (L' := [(0, .slice A0 d0.length cap0), (1, .slice A1 d1.length cap1), (2, .bool d2), (7, .slice A_1 x_3.1.length cap_1), (32, .bool (!(decide (x_3.2 = 0))))]) (w' := w_4) f_16 2 [0, 1, 2, 7, 32] (by kernel_rfl) (fun a_13 f_17 => ?_)
      refine W_end rfl ?_
      refine T_n ?_
      refine R_cond f_17 (b := !(decide (x_3.2 = 0))) (by kernel_rfl) (by kernel_rfl) (fun h_3 => ?_) (fun h_3 => ?_)
      · have k_5 : ¬ (x_3.2 = 0) := (not_iff decide_eq_true_iff).1 h_3
        have hF_9 := cnd_t h_3 hF_8
        refine R_seq ?_
        obtain ⟨j_2, hj_2, hF_10⟩ := bind_some' hF_9
        refine R_mid (fun a_22 w_7 => ∃ y_2 : Bool, j_2 = y_2 ∧ ∃ M_3 : Mem, M_2.le M_3 ∧ Frm 123 [(6, .bool y_2)] a_22 ∧ Hp w0 M_3 ((Ent.row 30 1 (.slice A_1 x_3.1.length cap_1) x_3.1.length cs_1) :: H) w_7) ?_ ?_
        · refine R_reg ?_
          refine W_run (L' := [(0, .slice A0 d0.length cap0), (1, .slice A1 d1.length cap1), (36, .bool (decide (((x_3.1.length : Nat) : Int) = 0)))]) (w' := w_4) f_17 4 [0, 1, 36] (by kernel_rfl) (fun a_14 f_18 => ?_)
          rcases Bool.eq_false_or_eq_true (decide (((x_3.1.length : Nat) : Int) = 0)) with h_4 | h_4
          · have k_6 : ((x_3.1.length : Nat) : Int) = 0 := decide_eq_true_iff.1 h_4
            have hF_11 := cnd_t h_4 hj_2
            have f_19 := Frm.set f_18 36 (v := .bool (decide (((x_3.1.length : Nat) : Int) = 0))) (v' := .bool true) (by kernel_rfl) (congrArg Value.bool h_4)
            have f_20 : Frm 123 [(0, .slice A0 d0.length cap0), (1, .slice A1 d1.length cap1), (36, .bool true)] a_14 := f_19.keep (ks := [0, 1, 36]) (by kernel_rfl)
            refine W_run (L' := [(36, .bool true), (37, .slice A0 d0.length cap0), (38, .slice A1 d1.length cap1)]) (w' := w_4) f_20 2 [36, 37, 38] (by kernel_rfl) (fun a_15 f_21 => ?_)
            obtain ⟨x_4, hx_4, hF_12⟩ := bind_some' hF_11
            refine W_okv (v := .bool x_4) f_21 p_4 (by kernel_rfl) (by kernel_rfl) rfl rfl (fun _ => by kernel_rfl) (ready_May_ok n _ A0 cap0 d0 (h0.mono (hM_1.trans hM_2)) A1 cap1 d1 (h1.mono (hM_1.trans hM_2)) x_4 hx_4) (fun w_5 p_5 a_16 f_22 => ?_)
            refine W_run (L' := [(42, .bool !x_4)]) (w' := w_5) f_22 3 [42] (by kernel_rfl) (fun a_17 f_23 => ?_)
            rcases Bool.eq_false_or_eq_true (!x_4) with h_5 | h_5
            · have k_7 : (x_4) = false := by simpa using h_5
              have hF_13 := cnd_t h_5 hF_12
              have f_24 := Frm.set f_23 42 (v := .bool !x_4) (v' := .bool true) (by kernel_rfl) (congrArg Value.bool h_5)
              have f_25 : Frm 123 [(42, .bool true)] a_17 := f_24.keep (ks := [42]) (by kernel_rfl)
              obtain ⟨x_5, hx_5, hF_14⟩ := bind_some' hF_13
              refine W_okv (v := .bool x_5) f_25 p_5 (by kernel_rfl) (by kernel_rfl) rfl rfl (fun _ => by kernel_rfl) (law21_wakes_ok n _  x_5 hx_5) (fun w_6 p_6 a_18 f_26 => ?_)
              refine W_run (L' := [(6, .bool x_5)]) (w' := w_6) f_26 2 [6] (by kernel_rfl) (fun a_19 f_27 => ?_)
              refine W_end rfl ?_
              refine T_n ?_
              exact ⟨(x_5), (Option.some.inj hF_14).symm, M_2, (Mem.le_refl _), f_27.keep (ks := [6]) (by kernel_rfl), p_6⟩
            · have k_8 : (x_4) = true := by simpa using h_5
              have hF_15 := cnd_f h_5 hF_12
              have f_28 := Frm.set f_23 42 (v := .bool !x_4) (v' := .bool false) (by kernel_rfl) (congrArg Value.bool h_5)
              have f_29 : Frm 123 [(42, .bool false)] a_17 := f_28.keep (ks := [42]) (by kernel_rfl)
              refine W_run (L' := [(6, .bool false)]) (w' := w_5) f_29 3 [6] (by kernel_rfl) (fun a_20 f_30 => ?_)
              refine W_end rfl ?_
              refine T_n ?_
              exact ⟨(false), (Option.some.inj hF_15).symm, M_2, (Mem.le_refl _), f_30.keep (ks := [6]) (by kernel_rfl), p_5⟩
          · have k_9 : ¬ (((x_3.1.length : Nat) : Int) = 0) := iff_f decide_eq_true_iff h_4
            have hF_16 := cnd_f h_4 hj_2
            have f_31 := Frm.set f_18 36 (v := .bool (decide (((x_3.1.length : Nat) : Int) = 0))) (v' := .bool false) (by kernel_rfl) (congrArg Value.bool h_4)
            have f_32 : Frm 123 [(0, .slice A0 d0.length cap0), (1, .slice A1 d1.length cap1), (36, .bool false)] a_14 := f_31.keep (ks := [0, 1, 36]) (by kernel_rfl)
            refine W_run (L' := [(6, .bool false)]) (w' := w_4) f_32 9 [6] (by kernel_rfl) (fun a_21 f_33 => ?_)
            refine W_end rfl ?_
            refine T_n ?_
            exact ⟨(false), (Option.some.inj hF_16).symm, M_2, (Mem.le_refl _), f_33.keep (ks := [6]) (by kernel_rfl), p_4⟩
        · rintro a_22 w_7 ⟨y_2, hq_2, M_3, hM_3, f_34, p_7⟩
          subst j_2
          refine T_n ?_
          refine wp_ret ?_
          refine T_r ?_
          refine E_ret1 f_34 rfl (by kernel_rfl : Vc.look _ 6 = some (.bool y_2)) ?_
          obtain rfl := Option.some.inj hF_10
          exact ⟨_, rfl, M_3, ((hM_1.trans hM_2).trans hM_3), (p_7.dropN 1), rfl⟩
      · have k_10 : ¬ (¬ (x_3.2 = 0)) := iff_f (not_iff decide_eq_true_iff) h_3
        have hF_17 := cnd_f h_3 hF_8
        refine wp_skip ?_
        refine T_n ?_
        refine R_seq ?_
        refine R_seq ?_
        refine R_reg ?_
        refine W_run (L' := [(0, .slice A0 d0.length cap0), (1, .slice A1 d1.length cap1), (2, .bool d2), (7, .slice A_1 x_3.1.length cap_1), (49, .bool (!(decide (((x_3.1.length : Nat) : Int) = ((d1.length : Nat) : Int)))))]) (w' := w_4) f_17 5 [0, 1, 2, 7, 49] (by kernel_rfl) (fun a_23 f_35 => ?_)
        refine W_end rfl ?_
        refine T_n ?_
        refine R_cond f_35 (b := !(decide (((x_3.1.length : Nat) : Int) = ((d1.length : Nat) : Int)))) (by kernel_rfl) (by kernel_rfl) (fun h_6 => ?_) (fun h_6 => ?_)
        · have k_11 : ¬ (((x_3.1.length : Nat) : Int) = ((d1.length : Nat) : Int)) := (not_iff decide_eq_true_iff).1 h_6
          have hF_18 := cnd_t h_6 hF_17
          refine R_seq ?_
          refine R_reg ?_
          refine W_run (L' := [(6, .bool false)]) (w' := w_4) f_35 1 [6] (by kernel_rfl) (fun a_24 f_36 => ?_)
          refine W_end rfl ?_
          refine T_n ?_
          refine wp_ret ?_
          refine T_r ?_
          refine E_ret1 f_36 rfl (by kernel_rfl : Vc.look _ 6 = some (.bool false)) ?_
          obtain rfl := Option.some.inj hF_18
          exact ⟨_, rfl, M_2, (hM_1.trans hM_2), (p_4.dropN 1), rfl⟩
        · have k_12 : ¬ (¬ (((x_3.1.length : Nat) : Int) = ((d1.length : Nat) : Int))) := iff_f (not_iff decide_eq_true_iff) h_6
          have hF_19 := cnd_f h_6 hF_17
          refine wp_skip ?_
          refine T_n ?_
          refine R_seq ?_
          refine R_seq ?_
          refine R_reg ?_
          refine W_run (L' := [(0, .slice A0 d0.length cap0), (1, .slice A1 d1.length cap1), (2, .bool d2), (7, .slice A_1 x_3.1.length cap_1), (51, .int .i64 ((x_3.1.length : Nat) : Int)), (52, .int .i64 0)]) (w' := w_4) f_35 3 [0, 1, 2, 7, 51, 52] (by kernel_rfl) (fun a_25 f_37 => ?_)
          refine W_end rfl ?_
          refine T_n ?_
          refine wp_block ?_
          obtain ⟨A_2, cap_2, M_4, hv_1, hM_4, p_8, h_7⟩ := p_4.rowSli (f := (Dat.int .i8)) (xs := x_3.1) (szd_int .i8) hr_1
          have f_38 := Frm.set f_37 7 (v := .slice A_1 x_3.1.length cap_1) (v' := .slice A_2 x_3.1.length cap_2) (by kernel_rfl) (hv_1)
          have f_39 : Frm 123 [(0, .slice A0 d0.length cap0), (1, .slice A1 d1.length cap1), (2, .bool d2), (7, .slice A_2 x_3.1.length cap_2), (51, .int .i64 ((x_3.1.length : Nat) : Int)), (52, .int .i64 0)] a_25 := f_38.keep (ks := [0, 1, 2, 7, 51, 52]) (by kernel_rfl)
          obtain ⟨b_1, hL_1, hF_20⟩ := bind_some' hF_19
          refine wp_mono (Q := fun e a w => (e = .ret ∧ (∃ y_3 : Unit, b_1 = .inl y_3 ∧ ∃ M_6 : Mem, M_4.le M_6 ∧ Frm 123 [(6, .bool false)] a ∧ Hp w0 M_6 (H) w)) ∨ (e = .exit 0 ∧ (∃ y_4 : List Int, b_1 = .inr y_4 ∧ ∃ M_7 : Mem, M_4.le M_7 ∧ ∃ (A_4 : Option Addr), ∃ (cap_4 : Nat), Sli M_7 1 (Dat.int .i8) A_4 cap_4 y_4 ∧ Frm 123 [(0, .slice A0 d0.length cap0), (1, .slice A1 d1.length cap1), (2, .bool d2), (7, .slice A_4 y_4.length cap_4)] a ∧ Hp w0 M_7 (H) w))) (R_loop (n := 123) (w0 := w0) (M := M_4) (fun (x : Nat × (List Int × Int) × (Option Addr) × Nat) => match x with | (m_1, s_1, A_3, cap_3) => [(0, .slice A0 d0.length cap0), (1, .slice A1 d1.length cap1), (2, .bool d2), (7, .slice A_3 s_1.1.length cap_3), (51, .int .i64 ((x_3.1.length : Nat) : Int)), (52, .int .i64 s_1.2)]) (fun (x : Nat × (List Int × Int) × (Option Addr) × Nat) => match x with | (m_1, s_1, A_3, cap_3) => (H)) (fun (x : Nat × (List Int × Int) × (Option Addr) × Nat) (MM : Mem) => match x with | (m_1, s_1, A_3, cap_3) => loopF (law21_ReadySettles_s1 n d1 x_3) m_1 s_1 = some b_1 ∧ Sli MM 1 (Dat.int .i8) A_3 cap_3 s_1.1) (fun (x : Nat × (List Int × Int) × (Option Addr) × Nat) => match x with | (m_1, s_1, A_3, cap_3) => m_1) (n, (x_3.1, (0 : Int)), A_2, cap_2) (f_39.keep (ks := [0, 1, 2, 7, 51, 52]) (by kernel_rfl)) p_8 ⟨hL_1, h_7⟩ ?_) ?_
          · rintro ⟨m_1, s_1, A_3, cap_3⟩ M_5 a_26 w_8 hM_5 I_1 f_40 p_9
            replace f_40 : Frm 123 [(0, .slice A0 d0.length cap0), (1, .slice A1 d1.length cap1), (2, .bool d2), (7, .slice A_3 s_1.1.length cap_3), (51, .int .i64 ((x_3.1.length : Nat) : Int)), (52, .int .i64 s_1.2)] a_26 := f_40
            replace p_9 : Hp w0 M_5 (H) w_8 := p_9
            obtain ⟨I_1L, h_8⟩ := I_1
            obtain ⟨m_2, r_1, rfl, hs_1, hn_1⟩ := loop_step I_1L
            unfold law21_ReadySettles_s1 at hs_1
            refine R_seq ?_
            refine R_reg ?_
            refine W_run (L' := [(0, .slice A0 d0.length cap0), (1, .slice A1 d1.length cap1), (2, .bool d2), (7, .slice A_3 s_1.1.length cap_3), (51, .int .i64 ((x_3.1.length : Nat) : Int)), (52, .int .i64 s_1.2), (53, .bool (decide (s_1.2 < ((x_3.1.length : Nat) : Int))))]) (w' := w_8) f_40 1 [0, 1, 2, 7, 51, 52, 53] (by kernel_rfl) (fun a_27 f_41 => ?_)
            refine W_end rfl ?_
            refine T_n ?_
            refine R_seq ?_
            refine R_cond f_41 (b := decide (s_1.2 < ((x_3.1.length : Nat) : Int))) (by kernel_rfl) (by kernel_rfl) (fun h_9 => ?_) (fun h_9 => ?_)
            · have k_13 : s_1.2 < ((x_3.1.length : Nat) : Int) := decide_eq_true_iff.1 h_9
              have hF_21 := cnd_t h_9 hs_1
              refine wp_skip ?_
              refine T_n ?_
              refine R_seq ?_
              refine wp_block ?_
              refine R_seq ?_
              refine R_reg ?_
              refine W_run (L' := [(0, .slice A0 d0.length cap0), (1, .slice A1 d1.length cap1), (2, .bool d2), (7, .slice A_3 s_1.1.length cap_3), (9, .int .i64 s_1.2), (51, .int .i64 ((x_3.1.length : Nat) : Int)), (52, .int .i64 s_1.2)]) (w' := w_8) f_41 2 [0, 1, 2, 7, 9, 51, 52] (by kernel_rfl) (fun a_28 f_42 => ?_)
              refine W_end rfl ?_
              refine T_n ?_
              refine R_seq ?_
              refine R_draw p_9 (by kernel_rfl) (by kernel_rfl) ?_
              refine Q_eq (v := .slice A_3 s_1.1.length cap_3) f_42 (by kernel_rfl) (by kernel_rfl) rfl rfl (fun _ _ => by kernel_rfl) (fun a_29 f_43 => ?_)
              refine Q_eq (v := .int .i64 s_1.2) f_43 (by kernel_rfl) (by kernel_rfl) rfl rfl (fun _ _ => by kernel_rfl) (fun a_30 f_44 => ?_)
              have f_45 : Frm 123 [(0, .slice A0 d0.length cap0), (1, .slice A1 d1.length cap1), (2, .bool d2), (7, .slice A_3 s_1.1.length cap_3), (9, .int .i64 s_1.2), (51, .int .i64 ((x_3.1.length : Nat) : Int)), (52, .int .i64 s_1.2), (55, .slice A_3 s_1.1.length cap_3), (56, .int .i64 s_1.2)] a_30 := f_44.keep (ks := [0, 1, 2, 7, 9, 51, 52, 55, 56]) (by kernel_rfl)
              obtain ⟨x_6, hx_6, hF_22⟩ := bind_some' hF_21
              obtain ⟨ad_1, c_1, e_1, hl_1, hr_2, hc_1⟩ := Sli.at_ h_8 hx_6
              clear hl_1
              obtain rfl : c_1 = [.int .i8 x_6] := hr_2
              refine Q_eq (v := .pointer (some (ad_1.add (s_1.2.toNat * 1)))) f_45 (by kernel_rfl) (by kernel_rfl) rfl rfl (fun _ pq => X_indexAddrA e_1 rfl (len := s_1.1.length) (cap := cap_3) (k := .i64) (i := s_1.2) (by kernel_rfl) (by kernel_rfl) (e := 30) (by kernel_rfl) (sz := 1) (by kernel_rfl) (getI_nn hx_6) (getI_lt hx_6)) (fun a_31 f_46 => ?_)
              refine Q_eq (v := .int .i8 x_6) f_46 (by kernel_rfl) (by kernel_rfl) rfl rfl (fun _ pq => X_load1 (v := .int .i8 x_6) rfl (ad := ad_1.add (s_1.2.toNat * 1)) (by kernel_rfl) (by kernel_rfl) (pq.cell (hc_1 0 _ rfl))) (fun a_32 f_47 => ?_)
              refine Q_eq (v := .slice A1 d1.length cap1) f_47 (by kernel_rfl) (by kernel_rfl) rfl rfl (fun _ _ => by kernel_rfl) (fun a_33 f_48 => ?_)
              refine Q_eq (v := .int .i64 s_1.2) f_48 (by kernel_rfl) (by kernel_rfl) rfl rfl (fun _ _ => by kernel_rfl) (fun a_34 f_49 => ?_)
              have f_50 : Frm 123 [(0, .slice A0 d0.length cap0), (1, .slice A1 d1.length cap1), (2, .bool d2), (7, .slice A_3 s_1.1.length cap_3), (9, .int .i64 s_1.2), (51, .int .i64 ((x_3.1.length : Nat) : Int)), (52, .int .i64 s_1.2), (58, .int .i8 x_6), (59, .slice A1 d1.length cap1), (60, .int .i64 s_1.2)] a_34 := f_49.keep (ks := [0, 1, 2, 7, 9, 51, 52, 58, 59, 60]) (by kernel_rfl)
              obtain ⟨x_7, hx_7, hF_23⟩ := bind_some' hF_22
              obtain ⟨ad_2, c_2, e_2, hl_2, hr_3, hc_2⟩ := Sli.at_ (h1.mono (((hM_1.trans hM_2).trans hM_4).trans hM_5)) hx_7
              clear hl_2
              obtain rfl : c_2 = [.int .i8 x_7] := hr_3
              refine Q_eq (v := .pointer (some (ad_2.add (s_1.2.toNat * 1)))) f_50 (by kernel_rfl) (by kernel_rfl) rfl rfl (fun _ pq => X_indexAddrA e_2 rfl (len := d1.length) (cap := cap1) (k := .i64) (i := s_1.2) (by kernel_rfl) (by kernel_rfl) (e := 30) (by kernel_rfl) (sz := 1) (by kernel_rfl) (getI_nn hx_7) (getI_lt hx_7)) (fun a_35 f_51 => ?_)
              refine Q_eq (v := .int .i8 x_7) f_51 (by kernel_rfl) (by kernel_rfl) rfl rfl (fun _ pq => X_load1 (v := .int .i8 x_7) rfl (ad := ad_2.add (s_1.2.toNat * 1)) (by kernel_rfl) (by kernel_rfl) (pq.cell (hc_2 0 _ rfl))) (fun a_36 f_52 => ?_)
              refine Q_eq (v := .bool (!(decide (x_6 = x_7)))) f_52 (by kernel_rfl) (by kernel_rfl) rfl rfl (fun _ _ => by kernel_rfl) (fun a_37 f_53 => ?_)
              refine Q_eq (v := .bool (!(decide (x_6 = x_7)))) f_53 (by kernel_rfl) (by kernel_rfl) rfl rfl (fun _ _ => by kernel_rfl) (fun a_38 f_54 => ?_)
              have f_55 : Frm 123 [(0, .slice A0 d0.length cap0), (1, .slice A1 d1.length cap1), (2, .bool d2), (7, .slice A_3 s_1.1.length cap_3), (9, .int .i64 s_1.2), (51, .int .i64 ((x_3.1.length : Nat) : Int)), (52, .int .i64 s_1.2), (64, .bool (!(decide (x_6 = x_7))))] a_38 := f_54.keep (ks := [0, 1, 2, 7, 9, 51, 52, 64]) (by kernel_rfl)
              rcases Bool.eq_false_or_eq_true (!(decide (x_6 = x_7))) with h_10 | h_10
              · have k_14 : ¬ (x_6 = x_7) := (not_iff decide_eq_true_iff).1 h_10
                have hF_24 := cnd_t h_10 hF_23
                have f_56 := Frm.set f_55 64 (v := .bool (!(decide (x_6 = x_7)))) (v' := .bool true) (by kernel_rfl) (congrArg Value.bool h_10)
                have f_57 : Frm 123 [(0, .slice A0 d0.length cap0), (1, .slice A1 d1.length cap1), (2, .bool d2), (7, .slice A_3 s_1.1.length cap_3), (9, .int .i64 s_1.2), (51, .int .i64 ((x_3.1.length : Nat) : Int)), (52, .int .i64 s_1.2), (64, .bool true)] a_38 := f_56.keep (ks := [0, 1, 2, 7, 9, 51, 52, 64]) (by kernel_rfl)
                refine Q_eq (v := .slice A1 d1.length cap1) f_57 (by kernel_rfl) (by kernel_rfl) rfl rfl (fun _ _ => by kernel_rfl) (fun a_39 f_58 => ?_)
                refine Q_eq (v := .int .i64 s_1.2) f_58 (by kernel_rfl) (by kernel_rfl) rfl rfl (fun _ _ => by kernel_rfl) (fun a_40 f_59 => ?_)
                have f_60 : Frm 123 [(0, .slice A0 d0.length cap0), (1, .slice A1 d1.length cap1), (2, .bool d2), (7, .slice A_3 s_1.1.length cap_3), (9, .int .i64 s_1.2), (51, .int .i64 ((x_3.1.length : Nat) : Int)), (52, .int .i64 s_1.2), (64, .bool true), (65, .slice A1 d1.length cap1), (66, .int .i64 s_1.2)] a_40 := f_59.keep (ks := [0, 1, 2, 7, 9, 51, 52, 64, 65, 66]) (by kernel_rfl)
                obtain ⟨x_8, hx_8, hF_25⟩ := bind_some' hF_24
                obtain ⟨ad_3, c_3, e_3, hl_3, hr_4, hc_3⟩ := Sli.at_ (h1.mono (((hM_1.trans hM_2).trans hM_4).trans hM_5)) hx_8
                clear hl_3
                obtain rfl : c_3 = [.int .i8 x_8] := hr_4
                refine Q_eq (v := .pointer (some (ad_3.add (s_1.2.toNat * 1)))) f_60 (by kernel_rfl) (by kernel_rfl) rfl rfl (fun _ pq => X_indexAddrA e_3 rfl (len := d1.length) (cap := cap1) (k := .i64) (i := s_1.2) (by kernel_rfl) (by kernel_rfl) (e := 30) (by kernel_rfl) (sz := 1) (by kernel_rfl) (getI_nn hx_8) (getI_lt hx_8)) (fun a_41 f_61 => ?_)
                refine Q_eq (v := .int .i8 x_8) f_61 (by kernel_rfl) (by kernel_rfl) rfl rfl (fun _ pq => X_load1 (v := .int .i8 x_8) rfl (ad := ad_3.add (s_1.2.toNat * 1)) (by kernel_rfl) (by kernel_rfl) (pq.cell (hc_3 0 _ rfl))) (fun a_42 f_62 => ?_)
                refine Q_eq (v := .bool (!(decide (x_8 = 1)))) f_62 (by kernel_rfl) (by kernel_rfl) rfl rfl (fun _ _ => by kernel_rfl) (fun a_43 f_63 => ?_)
                refine Q_eq (v := .bool (!(decide (x_8 = 1)))) f_63 (by kernel_rfl) (by kernel_rfl) rfl rfl (fun _ _ => by kernel_rfl) (fun a_44 f_64 => ?_)
                have f_65 : Frm 123 [(0, .slice A0 d0.length cap0), (1, .slice A1 d1.length cap1), (2, .bool d2), (7, .slice A_3 s_1.1.length cap_3), (9, .int .i64 s_1.2), (51, .int .i64 ((x_3.1.length : Nat) : Int)), (52, .int .i64 s_1.2), (64, .bool true), (70, .bool (!(decide (x_8 = 1))))] a_44 := f_64.keep (ks := [0, 1, 2, 7, 9, 51, 52, 64, 70]) (by kernel_rfl)
                rcases Bool.eq_false_or_eq_true (!(decide (x_8 = 1))) with h_11 | h_11
                · have k_15 : ¬ (x_8 = 1) := (not_iff decide_eq_true_iff).1 h_11
                  have hF_26 := cnd_t h_11 hF_25
                  have f_66 := Frm.set f_65 70 (v := .bool (!(decide (x_8 = 1)))) (v' := .bool true) (by kernel_rfl) (congrArg Value.bool h_11)
                  have f_67 : Frm 123 [(0, .slice A0 d0.length cap0), (1, .slice A1 d1.length cap1), (2, .bool d2), (7, .slice A_3 s_1.1.length cap_3), (9, .int .i64 s_1.2), (51, .int .i64 ((x_3.1.length : Nat) : Int)), (52, .int .i64 s_1.2), (64, .bool true), (70, .bool true)] a_44 := f_66.keep (ks := [0, 1, 2, 7, 9, 51, 52, 64, 70]) (by kernel_rfl)
                  refine Q_not f_67 (by kernel_rfl) rfl rfl (fun a_45 f_68 => ?_)
                  refine Q_not f_68 (by kernel_rfl) rfl rfl (fun a_46 f_69 => ?_)
                  refine Q_not f_69 (by kernel_rfl) rfl rfl (fun a_47 f_70 => ?_)
                  refine Q_not f_70 (by kernel_rfl) rfl rfl (fun a_48 f_71 => ?_)
                  refine Q_not f_71 (by kernel_rfl) rfl rfl (fun a_49 f_72 => ?_)
                  refine Q_eq (v := .bool true) f_72 (by kernel_rfl) (by kernel_rfl) rfl rfl (fun _ _ => by kernel_rfl) (fun a_50 f_73 => ?_)
                  refine Q_eq (v := .bool true) f_73 (by kernel_rfl) (by kernel_rfl) rfl rfl (fun _ _ => by kernel_rfl) (fun a_51 f_74 => ?_)
                  have f_75 : Frm 123 [(0, .slice A0 d0.length cap0), (1, .slice A1 d1.length cap1), (2, .bool d2), (7, .slice A_3 s_1.1.length cap_3), (51, .int .i64 ((x_3.1.length : Nat) : Int)), (52, .int .i64 s_1.2), (77, .bool true)] a_51 := f_74.keep (ks := [0, 1, 2, 7, 51, 52, 77]) (by kernel_rfl)
                  refine Q_end rfl ?_
                  intro w_9 p_10
                  refine T_n ?_
                  refine R_cond_t f_75 (by kernel_rfl) (by kernel_rfl) ?_
                  refine R_seq ?_
                  refine R_reg ?_
                  refine W_run (L' := [(6, .bool false)]) (w' := w_9) f_75 1 [6] (by kernel_rfl) (fun a_52 f_76 => ?_)
                  refine W_end rfl ?_
                  refine T_n ?_
                  refine wp_ret ?_
                  refine B_r ?_
                  refine T_r ?_
                  refine T_r ?_
                  obtain rfl := Option.some.inj hF_26
                  exact .inl ⟨rfl, (), (Option.some.inj hn_1).symm, M_5, hM_5, f_76.keep (ks := [6]) (by kernel_rfl), p_10⟩
                · have k_16 : ¬ (¬ (x_8 = 1)) := iff_f (not_iff decide_eq_true_iff) h_11
                  have hF_27 := cnd_f h_11 hF_25
                  have f_77 := Frm.set f_65 70 (v := .bool (!(decide (x_8 = 1)))) (v' := .bool false) (by kernel_rfl) (congrArg Value.bool h_11)
                  have f_78 : Frm 123 [(0, .slice A0 d0.length cap0), (1, .slice A1 d1.length cap1), (2, .bool d2), (7, .slice A_3 s_1.1.length cap_3), (9, .int .i64 s_1.2), (51, .int .i64 ((x_3.1.length : Nat) : Int)), (52, .int .i64 s_1.2), (64, .bool true), (70, .bool false)] a_44 := f_77.keep (ks := [0, 1, 2, 7, 9, 51, 52, 64, 70]) (by kernel_rfl)
                  refine Q_eq (v := .slice A_3 s_1.1.length cap_3) f_78 (by kernel_rfl) (by kernel_rfl) rfl rfl (fun _ _ => by kernel_rfl) (fun a_53 f_79 => ?_)
                  refine Q_eq (v := .int .i64 s_1.2) f_79 (by kernel_rfl) (by kernel_rfl) rfl rfl (fun _ _ => by kernel_rfl) (fun a_54 f_80 => ?_)
                  have f_81 : Frm 123 [(0, .slice A0 d0.length cap0), (1, .slice A1 d1.length cap1), (2, .bool d2), (7, .slice A_3 s_1.1.length cap_3), (51, .int .i64 ((x_3.1.length : Nat) : Int)), (52, .int .i64 s_1.2), (64, .bool true), (70, .bool false), (71, .slice A_3 s_1.1.length cap_3), (72, .int .i64 s_1.2)] a_54 := f_80.keep (ks := [0, 1, 2, 7, 51, 52, 64, 70, 71, 72]) (by kernel_rfl)
                  obtain ⟨x_9, hx_9, hF_28⟩ := bind_some' hF_27
                  obtain ⟨ad_4, c_4, e_4, hl_4, hr_5, hc_4⟩ := Sli.at_ h_8 hx_9
                  clear hl_4
                  obtain rfl : c_4 = [.int .i8 x_9] := hr_5
                  refine Q_eq (v := .pointer (some (ad_4.add (s_1.2.toNat * 1)))) f_81 (by kernel_rfl) (by kernel_rfl) rfl rfl (fun _ pq => X_indexAddrA e_4 rfl (len := s_1.1.length) (cap := cap_3) (k := .i64) (i := s_1.2) (by kernel_rfl) (by kernel_rfl) (e := 30) (by kernel_rfl) (sz := 1) (by kernel_rfl) (getI_nn hx_9) (getI_lt hx_9)) (fun a_55 f_82 => ?_)
                  refine Q_eq (v := .int .i8 x_9) f_82 (by kernel_rfl) (by kernel_rfl) rfl rfl (fun _ pq => X_load1 (v := .int .i8 x_9) rfl (ad := ad_4.add (s_1.2.toNat * 1)) (by kernel_rfl) (by kernel_rfl) (pq.cell (hc_4 0 _ rfl))) (fun a_56 f_83 => ?_)
                  refine Q_eq (v := .bool (!(decide (x_9 = 5)))) f_83 (by kernel_rfl) (by kernel_rfl) rfl rfl (fun _ _ => by kernel_rfl) (fun a_57 f_84 => ?_)
                  refine Q_eq (v := .bool (!(decide (x_9 = 5)))) f_84 (by kernel_rfl) (by kernel_rfl) rfl rfl (fun _ _ => by kernel_rfl) (fun a_58 f_85 => ?_)
                  refine Q_eq (v := .bool (!(decide (x_9 = 5)))) f_85 (by kernel_rfl) (by kernel_rfl) rfl rfl (fun _ _ => by kernel_rfl) (fun a_59 f_86 => ?_)
                  have f_87 : Frm 123 [(0, .slice A0 d0.length cap0), (1, .slice A1 d1.length cap1), (2, .bool d2), (7, .slice A_3 s_1.1.length cap_3), (51, .int .i64 ((x_3.1.length : Nat) : Int)), (52, .int .i64 s_1.2), (77, .bool (!(decide (x_9 = 5))))] a_59 := f_86.keep (ks := [0, 1, 2, 7, 51, 52, 77]) (by kernel_rfl)
                  refine Q_end rfl ?_
                  intro w_10 p_11
                  refine T_n ?_
                  refine R_cond f_87 (b := !(decide (x_9 = 5))) (by kernel_rfl) (by kernel_rfl) (fun h_12 => ?_) (fun h_12 => ?_)
                  · have k_17 : ¬ (x_9 = 5) := (not_iff decide_eq_true_iff).1 h_12
                    have hF_29 := cnd_t h_12 hF_28
                    refine R_seq ?_
                    refine R_reg ?_
                    refine W_run (L' := [(6, .bool false)]) (w' := w_10) f_87 1 [6] (by kernel_rfl) (fun a_60 f_88 => ?_)
                    refine W_end rfl ?_
                    refine T_n ?_
                    refine wp_ret ?_
                    refine B_r ?_
                    refine T_r ?_
                    refine T_r ?_
                    obtain rfl := Option.some.inj hF_29
                    exact .inl ⟨rfl, (), (Option.some.inj hn_1).symm, M_5, hM_5, f_88.keep (ks := [6]) (by kernel_rfl), p_11⟩
                  · have k_18 : ¬ (¬ (x_9 = 5)) := iff_f (not_iff decide_eq_true_iff) h_12
                    have hF_30 := cnd_f h_12 hF_28
                    refine wp_skip ?_
                    refine B_n ?_
                    refine T_n ?_
                    refine R_reg ?_
                    obtain ⟨g_1, hF_31⟩ := need_some hF_30
                    refine W_run (L' := [(0, .slice A0 d0.length cap0), (1, .slice A1 d1.length cap1), (2, .bool d2), (7, .slice A_3 s_1.1.length cap_3), (51, .int .i64 ((x_3.1.length : Nat) : Int)), (52, .int .i64 s_1.2), (77, .bool (!(decide (x_9 = 5)))), (78, .int .i64 (IntKind.wrap .i64 (s_1.2 + 1)))]) (w' := w_10) f_87 1 [0, 1, 2, 7, 51, 52, 77, 78] (by kernel_rfl) (fun a_61 f_89 => ?_)
                    have f_90 := Frm.set f_89 78 (v := .int .i64 (IntKind.wrap .i64 (s_1.2 + 1))) (v' := .int .i64 (s_1.2 + 1)) (by kernel_rfl) (congrArg (Value.int .i64) (inR_wrap g_1))
                    have f_91 : Frm 123 [(0, .slice A0 d0.length cap0), (1, .slice A1 d1.length cap1), (2, .bool d2), (7, .slice A_3 s_1.1.length cap_3), (51, .int .i64 ((x_3.1.length : Nat) : Int)), (52, .int .i64 s_1.2), (77, .bool (!(decide (x_9 = 5)))), (78, .int .i64 (s_1.2 + 1))] a_61 := f_90.keep (ks := [0, 1, 2, 7, 51, 52, 77, 78]) (by kernel_rfl)
                    refine W_run (L' := [(0, .slice A0 d0.length cap0), (1, .slice A1 d1.length cap1), (2, .bool d2), (7, .slice A_3 s_1.1.length cap_3), (51, .int .i64 ((x_3.1.length : Nat) : Int)), (52, .int .i64 (s_1.2 + 1))]) (w' := w_10) f_91 1 [0, 1, 2, 7, 51, 52] (by kernel_rfl) (fun a_62 f_92 => ?_)
                    refine W_end rfl ?_
                    refine T_n ?_
                    obtain rfl := Option.some.inj hF_31
                    exact ⟨⟨m_2, (s_1.1, s_1.2 + 1), A_3, cap_3⟩, Nat.lt_succ_self _, M_5, hM_5, ⟨hn_1, h_8⟩, f_92.keep (ks := [0, 1, 2, 7, 51, 52]) (by kernel_rfl), p_11⟩
              · have k_19 : ¬ (¬ (x_6 = x_7)) := iff_f (not_iff decide_eq_true_iff) h_10
                have hF_32 := cnd_f h_10 hF_23
                have f_93 := Frm.set f_55 64 (v := .bool (!(decide (x_6 = x_7)))) (v' := .bool false) (by kernel_rfl) (congrArg Value.bool h_10)
                have f_94 : Frm 123 [(0, .slice A0 d0.length cap0), (1, .slice A1 d1.length cap1), (2, .bool d2), (7, .slice A_3 s_1.1.length cap_3), (9, .int .i64 s_1.2), (51, .int .i64 ((x_3.1.length : Nat) : Int)), (52, .int .i64 s_1.2), (64, .bool false)] a_38 := f_93.keep (ks := [0, 1, 2, 7, 9, 51, 52, 64]) (by kernel_rfl)
                refine Q_not f_94 (by kernel_rfl) rfl rfl (fun a_63 f_95 => ?_)
                refine Q_not f_95 (by kernel_rfl) rfl rfl (fun a_64 f_96 => ?_)
                refine Q_not f_96 (by kernel_rfl) rfl rfl (fun a_65 f_97 => ?_)
                refine Q_not f_97 (by kernel_rfl) rfl rfl (fun a_66 f_98 => ?_)
                refine Q_not f_98 (by kernel_rfl) rfl rfl (fun a_67 f_99 => ?_)
                refine Q_not f_99 (by kernel_rfl) rfl rfl (fun a_68 f_100 => ?_)
                refine Q_not f_100 (by kernel_rfl) rfl rfl (fun a_69 f_101 => ?_)
                refine Q_not f_101 (by kernel_rfl) rfl rfl (fun a_70 f_102 => ?_)
                refine Q_not f_102 (by kernel_rfl) rfl rfl (fun a_71 f_103 => ?_)
                refine Q_not f_103 (by kernel_rfl) rfl rfl (fun a_72 f_104 => ?_)
                refine Q_not f_104 (by kernel_rfl) rfl rfl (fun a_73 f_105 => ?_)
                refine Q_not f_105 (by kernel_rfl) rfl rfl (fun a_74 f_106 => ?_)
                refine Q_eq (v := .bool false) f_106 (by kernel_rfl) (by kernel_rfl) rfl rfl (fun _ _ => by kernel_rfl) (fun a_75 f_107 => ?_)
                have f_108 : Frm 123 [(0, .slice A0 d0.length cap0), (1, .slice A1 d1.length cap1), (2, .bool d2), (7, .slice A_3 s_1.1.length cap_3), (51, .int .i64 ((x_3.1.length : Nat) : Int)), (52, .int .i64 s_1.2), (77, .bool false)] a_75 := f_107.keep (ks := [0, 1, 2, 7, 51, 52, 77]) (by kernel_rfl)
                refine Q_end rfl ?_
                intro w_11 p_12
                refine T_n ?_
                refine R_cond_f f_108 (by kernel_rfl) (by kernel_rfl) ?_
                refine wp_skip ?_
                refine B_n ?_
                refine T_n ?_
                refine R_reg ?_
                obtain ⟨g_2, hF_33⟩ := need_some hF_32
                refine W_run (L' := [(0, .slice A0 d0.length cap0), (1, .slice A1 d1.length cap1), (2, .bool d2), (7, .slice A_3 s_1.1.length cap_3), (51, .int .i64 ((x_3.1.length : Nat) : Int)), (52, .int .i64 s_1.2), (77, .bool false), (78, .int .i64 (IntKind.wrap .i64 (s_1.2 + 1)))]) (w' := w_11) f_108 1 [0, 1, 2, 7, 51, 52, 77, 78] (by kernel_rfl) (fun a_76 f_109 => ?_)
                have f_110 := Frm.set f_109 78 (v := .int .i64 (IntKind.wrap .i64 (s_1.2 + 1))) (v' := .int .i64 (s_1.2 + 1)) (by kernel_rfl) (congrArg (Value.int .i64) (inR_wrap g_2))
                have f_111 : Frm 123 [(0, .slice A0 d0.length cap0), (1, .slice A1 d1.length cap1), (2, .bool d2), (7, .slice A_3 s_1.1.length cap_3), (51, .int .i64 ((x_3.1.length : Nat) : Int)), (52, .int .i64 s_1.2), (77, .bool false), (78, .int .i64 (s_1.2 + 1))] a_76 := f_110.keep (ks := [0, 1, 2, 7, 51, 52, 77, 78]) (by kernel_rfl)
                refine W_run (L' := [(0, .slice A0 d0.length cap0), (1, .slice A1 d1.length cap1), (2, .bool d2), (7, .slice A_3 s_1.1.length cap_3), (51, .int .i64 ((x_3.1.length : Nat) : Int)), (52, .int .i64 (s_1.2 + 1))]) (w' := w_11) f_111 1 [0, 1, 2, 7, 51, 52] (by kernel_rfl) (fun a_77 f_112 => ?_)
                refine W_end rfl ?_
                refine T_n ?_
                obtain rfl := Option.some.inj hF_33
                exact ⟨⟨m_2, (s_1.1, s_1.2 + 1), A_3, cap_3⟩, Nat.lt_succ_self _, M_5, hM_5, ⟨hn_1, h_8⟩, f_112.keep (ks := [0, 1, 2, 7, 51, 52]) (by kernel_rfl), p_12⟩
            · have k_20 : ¬ (s_1.2 < ((x_3.1.length : Nat) : Int)) := iff_f decide_eq_true_iff h_9
              have hF_34 := cnd_f h_9 hs_1
              refine wp_exit ?_
              refine T_x ?_
              refine T_x ?_
              obtain rfl := Option.some.inj hF_34
              exact .inr ⟨rfl, s_1.1, (Option.some.inj hn_1).symm, M_5, hM_5, A_3, cap_3, h_8, f_41.keep (ks := [0, 1, 2, 7]) (by kernel_rfl), p_9⟩
          · rintro _ a_80 w_14 (⟨rfl, y_3, rfl, M_6, hM_6, f_113, p_13⟩ | ⟨rfl, y_4, rfl, M_7, hM_7, A_4, cap_4, h_13, f_114, p_14⟩)
            · refine B_r ?_
              refine T_r ?_
              refine E_ret1 f_113 rfl (by kernel_rfl : Vc.look _ 6 = some (.bool false)) ?_
              obtain rfl := Option.some.inj hF_20
              exact ⟨_, rfl, M_6, (((hM_1.trans hM_2).trans hM_4).trans hM_6), p_13, rfl⟩
            · refine B_x ?_
              refine T_n ?_
              refine R_seq ?_
              refine R_reg ?_
              refine W_run (L' := [(0, .slice A0 d0.length cap0), (1, .slice A1 d1.length cap1), (2, .bool d2), (7, .slice A_4 y_4.length cap_4), (80, .slice A0 d0.length cap0), (81, .slice A_4 y_4.length cap_4), (82, .bool d2)]) (w' := w_14) f_114 3 [0, 1, 2, 7, 80, 81, 82] (by kernel_rfl) (fun a_81 f_115 => ?_)
              obtain ⟨x_10, hx_10, hF_35⟩ := bind_some' hF_20
              refine W_okH (E := []) (H := (H)) f_115 p_14 (by kernel_rfl) (by kernel_rfl) rfl rfl (fun _ => by kernel_rfl) (ready_Settle_ok n _ A0 cap0 d0 (h0.mono (((hM_1.trans hM_2).trans hM_4).trans hM_7)) A_4 cap_4 y_4 h_13 (d2) x_10 hx_10) (fun u_2 M_8 E_2 w_15 hM_8 p_15 q_2 a_82 f_116 => ?_)
              obtain ⟨A_5, cap_5, cs_2, rfl, rfl, hr_6⟩ := q_2
              replace p_15 : Hp w0 M_8 ((Ent.row 30 1 (.slice A_5 x_10.1.length cap_5) x_10.1.length cs_2) :: H) w_15 := p_15
              refine W_run (L' := [(0, .slice A0 d0.length cap0), (1, .slice A1 d1.length cap1), (2, .bool d2), (7, .slice A_4 y_4.length cap_4), (10, .slice A_5 x_10.1.length cap_5), (11, .int .i64 x_10.2)]) (w' := w_15) f_116 5 [0, 1, 2, 7, 10, 11] (by kernel_rfl) (fun a_83 f_117 => ?_)
              refine W_end rfl ?_
              refine T_n ?_
              refine R_seq ?_
              refine R_reg ?_
              refine W_run (L' := [(0, .slice A0 d0.length cap0), (2, .bool d2), (7, .slice A_4 y_4.length cap_4), (10, .slice A_5 x_10.1.length cap_5), (11, .int .i64 x_10.2), (87, .slice A0 d0.length cap0), (88, .slice A1 d1.length cap1), (89, .bool d2)]) (w' := w_15) f_117 3 [0, 2, 7, 10, 11, 87, 88, 89] (by kernel_rfl) (fun a_84 f_118 => ?_)
              obtain ⟨x_11, hx_11, hF_36⟩ := bind_some' hF_35
              refine W_okH (E := []) (H := ((Ent.row 30 1 (.slice A_5 x_10.1.length cap_5) x_10.1.length cs_2) :: H)) f_118 p_15 (by kernel_rfl) (by kernel_rfl) rfl rfl (fun _ => by kernel_rfl) (ready_Ready_ok n _ A0 cap0 d0 (h0.mono ((((hM_1.trans hM_2).trans hM_4).trans hM_7).trans hM_8)) A1 cap1 d1 (h1.mono ((((hM_1.trans hM_2).trans hM_4).trans hM_7).trans hM_8)) (d2) x_11 hx_11) (fun u_3 M_9 E_3 w_16 hM_9 p_16 q_3 a_85 f_119 => ?_)
              obtain ⟨A_6, cap_6, cs_3, rfl, rfl, hr_7⟩ := q_3
              replace p_16 : Hp w0 M_9 ((Ent.row 3 1 (.slice A_6 x_11.1.length cap_6) x_11.1.length cs_3) :: (Ent.row 30 1 (.slice A_5 x_10.1.length cap_5) x_10.1.length cs_2) :: H) w_16 := p_16
              refine W_run (L' := [(0, .slice A0 d0.length cap0), (2, .bool d2), (7, .slice A_4 y_4.length cap_4), (10, .slice A_5 x_10.1.length cap_5), (11, .int .i64 x_10.2), (12, .slice A_6 x_11.1.length cap_6), (13, .int .i64 x_11.2)]) (w' := w_16) f_119 5 [0, 2, 7, 10, 11, 12, 13] (by kernel_rfl) (fun a_86 f_120 => ?_)
              refine W_end rfl ?_
              refine T_n ?_
              refine R_seq ?_
              refine R_reg ?_
              refine W_run (L' := [(7, .slice A_4 y_4.length cap_4), (10, .slice A_5 x_10.1.length cap_5), (11, .int .i64 x_10.2), (12, .slice A_6 x_11.1.length cap_6), (13, .int .i64 x_11.2), (94, .slice A0 d0.length cap0), (95, .slice A_4 y_4.length cap_4), (96, .bool d2)]) (w' := w_16) f_120 3 [7, 10, 11, 12, 13, 94, 95, 96] (by kernel_rfl) (fun a_87 f_121 => ?_)
              obtain ⟨x_12, hx_12, hF_37⟩ := bind_some' hF_36
              refine W_okH (E := []) (H := ((Ent.row 3 1 (.slice A_6 x_11.1.length cap_6) x_11.1.length cs_3) :: (Ent.row 30 1 (.slice A_5 x_10.1.length cap_5) x_10.1.length cs_2) :: H)) f_121 p_16 (by kernel_rfl) (by kernel_rfl) rfl rfl (fun _ => by kernel_rfl) (ready_Ready_ok n _ A0 cap0 d0 (h0.mono (((((hM_1.trans hM_2).trans hM_4).trans hM_7).trans hM_8).trans hM_9)) A_4 cap_4 y_4 (h_13.mono (hM_8.trans hM_9)) (d2) x_12 hx_12) (fun u_4 M_10 E_4 w_17 hM_10 p_17 q_4 a_88 f_122 => ?_)
              obtain ⟨A_7, cap_7, cs_4, rfl, rfl, hr_8⟩ := q_4
              replace p_17 : Hp w0 M_10 ((Ent.row 3 1 (.slice A_7 x_12.1.length cap_7) x_12.1.length cs_4) :: (Ent.row 3 1 (.slice A_6 x_11.1.length cap_6) x_11.1.length cs_3) :: (Ent.row 30 1 (.slice A_5 x_10.1.length cap_5) x_10.1.length cs_2) :: H) w_17 := p_17
              refine W_run (L' := [(7, .slice A_4 y_4.length cap_4), (10, .slice A_5 x_10.1.length cap_5), (11, .int .i64 x_10.2), (12, .slice A_6 x_11.1.length cap_6), (13, .int .i64 x_11.2), (14, .slice A_7 x_12.1.length cap_7), (15, .int .i64 x_12.2)]) (w' := w_17) f_122 5 [7, 10, 11, 12, 13, 14, 15] (by kernel_rfl) (fun a_89 f_123 => ?_)
              refine W_end rfl ?_
              refine T_n ?_
              refine R_seq ?_
              refine R_reg ?_
              refine W_run (L' := [(7, .slice A_4 y_4.length cap_4), (10, .slice A_5 x_10.1.length cap_5), (12, .slice A_6 x_11.1.length cap_6), (13, .int .i64 x_11.2), (14, .slice A_7 x_12.1.length cap_7), (15, .int .i64 x_12.2), (102, .bool (decide (x_10.2 = 0)))]) (w' := w_17) f_123 3 [7, 10, 12, 13, 14, 15, 102] (by kernel_rfl) (fun a_90 f_124 => ?_)
              rcases Bool.eq_false_or_eq_true (decide (x_10.2 = 0)) with h_14 | h_14
              · have k_21 : x_10.2 = 0 := decide_eq_true_iff.1 h_14
                have hF_38 := cnd_t h_14 hF_37
                have f_125 := Frm.set f_124 102 (v := .bool (decide (x_10.2 = 0))) (v' := .bool true) (by kernel_rfl) (congrArg Value.bool h_14)
                have f_126 : Frm 123 [(7, .slice A_4 y_4.length cap_4), (10, .slice A_5 x_10.1.length cap_5), (12, .slice A_6 x_11.1.length cap_6), (13, .int .i64 x_11.2), (14, .slice A_7 x_12.1.length cap_7), (15, .int .i64 x_12.2), (102, .bool true)] a_90 := f_125.keep (ks := [7, 10, 12, 13, 14, 15, 102]) (by kernel_rfl)
                refine W_run (L' := [(7, .slice A_4 y_4.length cap_4), (10, .slice A_5 x_10.1.length cap_5), (12, .slice A_6 x_11.1.length cap_6), (14, .slice A_7 x_12.1.length cap_7), (15, .int .i64 x_12.2), (106, .bool (decide (x_11.2 = 0)))]) (w' := w_17) f_126 4 [7, 10, 12, 14, 15, 106] (by kernel_rfl) (fun a_91 f_127 => ?_)
                rcases Bool.eq_false_or_eq_true (decide (x_11.2 = 0)) with h_15 | h_15
                · have k_22 : x_11.2 = 0 := decide_eq_true_iff.1 h_15
                  have hF_39 := cnd_t h_15 hF_38
                  have f_128 := Frm.set f_127 106 (v := .bool (decide (x_11.2 = 0))) (v' := .bool true) (by kernel_rfl) (congrArg Value.bool h_15)
                  have f_129 : Frm 123 [(7, .slice A_4 y_4.length cap_4), (10, .slice A_5 x_10.1.length cap_5), (12, .slice A_6 x_11.1.length cap_6), (14, .slice A_7 x_12.1.length cap_7), (15, .int .i64 x_12.2), (106, .bool true)] a_91 := f_128.keep (ks := [7, 10, 12, 14, 15, 106]) (by kernel_rfl)
                  refine W_run (L' := [(7, .slice A_4 y_4.length cap_4), (10, .slice A_5 x_10.1.length cap_5), (12, .slice A_6 x_11.1.length cap_6), (14, .slice A_7 x_12.1.length cap_7), (110, .bool (decide (x_12.2 = 0)))]) (w' := w_17) f_129 4 [7, 10, 12, 14, 110] (by kernel_rfl) (fun a_92 f_130 => ?_)
                  rcases Bool.eq_false_or_eq_true (decide (x_12.2 = 0)) with h_16 | h_16
                  · have k_23 : x_12.2 = 0 := decide_eq_true_iff.1 h_16
                    have hF_40 := cnd_t h_16 hF_39
                    have f_131 := Frm.set f_130 110 (v := .bool (decide (x_12.2 = 0))) (v' := .bool true) (by kernel_rfl) (congrArg Value.bool h_16)
                    have f_132 : Frm 123 [(7, .slice A_4 y_4.length cap_4), (10, .slice A_5 x_10.1.length cap_5), (12, .slice A_6 x_11.1.length cap_6), (14, .slice A_7 x_12.1.length cap_7), (110, .bool true)] a_92 := f_131.keep (ks := [7, 10, 12, 14, 110]) (by kernel_rfl)
                    refine W_run (L' := [(12, .slice A_6 x_11.1.length cap_6), (14, .slice A_7 x_12.1.length cap_7), (110, .bool true), (111, .slice A_5 x_10.1.length cap_5), (112, .slice A_4 y_4.length cap_4)]) (w' := w_17) f_132 2 [12, 14, 110, 111, 112] (by kernel_rfl) (fun a_93 f_133 => ?_)
                    have p_18 : Hp w0 M_10 ((Ent.row 30 1 (.slice A_5 x_10.1.length cap_5) x_10.1.length cs_2) :: (Ent.row 3 1 (.slice A_7 x_12.1.length cap_7) x_12.1.length cs_4) :: (Ent.row 3 1 (.slice A_6 x_11.1.length cap_6) x_11.1.length cs_3) :: H) w_17 := p_17.pull 2 rfl rfl
                    obtain ⟨M_11, A_8, cap_8, hM_11, hv_2, p_19, h_17, hb_1⟩ := p_18.lend (f := (Dat.int .i8)) (xs := x_10.1) (szd_int .i8) (RepSeq.mono (hM_9.trans hM_10) _ _ hr_6)
                    have f_134 := Frm.set f_133 111 (v := .slice A_5 x_10.1.length cap_5) (v' := .slice A_8 x_10.1.length cap_8) (by kernel_rfl) (hv_2)
                    have f_135 : Frm 123 [(12, .slice A_6 x_11.1.length cap_6), (14, .slice A_7 x_12.1.length cap_7), (110, .bool true), (111, .slice A_8 x_10.1.length cap_8), (112, .slice A_4 y_4.length cap_4)] a_93 := f_134.keep (ks := [12, 14, 110, 111, 112]) (by kernel_rfl)
                    obtain ⟨x_13, hx_13, hF_41⟩ := bind_some' hF_40
                    refine W_okv (v := .bool x_13) f_135 p_19 (by kernel_rfl) (by kernel_rfl) rfl rfl (fun _ => by kernel_rfl) (ref21_States_ok n _ A_8 cap_8 x_10.1 h_17 A_4 cap_4 y_4 (h_13.mono (((hM_8.trans hM_9).trans hM_10).trans hM_11)) x_13 hx_13) (fun w_18 p_20 a_94 f_136 => ?_)
                    obtain ⟨M_12, hM_12, p_21⟩ := hb_1 _ _ _ (Mem.le_refl _) p_20
                    have f_137 := Frm.set f_136 111 (v := .slice A_8 x_10.1.length cap_8) (v' := .slice A_5 x_10.1.length cap_5) (by kernel_rfl) (hv_2.symm)
                    have f_138 : Frm 123 [(12, .slice A_6 x_11.1.length cap_6), (14, .slice A_7 x_12.1.length cap_7), (110, .bool true), (111, .slice A_5 x_10.1.length cap_5), (112, .slice A_4 y_4.length cap_4), (113, .bool x_13)] a_94 := f_137.keep (ks := [12, 14, 110, 111, 112, 113]) (by kernel_rfl)
                    refine W_run (L' := [(12, .slice A_6 x_11.1.length cap_6), (14, .slice A_7 x_12.1.length cap_7), (115, .bool x_13)]) (w' := w_18) f_138 2 [12, 14, 115] (by kernel_rfl) (fun a_95 f_139 => ?_)
                    rcases Bool.eq_false_or_eq_true (x_13) with h_18 | h_18
                    · have hF_42 := cnd_t h_18 hF_41
                      have f_140 := Frm.set f_139 115 (v := .bool x_13) (v' := .bool true) (by kernel_rfl) (congrArg Value.bool h_18)
                      have f_141 : Frm 123 [(12, .slice A_6 x_11.1.length cap_6), (14, .slice A_7 x_12.1.length cap_7), (115, .bool true)] a_95 := f_140.keep (ks := [12, 14, 115]) (by kernel_rfl)
                      refine W_run (L' := [(115, .bool true), (116, .slice A_6 x_11.1.length cap_6), (117, .slice A_7 x_12.1.length cap_7)]) (w' := w_18) f_141 2 [115, 116, 117] (by kernel_rfl) (fun a_96 f_142 => ?_)
                      have p_22 : Hp w0 M_12 ((Ent.row 3 1 (.slice A_6 x_11.1.length cap_6) x_11.1.length cs_3) :: (Ent.row 30 1 (.slice A_5 x_10.1.length cap_5) x_10.1.length cs_2) :: (Ent.row 3 1 (.slice A_7 x_12.1.length cap_7) x_12.1.length cs_4) :: H) w_18 := p_21.pull 2 rfl rfl
                      obtain ⟨M_13, A_9, cap_9, hM_13, hv_3, p_23, h_19, hb_2⟩ := p_22.lend (f := (Dat.int .i64)) (xs := x_11.1) (szd_int .i64) (RepSeq.mono (hM_10.trans hM_12) _ _ hr_7)
                      have f_143 := Frm.set f_142 116 (v := .slice A_6 x_11.1.length cap_6) (v' := .slice A_9 x_11.1.length cap_9) (by kernel_rfl) (hv_3)
                      have f_144 : Frm 123 [(115, .bool true), (116, .slice A_9 x_11.1.length cap_9), (117, .slice A_7 x_12.1.length cap_7)] a_96 := f_143.keep (ks := [115, 116, 117]) (by kernel_rfl)
                      have p_24 : Hp w0 M_13 ((Ent.row 3 1 (.slice A_7 x_12.1.length cap_7) x_12.1.length cs_4) :: (Ent.row 30 1 (.slice A_5 x_10.1.length cap_5) x_10.1.length cs_2) :: H) w_18 := p_23.pull 1 rfl rfl
                      obtain ⟨M_14, A_10, cap_10, hM_14, hv_4, p_25, h_20, hb_3⟩ := p_24.lend (f := (Dat.int .i64)) (xs := x_12.1) (szd_int .i64) (RepSeq.mono (hM_12.trans hM_13) _ _ hr_8)
                      have f_145 := Frm.set f_144 117 (v := .slice A_7 x_12.1.length cap_7) (v' := .slice A_10 x_12.1.length cap_10) (by kernel_rfl) (hv_4)
                      have f_146 : Frm 123 [(115, .bool true), (116, .slice A_9 x_11.1.length cap_9), (117, .slice A_10 x_12.1.length cap_10)] a_96 := f_145.keep (ks := [115, 116, 117]) (by kernel_rfl)
                      obtain ⟨x_14, hx_14, hF_43⟩ := bind_some' hF_42
                      refine W_okv (v := .bool x_14) f_146 p_25 (by kernel_rfl) (by kernel_rfl) rfl rfl (fun _ => by kernel_rfl) (ref21_Ints_ok n _ A_9 cap_9 x_11.1 (h_19.mono hM_14) A_10 cap_10 x_12.1 h_20 x_14 hx_14) (fun w_19 p_26 a_97 f_147 => ?_)
                      obtain ⟨M_15, hM_15, p_27⟩ := hb_3 _ _ _ (Mem.le_refl _) p_26
                      have f_148 := Frm.set f_147 117 (v := .slice A_10 x_12.1.length cap_10) (v' := .slice A_7 x_12.1.length cap_7) (by kernel_rfl) (hv_4.symm)
                      have f_149 : Frm 123 [(115, .bool true), (116, .slice A_9 x_11.1.length cap_9), (117, .slice A_7 x_12.1.length cap_7), (118, .bool x_14)] a_97 := f_148.keep (ks := [115, 116, 117, 118]) (by kernel_rfl)
                      obtain ⟨M_16, hM_16, p_28⟩ := hb_2 _ _ _ hM_15 p_27
                      have f_150 := Frm.set f_149 116 (v := .slice A_9 x_11.1.length cap_9) (v' := .slice A_6 x_11.1.length cap_6) (by kernel_rfl) (hv_3.symm)
                      have f_151 : Frm 123 [(115, .bool true), (116, .slice A_6 x_11.1.length cap_6), (117, .slice A_7 x_12.1.length cap_7), (118, .bool x_14)] a_97 := f_150.keep (ks := [115, 116, 117, 118]) (by kernel_rfl)
                      refine W_run (L' := [(120, .bool x_14)]) (w' := w_19) f_151 2 [120] (by kernel_rfl) (fun a_98 f_152 => ?_)
                      rcases Bool.eq_false_or_eq_true (x_14) with h_21 | h_21
                      · have hF_44 := cnd_t h_21 hF_43
                        have f_153 := Frm.set f_152 120 (v := .bool x_14) (v' := .bool true) (by kernel_rfl) (congrArg Value.bool h_21)
                        have f_154 : Frm 123 [(120, .bool true)] a_98 := f_153.keep (ks := [120]) (by kernel_rfl)
                        obtain ⟨x_15, hx_15, hF_45⟩ := bind_some' hF_44
                        refine W_okv (v := .bool x_15) f_154 p_28 (by kernel_rfl) (by kernel_rfl) rfl rfl (fun _ => by kernel_rfl) (law21_wakes_ok n _  x_15 hx_15) (fun w_20 p_29 a_99 f_155 => ?_)
                        refine W_run (L' := [(6, .bool x_15)]) (w' := w_20) f_155 2 [6] (by kernel_rfl) (fun a_100 f_156 => ?_)
                        refine W_end rfl ?_
                        refine T_n ?_
                        refine wp_ret ?_
                        refine E_ret1 f_156 rfl (by kernel_rfl : Vc.look _ 6 = some (.bool x_15)) ?_
                        obtain rfl := Option.some.inj hF_45
                        exact ⟨_, rfl, M_16, ((((((((hM_1.trans hM_2).trans hM_4).trans hM_7).trans hM_8).trans hM_9).trans hM_10).trans hM_12).trans hM_16), (p_29.dropN 3), rfl⟩
                      · have hF_46 := cnd_f h_21 hF_43
                        have f_157 := Frm.set f_152 120 (v := .bool x_14) (v' := .bool false) (by kernel_rfl) (congrArg Value.bool h_21)
                        have f_158 : Frm 123 [(120, .bool false)] a_98 := f_157.keep (ks := [120]) (by kernel_rfl)
                        refine W_run (L' := [(6, .bool false)]) (w' := w_19) f_158 3 [6] (by kernel_rfl) (fun a_101 f_159 => ?_)
                        refine W_end rfl ?_
                        refine T_n ?_
                        refine wp_ret ?_
                        refine E_ret1 f_159 rfl (by kernel_rfl : Vc.look _ 6 = some (.bool false)) ?_
                        obtain rfl := Option.some.inj hF_46
                        exact ⟨_, rfl, M_16, ((((((((hM_1.trans hM_2).trans hM_4).trans hM_7).trans hM_8).trans hM_9).trans hM_10).trans hM_12).trans hM_16), (p_28.dropN 3), rfl⟩
                    · have hF_47 := cnd_f h_18 hF_41
                      have f_160 := Frm.set f_139 115 (v := .bool x_13) (v' := .bool false) (by kernel_rfl) (congrArg Value.bool h_18)
                      have f_161 : Frm 123 [(12, .slice A_6 x_11.1.length cap_6), (14, .slice A_7 x_12.1.length cap_7), (115, .bool false)] a_95 := f_160.keep (ks := [12, 14, 115]) (by kernel_rfl)
                      refine W_run (L' := [(6, .bool false)]) (w' := w_18) f_161 8 [6] (by kernel_rfl) (fun a_102 f_162 => ?_)
                      refine W_end rfl ?_
                      refine T_n ?_
                      refine wp_ret ?_
                      refine E_ret1 f_162 rfl (by kernel_rfl : Vc.look _ 6 = some (.bool false)) ?_
                      obtain rfl := Option.some.inj hF_47
                      exact ⟨_, rfl, M_12, (((((((hM_1.trans hM_2).trans hM_4).trans hM_7).trans hM_8).trans hM_9).trans hM_10).trans hM_12), (p_21.dropN 3), rfl⟩
                  · have k_28 : ¬ (x_12.2 = 0) := iff_f decide_eq_true_iff h_16
                    have hF_48 := cnd_f h_16 hF_39
                    have f_163 := Frm.set f_130 110 (v := .bool (decide (x_12.2 = 0))) (v' := .bool false) (by kernel_rfl) (congrArg Value.bool h_16)
                    have f_164 : Frm 123 [(7, .slice A_4 y_4.length cap_4), (10, .slice A_5 x_10.1.length cap_5), (12, .slice A_6 x_11.1.length cap_6), (14, .slice A_7 x_12.1.length cap_7), (110, .bool false)] a_92 := f_163.keep (ks := [7, 10, 12, 14, 110]) (by kernel_rfl)
                    refine W_run (L' := [(6, .bool false)]) (w' := w_17) f_164 13 [6] (by kernel_rfl) (fun a_103 f_165 => ?_)
                    refine W_end rfl ?_
                    refine T_n ?_
                    refine wp_ret ?_
                    refine E_ret1 f_165 rfl (by kernel_rfl : Vc.look _ 6 = some (.bool false)) ?_
                    obtain rfl := Option.some.inj hF_48
                    exact ⟨_, rfl, M_10, ((((((hM_1.trans hM_2).trans hM_4).trans hM_7).trans hM_8).trans hM_9).trans hM_10), (p_17.dropN 3), rfl⟩
                · have k_29 : ¬ (x_11.2 = 0) := iff_f decide_eq_true_iff h_15
                  have hF_49 := cnd_f h_15 hF_38
                  have f_166 := Frm.set f_127 106 (v := .bool (decide (x_11.2 = 0))) (v' := .bool false) (by kernel_rfl) (congrArg Value.bool h_15)
                  have f_167 : Frm 123 [(7, .slice A_4 y_4.length cap_4), (10, .slice A_5 x_10.1.length cap_5), (12, .slice A_6 x_11.1.length cap_6), (14, .slice A_7 x_12.1.length cap_7), (15, .int .i64 x_12.2), (106, .bool false)] a_91 := f_166.keep (ks := [7, 10, 12, 14, 15, 106]) (by kernel_rfl)
                  refine W_run (L' := [(6, .bool false)]) (w' := w_17) f_167 17 [6] (by kernel_rfl) (fun a_104 f_168 => ?_)
                  refine W_end rfl ?_
                  refine T_n ?_
                  refine wp_ret ?_
                  refine E_ret1 f_168 rfl (by kernel_rfl : Vc.look _ 6 = some (.bool false)) ?_
                  obtain rfl := Option.some.inj hF_49
                  exact ⟨_, rfl, M_10, ((((((hM_1.trans hM_2).trans hM_4).trans hM_7).trans hM_8).trans hM_9).trans hM_10), (p_17.dropN 3), rfl⟩
              · have k_30 : ¬ (x_10.2 = 0) := iff_f decide_eq_true_iff h_14
                have hF_50 := cnd_f h_14 hF_37
                have f_169 := Frm.set f_124 102 (v := .bool (decide (x_10.2 = 0))) (v' := .bool false) (by kernel_rfl) (congrArg Value.bool h_14)
                have f_170 : Frm 123 [(7, .slice A_4 y_4.length cap_4), (10, .slice A_5 x_10.1.length cap_5), (12, .slice A_6 x_11.1.length cap_6), (13, .int .i64 x_11.2), (14, .slice A_7 x_12.1.length cap_7), (15, .int .i64 x_12.2), (102, .bool false)] a_90 := f_169.keep (ks := [7, 10, 12, 13, 14, 15, 102]) (by kernel_rfl)
                refine W_run (L' := [(6, .bool false)]) (w' := w_17) f_170 21 [6] (by kernel_rfl) (fun a_105 f_171 => ?_)
                refine W_end rfl ?_
                refine T_n ?_
                refine wp_ret ?_
                refine E_ret1 f_171 rfl (by kernel_rfl : Vc.look _ 6 = some (.bool false)) ?_
                obtain rfl := Option.some.inj hF_50
                exact ⟨_, rfl, M_10, ((((((hM_1.trans hM_2).trans hM_4).trans hM_7).trans hM_8).trans hM_9).trans hM_10), (p_17.dropN 3), rfl⟩

def law21_ReadyBack (n : Nat) (d0 : List (List Int)) (d1 : List Int) : Option Bool :=
  (((ref21_Great n d0).bind fun x_1 =>
    bif x_1 then
      (some ((true)))
    else
      some ((decide ((100 : Int) < ((d1.length : Nat) : Int)))) : Option Bool)).bind fun y_1 =>
  bif y_1 then
    ((law21_wakes n).bind fun x_2 =>
    some ((x_2)))
  else
    (deps_Turned n d0).bind fun x_3 =>
    (ready_Ready n d0 d1 (true)).bind fun x_4 =>
    (ready_Ready n x_3 d1 (false)).bind fun x_5 =>
    (ready_Settle n d0 d1 (true)).bind fun x_6 =>
    (ready_Settle n x_3 d1 (false)).bind fun x_7 =>
    bif (!(decide (x_4.2 = 0))) then
      ((law21_wakes n).bind fun x_8 =>
      some ((x_8)))
    else
      bif (decide (x_5.2 = 0)) then
        (bif (decide (x_6.2 = 0)) then
          (bif (decide (x_7.2 = 0)) then
            ((ref21_Ints n x_4.1 x_5.1).bind fun x_9 =>
            bif x_9 then
              ((ref21_States n x_6.1 x_7.1).bind fun x_10 =>
              bif x_10 then
                ((law21_wakes n).bind fun x_11 =>
                some ((x_11)))
              else
                some ((false)))
            else
              some ((false)))
          else
            some ((false)))
        else
          some ((false)))
      else
        some ((false))
theorem law21_ReadyBack_ok (n : Nat) (M : Mem) (A0 : Option Addr) (cap0 : Nat) (d0 : List (List Int)) (h0 : Sli M 1 (eL 1 (Dat.int .i64)) A0 cap0 d0) (A1 : Option Addr) (cap1 : Nat) (d1 : List Int) (h1 : Sli M 1 (Dat.int .i8) A1 cap1 d1) (r : Bool) (hF : law21_ReadyBack n d0 d1 = some r) : Ok Try.prog M 5 [.slice A0 d0.length cap0, .slice A1 d1.length cap1] (fun _ v => v = .bool r) := by
  unfold law21_ReadyBack at hF
  intro M1 hM0 w0 H w p0
  replace h0 := h0.mono hM0
  replace h1 := h1.mono hM0
  refine R_enter 74 Try.func5 rfl rfl (by simp) (fun a0 f0 => ?_)
  replace f0 : Frm 74 [(0, .slice A0 d0.length cap0), (1, .slice A1 d1.length cap1)] a0 := f0
  refine R_seq ?_
  refine R_reg ?_
  refine W_run (L' := [(0, .slice A0 d0.length cap0), (1, .slice A1 d1.length cap1)]) (w' := w) f0 1 [0, 1] (by kernel_rfl) (fun a_1 f_1 => ?_)
  refine W_end rfl ?_
  refine T_n ?_
  refine R_seq ?_
  refine R_seq ?_
  obtain ⟨j_1, hj_1, hF_1⟩ := bind_some' hF
  refine R_mid (fun a_7 w_2 => ∃ y_1 : Bool, j_1 = y_1 ∧ ∃ M_1 : Mem, M1.le M_1 ∧ Frm 74 [(0, .slice A0 d0.length cap0), (1, .slice A1 d1.length cap1), (20, .bool y_1)] a_7 ∧ Hp w0 M_1 (H) w_2) ?_ ?_
  · refine R_reg ?_
    refine W_run (L' := [(0, .slice A0 d0.length cap0), (1, .slice A1 d1.length cap1), (14, .slice A0 d0.length cap0)]) (w' := w) f_1 1 [0, 1, 14] (by kernel_rfl) (fun a_2 f_2 => ?_)
    obtain ⟨x_1, hx_1, hF_2⟩ := bind_some' hj_1
    refine W_okv (v := .bool x_1) f_2 p0 (by kernel_rfl) (by kernel_rfl) rfl rfl (fun _ => by kernel_rfl) (ref21_Great_ok n _ A0 cap0 d0 h0 x_1 hx_1) (fun w_1 p_1 a_3 f_3 => ?_)
    refine W_run (L' := [(0, .slice A0 d0.length cap0), (1, .slice A1 d1.length cap1), (16, .bool x_1)]) (w' := w_1) f_3 1 [0, 1, 16] (by kernel_rfl) (fun a_4 f_4 => ?_)
    rcases Bool.eq_false_or_eq_true (x_1) with h_1 | h_1
    · have hF_3 := cnd_t h_1 hF_2
      have f_5 := Frm.set f_4 16 (v := .bool x_1) (v' := .bool true) (by kernel_rfl) (congrArg Value.bool h_1)
      have f_6 : Frm 74 [(0, .slice A0 d0.length cap0), (1, .slice A1 d1.length cap1), (16, .bool true)] a_4 := f_5.keep (ks := [0, 1, 16]) (by kernel_rfl)
      refine W_run (L' := [(0, .slice A0 d0.length cap0), (1, .slice A1 d1.length cap1), (20, .bool true)]) (w' := w_1) f_6 4 [0, 1, 20] (by kernel_rfl) (fun a_5 f_7 => ?_)
      refine W_end rfl ?_
      refine T_n ?_
      exact ⟨(true), (Option.some.inj hF_3).symm, M1, (Mem.le_refl _), f_7.keep (ks := [0, 1, 20]) (by kernel_rfl), p_1⟩
    · have hF_4 := cnd_f h_1 hF_2
      have f_8 := Frm.set f_4 16 (v := .bool x_1) (v' := .bool false) (by kernel_rfl) (congrArg Value.bool h_1)
      have f_9 : Frm 74 [(0, .slice A0 d0.length cap0), (1, .slice A1 d1.length cap1), (16, .bool false)] a_4 := f_8.keep (ks := [0, 1, 16]) (by kernel_rfl)
      refine W_run (L' := [(0, .slice A0 d0.length cap0), (1, .slice A1 d1.length cap1), (20, .bool (decide ((100 : Int) < ((d1.length : Nat) : Int))))]) (w' := w_1) f_9 4 [0, 1, 20] (by kernel_rfl) (fun a_6 f_10 => ?_)
      refine W_end rfl ?_
      refine T_n ?_
      exact ⟨(decide ((100 : Int) < ((d1.length : Nat) : Int))), (Option.some.inj hF_4).symm, M1, (Mem.le_refl _), f_10.keep (ks := [0, 1, 20]) (by kernel_rfl), p_1⟩
  · rintro a_7 w_2 ⟨y_1, hq_1, M_1, hM_1, f_11, p_2⟩
    subst j_1
    refine T_n ?_
    refine R_cond f_11 (b := y_1) (by kernel_rfl) (by kernel_rfl) (fun h_2 => ?_) (fun h_2 => ?_)
    · have hF_5 := cnd_t h_2 hF_1
      refine R_seq ?_
      refine R_reg ?_
      obtain ⟨x_2, hx_2, hF_6⟩ := bind_some' hF_5
      refine W_okv (v := .bool x_2) f_11 p_2 (by kernel_rfl) (by kernel_rfl) rfl rfl (fun _ => by kernel_rfl) (law21_wakes_ok n _  x_2 hx_2) (fun w_3 p_3 a_8 f_12 => ?_)
      refine W_run (L' := [(4, .bool x_2)]) (w' := w_3) f_12 1 [4] (by kernel_rfl) (fun a_9 f_13 => ?_)
      refine W_end rfl ?_
      refine T_n ?_
      refine wp_ret ?_
      refine T_r ?_
      refine E_ret1 f_13 rfl (by kernel_rfl : Vc.look _ 4 = some (.bool x_2)) ?_
      obtain rfl := Option.some.inj hF_6
      exact ⟨_, rfl, M_1, hM_1, p_3, rfl⟩
    · have hF_7 := cnd_f h_2 hF_1
      refine wp_skip ?_
      refine T_n ?_
      refine R_seq ?_
      refine R_reg ?_
      refine W_run (L' := [(0, .slice A0 d0.length cap0), (1, .slice A1 d1.length cap1), (22, .slice A0 d0.length cap0)]) (w' := w_2) f_11 1 [0, 1, 22] (by kernel_rfl) (fun a_10 f_14 => ?_)
      obtain ⟨x_3, hx_3, hF_8⟩ := bind_some' hF_7
      refine W_ok f_14 p_2 (by kernel_rfl) (by kernel_rfl) rfl rfl (fun _ => by kernel_rfl) (deps_Turned_ok n _ A0 cap0 d0 (h0.mono hM_1) x_3 hx_3) (fun u_1 M_2 w_4 hM_2 p_4 q_1 a_11 f_15 => ?_)
      obtain ⟨A_1, cap_1, rfl, h_3⟩ := q_1
      refine W_run (L' := [(0, .slice A0 d0.length cap0), (1, .slice A1 d1.length cap1), (5, .slice A_1 x_3.length cap_1)]) (w' := w_4) f_15 1 [0, 1, 5] (by kernel_rfl) (fun a_12 f_16 => ?_)
      refine W_end rfl ?_
      refine T_n ?_
      refine R_seq ?_
      refine R_reg ?_
      refine W_run (L' := [(0, .slice A0 d0.length cap0), (1, .slice A1 d1.length cap1), (5, .slice A_1 x_3.length cap_1), (25, .slice A0 d0.length cap0), (26, .slice A1 d1.length cap1)]) (w' := w_4) f_16 2 [0, 1, 5, 25, 26] (by kernel_rfl) (fun a_13 f_17 => ?_)
      obtain ⟨x_4, hx_4, hF_9⟩ := bind_some' hF_8
      refine W_okH (E := []) (H := (H)) f_17 p_4 (by kernel_rfl) (by kernel_rfl) rfl rfl (fun _ => by kernel_rfl) (ready_Ready_ok n _ A0 cap0 d0 (h0.mono (hM_1.trans hM_2)) A1 cap1 d1 (h1.mono (hM_1.trans hM_2)) (true) x_4 hx_4) (fun u_2 M_3 E_1 w_5 hM_3 p_5 q_2 a_14 f_18 => ?_)
      obtain ⟨A_2, cap_2, cs_1, rfl, rfl, hr_1⟩ := q_2
      replace p_5 : Hp w0 M_3 ((Ent.row 3 1 (.slice A_2 x_4.1.length cap_2) x_4.1.length cs_1) :: H) w_5 := p_5
      refine W_run (L' := [(0, .slice A0 d0.length cap0), (1, .slice A1 d1.length cap1), (5, .slice A_1 x_3.length cap_1), (6, .slice A_2 x_4.1.length cap_2), (7, .int .i64 x_4.2)]) (w' := w_5) f_18 5 [0, 1, 5, 6, 7] (by kernel_rfl) (fun a_15 f_19 => ?_)
      refine W_end rfl ?_
      refine T_n ?_
      refine R_seq ?_
      refine R_reg ?_
      refine W_run (L' := [(0, .slice A0 d0.length cap0), (1, .slice A1 d1.length cap1), (5, .slice A_1 x_3.length cap_1), (6, .slice A_2 x_4.1.length cap_2), (7, .int .i64 x_4.2), (31, .slice A_1 x_3.length cap_1), (32, .slice A1 d1.length cap1)]) (w' := w_5) f_19 2 [0, 1, 5, 6, 7, 31, 32] (by kernel_rfl) (fun a_16 f_20 => ?_)
      obtain ⟨x_5, hx_5, hF_10⟩ := bind_some' hF_9
      refine W_okH (E := []) (H := ((Ent.row 3 1 (.slice A_2 x_4.1.length cap_2) x_4.1.length cs_1) :: H)) f_20 p_5 (by kernel_rfl) (by kernel_rfl) rfl rfl (fun _ => by kernel_rfl) (ready_Ready_ok n _ A_1 cap_1 x_3 (h_3.mono hM_3) A1 cap1 d1 (h1.mono ((hM_1.trans hM_2).trans hM_3)) (false) x_5 hx_5) (fun u_3 M_4 E_2 w_6 hM_4 p_6 q_3 a_17 f_21 => ?_)
      obtain ⟨A_3, cap_3, cs_2, rfl, rfl, hr_2⟩ := q_3
      replace p_6 : Hp w0 M_4 ((Ent.row 3 1 (.slice A_3 x_5.1.length cap_3) x_5.1.length cs_2) :: (Ent.row 3 1 (.slice A_2 x_4.1.length cap_2) x_4.1.length cs_1) :: H) w_6 := p_6
      refine W_run (L' := [(0, .slice A0 d0.length cap0), (1, .slice A1 d1.length cap1), (5, .slice A_1 x_3.length cap_1), (6, .slice A_2 x_4.1.length cap_2), (7, .int .i64 x_4.2), (8, .slice A_3 x_5.1.length cap_3), (9, .int .i64 x_5.2)]) (w' := w_6) f_21 5 [0, 1, 5, 6, 7, 8, 9] (by kernel_rfl) (fun a_18 f_22 => ?_)
      refine W_end rfl ?_
      refine T_n ?_
      refine R_seq ?_
      refine R_reg ?_
      refine W_run (L' := [(1, .slice A1 d1.length cap1), (5, .slice A_1 x_3.length cap_1), (6, .slice A_2 x_4.1.length cap_2), (7, .int .i64 x_4.2), (8, .slice A_3 x_5.1.length cap_3), (9, .int .i64 x_5.2), (37, .slice A0 d0.length cap0), (38, .slice A1 d1.length cap1)]) (w' := w_6) f_22 2 [1, 5, 6, 7, 8, 9, 37, 38] (by kernel_rfl) (fun a_19 f_23 => ?_)
      obtain ⟨x_6, hx_6, hF_11⟩ := bind_some' hF_10
      refine W_okH (E := []) (H := ((Ent.row 3 1 (.slice A_3 x_5.1.length cap_3) x_5.1.length cs_2) :: (Ent.row 3 1 (.slice A_2 x_4.1.length cap_2) x_4.1.length cs_1) :: H)) f_23 p_6 (by kernel_rfl) (by kernel_rfl) rfl rfl (fun _ => by kernel_rfl) (ready_Settle_ok n _ A0 cap0 d0 (h0.mono (((hM_1.trans hM_2).trans hM_3).trans hM_4)) A1 cap1 d1 (h1.mono (((hM_1.trans hM_2).trans hM_3).trans hM_4)) (true) x_6 hx_6) (fun u_4 M_5 E_3 w_7 hM_5 p_7 q_4 a_20 f_24 => ?_)
      obtain ⟨A_4, cap_4, cs_3, rfl, rfl, hr_3⟩ := q_4
      replace p_7 : Hp w0 M_5 ((Ent.row 30 1 (.slice A_4 x_6.1.length cap_4) x_6.1.length cs_3) :: (Ent.row 3 1 (.slice A_3 x_5.1.length cap_3) x_5.1.length cs_2) :: (Ent.row 3 1 (.slice A_2 x_4.1.length cap_2) x_4.1.length cs_1) :: H) w_7 := p_7
      refine W_run (L' := [(1, .slice A1 d1.length cap1), (5, .slice A_1 x_3.length cap_1), (6, .slice A_2 x_4.1.length cap_2), (7, .int .i64 x_4.2), (8, .slice A_3 x_5.1.length cap_3), (9, .int .i64 x_5.2), (10, .slice A_4 x_6.1.length cap_4), (11, .int .i64 x_6.2)]) (w' := w_7) f_24 5 [1, 5, 6, 7, 8, 9, 10, 11] (by kernel_rfl) (fun a_21 f_25 => ?_)
      refine W_end rfl ?_
      refine T_n ?_
      refine R_seq ?_
      refine R_reg ?_
      refine W_run (L' := [(6, .slice A_2 x_4.1.length cap_2), (7, .int .i64 x_4.2), (8, .slice A_3 x_5.1.length cap_3), (9, .int .i64 x_5.2), (10, .slice A_4 x_6.1.length cap_4), (11, .int .i64 x_6.2), (43, .slice A_1 x_3.length cap_1), (44, .slice A1 d1.length cap1)]) (w' := w_7) f_25 2 [6, 7, 8, 9, 10, 11, 43, 44] (by kernel_rfl) (fun a_22 f_26 => ?_)
      obtain ⟨x_7, hx_7, hF_12⟩ := bind_some' hF_11
      refine W_okH (E := []) (H := ((Ent.row 30 1 (.slice A_4 x_6.1.length cap_4) x_6.1.length cs_3) :: (Ent.row 3 1 (.slice A_3 x_5.1.length cap_3) x_5.1.length cs_2) :: (Ent.row 3 1 (.slice A_2 x_4.1.length cap_2) x_4.1.length cs_1) :: H)) f_26 p_7 (by kernel_rfl) (by kernel_rfl) rfl rfl (fun _ => by kernel_rfl) (ready_Settle_ok n _ A_1 cap_1 x_3 (h_3.mono ((hM_3.trans hM_4).trans hM_5)) A1 cap1 d1 (h1.mono ((((hM_1.trans hM_2).trans hM_3).trans hM_4).trans hM_5)) (false) x_7 hx_7) (fun u_5 M_6 E_4 w_8 hM_6 p_8 q_5 a_23 f_27 => ?_)
      obtain ⟨A_5, cap_5, cs_4, rfl, rfl, hr_4⟩ := q_5
      replace p_8 : Hp w0 M_6 ((Ent.row 30 1 (.slice A_5 x_7.1.length cap_5) x_7.1.length cs_4) :: (Ent.row 30 1 (.slice A_4 x_6.1.length cap_4) x_6.1.length cs_3) :: (Ent.row 3 1 (.slice A_3 x_5.1.length cap_3) x_5.1.length cs_2) :: (Ent.row 3 1 (.slice A_2 x_4.1.length cap_2) x_4.1.length cs_1) :: H) w_8 := p_8
      refine W_run (L' := [(6, .slice A_2 x_4.1.length cap_2), (7, .int .i64 x_4.2), (8, .slice A_3 x_5.1.length cap_3), (9, .int .i64 x_5.2), (10, .slice A_4 x_6.1.length cap_4), (11, .int .i64 x_6.2), (12, .slice A_5 x_7.1.length cap_5), (13, .int .i64 x_7.2)]) (w' := w_8) f_27 5 [6, 7, 8, 9, 10, 11, 12, 13] (by kernel_rfl) (fun a_24 f_28 => ?_)
      refine W_end rfl ?_
      refine T_n ?_
      refine R_seq ?_
      refine R_seq ?_
      refine R_reg ?_
      refine W_run (L' := [(6, .slice A_2 x_4.1.length cap_2), (8, .slice A_3 x_5.1.length cap_3), (9, .int .i64 x_5.2), (10, .slice A_4 x_6.1.length cap_4), (11, .int .i64 x_6.2), (12, .slice A_5 x_7.1.length cap_5), (13, .int .i64 x_7.2), (49, .bool (!(decide (x_4.2 = 0))))]) (w' := w_8) f_28 2 [6, 8, 9, 10, 11, 12, 13, 49] (by kernel_rfl) (fun a_25 f_29 => ?_)
      refine W_end rfl ?_
      refine T_n ?_
      refine R_cond f_29 (b := !(decide (x_4.2 = 0))) (by kernel_rfl) (by kernel_rfl) (fun h_4 => ?_) (fun h_4 => ?_)
      · have k_5 : ¬ (x_4.2 = 0) := (not_iff decide_eq_true_iff).1 h_4
        have hF_13 := cnd_t h_4 hF_12
        refine R_seq ?_
        refine R_reg ?_
        obtain ⟨x_8, hx_8, hF_14⟩ := bind_some' hF_13
        refine W_okv (v := .bool x_8) f_29 p_8 (by kernel_rfl) (by kernel_rfl) rfl rfl (fun _ => by kernel_rfl) (law21_wakes_ok n _  x_8 hx_8) (fun w_9 p_9 a_26 f_30 => ?_)
        refine W_run (L' := [(4, .bool x_8)]) (w' := w_9) f_30 1 [4] (by kernel_rfl) (fun a_27 f_31 => ?_)
        refine W_end rfl ?_
        refine T_n ?_
        refine wp_ret ?_
        refine T_r ?_
        refine E_ret1 f_31 rfl (by kernel_rfl : Vc.look _ 4 = some (.bool x_8)) ?_
        obtain rfl := Option.some.inj hF_14
        exact ⟨_, rfl, M_6, (((((hM_1.trans hM_2).trans hM_3).trans hM_4).trans hM_5).trans hM_6), (p_9.dropN 4), rfl⟩
      · have k_6 : ¬ (¬ (x_4.2 = 0)) := iff_f (not_iff decide_eq_true_iff) h_4
        have hF_15 := cnd_f h_4 hF_12
        refine wp_skip ?_
        refine T_n ?_
        refine R_seq ?_
        refine R_reg ?_
        refine W_run (L' := [(6, .slice A_2 x_4.1.length cap_2), (8, .slice A_3 x_5.1.length cap_3), (10, .slice A_4 x_6.1.length cap_4), (11, .int .i64 x_6.2), (12, .slice A_5 x_7.1.length cap_5), (13, .int .i64 x_7.2), (53, .bool (decide (x_5.2 = 0)))]) (w' := w_8) f_29 3 [6, 8, 10, 11, 12, 13, 53] (by kernel_rfl) (fun a_28 f_32 => ?_)
        rcases Bool.eq_false_or_eq_true (decide (x_5.2 = 0)) with h_5 | h_5
        · have k_7 : x_5.2 = 0 := decide_eq_true_iff.1 h_5
          have hF_16 := cnd_t h_5 hF_15
          have f_33 := Frm.set f_32 53 (v := .bool (decide (x_5.2 = 0))) (v' := .bool true) (by kernel_rfl) (congrArg Value.bool h_5)
          have f_34 : Frm 74 [(6, .slice A_2 x_4.1.length cap_2), (8, .slice A_3 x_5.1.length cap_3), (10, .slice A_4 x_6.1.length cap_4), (11, .int .i64 x_6.2), (12, .slice A_5 x_7.1.length cap_5), (13, .int .i64 x_7.2), (53, .bool true)] a_28 := f_33.keep (ks := [6, 8, 10, 11, 12, 13, 53]) (by kernel_rfl)
          refine W_run (L' := [(6, .slice A_2 x_4.1.length cap_2), (8, .slice A_3 x_5.1.length cap_3), (10, .slice A_4 x_6.1.length cap_4), (12, .slice A_5 x_7.1.length cap_5), (13, .int .i64 x_7.2), (57, .bool (decide (x_6.2 = 0)))]) (w' := w_8) f_34 4 [6, 8, 10, 12, 13, 57] (by kernel_rfl) (fun a_29 f_35 => ?_)
          rcases Bool.eq_false_or_eq_true (decide (x_6.2 = 0)) with h_6 | h_6
          · have k_8 : x_6.2 = 0 := decide_eq_true_iff.1 h_6
            have hF_17 := cnd_t h_6 hF_16
            have f_36 := Frm.set f_35 57 (v := .bool (decide (x_6.2 = 0))) (v' := .bool true) (by kernel_rfl) (congrArg Value.bool h_6)
            have f_37 : Frm 74 [(6, .slice A_2 x_4.1.length cap_2), (8, .slice A_3 x_5.1.length cap_3), (10, .slice A_4 x_6.1.length cap_4), (12, .slice A_5 x_7.1.length cap_5), (13, .int .i64 x_7.2), (57, .bool true)] a_29 := f_36.keep (ks := [6, 8, 10, 12, 13, 57]) (by kernel_rfl)
            refine W_run (L' := [(6, .slice A_2 x_4.1.length cap_2), (8, .slice A_3 x_5.1.length cap_3), (10, .slice A_4 x_6.1.length cap_4), (12, .slice A_5 x_7.1.length cap_5), (61, .bool (decide (x_7.2 = 0)))]) (w' := w_8) f_37 4 [6, 8, 10, 12, 61] (by kernel_rfl) (fun a_30 f_38 => ?_)
            rcases Bool.eq_false_or_eq_true (decide (x_7.2 = 0)) with h_7 | h_7
            · have k_9 : x_7.2 = 0 := decide_eq_true_iff.1 h_7
              have hF_18 := cnd_t h_7 hF_17
              have f_39 := Frm.set f_38 61 (v := .bool (decide (x_7.2 = 0))) (v' := .bool true) (by kernel_rfl) (congrArg Value.bool h_7)
              have f_40 : Frm 74 [(6, .slice A_2 x_4.1.length cap_2), (8, .slice A_3 x_5.1.length cap_3), (10, .slice A_4 x_6.1.length cap_4), (12, .slice A_5 x_7.1.length cap_5), (61, .bool true)] a_30 := f_39.keep (ks := [6, 8, 10, 12, 61]) (by kernel_rfl)
              refine W_run (L' := [(10, .slice A_4 x_6.1.length cap_4), (12, .slice A_5 x_7.1.length cap_5), (61, .bool true), (62, .slice A_2 x_4.1.length cap_2), (63, .slice A_3 x_5.1.length cap_3)]) (w' := w_8) f_40 2 [10, 12, 61, 62, 63] (by kernel_rfl) (fun a_31 f_41 => ?_)
              have p_10 : Hp w0 M_6 ((Ent.row 3 1 (.slice A_2 x_4.1.length cap_2) x_4.1.length cs_1) :: (Ent.row 30 1 (.slice A_5 x_7.1.length cap_5) x_7.1.length cs_4) :: (Ent.row 30 1 (.slice A_4 x_6.1.length cap_4) x_6.1.length cs_3) :: (Ent.row 3 1 (.slice A_3 x_5.1.length cap_3) x_5.1.length cs_2) :: H) w_8 := p_8.pull 3 rfl rfl
              obtain ⟨M_7, A_6, cap_6, hM_7, hv_1, p_11, h_8, hb_1⟩ := p_10.lend (f := (Dat.int .i64)) (xs := x_4.1) (szd_int .i64) (RepSeq.mono ((hM_4.trans hM_5).trans hM_6) _ _ hr_1)
              have f_42 := Frm.set f_41 62 (v := .slice A_2 x_4.1.length cap_2) (v' := .slice A_6 x_4.1.length cap_6) (by kernel_rfl) (hv_1)
              have f_43 : Frm 74 [(10, .slice A_4 x_6.1.length cap_4), (12, .slice A_5 x_7.1.length cap_5), (61, .bool true), (62, .slice A_6 x_4.1.length cap_6), (63, .slice A_3 x_5.1.length cap_3)] a_31 := f_42.keep (ks := [10, 12, 61, 62, 63]) (by kernel_rfl)
              have p_12 : Hp w0 M_7 ((Ent.row 3 1 (.slice A_3 x_5.1.length cap_3) x_5.1.length cs_2) :: (Ent.row 30 1 (.slice A_5 x_7.1.length cap_5) x_7.1.length cs_4) :: (Ent.row 30 1 (.slice A_4 x_6.1.length cap_4) x_6.1.length cs_3) :: H) w_8 := p_11.pull 2 rfl rfl
              obtain ⟨M_8, A_7, cap_7, hM_8, hv_2, p_13, h_9, hb_2⟩ := p_12.lend (f := (Dat.int .i64)) (xs := x_5.1) (szd_int .i64) (RepSeq.mono ((hM_5.trans hM_6).trans hM_7) _ _ hr_2)
              have f_44 := Frm.set f_43 63 (v := .slice A_3 x_5.1.length cap_3) (v' := .slice A_7 x_5.1.length cap_7) (by kernel_rfl) (hv_2)
              have f_45 : Frm 74 [(10, .slice A_4 x_6.1.length cap_4), (12, .slice A_5 x_7.1.length cap_5), (61, .bool true), (62, .slice A_6 x_4.1.length cap_6), (63, .slice A_7 x_5.1.length cap_7)] a_31 := f_44.keep (ks := [10, 12, 61, 62, 63]) (by kernel_rfl)
              obtain ⟨x_9, hx_9, hF_19⟩ := bind_some' hF_18
              refine W_okv (v := .bool x_9) f_45 p_13 (by kernel_rfl) (by kernel_rfl) rfl rfl (fun _ => by kernel_rfl) (ref21_Ints_ok n _ A_6 cap_6 x_4.1 (h_8.mono hM_8) A_7 cap_7 x_5.1 h_9 x_9 hx_9) (fun w_10 p_14 a_32 f_46 => ?_)
              obtain ⟨M_9, hM_9, p_15⟩ := hb_2 _ _ _ (Mem.le_refl _) p_14
              have f_47 := Frm.set f_46 63 (v := .slice A_7 x_5.1.length cap_7) (v' := .slice A_3 x_5.1.length cap_3) (by kernel_rfl) (hv_2.symm)
              have f_48 : Frm 74 [(10, .slice A_4 x_6.1.length cap_4), (12, .slice A_5 x_7.1.length cap_5), (61, .bool true), (62, .slice A_6 x_4.1.length cap_6), (63, .slice A_3 x_5.1.length cap_3), (64, .bool x_9)] a_32 := f_47.keep (ks := [10, 12, 61, 62, 63, 64]) (by kernel_rfl)
              obtain ⟨M_10, hM_10, p_16⟩ := hb_1 _ _ _ hM_9 p_15
              have f_49 := Frm.set f_48 62 (v := .slice A_6 x_4.1.length cap_6) (v' := .slice A_2 x_4.1.length cap_2) (by kernel_rfl) (hv_1.symm)
              have f_50 : Frm 74 [(10, .slice A_4 x_6.1.length cap_4), (12, .slice A_5 x_7.1.length cap_5), (61, .bool true), (62, .slice A_2 x_4.1.length cap_2), (63, .slice A_3 x_5.1.length cap_3), (64, .bool x_9)] a_32 := f_49.keep (ks := [10, 12, 61, 62, 63, 64]) (by kernel_rfl)
              refine W_run (L' := [(10, .slice A_4 x_6.1.length cap_4), (12, .slice A_5 x_7.1.length cap_5), (66, .bool x_9)]) (w' := w_10) f_50 2 [10, 12, 66] (by kernel_rfl) (fun a_33 f_51 => ?_)
              rcases Bool.eq_false_or_eq_true (x_9) with h_10 | h_10
              · have hF_20 := cnd_t h_10 hF_19
                have f_52 := Frm.set f_51 66 (v := .bool x_9) (v' := .bool true) (by kernel_rfl) (congrArg Value.bool h_10)
                have f_53 : Frm 74 [(10, .slice A_4 x_6.1.length cap_4), (12, .slice A_5 x_7.1.length cap_5), (66, .bool true)] a_33 := f_52.keep (ks := [10, 12, 66]) (by kernel_rfl)
                refine W_run (L' := [(66, .bool true), (67, .slice A_4 x_6.1.length cap_4), (68, .slice A_5 x_7.1.length cap_5)]) (w' := w_10) f_53 2 [66, 67, 68] (by kernel_rfl) (fun a_34 f_54 => ?_)
                have p_17 : Hp w0 M_10 ((Ent.row 30 1 (.slice A_4 x_6.1.length cap_4) x_6.1.length cs_3) :: (Ent.row 3 1 (.slice A_2 x_4.1.length cap_2) x_4.1.length cs_1) :: (Ent.row 3 1 (.slice A_3 x_5.1.length cap_3) x_5.1.length cs_2) :: (Ent.row 30 1 (.slice A_5 x_7.1.length cap_5) x_7.1.length cs_4) :: H) w_10 := p_16.pull 3 rfl rfl
                obtain ⟨M_11, A_8, cap_8, hM_11, hv_3, p_18, h_11, hb_3⟩ := p_17.lend (f := (Dat.int .i8)) (xs := x_6.1) (szd_int .i8) (RepSeq.mono (hM_6.trans hM_10) _ _ hr_3)
                have f_55 := Frm.set f_54 67 (v := .slice A_4 x_6.1.length cap_4) (v' := .slice A_8 x_6.1.length cap_8) (by kernel_rfl) (hv_3)
                have f_56 : Frm 74 [(66, .bool true), (67, .slice A_8 x_6.1.length cap_8), (68, .slice A_5 x_7.1.length cap_5)] a_34 := f_55.keep (ks := [66, 67, 68]) (by kernel_rfl)
                have p_19 : Hp w0 M_11 ((Ent.row 30 1 (.slice A_5 x_7.1.length cap_5) x_7.1.length cs_4) :: (Ent.row 3 1 (.slice A_2 x_4.1.length cap_2) x_4.1.length cs_1) :: (Ent.row 3 1 (.slice A_3 x_5.1.length cap_3) x_5.1.length cs_2) :: H) w_10 := p_18.pull 2 rfl rfl
                obtain ⟨M_12, A_9, cap_9, hM_12, hv_4, p_20, h_12, hb_4⟩ := p_19.lend (f := (Dat.int .i8)) (xs := x_7.1) (szd_int .i8) (RepSeq.mono (hM_10.trans hM_11) _ _ hr_4)
                have f_57 := Frm.set f_56 68 (v := .slice A_5 x_7.1.length cap_5) (v' := .slice A_9 x_7.1.length cap_9) (by kernel_rfl) (hv_4)
                have f_58 : Frm 74 [(66, .bool true), (67, .slice A_8 x_6.1.length cap_8), (68, .slice A_9 x_7.1.length cap_9)] a_34 := f_57.keep (ks := [66, 67, 68]) (by kernel_rfl)
                obtain ⟨x_10, hx_10, hF_21⟩ := bind_some' hF_20
                refine W_okv (v := .bool x_10) f_58 p_20 (by kernel_rfl) (by kernel_rfl) rfl rfl (fun _ => by kernel_rfl) (ref21_States_ok n _ A_8 cap_8 x_6.1 (h_11.mono hM_12) A_9 cap_9 x_7.1 h_12 x_10 hx_10) (fun w_11 p_21 a_35 f_59 => ?_)
                obtain ⟨M_13, hM_13, p_22⟩ := hb_4 _ _ _ (Mem.le_refl _) p_21
                have f_60 := Frm.set f_59 68 (v := .slice A_9 x_7.1.length cap_9) (v' := .slice A_5 x_7.1.length cap_5) (by kernel_rfl) (hv_4.symm)
                have f_61 : Frm 74 [(66, .bool true), (67, .slice A_8 x_6.1.length cap_8), (68, .slice A_5 x_7.1.length cap_5), (69, .bool x_10)] a_35 := f_60.keep (ks := [66, 67, 68, 69]) (by kernel_rfl)
                obtain ⟨M_14, hM_14, p_23⟩ := hb_3 _ _ _ hM_13 p_22
                have f_62 := Frm.set f_61 67 (v := .slice A_8 x_6.1.length cap_8) (v' := .slice A_4 x_6.1.length cap_4) (by kernel_rfl) (hv_3.symm)
                have f_63 : Frm 74 [(66, .bool true), (67, .slice A_4 x_6.1.length cap_4), (68, .slice A_5 x_7.1.length cap_5), (69, .bool x_10)] a_35 := f_62.keep (ks := [66, 67, 68, 69]) (by kernel_rfl)
                refine W_run (L' := [(71, .bool x_10)]) (w' := w_11) f_63 2 [71] (by kernel_rfl) (fun a_36 f_64 => ?_)
                rcases Bool.eq_false_or_eq_true (x_10) with h_13 | h_13
                · have hF_22 := cnd_t h_13 hF_21
                  have f_65 := Frm.set f_64 71 (v := .bool x_10) (v' := .bool true) (by kernel_rfl) (congrArg Value.bool h_13)
                  have f_66 : Frm 74 [(71, .bool true)] a_36 := f_65.keep (ks := [71]) (by kernel_rfl)
                  obtain ⟨x_11, hx_11, hF_23⟩ := bind_some' hF_22
                  refine W_okv (v := .bool x_11) f_66 p_23 (by kernel_rfl) (by kernel_rfl) rfl rfl (fun _ => by kernel_rfl) (law21_wakes_ok n _  x_11 hx_11) (fun w_12 p_24 a_37 f_67 => ?_)
                  refine W_run (L' := [(4, .bool x_11)]) (w' := w_12) f_67 2 [4] (by kernel_rfl) (fun a_38 f_68 => ?_)
                  refine W_end rfl ?_
                  refine T_n ?_
                  refine wp_ret ?_
                  refine E_ret1 f_68 rfl (by kernel_rfl : Vc.look _ 4 = some (.bool x_11)) ?_
                  obtain rfl := Option.some.inj hF_23
                  exact ⟨_, rfl, M_14, (((((((hM_1.trans hM_2).trans hM_3).trans hM_4).trans hM_5).trans hM_6).trans hM_10).trans hM_14), (p_24.dropN 4), rfl⟩
                · have hF_24 := cnd_f h_13 hF_21
                  have f_69 := Frm.set f_64 71 (v := .bool x_10) (v' := .bool false) (by kernel_rfl) (congrArg Value.bool h_13)
                  have f_70 : Frm 74 [(71, .bool false)] a_36 := f_69.keep (ks := [71]) (by kernel_rfl)
                  refine W_run (L' := [(4, .bool false)]) (w' := w_11) f_70 3 [4] (by kernel_rfl) (fun a_39 f_71 => ?_)
                  refine W_end rfl ?_
                  refine T_n ?_
                  refine wp_ret ?_
                  refine E_ret1 f_71 rfl (by kernel_rfl : Vc.look _ 4 = some (.bool false)) ?_
                  obtain rfl := Option.some.inj hF_24
                  exact ⟨_, rfl, M_14, (((((((hM_1.trans hM_2).trans hM_3).trans hM_4).trans hM_5).trans hM_6).trans hM_10).trans hM_14), (p_23.dropN 4), rfl⟩
              · have hF_25 := cnd_f h_10 hF_19
                have f_72 := Frm.set f_51 66 (v := .bool x_9) (v' := .bool false) (by kernel_rfl) (congrArg Value.bool h_10)
                have f_73 : Frm 74 [(10, .slice A_4 x_6.1.length cap_4), (12, .slice A_5 x_7.1.length cap_5), (66, .bool false)] a_33 := f_72.keep (ks := [10, 12, 66]) (by kernel_rfl)
                refine W_run (L' := [(4, .bool false)]) (w' := w_10) f_73 8 [4] (by kernel_rfl) (fun a_40 f_74 => ?_)
                refine W_end rfl ?_
                refine T_n ?_
                refine wp_ret ?_
                refine E_ret1 f_74 rfl (by kernel_rfl : Vc.look _ 4 = some (.bool false)) ?_
                obtain rfl := Option.some.inj hF_25
                exact ⟨_, rfl, M_10, ((((((hM_1.trans hM_2).trans hM_3).trans hM_4).trans hM_5).trans hM_6).trans hM_10), (p_16.dropN 4), rfl⟩
            · have k_14 : ¬ (x_7.2 = 0) := iff_f decide_eq_true_iff h_7
              have hF_26 := cnd_f h_7 hF_17
              have f_75 := Frm.set f_38 61 (v := .bool (decide (x_7.2 = 0))) (v' := .bool false) (by kernel_rfl) (congrArg Value.bool h_7)
              have f_76 : Frm 74 [(6, .slice A_2 x_4.1.length cap_2), (8, .slice A_3 x_5.1.length cap_3), (10, .slice A_4 x_6.1.length cap_4), (12, .slice A_5 x_7.1.length cap_5), (61, .bool false)] a_30 := f_75.keep (ks := [6, 8, 10, 12, 61]) (by kernel_rfl)
              refine W_run (L' := [(4, .bool false)]) (w' := w_8) f_76 13 [4] (by kernel_rfl) (fun a_41 f_77 => ?_)
              refine W_end rfl ?_
              refine T_n ?_
              refine wp_ret ?_
              refine E_ret1 f_77 rfl (by kernel_rfl : Vc.look _ 4 = some (.bool false)) ?_
              obtain rfl := Option.some.inj hF_26
              exact ⟨_, rfl, M_6, (((((hM_1.trans hM_2).trans hM_3).trans hM_4).trans hM_5).trans hM_6), (p_8.dropN 4), rfl⟩
          · have k_15 : ¬ (x_6.2 = 0) := iff_f decide_eq_true_iff h_6
            have hF_27 := cnd_f h_6 hF_16
            have f_78 := Frm.set f_35 57 (v := .bool (decide (x_6.2 = 0))) (v' := .bool false) (by kernel_rfl) (congrArg Value.bool h_6)
            have f_79 : Frm 74 [(6, .slice A_2 x_4.1.length cap_2), (8, .slice A_3 x_5.1.length cap_3), (10, .slice A_4 x_6.1.length cap_4), (12, .slice A_5 x_7.1.length cap_5), (13, .int .i64 x_7.2), (57, .bool false)] a_29 := f_78.keep (ks := [6, 8, 10, 12, 13, 57]) (by kernel_rfl)
            refine W_run (L' := [(4, .bool false)]) (w' := w_8) f_79 17 [4] (by kernel_rfl) (fun a_42 f_80 => ?_)
            refine W_end rfl ?_
            refine T_n ?_
            refine wp_ret ?_
            refine E_ret1 f_80 rfl (by kernel_rfl : Vc.look _ 4 = some (.bool false)) ?_
            obtain rfl := Option.some.inj hF_27
            exact ⟨_, rfl, M_6, (((((hM_1.trans hM_2).trans hM_3).trans hM_4).trans hM_5).trans hM_6), (p_8.dropN 4), rfl⟩
        · have k_16 : ¬ (x_5.2 = 0) := iff_f decide_eq_true_iff h_5
          have hF_28 := cnd_f h_5 hF_15
          have f_81 := Frm.set f_32 53 (v := .bool (decide (x_5.2 = 0))) (v' := .bool false) (by kernel_rfl) (congrArg Value.bool h_5)
          have f_82 : Frm 74 [(6, .slice A_2 x_4.1.length cap_2), (8, .slice A_3 x_5.1.length cap_3), (10, .slice A_4 x_6.1.length cap_4), (11, .int .i64 x_6.2), (12, .slice A_5 x_7.1.length cap_5), (13, .int .i64 x_7.2), (53, .bool false)] a_28 := f_81.keep (ks := [6, 8, 10, 11, 12, 13, 53]) (by kernel_rfl)
          refine W_run (L' := [(4, .bool false)]) (w' := w_8) f_82 21 [4] (by kernel_rfl) (fun a_43 f_83 => ?_)
          refine W_end rfl ?_
          refine T_n ?_
          refine wp_ret ?_
          refine E_ret1 f_83 rfl (by kernel_rfl : Vc.look _ 4 = some (.bool false)) ?_
          obtain rfl := Option.some.inj hF_28
          exact ⟨_, rfl, M_6, (((((hM_1.trans hM_2).trans hM_3).trans hM_4).trans hM_5).trans hM_6), (p_8.dropN 4), rfl⟩
end Go.Proofs.Ytoonlehffohpaaa
