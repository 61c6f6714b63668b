/-
  Texts of this claim, packed (what nothing names is left out): P4, PrintP3, PrintP4, Q2h, R5, LTells, TreeR, PrintLTells, Vo2, Op. Own work, partly printed by own programs. No condition.
-/
import Derived.Test.YtfaedhhjamaniaaGreatDoorPkT3
import Derived.Test.YtfaedhhjamaniaaGreatDoorPkT2
import Derived.Test.YtfaedhhjamaniaaGreatDoorPkT1
import Derived.Test.YtfaedhhjamaniaaGreatDoorRows
set_option linter.unusedVariables false
set_option linter.unusedSimpArgs false
set_option maxHeartbeats 2000000
section
namespace Go.Proofs.YtfaedhhjamaniaaGreatDoor
open Go Go.Vc Go.RowKit
def law05_wakes (n : Nat) : Option Bool :=
  (print_Print n (⟨(5 : Int), (false), (0 : Int), ([] : List UInt8), [(⟨(4 : Int), (false), (0 : Int), ([] : List UInt8), [(⟨(2 : Int), (false), (1 : Int), ([] : List UInt8), ([] : List TA0), ([] : List (List UInt8))⟩ : TA0), z_TA0], ([] : List (List UInt8))⟩ : TA0), (⟨(3 : Int), (false), (0 : Int), ([] : List UInt8), ([] : List TA0), ([] : List (List UInt8))⟩ : TA0)], ([[98], [97]] : List (List UInt8))⟩ : TA0)).bind fun x_1 =>
  bif (decide (x_1.2 = 0)) then
    (bif (decide (x_1.1 = [123, 34, 97, 34, 58, 34, 34, 44, 34, 98, 34, 58, 91, 49, 44, 110, 117, 108, 108, 93, 125])) then
      ((print_Len n (⟨(5 : Int), (false), (0 : Int), ([] : List UInt8), [(⟨(4 : Int), (false), (0 : Int), ([] : List UInt8), [(⟨(2 : Int), (false), (1 : Int), ([] : List UInt8), ([] : List TA0), ([] : List (List UInt8))⟩ : TA0), z_TA0], ([] : List (List UInt8))⟩ : TA0), (⟨(3 : Int), (false), (0 : Int), ([] : List UInt8), ([] : List TA0), ([] : List (List UInt8))⟩ : TA0)], ([[98], [97]] : List (List UInt8))⟩ : TA0)).bind fun x_2 =>
      some ((decide (x_2 = (x_1.1.length : Int)))))
    else
      some ((false)))
  else
    some ((false))
theorem law05_wakes_ok (n : Nat) (M : Mem) (hG : GL M) (r : Bool) (hF : law05_wakes n = some r) : Ok Tryz.prog M 5 [] (fun _ v => v = .bool r) := by
 unfold law05_wakes at hF
 intro M1 hM0 w0 H w p0
 replace hG := GL.mono hM0 hG
 refine R_enter 30 Tryz.func5 rfl rfl (by simp) fun a0 f0 => RR (Y f0 1 fun _ f => eT (RR (V_allocS (k := 2) (c := 2) f p0 (.cells #[S [98], S [97]] 9 (0, 0)) (by kernel_rfl) (fun _ => by kernel_rfl) fun b_1 w_1 p_1 _ f => Y f 2 fun _ f => V_allocS (k := 2) (c := 2) f p_1 (.cells #[.int .i8 2, .bool false, .int .i64 1, S [], .slice none 0 0, .slice none 0 0, .int .i8 0, .bool false, .int .i64 0, S [], .slice none 0 0, .slice none 0 0] 26 (0, 0)) (by kernel_rfl) (fun _ => by kernel_rfl) fun b_2 w_2 p_2 _ f => Y f 2 fun _ f => V_allocS (k := 2) (c := 2) f p_2 (.cells #[.int .i8 4, .bool false, .int .i64 0, S [], .slice (some ⟨b_2, 0, none⟩) 2 2, .slice none 0 0, .int .i8 3, .bool false, .int .i64 0, S [], .slice none 0 0, .slice none 0 0] 26 (0, 0)) (by kernel_rfl) (fun _ => by kernel_rfl) fun b_3 w_3 p_3 _ f => Y f 1 fun _ f => Y11 f p_3 (.cells #[.int .i8 0, .bool false, .int .i64 0, S [], .slice none 0 0, .slice none 0 0] 26 (0, 0)) fun b_4 w_4 p_4 _ f => ?_)))
 have p_5 := p_4.pl [2]
 have hr_1 : RepSeq M1 ([(⟨(2 : Int), (false), (1 : Int), ([] : List UInt8), ([] : List TA0), ([] : List (List UInt8))⟩ : TA0), z_TA0].map emb_TA0) [.int .i8 2, .bool false, .int .i64 1, S [], .slice none 0 0, .slice none 0 0, .int .i8 0, .bool false, .int .i64 0, S [], .slice none 0 0, .slice none 0 0] := ⟨_, _, rfl, TA0.shut Sli.nil Sli.nil, ⟨_, _, rfl, TA0.shut Sli.nil Sli.nil, rfl⟩⟩
 have p_6 : Hp w0 M1 ((Ent.row 26 6 (.slice (some ⟨b_2, 0, none⟩) 2 2) [(⟨(2 : Int), (false), (1 : Int), ([] : List UInt8), ([] : List TA0), ([] : List (List UInt8))⟩ : TA0), z_TA0].length [.int .i8 2, .bool false, .int .i64 1, S [], .slice none 0 0, .slice none 0 0, .int .i8 0, .bool false, .int .i64 0, S [], .slice none 0 0, .slice none 0 0]) :: (Ent.obj b_4 (.cells #[.int .i8 0, .bool false, .int .i64 0, S [], .slice none 0 0, .slice none 0 0] 26 (0, 0))) :: (Ent.obj b_3 (.cells #[.int .i8 4, .bool false, .int .i64 0, S [], .slice (some ⟨b_2, 0, none⟩) 2 2, .slice none 0 0, .int .i8 3, .bool false, .int .i64 0, S [], .slice none 0 0, .slice none 0 0] 26 (0, 0))) :: (Ent.obj b_1 (.cells #[S [98], S [97]] 9 (0, 0))) :: H) w_4 := p_5.objRow (n := 2) (cap := 2) (size := 6) (by decide) (by decide) (blk_eq (by decide) rfl) rfl rfl
 obtain ⟨A_1, cap_1, M_1, hv_1, hM_1, p_7, h_1⟩ := p_6.rowSli (f := emb_TA0) (xs := [(⟨(2 : Int), (false), (1 : Int), ([] : List UInt8), ([] : List TA0), ([] : List (List UInt8))⟩ : TA0), z_TA0]) szd_TA0 hr_1
 have p_8 : Hp w0 M_1 ((Ent.obj b_4 (.cells #[.int .i8 0, .bool false, .int .i64 0, S [], .slice none 0 0, .slice none 0 0] 26 (0, 0))) :: (Ent.obj b_3 (.cells #[.int .i8 4, .bool false, .int .i64 0, S [], .slice A_1 [(⟨(2 : Int), (false), (1 : Int), ([] : List UInt8), ([] : List TA0), ([] : List (List UInt8))⟩ : TA0), z_TA0].length cap_1, .slice none 0 0, .int .i8 3, .bool false, .int .i64 0, S [], .slice none 0 0, .slice none 0 0] 26 (0, 0))) :: (Ent.obj b_1 (.cells #[S [98], S [97]] 9 (0, 0))) :: H) w_4 := by rw [hv_1] at p_7; exact p_7
 have p_9 := p_8.pl [1]
 have hr_2 : RepSeq M_1 ([(⟨(4 : Int), (false), (0 : Int), ([] : List UInt8), [(⟨(2 : Int), (false), (1 : Int), ([] : List UInt8), ([] : List TA0), ([] : List (List UInt8))⟩ : TA0), z_TA0], ([] : List (List UInt8))⟩ : TA0), (⟨(3 : Int), (false), (0 : Int), ([] : List UInt8), ([] : List TA0), ([] : List (List UInt8))⟩ : TA0)].map emb_TA0) [.int .i8 4, .bool false, .int .i64 0, S [], .slice A_1 [(⟨(2 : Int), (false), (1 : Int), ([] : List UInt8), ([] : List TA0), ([] : List (List UInt8))⟩ : TA0), z_TA0].length cap_1, .slice none 0 0, .int .i8 3, .bool false, .int .i64 0, S [], .slice none 0 0, .slice none 0 0] := ⟨_, _, rfl, TA0.shut h_1 Sli.nil, ⟨_, _, rfl, TA0.shut Sli.nil Sli.nil, rfl⟩⟩
 have p_10 : Hp w0 M_1 ((Ent.row 26 6 (.slice (some ⟨b_3, 0, none⟩) 2 2) [(⟨(4 : Int), (false), (0 : Int), ([] : List UInt8), [(⟨(2 : Int), (false), (1 : Int), ([] : List UInt8), ([] : List TA0), ([] : List (List UInt8))⟩ : TA0), z_TA0], ([] : List (List UInt8))⟩ : TA0), (⟨(3 : Int), (false), (0 : Int), ([] : List UInt8), ([] : List TA0), ([] : List (List UInt8))⟩ : TA0)].length [.int .i8 4, .bool false, .int .i64 0, S [], .slice A_1 [(⟨(2 : Int), (false), (1 : Int), ([] : List UInt8), ([] : List TA0), ([] : List (List UInt8))⟩ : TA0), z_TA0].length cap_1, .slice none 0 0, .int .i8 3, .bool false, .int .i64 0, S [], .slice none 0 0, .slice none 0 0]) :: (Ent.obj b_4 (.cells #[.int .i8 0, .bool false, .int .i64 0, S [], .slice none 0 0, .slice none 0 0] 26 (0, 0))) :: (Ent.obj b_1 (.cells #[S [98], S [97]] 9 (0, 0))) :: H) w_4 := p_9.objRow (n := 2) (cap := 2) (size := 6) (by decide) (by decide) (blk_eq (by decide) rfl) rfl rfl
 obtain ⟨A_2, cap_2, M_2, hv_2, hM_2, p_11, h_2⟩ := p_10.rowSli (f := emb_TA0) (xs := [(⟨(4 : Int), (false), (0 : Int), ([] : List UInt8), [(⟨(2 : Int), (false), (1 : Int), ([] : List UInt8), ([] : List TA0), ([] : List (List UInt8))⟩ : TA0), z_TA0], ([] : List (List UInt8))⟩ : TA0), (⟨(3 : Int), (false), (0 : Int), ([] : List UInt8), ([] : List TA0), ([] : List (List UInt8))⟩ : TA0)]) szd_TA0 hr_2
 have f := Frm.set f 11 (v := .agg #[.int .i8 5, .bool false, .int .i64 0, S [], .slice (some ⟨b_3, 0, none⟩) 2 2, .slice (some ⟨b_1, 0, none⟩) 2 2]) (v' := .agg #[.int .i8 5, .bool false, .int .i64 0, S [], .slice A_2 [(⟨(4 : Int), (false), (0 : Int), ([] : List UInt8), [(⟨(2 : Int), (false), (1 : Int), ([] : List UInt8), ([] : List TA0), ([] : List (List UInt8))⟩ : TA0), z_TA0], ([] : List (List UInt8))⟩ : TA0), (⟨(3 : Int), (false), (0 : Int), ([] : List UInt8), ([] : List TA0), ([] : List (List UInt8))⟩ : TA0)].length cap_2, .slice (some ⟨b_1, 0, none⟩) 2 2]) (by kernel_rfl) (by rw [hv_2])
 have p_12 := p_11.pl [1]
 have hr_3 : RepSeq M_2 (([[98], [97]] : List (List UInt8)).map Dat.str) [S [98], S [97]] := ⟨_, _, rfl, rfl, ⟨_, _, rfl, rfl, rfl⟩⟩
 have p_13 : Hp w0 M_2 ((Ent.row 9 1 (.slice (some ⟨b_1, 0, none⟩) 2 2) ([[98], [97]] : List (List UInt8)).length [S [98], S [97]]) :: (Ent.obj b_4 (.cells #[.int .i8 0, .bool false, .int .i64 0, S [], .slice none 0 0, .slice none 0 0] 26 (0, 0))) :: H) w_4 := p_12.objRow (n := 2) (cap := 2) (size := 1) (by decide) (by decide) (blk_eq (by decide) rfl) rfl rfl
 obtain ⟨A_3, cap_3, M_3, hv_3, hM_3, p_14, h_3⟩ := p_13.rowSli (f := Dat.str) (xs := ([[98], [97]] : List (List UInt8))) szd_str hr_3
 have f := Frm.set f 11 (v := .agg #[.int .i8 5, .bool false, .int .i64 0, S [], .slice A_2 [(⟨(4 : Int), (false), (0 : Int), ([] : List UInt8), [(⟨(2 : Int), (false), (1 : Int), ([] : List UInt8), ([] : List TA0), ([] : List (List UInt8))⟩ : TA0), z_TA0], ([] : List (List UInt8))⟩ : TA0), (⟨(3 : Int), (false), (0 : Int), ([] : List UInt8), ([] : List TA0), ([] : List (List UInt8))⟩ : TA0)].length cap_2, .slice (some ⟨b_1, 0, none⟩) 2 2]) (v' := .agg #[.int .i8 5, .bool false, .int .i64 0, S [], .slice A_2 [(⟨(4 : Int), (false), (0 : Int), ([] : List UInt8), [(⟨(2 : Int), (false), (1 : Int), ([] : List UInt8), ([] : List TA0), ([] : List (List UInt8))⟩ : TA0), z_TA0], ([] : List (List UInt8))⟩ : TA0), (⟨(3 : Int), (false), (0 : Int), ([] : List UInt8), ([] : List TA0), ([] : List (List UInt8))⟩ : TA0)].length cap_2, .slice A_3 ([[98], [97]] : List (List UInt8)).length cap_3]) (by kernel_rfl) (by rw [hv_3])
 refine Y27 (vs := [.int .i8 5, .bool false, .int .i64 0, S [], .slice A_2 [(⟨(4 : Int), (false), (0 : Int), ([] : List UInt8), [(⟨(2 : Int), (false), (1 : Int), ([] : List UInt8), ([] : List TA0), ([] : List (List UInt8))⟩ : TA0), z_TA0], ([] : List (List UInt8))⟩ : TA0), (⟨(3 : Int), (false), (0 : Int), ([] : List UInt8), ([] : List TA0), ([] : List (List UInt8))⟩ : TA0)].length cap_2, .slice A_3 ([[98], [97]] : List (List UInt8)).length cap_3]) (j := 0) f p_14 rfl rfl (by simp [Value.oneCell', S]) (by simp) (by decide) (cs' := #[.int .i8 5, .bool false, .int .i64 0, S [], .slice A_2 [(⟨(4 : Int), (false), (0 : Int), ([] : List UInt8), [(⟨(2 : Int), (false), (1 : Int), ([] : List UInt8), ([] : List TA0), ([] : List (List UInt8))⟩ : TA0), z_TA0], ([] : List (List UInt8))⟩ : TA0), (⟨(3 : Int), (false), (0 : Int), ([] : List UInt8), ([] : List TA0), ([] : List (List UInt8))⟩ : TA0)].length cap_2, .slice A_3 ([[98], [97]] : List (List UInt8)).length cap_3]) fun w_5 p_15 _ f => eT (RR (Z (v := .agg #[.int .i8 5, .bool false, .int .i64 0, S [], .slice A_2 [(⟨(4 : Int), (false), (0 : Int), ([] : List UInt8), [(⟨(2 : Int), (false), (1 : Int), ([] : List UInt8), ([] : List TA0), ([] : List (List UInt8))⟩ : TA0), z_TA0], ([] : List (List UInt8))⟩ : TA0), (⟨(3 : Int), (false), (0 : Int), ([] : List UInt8), ([] : List TA0), ([] : List (List UInt8))⟩ : TA0)].length cap_2, .slice A_3 ([[98], [97]] : List (List UInt8)).length cap_3]) f (Y32 (cs := [.int .i8 5, .bool false, .int .i64 0, S [], .slice A_2 [(⟨(4 : Int), (false), (0 : Int), ([] : List UInt8), [(⟨(2 : Int), (false), (1 : Int), ([] : List UInt8), ([] : List TA0), ([] : List (List UInt8))⟩ : TA0), z_TA0], ([] : List (List UInt8))⟩ : TA0), (⟨(3 : Int), (false), (0 : Int), ([] : List UInt8), ([] : List TA0), ([] : List (List UInt8))⟩ : TA0)].length cap_2, .slice A_3 ([[98], [97]] : List (List UInt8)).length cap_3]) rfl (ad := ⟨b_4, 0, none⟩) (own_cells (p_15.ownCell 0 rfl) 0 rfl)) fun _ f => ?_))
 obtain ⟨x_1, hx_1, hF_1⟩ := bS hF
 refine Y17 f p_15 (print_Print_ok n _ (GL.mono ((hM_1.trans hM_2).trans hM_3) hG) _ (⟨(5 : Int), (false), (0 : Int), ([] : List UInt8), [(⟨(4 : Int), (false), (0 : Int), ([] : List UInt8), [(⟨(2 : Int), (false), (1 : Int), ([] : List UInt8), ([] : List TA0), ([] : List (List UInt8))⟩ : TA0), z_TA0], ([] : List (List UInt8))⟩ : TA0), (⟨(3 : Int), (false), (0 : Int), ([] : List UInt8), ([] : List TA0), ([] : List (List UInt8))⟩ : TA0)], ([[98], [97]] : List (List UInt8))⟩ : TA0) (TA0.shut (h_2.mono hM_3) h_3) x_1 hx_1) fun w_6 p_16 _ f => Y f 5 fun _ f => eT (RR (Y f 3 fun _ f => ?_))
 rcases cE hF_1 with ⟨h_4, hF_2⟩ | ⟨h_4, hF_6⟩
 ·have k_1 := dI.1 h_4
  have f := f.st 19 (cB h_4)
  refine Y f 1 fun _ f => Z f (Y38 rfl (l := x_1.1) (m := [123, 34, 97, 34, 58, 34, 34, 44, 34, 98, 34, 58, 91, 49, 44, 110, 117, 108, 108, 93, 125])) fun _ f => Y f 2 fun _ f => ?_
  rcases cE hF_2 with ⟨h_5, hF_3⟩ | ⟨h_5, hF_5⟩
  ·have k_2 := dI.1 h_5
   have f := f.st 23 (cB h_5)
   refine Z (v := .agg #[.int .i8 5, .bool false, .int .i64 0, S [], .slice A_2 [(⟨(4 : Int), (false), (0 : Int), ([] : List UInt8), [(⟨(2 : Int), (false), (1 : Int), ([] : List UInt8), ([] : List TA0), ([] : List (List UInt8))⟩ : TA0), z_TA0], ([] : List (List UInt8))⟩ : TA0), (⟨(3 : Int), (false), (0 : Int), ([] : List UInt8), ([] : List TA0), ([] : List (List UInt8))⟩ : TA0)].length cap_2, .slice A_3 ([[98], [97]] : List (List UInt8)).length cap_3]) f (Y32 (cs := [.int .i8 5, .bool false, .int .i64 0, S [], .slice A_2 [(⟨(4 : Int), (false), (0 : Int), ([] : List UInt8), [(⟨(2 : Int), (false), (1 : Int), ([] : List UInt8), ([] : List TA0), ([] : List (List UInt8))⟩ : TA0), z_TA0], ([] : List (List UInt8))⟩ : TA0), (⟨(3 : Int), (false), (0 : Int), ([] : List UInt8), ([] : List TA0), ([] : List (List UInt8))⟩ : TA0)].length cap_2, .slice A_3 ([[98], [97]] : List (List UInt8)).length cap_3]) rfl (ad := ⟨b_4, 0, none⟩) (own_cells (p_16.ownCell 0 rfl) 0 rfl)) fun _ f => ?_
   obtain ⟨x_2, hx_2, hF_4⟩ := bS hF_3
   refine Y17 f p_16 (print_Len_ok n _ (GL.mono ((hM_1.trans hM_2).trans hM_3) hG) _ (⟨(5 : Int), (false), (0 : Int), ([] : List UInt8), [(⟨(4 : Int), (false), (0 : Int), ([] : List UInt8), [(⟨(2 : Int), (false), (1 : Int), ([] : List UInt8), ([] : List TA0), ([] : List (List UInt8))⟩ : TA0), z_TA0], ([] : List (List UInt8))⟩ : TA0), (⟨(3 : Int), (false), (0 : Int), ([] : List UInt8), ([] : List TA0), ([] : List (List UInt8))⟩ : TA0)], ([[98], [97]] : List (List UInt8))⟩ : TA0) (TA0.shut (h_2.mono hM_3) h_3) x_2 hx_2) fun w_7 p_17 _ f => Y f 5 fun _ f => eT (wp_ret (E_ret1 f rfl (by kernel_rfl : Vc.look _ 0 = some (.bool (decide (x_2 = (x_1.1.length : Int))))) ?_))
   obtain rfl := sI hF_4
   exact ⟨_, rfl, M_3, ((hM_1.trans hM_2).trans hM_3), (p_17.dropN 1), rfl⟩
  ·have k_3 := iff_f dI h_5
   have f := f.st 23 (cB h_5)
   refine Y f 7 fun _ f => eT (wp_ret (E_ret1 f rfl (by kernel_rfl : Vc.look _ 0 = some (.bool false)) ?_))
   obtain rfl := sI hF_5
   exact ⟨_, rfl, M_3, ((hM_1.trans hM_2).trans hM_3), (p_16.dropN 1), rfl⟩
 ·have k_4 := iff_f dI h_4
  have f := f.st 19 (cB h_4)
  refine Y f 11 fun _ f => eT (wp_ret (E_ret1 f rfl (by kernel_rfl : Vc.look _ 0 = some (.bool false)) ?_))
  obtain rfl := sI hF_6
  exact ⟨_, rfl, M_3, ((hM_1.trans hM_2).trans hM_3), (p_16.dropN 1), rfl⟩
end Go.Proofs.YtfaedhhjamaniaaGreatDoor
end

section
namespace Go.Proofs.YtfaedhhjamaniaaGreatDoor
open Go Go.Vc
theorem ws_run {n : Nat} {a s : List UInt8} {br : Bool} {d : Int} (h : a.length + s.length ≤ 10000000000000) : strings_Builder_WriteString_2 n a br d s = some ((s.length : Int), (), a ++ s, br, d) := by
 unfold strings_Builder_WriteString_2 strings_Builder_copyCheck_6 strings_Builder_copyCheck_4
 rw [bnd, need_t (by show (a.length + s.length) * 1 ≤ _; omega)]
theorem wb_run {n : Nat} {a : List UInt8} {br : Bool} {d : Int} (c : Int) (hc : 0 ≤ c ∧ c < 256) (h : a.length ≤ 10000000000000) : strings_Builder_WriteByte_2 n a br d c = some ((), a ++ [UInt8.ofNat c.toNat], br, d) := by
 unfold strings_Builder_WriteByte_2 strings_Builder_copyCheck_6 strings_Builder_copyCheck_4
 rw [bnd, need_t hc, need_t (by show (a.length + 1) * 1 ≤ _; omega)]
theorem wsL {n : Nat} {a s : List UInt8} (h : a.length + s.length ≤ 10000000000000) : strings_Builder_WriteString n a s = some ((s.length : Int), (), a ++ s) := by
 unfold strings_Builder_WriteString strings_Builder_copyCheck_3 strings_Builder_copyCheck
 rw [bnd, need_t (by omega)]
theorem wbL {n : Nat} {a : List UInt8} (c : Int) (hc : 0 ≤ c ∧ c < 256) (h : a.length ≤ 10000000000000) : strings_Builder_WriteByte n a c = some ((), a ++ [UInt8.ofNat c.toNat]) := by
 unfold strings_Builder_WriteByte strings_Builder_copyCheck_3 strings_Builder_copyCheck
 rw [bnd, need_t hc, need_t (by omega)]
theorem rep_two : ∀ d : Nat, Lib.repeatL [32, 32] d = List.replicate (2 * d) (32 : UInt8)
 | 0 => rfl
 | d + 1 => by
  rw [Lib.repeatL, rep_two d]
  have : 2 * (d + 1) = (2 * d + 1) + 1 := by omega
  rw [this, List.replicate_succ, List.replicate_succ]; rfl
theorem line_run {n : Nat} {a : List UInt8} {br : Bool} {d : Nat} (hd : d ≤ 1000) (h : a.length + (lineV br d).length ≤ 10000000000000) : print_writer_line n a br (d : Int) = some (a ++ lineV br d, br, (d : Int)) := by
 unfold print_writer_line
 cases br with
 | false => simp [lineV]
 | true =>
  have e : lineV true d = 10 :: List.replicate (2 * d) 32 := rfl
  rw [e] at h ⊢
  simp only [List.length_cons, List.length_replicate] at h
  simp only [cT]
  rw [wb_run 10 (by omega) (by omega), bnd]
  dsimp only
  unfold h_Repeat
  rw [need_t ⟨by omega, by omega, by decide⟩, bnd]
  have e2 : ((d : Int)).toNat = d := by omega
  rw [e2, rep_two, ws_run (by simp; omega), bnd]
  simp
def qtab : List (Int × Int) := mput (mput (mput (mput (mput (mput (mput ([] : List (Int × Int)) (34 : Int) (34 : Int)) (92 : Int) (92 : Int)) (8 : Int) (98 : Int)) (9 : Int) (116 : Int)) (10 : Int) (110 : Int)) (12 : Int) (102 : Int)) (13 : Int) (114 : Int)
def hexs : List UInt8 := [48, 49, 50, 51, 52, 53, 54, 55, 56, 57, 97, 98, 99, 100, 101, 102]
def okQ (i : Nat) : Bool :=
  if (mget qtab (i : Int)).isSome = true then decide (0 ≤ (mget qtab (i : Int)).getD 0 ∧ (mget qtab (i : Int)).getD 0 < 256) && decide ([92, UInt8.ofNat ((mget qtab (i : Int)).getD 0).toNat] = qb (UInt8.ofNat i))
  else if (i : Int) < 32 then decide (inR .u8 (48 + bShr .u8 (i : Int) 4)) && (decide (0 ≤ 48 + bShr .u8 (i : Int) 4 ∧ 48 + bShr .u8 (i : Int) 4 < 256) && (decide (getI hexs (bAnd .u8 (i : Int) 15) = some (hexs.getD (bAnd .u8 (i : Int) 15).toNat 0)) && decide ([92, 117, 48, 48, UInt8.ofNat (48 + bShr .u8 (i : Int) 4).toNat, UInt8.ofNat (((hexs.getD (bAnd .u8 (i : Int) 15).toNat 0).toNat : Int)).toNat] = qb (UInt8.ofNat i))))
  else decide ([UInt8.ofNat ((i : Int)).toNat] = qb (UInt8.ofNat i))
theorem okQ_all : (List.range 256).all okQ = true := by decide +kernel
theorem okQ_at (c : UInt8) : okQ c.toNat = true := List.all_eq_true.1 okQ_all _ (List.mem_range.2 c.toNat_lt)
theorem quote_loop {n : Nat} {s : List UInt8} (hs : s.length ≤ 5000) (hn : 6000 < n) : loopF (runes_Quote_s1 n s qtab) n ((0 : Int), [34]) = some (34 :: s.flatMap qb) := by
 have key := loop_all (n := n) (step := runes_Quote_s1 n s qtab) (fun k : Nat => ((k : Int), 34 :: (s.take k).flatMap qb)) s.length (34 :: s.flatMap qb) (fun k hk => ?_) ?_ (by omega)
 ·simpa using key
 ·have hfl := flat_len (s.take k)
  have htl : (s.take k).length ≤ 5000 := by rw [List.length_take]; omega
  have hi : inR .i64 ((k : Int) + 1) := inR_small (by omega) (by omega)
  have e1 : (s.take (k + 1)).flatMap qb = (s.take k).flatMap qb ++ qb (s.getD k 0) := by
   rw [List.take_add_one, List.flatMap_append]
   congr 1
   simp [List.getD, hk]
  show runes_Quote_s1 n s qtab ((k : Int), 34 :: (s.take k).flatMap qb) = some (.nx (((k + 1 : Nat) : Int), 34 :: (s.take (k + 1)).flatMap qb))
  rw [e1]
  generalize hA : (s.take k).flatMap qb = A at *
  have hAl : A.length ≤ 40000 := by omega
  have hq := okQ_at (s.getD k 0)
  unfold runes_Quote_s1
  simp only [decide_eq_true (by omega : (k : Int) < (s.length : Int)), cT, getI_at 0 hk, bnd]
  generalize s.getD k 0 = c at *
  have ec : UInt8.ofNat c.toNat = c := UInt8.ofNat_toNat
  unfold okQ at hq
  rw [ec] at hq
  by_cases h1 : (mget qtab (c.toNat : Int)).isSome = true
  ·rw [if_pos h1] at hq
   simp only [Bool.and_eq_true, decide_eq_true_eq] at hq
   rw [h1, cT, wbL 92 (by omega) (by simp; omega), bnd, wbL _ hq.1 (by simp; omega), bnd, need_t hi, ← hq.2]
   simp
  ·rw [if_neg h1] at hq
   have h1' : (mget qtab (c.toNat : Int)).isSome = false := by simpa using h1
   rw [h1', cF]
   by_cases h2 : (c.toNat : Int) < 32
   ·rw [if_pos h2] at hq
    simp only [Bool.and_eq_true, decide_eq_true_eq] at hq
    obtain ⟨q1, q2, q3, q4⟩ := hq
    rw [decide_eq_true h2, cT, wsL (by simp; omega), bnd, need_t q1, wbL _ q2 (by simp; omega), bnd]
    have q3' : getI ([48, 49, 50, 51, 52, 53, 54, 55, 56, 57, 97, 98, 99, 100, 101, 102] : List UInt8) (bAnd .u8 (c.toNat : Int) 15) = some (hexs.getD (bAnd .u8 (c.toNat : Int) 15).toNat 0) := q3
    rw [q3', bnd, wbL _ (by have := (hexs.getD (bAnd .u8 (c.toNat : Int) 15).toNat 0).toNat_lt; omega) (by simp; omega), bnd, need_t hi, ← q4]
    simp
   ·rw [if_neg h2] at hq
    simp only [decide_eq_true_eq] at hq
    rw [decide_eq_false h2, cF, wbL _ (by have := c.toNat_lt; omega) (by simp; omega), bnd, need_t hi, ← hq]
    simp
 ·show runes_Quote_s1 n s qtab ((s.length : Int), _) = _
  unfold runes_Quote_s1
  simp
theorem valid_run5 {n : Nat} {s : List UInt8} (hs : s.length ≤ 5000) : runes_Valid n s = some (Lib.validD s) := by
 unfold runes_Valid h_ValidString
 rw [need_t (by omega), bnd]
theorem Quote_run {n : Nat} {s : List UInt8} (hs : s.length ≤ 5000) (hn : 6000 < n) (hv : Lib.validD s = true) : runes_Quote n s = some (quoteV s, 0) := by
 unfold runes_Quote
 have hq := flat_len s
 rw [valid_run5 hs, bnd, hv]
 have e1 : runes_short n = some qtab := rfl
 simp only [Bool.not_true, cF, e1, bnd]
 rw [wbL 34 (by omega) (by simp), bnd]
 have e2 : ([] ++ [UInt8.ofNat (34 : Int).toNat] : List UInt8) = [34] := rfl
 rw [e2, quote_loop hs hn, bnd, wbL 34 (by omega) (by rw [List.length_cons]; omega), bnd]
 rfl
theorem quote_run {n : Nat} {a s : List UInt8} {br : Bool} {d : Int} (hs : s.length ≤ 5000) (hn : 6000 < n) (hv : Lib.validD s = true) (h : a.length + (quoteV s).length ≤ 10000000000000) : print_writer_quote n a br d s = some (a ++ quoteV s, br, d) := by
 unfold print_writer_quote
 rw [Quote_run hs hn hv, bnd, ws_run h, bnd]
theorem partsV_app (br : Bool) (d : Nat) (o : Bool) : ∀ (l m : List TA0) (ks : List (List UInt8)) (first : Bool), partsV br d o first ks (l ++ m) = partsV br d o first ks l ++ partsV br d o (first && decide (l.length = 0)) (ks.drop l.length) m
 | [], m, ks, first => by rw [partsV_nil]; simp
 | x :: l, m, ks, first => by
  rw [List.cons_append, partsV_cons, partsV_cons, partsV_app br d o l m ks.tail false]
  have e : ks.tail.drop l.length = ks.drop (x :: l).length := by
   rw [List.length_cons, ← List.drop_one, List.drop_drop, Nat.add_comm]
  rw [e, Bool.false_and, decide_eq_false (by simp : ¬ (x :: l).length = 0), Bool.and_false]
  simp only [List.append_assoc]
theorem parts_le (br : Bool) (d : Nat) (o : Bool) (l : List TA0) (ks : List (List UInt8)) (i : Nat) : (partsV br d o true ks (l.take i)).length ≤ (partsV br d o true ks l).length := by
 have h := partsV_app br d o (l.take i) (l.drop i) ks true
 rw [List.take_append_drop] at h
 rw [h, List.length_append]
 omega
theorem list_loop {n : Nat} (rec : List UInt8 → Bool → Int → TA0 → Option (List UInt8 × Bool × Int)) (v : TA0) (br : Bool) (d : Nat) (b : List UInt8) (hw : v.fList.length ≤ 3000) (hd : d ≤ 500) (hn : 6000 < n) (hL : b.length + (partsV br (d + 1) false true v.fKeys v.fList).length ≤ 10000000000000)
  (hr : ∀ x ∈ v.fList, ∀ a, a.length + (textV br (d + 1) x).length ≤ 10000000000000 → rec a br ((d + 1 : Nat) : Int) x = some (a ++ textV br (d + 1) x, br, ((d + 1 : Nat) : Int))) :
  loopF (print_writer_parts_2_s1 n rec v) n ((0 : Int), b, br, ((d + 1 : Nat) : Int)) = some (b ++ partsV br (d + 1) false true v.fKeys v.fList, br, ((d + 1 : Nat) : Int)) := by
 have key := loop_all (n := n) (step := print_writer_parts_2_s1 n rec v) (fun k : Nat => ((k : Int), b ++ partsV br (d + 1) false true v.fKeys (v.fList.take k), br, ((d + 1 : Nat) : Int))) v.fList.length (b ++ partsV br (d + 1) false true v.fKeys v.fList, br, ((d + 1 : Nat) : Int)) (fun k hk => ?_) ?_ (by omega)
 ·rw [List.take_zero, partsV_nil, List.append_nil] at key
  exact key
 ·have hi : inR .i64 ((k : Int) + 1) := inR_small (by omega) (by omega)
  have hx : v.fList[k]? = some v.fList[k] := List.getElem?_eq_getElem hk
  have hp := partsV_take br (d + 1) false v.fKeys hx
  have hle := parts_le br (d + 1) false v.fList v.fKeys (k + 1)
  rw [hp, List.length_append, List.length_append] at hle
  show print_writer_parts_2_s1 n rec v ((k : Int), b ++ partsV br (d + 1) false true v.fKeys (v.fList.take k), br, ((d + 1 : Nat) : Int)) = some (.nx (((k + 1 : Nat) : Int), b ++ partsV br (d + 1) false true v.fKeys (v.fList.take (k + 1)), br, ((d + 1 : Nat) : Int)))
  rw [hp]
  generalize hA : partsV br (d + 1) false true v.fKeys (v.fList.take k) = A at *
  have hg : getI v.fList (k : Int) = some v.fList[k] := by
   unfold getI
   rw [if_pos (by omega)]
   simp
  have hll : (leadV br (d + 1) false (decide (k = 0)) (v.fKeys.getD k [])).length = (if decide (k = 0) = true then ([] : List UInt8) else [44]).length + (lineV br (d + 1)).length := by
   unfold leadV headV
   simp
  unfold print_writer_parts_2_s1 print_writer_list_1
  simp only [decide_eq_true (by omega : (k : Int) < ((v.fList.length : Nat) : Int)), cT]
  have e1 : (bif decide ((0 : Int) < (k : Int)) then ((strings_Builder_WriteByte_2 n (b ++ A) br ((d + 1 : Nat) : Int) (44 : Int)).bind fun x_2 => some ((x_2.2.1, (x_2.2.2.1), x_2.2.2.2))) else some ((b ++ A, br, ((d + 1 : Nat) : Int))) : Option (List UInt8 × Bool × Int)) = some (b ++ A ++ (if decide (k = 0) = true then [] else [44]), br, ((d + 1 : Nat) : Int)) := by
   by_cases h0 : k = 0
   ·subst h0; simp
   ·rw [decide_eq_true (by omega : (0 : Int) < (k : Int)), cT, wb_run 44 (by omega) (by simp; omega), bnd, if_neg (by simpa using h0)]; rfl
  rw [e1, bnd, line_run (by omega) (by simp only [List.length_append]; omega), bnd, bnd, hg, bnd, hr _ (List.getElem_mem hk) _ (by simp only [List.length_append]; omega), bnd, need_t hi]
  congr 3
  unfold leadV headV
  simp
 ·show print_writer_parts_2_s1 n rec v ((v.fList.length : Int), _) = _
  unfold print_writer_parts_2_s1
  simp
theorem object_loop {n : Nat} (rec : List UInt8 → Bool → Int → TA0 → Option (List UInt8 × Bool × Int)) (v : TA0) (br : Bool) (d : Nat) (b : List UInt8) (hw : v.fList.length ≤ 3000) (hd : d ≤ 500) (hn : 6000 < n) (hL : b.length + (partsV br (d + 1) true true v.fKeys v.fList).length ≤ 10000000000000)
  (hk : v.fKeys.length = v.fList.length) (hkk : ∀ k ∈ v.fKeys, k.length ≤ 5000 ∧ Lib.validD k = true)
  (hr : ∀ x ∈ v.fList, ∀ a, a.length + (textV br (d + 1) x).length ≤ 10000000000000 → rec a br ((d + 1 : Nat) : Int) x = some (a ++ textV br (d + 1) x, br, ((d + 1 : Nat) : Int))) :
  loopF (print_writer_parts_s1 n rec v v) n ((0 : Int), b, br, ((d + 1 : Nat) : Int)) = some (b ++ partsV br (d + 1) true true v.fKeys v.fList, br, ((d + 1 : Nat) : Int)) := by
 have key := loop_all (n := n) (step := print_writer_parts_s1 n rec v v) (fun k : Nat => ((k : Int), b ++ partsV br (d + 1) true true v.fKeys (v.fList.take k), br, ((d + 1 : Nat) : Int))) v.fList.length (b ++ partsV br (d + 1) true true v.fKeys v.fList, br, ((d + 1 : Nat) : Int)) (fun k hk' => ?_) ?_ (by omega)
 ·rw [List.take_zero, partsV_nil, List.append_nil] at key
  exact key
 ·have hi : inR .i64 ((k : Int) + 1) := inR_small (by omega) (by omega)
  have hx : v.fList[k]? = some v.fList[k] := List.getElem?_eq_getElem hk'
  have hp := partsV_take br (d + 1) true v.fKeys hx
  have hle := parts_le br (d + 1) true v.fList v.fKeys (k + 1)
  rw [hp, List.length_append, List.length_append] at hle
  have hkey : v.fKeys.getD k [] ∈ v.fKeys := by
   have : k < v.fKeys.length := by omega
   simp [List.getD, this]
  have hkq := hkk _ hkey
  show print_writer_parts_s1 n rec v v ((k : Int), b ++ partsV br (d + 1) true true v.fKeys (v.fList.take k), br, ((d + 1 : Nat) : Int)) = some (.nx (((k + 1 : Nat) : Int), b ++ partsV br (d + 1) true true v.fKeys (v.fList.take (k + 1)), br, ((d + 1 : Nat) : Int)))
  rw [hp]
  generalize hA : partsV br (d + 1) true true v.fKeys (v.fList.take k) = A at *
  have hg : getI v.fList (k : Int) = some v.fList[k] := by
   unfold getI
   rw [if_pos (by omega)]
   simp
  have hgk : getI v.fKeys (k : Int) = some (v.fKeys.getD k []) := getI_at [] (by omega)
  have hll : (leadV br (d + 1) true (decide (k = 0)) (v.fKeys.getD k [])).length = (if decide (k = 0) = true then ([] : List UInt8) else [44]).length + (lineV br (d + 1)).length + (quoteV (v.fKeys.getD k [])).length + 1 + (if br = true then ([32] : List UInt8) else []).length := by
   unfold leadV headV
   simp only [if_pos, List.length_append, List.length_cons]
   omega
  unfold print_writer_parts_s1
  simp only [decide_eq_true (by omega : (k : Int) < ((v.fList.length : Nat) : Int)), cT]
  have e1 : (bif decide ((0 : Int) < (k : Int)) then ((strings_Builder_WriteByte_2 n (b ++ A) br ((d + 1 : Nat) : Int) (44 : Int)).bind fun x_2 => some ((x_2.2.1, (x_2.2.2.1), x_2.2.2.2))) else some ((b ++ A, br, ((d + 1 : Nat) : Int))) : Option (List UInt8 × Bool × Int)) = some (b ++ A ++ (if decide (k = 0) = true then [] else [44]), br, ((d + 1 : Nat) : Int)) := by
   by_cases h0 : k = 0
   ·subst h0; simp
   ·rw [decide_eq_true (by omega : (0 : Int) < (k : Int)), cT, wb_run 44 (by omega) (by simp; omega), bnd, if_neg (by simpa using h0)]; rfl
  have e2 : ∀ a : List UInt8, a.length + (quoteV (v.fKeys.getD k [])).length + 1 + (if br = true then ([32] : List UInt8) else []).length ≤ 10000000000000 → print_writer_object_1 n (k : Int) a br ((d + 1 : Nat) : Int) v = some (a ++ headV br true (v.fKeys.getD k []), br, ((d + 1 : Nat) : Int)) := fun a ha => by
   unfold print_writer_object_1
   rw [hgk, bnd, quote_run hkq.1 hn hkq.2 (by omega), bnd, wb_run 58 (by omega) (by simp only [List.length_append]; omega), bnd]
   cases br with
   | false => simp [headV]
   | true =>
    simp only [cT]
    rw [wb_run 32 (by omega) (by simp only [List.length_append, List.length_cons, List.length_nil, if_pos] at ha ⊢; omega), bnd]
    simp [headV]
  rw [e1, bnd, line_run (by omega) (by simp only [List.length_append]; omega), bnd, e2 _ (by simp only [List.length_append]; omega), bnd, hg, bnd, hr _ (List.getElem_mem hk') _ (by
   have e5 : (headV br true (v.fKeys.getD k [])).length = (quoteV (v.fKeys.getD k [])).length + 1 + (if br = true then ([32] : List UInt8) else []).length := by
    unfold headV
    simp only [if_pos, List.length_append, List.length_cons]
    omega
   simp only [List.length_append]; omega), bnd, need_t hi]
  congr 3
  unfold leadV
  simp only [List.append_assoc]
 ·show print_writer_parts_s1 n rec v v ((v.fList.length : Int), _) = _
  unfold print_writer_parts_s1
  simp
theorem value_run {n : Nat} (hn : 6000 < n) : ∀ (m k d : Nat) (v : TA0) (b : List UInt8) (br : Bool), m ≤ k → Small m v → OkV v → d + m ≤ 100 → b.length + (textV br d v).length ≤ 10000000000000 → print_writer_value_k n k b br (d : Int) v = some (b ++ textV br d v, br, (d : Int))
 | 0, _, _, _, _, _, _, h, _, _, _ => h.elim
 | m + 1, 0, _, _, _, _, hk, _, _, _, _ => absurd hk (by omega)
 | m + 1, k + 1, d, v, b, br, hk, hs, hv, hd, hL => by
  obtain ⟨hp, hno, hto, -⟩ := alone_ok (OkV_iff.1 hv).1
  have hw := hs.wide
  have h0 := hp.1
  have h5 := hp.2.1
  have hrec : ∀ x ∈ v.fList, ∀ a : List UInt8, a.length + (textV br (d + 1) x).length ≤ 10000000000000 → print_writer_value_k n k a br ((d + 1 : Nat) : Int) x = some (a ++ textV br (d + 1) x, br, ((d + 1 : Nat) : Int)) :=
   fun x hx a ha => value_run hn m k (d + 1) x a br (by omega) (hs.2.2.2.2 x hx) (hv.part hx) (by omega) ha
  have hd1 : inR .i64 ((d : Int) + 1) := inR_small (by omega) (by omega)
  have hd2 : inR .i64 (((d + 1 : Nat) : Int) - 1) := inR_small (by omega) (by omega)
  have ed : (((d + 1 : Nat) : Int) - 1) = (d : Int) := by omega
  have ed2 : ((d : Int) + 1) = ((d + 1 : Nat) : Int) := by omega
  rw [textV_eq] at hL ⊢
  show print_writer_value_b n (print_writer_value_k n k) b br (d : Int) v = _
  unfold print_writer_value_b
  rw [need_t (by omega)]
  by_cases k0 : v.fKind = 0
  ·rw [decide_eq_true k0, cT]
   have n1 : ¬ v.fKind = 1 := by omega
   have n2 : ¬ v.fKind = 2 := by omega
   have n3 : ¬ v.fKind = 3 := by omega
   have n4 : ¬ v.fKind = 4 := by omega
   have n5 : ¬ v.fKind = 5 := by omega
   rw [if_neg n1, if_neg n2, if_neg n3, if_neg n4, if_neg n5] at hL ⊢
   unfold print_writer_null
   rw [ws_run hL, bnd, bnd]
  ·rw [decide_eq_false k0, cF]
   by_cases k1 : v.fKind = 1
   ·rw [if_pos k1] at hL ⊢
    rw [decide_eq_true k1, cT]
    unfold print_writer_bool
    cases hb : v.fBool with
    | true =>
     rw [hb, if_pos rfl] at hL
     rw [cT, if_pos rfl, ws_run hL, bnd, bnd]
    | false =>
     rw [hb, if_neg (by simp)] at hL
     rw [cF, if_neg (by simp), ws_run hL, bnd, bnd]
   ·rw [if_neg k1] at hL ⊢
    rw [decide_eq_false k1, cF]
    by_cases k2 : v.fKind = 2
    ·rw [if_pos k2] at hL ⊢
     rw [decide_eq_true k2, cT]
     unfold print_writer_number h_numText
     have e3 : (Go.Num.text v.fNum).1 = numB v.fNum := rfl
     rw [bnd, e3, ws_run hL, bnd, bnd]
    ·rw [if_neg k2] at hL ⊢
     rw [decide_eq_false k2, cF]
     by_cases k3 : v.fKind = 3
     ·rw [if_pos k3] at hL ⊢
      rw [decide_eq_true k3, cT]
      unfold print_writer_text
      rw [quote_run hw.2.2.1 hn hto.1 hL, bnd, bnd]
     ·rw [if_neg k3] at hL ⊢
      rw [decide_eq_false k3, cF]
      by_cases k4 : v.fKind = 4
      ·rw [if_pos k4] at hL ⊢
       rw [decide_eq_true k4, cT]
       simp only [List.length_cons, List.length_append, List.length_nil] at hL
       unfold print_writer_list_2 print_writer_parts_2
       rw [wb_run 91 (by omega) (by omega), bnd, need_t hd1, ed2]
       simp only []
       rw [list_loop (print_writer_value_k n k) v br d _ hw.1 (by omega) hn (by simp only [List.length_append, List.length_cons, List.length_nil]; omega) hrec, bnd, need_t hd2, ed]
       have e9 : ∀ a : List UInt8, a.length + (if v.fList.length = 0 then ([] : List UInt8) else lineV br d).length ≤ 10000000000000 → (bif decide ((0 : Int) < ((v.fList.length : Nat) : Int)) then ((print_writer_line n a br (d : Int)).bind fun x_7 => some ((x_7.1, (x_7.2.1), x_7.2.2))) else some ((a, br, (d : Int))) : Option (List UInt8 × Bool × Int)) = some (a ++ (if v.fList.length = 0 then [] else lineV br d), br, (d : Int)) := fun a ha => by
        by_cases hz : v.fList.length = 0
        ·rw [decide_eq_false (by omega), cF, if_pos hz, List.append_nil]
        ·rw [if_neg hz] at ha ⊢
         rw [decide_eq_true (by omega), cT, line_run (by omega) ha, bnd]
       rw [e9 _ (by simp only [List.length_append, List.length_cons, List.length_nil]; omega), bnd, wb_run 93 (by omega) (by simp only [List.length_append, List.length_cons, List.length_nil]; omega), bnd, bnd, bnd]
       simp
      ·rw [if_neg k4] at hL ⊢
       have k5 : v.fKind = 5 := by omega
       rw [if_pos k5] at hL ⊢
       rw [decide_eq_false k4, cF]
       simp only [List.length_cons, List.length_append, List.length_nil] at hL
       unfold print_writer_object print_writer_parts
       rw [wb_run 123 (by omega) (by omega), bnd, need_t hd1, ed2]
       simp only []
       rw [object_loop (print_writer_value_k n k) v br d _ hw.1 (by omega) hn (by simp only [List.length_append, List.length_cons, List.length_nil]; omega) (plain_len hp k5) (fun q hq => ⟨hw.2.2.2 q hq, hto.2 q hq⟩) hrec, bnd, need_t hd2, ed]
       have e9 : ∀ a : List UInt8, a.length + (if v.fList.length = 0 then ([] : List UInt8) else lineV br d).length ≤ 10000000000000 → (bif decide ((0 : Int) < ((v.fList.length : Nat) : Int)) then ((print_writer_line n a br (d : Int)).bind fun x_7 => some ((x_7.1, (x_7.2.1), x_7.2.2))) else some ((a, br, (d : Int))) : Option (List UInt8 × Bool × Int)) = some (a ++ (if v.fList.length = 0 then [] else lineV br d), br, (d : Int)) := fun a ha => by
        by_cases hz : v.fList.length = 0
        ·rw [decide_eq_false (by omega), cF, if_pos hz, List.append_nil]
        ·rw [if_neg hz] at ha ⊢
         rw [decide_eq_true (by omega), cT, line_run (by omega) ha, bnd]
       rw [e9 _ (by simp only [List.length_append, List.length_cons, List.length_nil]; omega), bnd, wb_run 125 (by omega) (by simp only [List.length_append, List.length_cons, List.length_nil]; omega), bnd, bnd, bnd]
       simp
def printV (br : Bool) (v : TA0) : List UInt8 × Int :=
  if checkV v = 0 then (if 32768 < (textV br 0 (sortV v)).length then ([], 3) else (textV br 0 (sortV v), 0)) else ([], checkV v)
theorem text_run {n : Nat} (hn : 6000 < n) {v : TA0} (h : Fine v) (br : Bool) : print_text n v br = some (printV br v) := by
 unfold print_text printV
 rw [check_run hn h, bnd]
 by_cases hc : checkV v = 0
 ·have hok := (checkV_ok hc).1
  have hf := h.sort hok
  have hl := text_len_gen br 60 0 (sortV v) hf.small (by omega)
  have hfew := hf.few
  rw [decide_eq_true hc, if_pos hc]
  simp only [Bool.not_true, cF]
  have e1 : sortedV v = sortV v := by unfold sortedV; rw [if_pos hc]
  rw [Sorted_run hn h, bnd, e1]
  unfold print_writer_value
  have e2 : ((0 : Nat) : Int) = 0 := rfl
  rw [← e2, value_run hn 60 n 0 (sortV v) [] br (by omega) hf.small hok.sort (by omega) (by simp only [List.length_nil]; omega), bnd]
  unfold strings_Builder_Len strings_Builder_String_2
  simp only [List.nil_append, bnd]
  by_cases hlong : 32768 < (textV br 0 (sortV v)).length
  ·rw [decide_eq_true (by omega), cT, if_pos hlong]
  ·rw [decide_eq_false (by omega), cF, if_neg hlong]
 ·rw [decide_eq_false hc, if_neg hc]
  simp only [Bool.not_false, cT]
theorem Print_run {n : Nat} (hn : 6000 < n) {v : TA0} (h : Fine v) : print_Print n v = some (printV false v) := by
 unfold print_Print
 rw [text_run hn h, bnd]
theorem Broad_run {n : Nat} (hn : 6000 < n) {v : TA0} (h : Fine v) : print_Broad n v = some (printV true v) := by
 unfold print_Broad
 rw [text_run hn h, bnd]
theorem Len_run {n : Nat} (hn : 6000 < n) {v : TA0} (h : Fine v) : print_Len n v = some ((printV false v).1.length : Int) := by
 unfold print_Len
 rw [Print_run hn h, bnd]
theorem wakes5 : law05_wakes 10000 = some true := by decide +kernel
theorem text_short : ∀ (m d e : Nat) (v : TA0), SizeOf.sizeOf v < m → textV false d v = textV false e v
 | 0, _, _, _, h => absurd h (Nat.not_lt_zero _)
 | m + 1, d, e, v, hm => by
  have parts : ∀ (l : List TA0) (o first : Bool) (ks : List (List UInt8)), (∀ x ∈ l, SizeOf.sizeOf x < m) → partsV false (d + 1) o first ks l = partsV false (e + 1) o first ks l := by
   intro l
   induction l with
   | nil => intro o first ks _; rw [partsV_nil, partsV_nil]
   | cons x r ih =>
    intro o first ks h
    rw [partsV_cons, partsV_cons, ih o false ks.tail (fun y hy => h y (List.mem_cons_of_mem _ hy)), text_short m (d + 1) (e + 1) x (h x List.mem_cons_self)]
    rfl
  have hsz : ∀ x ∈ v.fList, SizeOf.sizeOf x < m := fun x hx => by
   have h1 := part_small hx
   omega
  rw [textV_eq, textV_eq, parts v.fList false true v.fKeys hsz, parts v.fList true true v.fKeys hsz]
  rfl
theorem text_flat (d e : Nat) (v : TA0) : textV false d v = textV false e v := text_short _ d e v (Nat.lt_succ_self _)
end Go.Proofs.YtfaedhhjamaniaaGreatDoor
end

section
namespace Go.Proofs.YtfaedhhjamaniaaGreatDoor
open Go Go.Vc Go.RowKit
def ref03_sorted_s2 (n : Nat) (d0 : TA0) (s_1 : Int × List TA0 × List (List UInt8)) (s_2 : Int) : Option (Lp Int Int) :=
    bif (decide (s_2 < ((s_1.2.2.length : Nat) : Int))) then
      ((getI s_1.2.2 s_2).bind fun x_3 =>
      (getI d0.fKeys s_1.1).bind fun x_4 =>
      bif (Op.bytesLess x_3 x_4) then
        (need (inR .i64 (s_2 + 1)) <|
        some (.nx (s_2 + 1)))
      else
        some (.br s_2))
    else
      some (.br s_2)
def ref03_sorted_s1 (n : Nat) (rec_ref03_sorted : TA0 → Option TA0) (d0 : TA0) (s_1 : Int × List TA0 × List (List UInt8)) : Option (Lp (Int × List TA0 × List (List UInt8)) (List TA0 × List (List UInt8))) :=
    bif (decide (s_1.1 < ((d0.fList.length : Nat) : Int))) then
      ((getI d0.fList s_1.1).bind fun x_1 =>
      (rec_ref03_sorted x_1).bind fun x_2 =>
      bif (decide (d0.fKind = 4)) then
        (need ((s_1.2.1.length + 1) * 80 ≤ 140737488355328) <|
        need (inR .i64 (s_1.1 + 1)) <|
        some (.nx (s_1.1 + 1, s_1.2.1 ++ [(⟨x_2.fKind, (x_2.fBool), x_2.fNum, x_2.fText, x_2.fList, x_2.fKeys⟩ : TA0)], s_1.2.2)))
      else
        (loopF (ref03_sorted_s2 n d0 s_1) n (0 : Int)).bind fun y_1 =>
        need (0 ≤ y_1 ∧ y_1 ≤ (s_1.2.2.length : Int)) <|
        need ((([] : List (List UInt8)).length + (s_1.2.2.length - y_1.toNat)) * 16 ≤ 140737488355328) <|
        need (0 ≤ y_1 ∧ y_1 ≤ (s_1.2.1.length : Int)) <|
        need ((([] : List TA0).length + (s_1.2.1.length - y_1.toNat)) * 80 ≤ 140737488355328) <|
        (((getI d0.fKeys s_1.1).bind fun x_5 =>
          need (0 ≤ y_1 ∧ y_1 ≤ (s_1.2.2.length : Int)) <|
          need (((s_1.2.2.take y_1.toNat).length + 1) * 16 ≤ 140737488355328) <|
          need ((((s_1.2.2.take y_1.toNat) ++ [x_5]).length + (([] : List (List UInt8)) ++ (s_1.2.2.take s_1.2.2.length).drop y_1.toNat).length) * 16 ≤ 140737488355328) <|
          some (((s_1.2.2.take y_1.toNat) ++ [x_5]) ++ (([] : List (List UInt8)) ++ (s_1.2.2.take s_1.2.2.length).drop y_1.toNat)) : Option (List (List UInt8)))).bind fun y_2 =>
        ((need (0 ≤ y_1 ∧ y_1 ≤ (s_1.2.1.length : Int)) <|
          need (((s_1.2.1.take y_1.toNat).length + 1) * 80 ≤ 140737488355328) <|
          need ((((s_1.2.1.take y_1.toNat) ++ [(⟨x_2.fKind, (x_2.fBool), x_2.fNum, x_2.fText, x_2.fList, x_2.fKeys⟩ : TA0)]).length + (([] : List TA0) ++ (s_1.2.1.take s_1.2.1.length).drop y_1.toNat).length) * 80 ≤ 140737488355328) <|
          some (((s_1.2.1.take y_1.toNat) ++ [(⟨x_2.fKind, (x_2.fBool), x_2.fNum, x_2.fText, x_2.fList, x_2.fKeys⟩ : TA0)]) ++ (([] : List TA0) ++ (s_1.2.1.take s_1.2.1.length).drop y_1.toNat)) : Option (List TA0))).bind fun y_3 =>
        need (inR .i64 (s_1.1 + 1)) <|
        some (.nx (s_1.1 + 1, y_3, y_2)))
    else
      some (.br (s_1.2.1, s_1.2.2))
def ref03_sorted_b (n : Nat) (rec_ref03_sorted : TA0 → Option TA0) (d0 : TA0) : Option TA0 :=
  (loopF (ref03_sorted_s1 n rec_ref03_sorted d0) n ((0 : Int), ([] : List TA0), ([] : List (List UInt8)))).bind fun y_4 =>
  some ((⟨d0.fKind, (d0.fBool), d0.fNum, d0.fText, y_4.1, y_4.2⟩ : TA0))
set_option maxRecDepth 20000 in
theorem ref03_sorted_b_ok (n : Nat) (rec_ref03_sorted : TA0 → Option TA0) (hrec_ref03_sorted : ∀ (M : Mem) (c0 : List Value) (d0 : TA0) (h0 : Rep M (emb_TA0 d0) c0) (r : TA0) (hF : rec_ref03_sorted d0 = some r), Ok Tryz.prog M 33 [.agg c0.toArray] (fun M' v => ∃ (c0 : List Value), v = .agg c0.toArray ∧ Rep M' (emb_TA0 r) c0)) (M : Mem) (c0 : List Value) (d0 : TA0) (h0 : Rep M (emb_TA0 d0) c0) (r : TA0) (hF : ref03_sorted_b n rec_ref03_sorted d0 = some r) : Ok Tryz.prog M 33 [.agg c0.toArray] (fun M' v => ∃ (c0 : List Value), v = .agg c0.toArray ∧ Rep M' (emb_TA0 r) c0) := by
 unfold ref03_sorted_b at hF
 intro M1 hM0 w0 H w p0
 replace h0 := Rep.mono hM0 _ _ h0
 obtain ⟨A_1, cap_1, A_2, cap_2, rfl, h_1, h_2⟩ := TA0.opn h0
 refine R_enter 97 Tryz.func33 rfl rfl (by simp) fun a0 f0 => RR (Y12 (cs := #[.int .i8 d0.fKind, .bool d0.fBool, .int .i64 d0.fNum, S d0.fText, .slice A_1 d0.fList.length cap_1, .slice A_2 d0.fKeys.length cap_2]) (T := 26) f0 p0 fun b_1 M_1 w_1 hM_1 hc_1 p_1 _ f => ?_)
 have hc_2 := fz_box hc_1
 refine Y11 f p_1 (.cells #[.int .i8 0, .bool false, .int .i64 0, S [], .slice none 0 0, .slice none 0 0] 26 (0, 0)) fun b_2 w_2 p_2 _ f => eT (RR (Y f 1 fun _ f => Y14 f p_2 hc_2 0 rfl fun _ f => Y f 1 fun _ f => Y14 f p_2 hc_2 1 rfl fun _ f => Y f 1 fun _ f => Y14 f p_2 hc_2 2 rfl fun _ f => Y f 1 fun _ f => Y14 f p_2 hc_2 3 rfl fun _ f => Y f 1 fun _ f => ?_))
 refine Y11 f p_2 (.cells #[.int .i8 0, .bool false, .int .i64 0, S [], .slice none 0 0, .slice none 0 0] 26 (0, 0)) fun b_3 w_3 p_3 _ f => Y27 (vs := [.int .i8 d0.fKind, .bool d0.fBool, .int .i64 d0.fNum, S d0.fText, .slice none 0 0, .slice none 0 0]) (j := 0) f p_3 rfl rfl (by simp [Value.oneCell', S]) (by simp) (by decide) (cs' := #[.int .i8 d0.fKind, .bool d0.fBool, .int .i64 d0.fNum, S d0.fText, .slice none 0 0, .slice none 0 0]) fun w_4 p_4 _ f => eT (R_seq (RR (Y f 1 fun _ f => eT (wp_block ?_))))
 obtain ⟨A_3, cap_3, hv_1⟩ : ∃ A cap, Value.slice none 0 0 = .slice A ([] : List TA0).length cap := ⟨none, 0, rfl⟩
 have p_5 : Hp w0 M_1 ((Ent.row 26 6 (.slice A_3 ([] : List TA0).length cap_3) ([] : List TA0).length []) :: (Ent.obj b_3 (.cells #[.int .i8 d0.fKind, .bool d0.fBool, .int .i64 d0.fNum, S d0.fText, .slice A_3 ([] : List TA0).length cap_3, .slice none 0 0] 26 (0, 0))) :: (Ent.obj b_2 (.cells #[.int .i8 0, .bool false, .int .i64 0, S [], .slice none 0 0, .slice none 0 0] 26 (0, 0))) :: H) w_4 := by rw [← hv_1]; exact p_4.nilRow 26 6
 have hr_1 : RepSeq M_1 (([] : List TA0).map emb_TA0) [] := rfl
 obtain ⟨A_4, cap_4, hv_2⟩ : ∃ A cap, Value.slice none 0 0 = .slice A ([] : List (List UInt8)).length cap := ⟨none, 0, rfl⟩
 have p_6 : Hp w0 M_1 ((Ent.row 9 1 (.slice A_4 ([] : List (List UInt8)).length cap_4) ([] : List (List UInt8)).length []) :: (Ent.row 26 6 (.slice A_3 ([] : List TA0).length cap_3) ([] : List TA0).length []) :: (Ent.obj b_3 (.cells #[.int .i8 d0.fKind, .bool d0.fBool, .int .i64 d0.fNum, S d0.fText, .slice A_3 ([] : List TA0).length cap_3, .slice A_4 ([] : List (List UInt8)).length cap_4] 26 (0, 0))) :: (Ent.obj b_2 (.cells #[.int .i8 0, .bool false, .int .i64 0, S [], .slice none 0 0, .slice none 0 0] 26 (0, 0))) :: H) w_4 := by rw [← hv_2]; exact p_5.nilRow 9 1
 have hr_2 : RepSeq M_1 (([] : List (List UInt8)).map Dat.str) [] := rfl
 have p_10 := p_6.pl [3, 3, 2, 3]
 obtain ⟨b_4, hL_1, hF_1⟩ := bS hF
 refine wp_mono (Q := fun e a w => (e = .exit 0 ∧ (∃ y_4 : List TA0 × List (List UInt8), b_4 = y_4 ∧ ∃ M_14 : Mem, M_1.le M_14 ∧ ∃ (A_44 : Option Addr), ∃ (cap_45 : Nat), ∃ (cs_20 : List Value), ∃ (A_45 : Option Addr), ∃ (cap_46 : Nat), ∃ (cs_21 : List Value), RepSeq M_14 (y_4.1.map emb_TA0) cs_20 ∧ RepSeq M_14 (y_4.2.map Dat.str) cs_21 ∧ Frm 97 [(2, .pointer (some (⟨b_2, 0, none⟩))), (3, .pointer (some (⟨b_3, 0, none⟩)))] a ∧ Hp w0 M_14 ((Ent.row 26 6 (.slice A_44 y_4.1.length cap_45) y_4.1.length cs_20) :: (Ent.row 9 1 (.slice A_45 y_4.2.length cap_46) y_4.2.length cs_21) :: (Ent.obj b_3 (.cells #[.int .i8 d0.fKind, .bool d0.fBool, .int .i64 d0.fNum, S d0.fText, .slice A_44 y_4.1.length cap_45, .slice A_45 y_4.2.length cap_46] 26 (0, 0))) :: (Ent.obj b_2 (.cells #[.int .i8 0, .bool false, .int .i64 0, S [], .slice none 0 0, .slice none 0 0] 26 (0, 0))) :: H) w))) (R_loop (n := 97) (w0 := w0) (M := M_1) (fun (x : Nat × (Int × List TA0 × List (List UInt8)) × (Option Addr) × Nat × (List Value) × (Option Addr) × Nat × (List Value)) => match x with | (m_1, s_1, A_5, cap_5, cs_1, A_6, cap_6, cs_2) => [(1, .pointer (some (⟨b_1, 0, none⟩))), (2, .pointer (some (⟨b_2, 0, none⟩))), (3, .pointer (some (⟨b_3, 0, none⟩))), (4, .int .i64 s_1.1)]) (fun (x : Nat × (Int × List TA0 × List (List UInt8)) × (Option Addr) × Nat × (List Value) × (Option Addr) × Nat × (List Value)) => match x with | (m_1, s_1, A_5, cap_5, cs_1, A_6, cap_6, cs_2) => ((Ent.row 26 6 (.slice A_5 s_1.2.1.length cap_5) s_1.2.1.length cs_1) :: (Ent.row 9 1 (.slice A_6 s_1.2.2.length cap_6) s_1.2.2.length cs_2) :: (Ent.obj b_3 (.cells #[.int .i8 d0.fKind, .bool d0.fBool, .int .i64 d0.fNum, S d0.fText, .slice A_5 s_1.2.1.length cap_5, .slice A_6 s_1.2.2.length cap_6] 26 (0, 0))) :: (Ent.obj b_2 (.cells #[.int .i8 0, .bool false, .int .i64 0, S [], .slice none 0 0, .slice none 0 0] 26 (0, 0))) :: H)) (fun (x : Nat × (Int × List TA0 × List (List UInt8)) × (Option Addr) × Nat × (List Value) × (Option Addr) × Nat × (List Value)) (MM : Mem) => match x with | (m_1, s_1, A_5, cap_5, cs_1, A_6, cap_6, cs_2) => loopF (ref03_sorted_s1 n rec_ref03_sorted d0) m_1 s_1 = some b_4 ∧ RepSeq MM (s_1.2.1.map emb_TA0) cs_1 ∧ RepSeq MM (s_1.2.2.map Dat.str) cs_2) (fun (x : Nat × (Int × List TA0 × List (List UInt8)) × (Option Addr) × Nat × (List Value) × (Option Addr) × Nat × (List Value)) => match x with | (m_1, s_1, A_5, cap_5, cs_1, A_6, cap_6, cs_2) => m_1) (n, ((0 : Int), ([] : List TA0), ([] : List (List UInt8))), A_3, cap_3, [], A_4, cap_4, []) (f.kp) p_10 ⟨hL_1, hr_1, hr_2⟩ ?_) ?_
 ·rintro ⟨m_1, s_1, A_5, cap_5, cs_1, A_6, cap_6, cs_2⟩ M_2 _ w_5 hM_2 I_1 f p_11
  obtain ⟨I_1L, hr_3, hr_4⟩ := I_1
  obtain ⟨m_2, r_1, rfl, hs_1, hn_1⟩ := loop_step I_1L
  unfold ref03_sorted_s1 at hs_1
  refine R_seq (RR (Y f 2 fun _ f => Y14 f p_11 (fzu hM_2 hc_2) 4 rfl fun _ f => Y f 2 fun _ f => eT (RcF f hs_1 (fun h_3 hF_2 => ?_) fun h_3 hF_31 => ?_)))
  ·have k_1 := dI.1 h_3
   refine wp_skip (T_n (R_seq (wp_block (RR (Y f 1 fun _ f => Y14 f p_11 (fzu hM_2 hc_2) 4 rfl fun _ f => Y f 1 fun _ f => ?_)))))
   obtain ⟨x_1, hx_1, hF_3⟩ := bS hF_2
   obtain ⟨ad_1, c_1, e_1, -, hr_5, hc_3⟩ := Sli.at_ (h_1.mono (hM_1.trans hM_2)) hx_1
   obtain ⟨A_7, cap_7, A_8, cap_8, rfl, h_4, h_5⟩ := TA0.opn hr_5
   refine Z f (Y30 e_1 rfl (len := d0.fList.length) (cap := cap_1) (k := .i64) (i := s_1.1) (e := 26) (sz := 6) (getI_nn hx_1) (getI_lt hx_1)) fun _ f => Z (v := .agg #[.int .i8 x_1.fKind, .bool x_1.fBool, .int .i64 x_1.fNum, S x_1.fText, .slice A_7 x_1.fList.length cap_7, .slice A_8 x_1.fKeys.length cap_8]) f (Y32 (cs := [.int .i8 x_1.fKind, .bool x_1.fBool, .int .i64 x_1.fNum, S x_1.fText, .slice A_7 x_1.fList.length cap_7, .slice A_8 x_1.fKeys.length cap_8]) rfl (ad := ad_1.add (s_1.1.toNat * 6)) (fun j v h => p_11.cell (hc_3 j v h))) fun _ f => ?_
   obtain ⟨x_2, hx_2, hF_4⟩ := bS hF_3
   refine Y15 f p_11 (hrec_ref03_sorted _ _ x_1 (TA0.shutx (x := x_1) h_4 h_5) x_2 hx_2) fun _ M_3 w_6 hM_3 p_12 q_1 _ f => ?_
   obtain ⟨c_2, rfl, hr_6⟩ := q_1
   obtain ⟨A_9, cap_9, A_10, cap_10, rfl, h_6, h_7⟩ := TA0.opn hr_6
   refine Y11 f p_12 (.cells #[.int .i8 0, .bool false, .int .i64 0, S [], .slice none 0 0, .slice none 0 0] 26 (0, 0)) fun b_5 w_7 p_13 _ f => Y27 (vs := [.int .i8 x_2.fKind, .bool x_2.fBool, .int .i64 x_2.fNum, S x_2.fText, .slice A_9 x_2.fList.length cap_9, .slice A_10 x_2.fKeys.length cap_10]) (j := 0) f p_13 rfl rfl (by simp [Value.oneCell', S]) (by simp) (by decide) (cs' := #[.int .i8 x_2.fKind, .bool x_2.fBool, .int .i64 x_2.fNum, S x_2.fText, .slice A_9 x_2.fList.length cap_9, .slice A_10 x_2.fKeys.length cap_10]) fun w_8 p_14 _ f => eT (R_seq (RR (Y f 1 fun _ f => Y14 f p_14 (fzu (hM_2.trans hM_3) hc_2) 0 rfl fun _ f => Y f 1 fun _ f => eT (RcF f hF_4 (fun h_8 hF_5 => ?_) fun h_8 hF_8 => ?_))))
   ·have k_2 := dI.1 h_8
    refine RR (Y f 1 fun _ f => Z f (Y31 (v := .slice A_5 s_1.2.1.length cap_5) rfl (ad := ⟨b_3, 4, none⟩) (p_14.ownCell 3 rfl 4)) fun _ f => Z (v := .agg #[.int .i8 x_2.fKind, .bool x_2.fBool, .int .i64 x_2.fNum, S x_2.fText, .slice A_9 x_2.fList.length cap_9, .slice A_10 x_2.fKeys.length cap_10]) f (Y32 (cs := [.int .i8 x_2.fKind, .bool x_2.fBool, .int .i64 x_2.fNum, S x_2.fText, .slice A_9 x_2.fList.length cap_9, .slice A_10 x_2.fKeys.length cap_10]) rfl (ad := ⟨b_5, 0, none⟩) (own_cells (p_14.ownCell 0 rfl) 0 rfl)) fun _ f => V_allocS (k := 1) (c := 1) f p_14 (.cells #[.int .i8 x_2.fKind, .bool x_2.fBool, .int .i64 x_2.fNum, S x_2.fText, .slice A_9 x_2.fList.length cap_9, .slice A_10 x_2.fKeys.length cap_10] 26 (0, 0)) (by kernel_rfl) (fun _ => by kernel_rfl) fun b_6 w_9 p_15 _ f => ?_)
    have p_16 := p_15.pl [2]
    obtain ⟨g_1, hF_6⟩ := nS hF_5
    refine Y19 (z := .agg #[.int .i8 0, .bool false, .int .i64 0, S [], .slice none 0 0, .slice none 0 0]) (f := emb_TA0) (xs := s_1.2.1) (ys := [(⟨x_2.fKind, (x_2.fBool), x_2.fNum, x_2.fText, x_2.fList, x_2.fKeys⟩ : TA0)]) (news := [.int .i8 x_2.fKind, .bool x_2.fBool, .int .i64 x_2.fNum, S x_2.fText, .slice A_9 x_2.fList.length cap_9, .slice A_10 x_2.fKeys.length cap_10]) (ad := ⟨b_6, 0, none⟩) (m := 1) (c := 1) f p_16 (RepSeq.mono hM_3 _ _ hr_3) (by exact ⟨_, _, rfl, TA0.shut h_6 h_7, rfl⟩) rfl rfl rfl rfl (own_cells (p_16.ownCell 1 rfl) 0 rfl) (by exact g_1) (by have hg_ := g_1; first | omega | (simp only [List.length_cons, List.length_nil] at *; omega)) fun A_11 cap_11 cs_3 w_10 p_17 hr_7 _ f => ?_
    have p_18 := p_17.pl [1]
    have p_19 := p_18.drop
    refine Y f 1 fun _ f => Y26 f p_19 3 rfl rfl (b := b_3) (j := 4) (v := .slice A_11 (s_1.2.1 ++ [(⟨x_2.fKind, (x_2.fBool), x_2.fNum, x_2.fText, x_2.fList, x_2.fKeys⟩ : TA0)]).length cap_11) rfl (by exact rfl) (by simp) (by simp) ((Ent.row 26 6 (.slice A_11 (s_1.2.1 ++ [(⟨x_2.fKind, (x_2.fBool), x_2.fNum, x_2.fText, x_2.fList, x_2.fKeys⟩ : TA0)]).length cap_11) (s_1.2.1 ++ [(⟨x_2.fKind, (x_2.fBool), x_2.fNum, x_2.fText, x_2.fList, x_2.fKeys⟩ : TA0)]).length cs_3) :: (Ent.obj b_5 (.cells #[.int .i8 x_2.fKind, .bool x_2.fBool, .int .i64 x_2.fNum, S x_2.fText, .slice A_9 x_2.fList.length cap_9, .slice A_10 x_2.fKeys.length cap_10] 26 (0, 0))) :: (Ent.row 9 1 (.slice A_6 s_1.2.2.length cap_6) s_1.2.2.length cs_2) :: (Ent.obj b_3 (.cells #[.int .i8 d0.fKind, .bool d0.fBool, .int .i64 d0.fNum, S d0.fText, .slice A_11 (s_1.2.1 ++ [(⟨x_2.fKind, (x_2.fBool), x_2.fNum, x_2.fText, x_2.fList, x_2.fKeys⟩ : TA0)]).length cap_11, .slice A_6 s_1.2.2.length cap_6] 26 (0, 0))) :: (Ent.obj b_2 (.cells #[.int .i8 0, .bool false, .int .i64 0, S [], .slice none 0 0, .slice none 0 0] 26 (0, 0))) :: H) rfl fun w_11 p_20 _ f => eT (wp_exit (T_x (B_x (T_n (R_reg (Y f 1 fun _ f => ?_))))))
    obtain ⟨g_2, hF_7⟩ := nS hF_6
    refine Y f 1 fun _ f => ?_
    have f := f.st 24 (congrArg (Value.int .i64) (inR_wrap g_2))
    refine Y f 1 fun _ f => W_end rfl ?_
    have p_127 := p_20.pl [4, 4, 4, 3, 4]
    refine T_n ?_
    obtain rfl := sI hF_7
    exact ⟨⟨m_2, (s_1.1 + 1, s_1.2.1 ++ [(⟨x_2.fKind, (x_2.fBool), x_2.fNum, x_2.fText, x_2.fList, x_2.fKeys⟩ : TA0)], s_1.2.2), A_11, cap_11, cs_3, A_6, cap_6, cs_2⟩, Nat.lt_succ_self _, M_3, (hM_2.trans hM_3), ⟨hn_1, hr_7, (RepSeq.mono hM_3 _ _ hr_4)⟩, f.kp, (p_127.dropN 1)⟩
   ·have k_3 := iff_f dI h_8
    refine wp_skip (T_n (RR (Y f 1 fun _ f => eT (R_seq (wp_block ?_)))))
    obtain ⟨b_7, hL_2, hF_9⟩ := bS hF_8
    refine wp_mono (Q := fun e a w => (e = .exit 2 ∧ (∃ y_1 : Int, b_7 = y_1 ∧ ∃ M_5 : Mem, M_3.le M_5 ∧ Frm 97 [(1, .pointer (some (⟨b_1, 0, none⟩))), (2, .pointer (some (⟨b_2, 0, none⟩))), (3, .pointer (some (⟨b_3, 0, none⟩))), (4, .int .i64 s_1.1), (5, .pointer (some (⟨b_5, 0, none⟩))), (6, .int .i64 y_1)] a ∧ Hp w0 M_5 ((Ent.obj b_5 (.cells #[.int .i8 x_2.fKind, .bool x_2.fBool, .int .i64 x_2.fNum, S x_2.fText, .slice A_9 x_2.fList.length cap_9, .slice A_10 x_2.fKeys.length cap_10] 26 (0, 0))) :: (Ent.row 26 6 (.slice A_5 s_1.2.1.length cap_5) s_1.2.1.length cs_1) :: (Ent.row 9 1 (.slice A_6 s_1.2.2.length cap_6) s_1.2.2.length cs_2) :: (Ent.obj b_3 (.cells #[.int .i8 d0.fKind, .bool d0.fBool, .int .i64 d0.fNum, S d0.fText, .slice A_5 s_1.2.1.length cap_5, .slice A_6 s_1.2.2.length cap_6] 26 (0, 0))) :: (Ent.obj b_2 (.cells #[.int .i8 0, .bool false, .int .i64 0, S [], .slice none 0 0, .slice none 0 0] 26 (0, 0))) :: H) w))) (R_loop (n := 97) (w0 := w0) (M := M_3) (fun (x : Nat × Int) => match x with | (m_3, s_2) => [(1, .pointer (some (⟨b_1, 0, none⟩))), (2, .pointer (some (⟨b_2, 0, none⟩))), (3, .pointer (some (⟨b_3, 0, none⟩))), (4, .int .i64 s_1.1), (5, .pointer (some (⟨b_5, 0, none⟩))), (6, .int .i64 s_2)]) (fun (x : Nat × Int) => match x with | (m_3, s_2) => ((Ent.obj b_5 (.cells #[.int .i8 x_2.fKind, .bool x_2.fBool, .int .i64 x_2.fNum, S x_2.fText, .slice A_9 x_2.fList.length cap_9, .slice A_10 x_2.fKeys.length cap_10] 26 (0, 0))) :: (Ent.row 26 6 (.slice A_5 s_1.2.1.length cap_5) s_1.2.1.length cs_1) :: (Ent.row 9 1 (.slice A_6 s_1.2.2.length cap_6) s_1.2.2.length cs_2) :: (Ent.obj b_3 (.cells #[.int .i8 d0.fKind, .bool d0.fBool, .int .i64 d0.fNum, S d0.fText, .slice A_5 s_1.2.1.length cap_5, .slice A_6 s_1.2.2.length cap_6] 26 (0, 0))) :: (Ent.obj b_2 (.cells #[.int .i8 0, .bool false, .int .i64 0, S [], .slice none 0 0, .slice none 0 0] 26 (0, 0))) :: H)) (fun (x : Nat × Int) (MM : Mem) => match x with | (m_3, s_2) => loopF (ref03_sorted_s2 n d0 s_1) m_3 s_2 = some b_7) (fun (x : Nat × Int) => match x with | (m_3, s_2) => m_3) (n, (0 : Int)) (f.kp) p_14 hL_2 ?_) ?_
    ·rintro ⟨m_3, s_2⟩ M_4 _ w_12 hM_4 I_2 f p_21
     have I_2L := I_2
     obtain ⟨m_4, r_2, rfl, hs_2, hn_2⟩ := loop_step I_2L
     unfold ref03_sorted_s2 at hs_2
     refine R_seq (R_seq (R_draw p_21 (by kernel_rfl) (by kernel_rfl) (Y5 default f 2 fun _ f => Y2 (v := .slice A_6 s_1.2.2.length cap_6) f (fun _ pq => Y31 (v := .slice A_6 s_1.2.2.length cap_6) rfl (ad := ⟨b_3, 5, none⟩) (pq.ownCell 3 rfl 5)) fun _ f => Y5 default f 3 fun _ f => ?_)))
     rcases cE hs_2 with ⟨h_9, hF_10⟩ | ⟨h_9, hF_16⟩
     ·have k_4 := dI.1 h_9
      have f := f.st 45 (cB h_9)
      refine Y5 default f 1 fun _ f => Y2 (v := .slice A_6 s_1.2.2.length cap_6) f (fun _ pq => Y31 (v := .slice A_6 s_1.2.2.length cap_6) rfl (ad := ⟨b_3, 5, none⟩) (pq.ownCell 3 rfl 5)) fun _ f => Y5 default f 1 fun _ f => ?_
      obtain ⟨x_3, hx_3, hF_11⟩ := bS hF_10
      obtain ⟨b_8, cap_12, hv_3, hcap_1⟩ := p_21.rowAddr 2 rfl (getI_pos hx_3)
      have f := f.st 47 (hv_3)
      refine Y2 (v := .pointer (some ((⟨b_8, 0, none⟩ : Addr).add (s_2.toNat * 1)))) f (fun _ pq => Y29 rfl (ad := ⟨b_8, 0, none⟩) (len := s_1.2.2.length) (cap := cap_12) (k := .i64) (i := s_2) (e := 9) (sz := 1) (getI_nn hx_3) (getI_lt hx_3)) fun _ f => ?_
      have f := f.st 47 (hv_3.symm)
      obtain ⟨c_3, -, hr_8, hc_4⟩ := RepSeq.get s_2.toNat (szd_all szd_str) (RepSeq.mono (hM_3.trans hM_4) _ _ hr_4) (getI_map hx_3)
      obtain rfl : c_3 = [S x_3] := hr_8
      refine Y2 (v := S x_3) f (fun _ pq => Y31 (v := S x_3) rfl (ad := (⟨b_8, 0, none⟩ : Addr).add (s_2.toNat * 1)) (by simpa [Addr.add] using (fun j v h => row_at (pq.rowCell 2 rfl hv_3) hc_4 j v h) 0 _ rfl)) fun _ f => Y5 default f 1 fun _ f => Y4 f (fzu ((hM_2.trans hM_3).trans hM_4) hc_2) 5 rfl fun _ f => Y5 default f 1 fun _ f => ?_
      obtain ⟨x_4, hx_4, hF_12⟩ := bS hF_11
      obtain ⟨ad_2, c_4, e_2, -, hr_9, hc_5⟩ := Sli.at_ (h_2.mono (((hM_1.trans hM_2).trans hM_3).trans hM_4)) hx_4
      obtain rfl : c_4 = [S x_4] := hr_9
      refine Y2 (v := .pointer (some (ad_2.add (s_1.1.toNat * 1)))) f (fun _ pq => Y30 e_2 rfl (len := d0.fKeys.length) (cap := cap_2) (k := .i64) (i := s_1.1) (e := 9) (sz := 1) (getI_nn hx_4) (getI_lt hx_4)) fun _ f => Y4 f hc_5 0 rfl fun _ f => Y2 (v := .bool (Op.bytesLess x_3 x_4)) f (fun _ pq => X_strlt rfl (l := x_3) (m := x_4) (by kernel_rfl) (by kernel_rfl)) fun _ f => Y5 default f 1 fun _ f => Q_end rfl ?_
      intro w_13 p_22
      refine T_n (RcF f hF_12 (fun h_10 hF_13 => ?_) fun h_10 hF_15 => ?_)
      ·refine wp_skip (T_n (wp_block (R_reg (Y f 1 fun _ f => ?_))))
       obtain ⟨g_3, hF_14⟩ := nS hF_13
       refine Y f 1 fun _ f => ?_
       have f := f.st 59 (congrArg (Value.int .i64) (inR_wrap g_3))
       refine Y f 1 fun _ f => W_end rfl (B_n (T_n ?_))
       obtain rfl := sI hF_14
       exact ⟨⟨m_4, s_2 + 1⟩, Nat.lt_succ_self _, M_4, hM_4, hn_2, f.kp, p_22⟩
      ·refine wp_exit (T_x (T_x ?_))
       obtain rfl := sI hF_15
       exact ⟨rfl, s_2, (sI hn_2).symm, M_4, hM_4, f.kp, p_22⟩
     ·have k_7 := iff_f dI h_9
      have f := f.st 45 (cB h_9)
      refine Y5 default f 12 fun _ f => Q_end rfl ?_
      intro w_14 p_23
      refine T_n (Y7 f (wp_exit (T_x (T_x ?_))))
      obtain rfl := sI hF_16
      exact ⟨rfl, s_2, (sI hn_2).symm, M_4, hM_4, f.kp, p_23⟩
    ·rintro _ _ w_16 ⟨rfl, y_1, hq_, M_5, hM_5, f, p_24⟩
     subst b_7
     refine B_x (T_n (RR (Y f 1 fun _ f => eT (RR (Y f 1 fun _ f => eT (RR (Y f 2 fun _ f => Z f (Y31 (v := .slice A_6 s_1.2.2.length cap_6) rfl (ad := ⟨b_3, 5, none⟩) (p_24.ownCell 3 rfl 5)) fun _ f => Y f 1 fun _ f => ?_)))))))
     obtain ⟨g_4, hF_17⟩ := nS hF_9
     obtain ⟨A_12, cap_13, hv_4, hcap_2, hcn_1⟩ := p_24.rowShape 2 rfl
     have f := f.st 62 (hv_4)
     refine Z f (Y35 rfl (A := A_12) (len := s_1.2.2.length) (cap := cap_13) (k := .i64) (a := y_1) (e := 9) (sz := 1) (by omega) (by omega)) fun _ f => ?_
     have f := f.st 62 (hv_4.symm)
     obtain ⟨A_13, cap_14, hv_5⟩ : ∃ A cap, Value.slice none 0 0 = .slice A ([] : List (List UInt8)).length cap := ⟨none, 0, rfl⟩
     have p_25 : Hp w0 M_5 ((Ent.row 9 1 (.slice A_13 ([] : List (List UInt8)).length cap_14) ([] : List (List UInt8)).length []) :: (Ent.obj b_5 (.cells #[.int .i8 x_2.fKind, .bool x_2.fBool, .int .i64 x_2.fNum, S x_2.fText, .slice A_9 x_2.fList.length cap_9, .slice A_10 x_2.fKeys.length cap_10] 26 (0, 0))) :: (Ent.row 26 6 (.slice A_5 s_1.2.1.length cap_5) s_1.2.1.length cs_1) :: (Ent.row 9 1 (.slice A_6 s_1.2.2.length cap_6) s_1.2.2.length cs_2) :: (Ent.obj b_3 (.cells #[.int .i8 d0.fKind, .bool d0.fBool, .int .i64 d0.fNum, S d0.fText, .slice A_5 s_1.2.1.length cap_5, .slice A_6 s_1.2.2.length cap_6] 26 (0, 0))) :: (Ent.obj b_2 (.cells #[.int .i8 0, .bool false, .int .i64 0, S [], .slice none 0 0, .slice none 0 0] 26 (0, 0))) :: H) w_16 := by rw [← hv_5]; exact p_24.nilRow 9 1
     have f := f.st 60 (hv_5)
     have hr_10 : RepSeq M_5 (([] : List (List UInt8)).map Dat.str) [] := rfl
     obtain ⟨g_5, hF_18⟩ := nS hF_17
     refine Y20 (z := S []) (f := Dat.str) (xs := ([] : List (List UInt8))) (ys := s_1.2.2) (lo := y_1.toNat) (hi := s_1.2.2.length) f p_25 szd_str hr_10 (RepSeq.mono (hM_3.trans hM_5) _ _ hr_4) 3 rfl hv_4 (by omega) (by omega) rfl rfl rfl g_5 (by omega) fun A_14 cap_15 cs_4 w_17 p_26 hr_11 _ f => Y f 1 fun _ f => eT (RR (Y f 2 fun _ f => Z f (Y31 (v := .slice A_5 s_1.2.1.length cap_5) rfl (ad := ⟨b_3, 4, none⟩) (p_26.ownCell 4 rfl 4)) fun _ f => Y f 1 fun _ f => ?_))
     obtain ⟨g_6, hF_19⟩ := nS hF_18
     obtain ⟨A_15, cap_16, hv_6, hcap_3, hcn_2⟩ := p_26.rowShape 2 rfl
     have f := f.st 68 (hv_6)
     refine Z f (Y35 rfl (A := A_15) (len := s_1.2.1.length) (cap := cap_16) (k := .i64) (a := y_1) (e := 26) (sz := 6) (by omega) (by omega)) fun _ f => ?_
     have f := f.st 68 (hv_6.symm)
     obtain ⟨A_16, cap_17, hv_7⟩ : ∃ A cap, Value.slice none 0 0 = .slice A ([] : List TA0).length cap := ⟨none, 0, rfl⟩
     have p_27 : Hp w0 M_5 ((Ent.row 26 6 (.slice A_16 ([] : List TA0).length cap_17) ([] : List TA0).length []) :: (Ent.row 9 1 (.slice A_14 (([] : List (List UInt8)) ++ (s_1.2.2.take s_1.2.2.length).drop y_1.toNat).length cap_15) (([] : List (List UInt8)) ++ (s_1.2.2.take s_1.2.2.length).drop y_1.toNat).length cs_4) :: (Ent.obj b_5 (.cells #[.int .i8 x_2.fKind, .bool x_2.fBool, .int .i64 x_2.fNum, S x_2.fText, .slice A_9 x_2.fList.length cap_9, .slice A_10 x_2.fKeys.length cap_10] 26 (0, 0))) :: (Ent.row 26 6 (.slice A_5 s_1.2.1.length cap_5) s_1.2.1.length cs_1) :: (Ent.row 9 1 (.slice A_6 s_1.2.2.length cap_6) s_1.2.2.length cs_2) :: (Ent.obj b_3 (.cells #[.int .i8 d0.fKind, .bool d0.fBool, .int .i64 d0.fNum, S d0.fText, .slice A_5 s_1.2.1.length cap_5, .slice A_6 s_1.2.2.length cap_6] 26 (0, 0))) :: (Ent.obj b_2 (.cells #[.int .i8 0, .bool false, .int .i64 0, S [], .slice none 0 0, .slice none 0 0] 26 (0, 0))) :: H) w_17 := by rw [← hv_7]; exact p_26.nilRow 26 6
     have f := f.st 66 (hv_7)
     have hr_12 : RepSeq M_5 (([] : List TA0).map emb_TA0) [] := rfl
     obtain ⟨g_7, hF_20⟩ := nS hF_19
     refine Y20 (z := .agg #[.int .i8 0, .bool false, .int .i64 0, S [], .slice none 0 0, .slice none 0 0]) (f := emb_TA0) (xs := ([] : List TA0)) (ys := s_1.2.1) (lo := y_1.toNat) (hi := s_1.2.1.length) f p_27 szd_TA0 hr_12 (RepSeq.mono (hM_3.trans hM_5) _ _ hr_3) 3 rfl hv_6 (by omega) (by omega) rfl rfl rfl g_7 (by omega) fun A_17 cap_18 cs_5 w_18 p_28 hr_13 _ f => Y f 1 fun _ f => eT (R_seq ?_)
     obtain ⟨j_1, hj_1, hF_21⟩ := bS hF_20
     refine R_mid (fun a_110 w_40 => ∃ y_2 : List (List UInt8), j_1 = y_2 ∧ ∃ M_9 : Mem, M_5.le M_9 ∧ ∃ (A_30 : Option Addr), ∃ (cap_31 : Nat), ∃ (cs_12 : List Value), RepSeq M_9 (y_2.map Dat.str) cs_12 ∧ Frm 97 [(1, .pointer (some (⟨b_1, 0, none⟩))), (2, .pointer (some (⟨b_2, 0, none⟩))), (3, .pointer (some (⟨b_3, 0, none⟩))), (4, .int .i64 s_1.1), (5, .pointer (some (⟨b_5, 0, none⟩))), (6, .int .i64 y_1), (8, .slice A_17 (([] : List TA0) ++ (s_1.2.1.take s_1.2.1.length).drop y_1.toNat).length cap_18)] a_110 ∧ Hp w0 M_9 ((Ent.row 9 1 (.slice A_30 y_2.length cap_31) y_2.length cs_12) :: (Ent.row 26 6 (.slice A_17 (([] : List TA0) ++ (s_1.2.1.take s_1.2.1.length).drop y_1.toNat).length cap_18) (([] : List TA0) ++ (s_1.2.1.take s_1.2.1.length).drop y_1.toNat).length cs_5) :: (Ent.obj b_5 (.cells #[.int .i8 x_2.fKind, .bool x_2.fBool, .int .i64 x_2.fNum, S x_2.fText, .slice A_9 x_2.fList.length cap_9, .slice A_10 x_2.fKeys.length cap_10] 26 (0, 0))) :: (Ent.row 26 6 (.slice A_5 s_1.2.1.length cap_5) s_1.2.1.length cs_1) :: (Ent.obj b_3 (.cells #[.int .i8 d0.fKind, .bool d0.fBool, .int .i64 d0.fNum, S d0.fText, .slice A_5 s_1.2.1.length cap_5, .slice A_30 y_2.length cap_31] 26 (0, 0))) :: (Ent.obj b_2 (.cells #[.int .i8 0, .bool false, .int .i64 0, S [], .slice none 0 0, .slice none 0 0] 26 (0, 0))) :: H) w_40) ?_ ?_
     ·have p_44 := p_28.pl [6, 6, 5, 5, 4, 6, 6]
      obtain ⟨x_5, hx_5, hF_22⟩ := bS hj_1
      obtain ⟨g_8, hF_23⟩ := nS hF_22
      obtain ⟨g_9, hF_24⟩ := nS hF_23
      obtain ⟨g_10, hF_25⟩ := nS hF_24
      refine R_plan (ks := [13, 14]) (E := [Ent.row 9 1 (.slice A_14 (([] : List (List UInt8)) ++ (s_1.2.2.take s_1.2.2.length).drop y_1.toNat).length cap_15) (([] : List (List UInt8)) ++ (s_1.2.2.take s_1.2.2.length).drop y_1.toNat).length cs_4, Ent.row 9 1 (.slice A_6 s_1.2.2.length cap_6) s_1.2.2.length cs_2]) (Hr := ((Ent.row 26 6 (.slice A_17 (([] : List TA0) ++ (s_1.2.1.take s_1.2.1.length).drop y_1.toNat).length cap_18) (([] : List TA0) ++ (s_1.2.1.take s_1.2.1.length).drop y_1.toNat).length cs_5) :: (Ent.obj b_5 (.cells #[.int .i8 x_2.fKind, .bool x_2.fBool, .int .i64 x_2.fNum, S x_2.fText, .slice A_9 x_2.fList.length cap_9, .slice A_10 x_2.fKeys.length cap_10] 26 (0, 0))) :: (Ent.row 26 6 (.slice A_5 s_1.2.1.length cap_5) s_1.2.1.length cs_1) :: (Ent.obj b_3 (.cells #[.int .i8 d0.fKind, .bool d0.fBool, .int .i64 d0.fNum, S d0.fText, .slice A_5 s_1.2.1.length cap_5, .slice A_6 s_1.2.2.length cap_6] 26 (0, 0))) :: (Ent.obj b_2 (.cells #[.int .i8 0, .bool false, .int .i64 0, S [], .slice none 0 0, .slice none 0 0] 26 (0, 0))) :: H)) (.quiet 0 (.quiet 1 (.quiet 2 (.quiet 4 (.quiet 5 (.quiet 6 (.quiet 7 (.quiet 8 (.quiet 11 (.alt 3 (.alt 9 (.alt 10 (.alt 12 .done .none) .none) .none) (.alt 9 (.alt 3 (.alt 10 (.alt 12 .done .none) .none) .none) .none))))))))))) p_44 (by kernel_rfl) (by kernel_rfl) (by kernel_rfl) (Y1 (v := .pointer (some (⟨b_3, 5, none⟩))) rfl f rfl rfl (fun _ _ => by kernel_rfl) fun _ f => Y1 (v := .slice A_6 s_1.2.2.length cap_6) rfl f rfl rfl (fun _ pq => Y31 (v := .slice A_6 s_1.2.2.length cap_6) rfl (ad := ⟨b_3, 5, none⟩) (pq.ownCell 3 rfl 5)) fun _ f => Y1 (v := .int .i64 y_1) rfl f rfl rfl (fun _ _ => by kernel_rfl) fun _ f => Y1 (v := .pointer (some ((⟨b_1, 0, none⟩ : Addr).add 5))) rfl f rfl rfl (fun _ _ => by kernel_rfl) fun _ f => Y1 (v := .slice A_2 d0.fKeys.length cap_2) rfl f rfl rfl (fun _ pq => Y31 (v := .slice A_2 d0.fKeys.length cap_2) rfl (ad := (⟨b_1, 0, none⟩ : Addr).add 5) (pq.cell ((fzu ((hM_2.trans hM_3).trans hM_5) hc_2) 5 _ rfl))) fun _ f => Y1 (v := .int .i64 s_1.1) rfl f rfl rfl (fun _ _ => by kernel_rfl) fun _ f => ?_)
      obtain ⟨ad_4, c_6, e_4, -, hr_18, hc_7⟩ := Sli.at_ (h_2.mono (((hM_1.trans hM_2).trans hM_3).trans hM_5)) hx_5
      obtain rfl : c_6 = [S x_5] := hr_18
      refine Y1 (v := .pointer (some (ad_4.add (s_1.1.toNat * 1)))) rfl f rfl rfl (fun _ pq => Y30 e_4 rfl (len := d0.fKeys.length) (cap := cap_2) (k := .i64) (i := s_1.1) (e := 9) (sz := 1) (getI_nn hx_5) (getI_lt hx_5)) fun _ f => Y1 (v := S x_5) rfl f rfl rfl (fun _ pq => Y31 (v := S x_5) rfl (ad := ad_4.add (s_1.1.toNat * 1)) (pq.cell (hc_7 0 _ rfl))) fun _ f => Y1 (v := .slice A_14 (([] : List (List UInt8)) ++ (s_1.2.2.take s_1.2.2.length).drop y_1.toNat).length cap_15) rfl f rfl rfl (fun _ _ => by kernel_rfl) fun _ f => N_alt rfl (fun w_22 p_45 => ?_) ?_
      ·obtain ⟨A_22, cap_23, hv_10, hcap_5, hcn_4⟩ := p_45.rowShape 1 rfl
       have f := f.st 73 (hv_10)
       refine Z f (Y36 rfl (A := A_22) (len := s_1.2.2.length) (cap := cap_23) (k' := .i64) (b := y_1) (e := 9) (sz := 1) (by omega) (by omega)) fun _ f => ?_
       have f := f.st 73 (hv_10.symm)
       refine W_end rfl (N_goN 2 (mR _) p_45 rfl (N_alt rfl (fun w_23 p_46 => ?_) ?_))
       ·refine V_allocS (k := 1) (c := 1) f p_46 (.cells #[S x_5] 9 (0, 0)) (by kernel_rfl) (fun _ => by kernel_rfl) fun b_10 w_24 p_47 _ f => W_end rfl (N_goN 3 (mR _) p_47 rfl (N_alt rfl (fun w_25 p_48 => ?_) ?_))
        ·have p_49 := p_48.pl [2]
         have hr_19 : RepSeq M_5 ((s_1.2.2.take y_1.toNat).map Dat.str) (cs_2.take (y_1.toNat * 1)) := by rw [List.map_take]; exact RepSeq.takeD _ (szd_all szd_str) (RepSeq.mono (hM_3.trans hM_5) _ _ hr_4)
         have hl_7 : (s_1.2.2.take y_1.toNat).length = y_1.toNat := by rw [List.length_take]; omega
         have p_50 : Hp w0 M_5 ((Ent.row 9 1 (.slice (cutA A_22 1 0 cap_23) (s_1.2.2.take y_1.toNat).length cap_23) (s_1.2.2.take y_1.toNat).length (cs_2.take (y_1.toNat * 1))) :: (Ent.obj b_10 (.cells #[S x_5] 9 (0, 0))) :: (Ent.row 9 1 (.slice A_14 (([] : List (List UInt8)) ++ (s_1.2.2.take s_1.2.2.length).drop y_1.toNat).length cap_15) (([] : List (List UInt8)) ++ (s_1.2.2.take s_1.2.2.length).drop y_1.toNat).length cs_4) :: (Ent.row 26 6 (.slice A_17 (([] : List TA0) ++ (s_1.2.1.take s_1.2.1.length).drop y_1.toNat).length cap_18) (([] : List TA0) ++ (s_1.2.1.take s_1.2.1.length).drop y_1.toNat).length cs_5) :: (Ent.obj b_5 (.cells #[.int .i8 x_2.fKind, .bool x_2.fBool, .int .i64 x_2.fNum, S x_2.fText, .slice A_9 x_2.fList.length cap_9, .slice A_10 x_2.fKeys.length cap_10] 26 (0, 0))) :: (Ent.row 26 6 (.slice A_5 s_1.2.1.length cap_5) s_1.2.1.length cs_1) :: (Ent.obj b_3 (.cells #[.int .i8 d0.fKind, .bool d0.fBool, .int .i64 d0.fNum, S d0.fText, .slice A_5 s_1.2.1.length cap_5, .slice A_6 s_1.2.2.length cap_6] 26 (0, 0))) :: (Ent.obj b_2 (.cells #[.int .i8 0, .bool false, .int .i64 0, S [], .slice none 0 0, .slice none 0 0] 26 (0, 0))) :: H) w_25 := by rw [hl_7]; exact p_49.rowFront hv_10 (by omega)
         have f := Frm.set f 75 (v := .slice (cutA A_22 1 0 cap_23) y_1.toNat cap_23) (v' := .slice (cutA A_22 1 0 cap_23) (s_1.2.2.take y_1.toNat).length cap_23) (by kernel_rfl) (by rw [hl_7])
         refine Y19 (z := S []) (f := Dat.str) (xs := s_1.2.2.take y_1.toNat) (ys := [x_5]) (news := [S x_5]) (ad := ⟨b_10, 0, none⟩) (m := 1) (c := 1) f p_50 hr_19 (by exact ⟨_, _, rfl, rfl, rfl⟩) rfl rfl rfl rfl (own_cells (p_50.ownCell 1 rfl) 0 rfl) (by exact g_9) (by have hg_ := g_9; first | omega | (simp only [List.length_cons, List.length_nil] at *; omega)) fun A_23 cap_24 cs_8 w_26 p_51 hr_20 _ f => ?_
         have p_52 := p_51.pl [1]
         have p_53 := p_52.drop
         refine W_end rfl (N_goN 2 (mR _) p_53 rfl (N_alt rfl (fun w_27 p_54 => ?_) ?_))
         ·have p_55 := p_54.pl [1]
          obtain ⟨A_24, cap_25, M_7, hv_11, hM_7, p_56, h_12⟩ := p_55.rowSli (f := Dat.str) (xs := ([] : List (List UInt8)) ++ (s_1.2.2.take s_1.2.2.length).drop y_1.toNat) szd_str hr_11
          have f := f.st 83 (hv_11)
          refine Y21 (z := S []) (f := Dat.str) (xs := (s_1.2.2.take y_1.toNat) ++ [x_5]) (ys := ([] : List (List UInt8)) ++ (s_1.2.2.take s_1.2.2.length).drop y_1.toNat) (c := cap_25) f p_56 (RepSeq.mono hM_7 _ _ hr_20) h_12 rfl rfl rfl g_10 (by omega) fun A_25 cap_26 cs_9 w_28 p_57 hr_21 _ f => W_end rfl (N_goN 1 hM_7 p_57 rfl (N_tail fun w_29 p_58 => Y f 1 fun _ f => Y26 f p_58 4 rfl rfl (b := b_3) (j := 5) (v := .slice A_25 (((s_1.2.2.take y_1.toNat) ++ [x_5]) ++ (([] : List (List UInt8)) ++ (s_1.2.2.take s_1.2.2.length).drop y_1.toNat)).length cap_26) rfl (by exact rfl) (by simp) (by simp) ((Ent.row 9 1 (.slice A_25 (((s_1.2.2.take y_1.toNat) ++ [x_5]) ++ (([] : List (List UInt8)) ++ (s_1.2.2.take s_1.2.2.length).drop y_1.toNat)).length cap_26) (((s_1.2.2.take y_1.toNat) ++ [x_5]) ++ (([] : List (List UInt8)) ++ (s_1.2.2.take s_1.2.2.length).drop y_1.toNat)).length cs_9) :: (Ent.row 26 6 (.slice A_17 (([] : List TA0) ++ (s_1.2.1.take s_1.2.1.length).drop y_1.toNat).length cap_18) (([] : List TA0) ++ (s_1.2.1.take s_1.2.1.length).drop y_1.toNat).length cs_5) :: (Ent.obj b_5 (.cells #[.int .i8 x_2.fKind, .bool x_2.fBool, .int .i64 x_2.fNum, S x_2.fText, .slice A_9 x_2.fList.length cap_9, .slice A_10 x_2.fKeys.length cap_10] 26 (0, 0))) :: (Ent.row 26 6 (.slice A_5 s_1.2.1.length cap_5) s_1.2.1.length cs_1) :: (Ent.obj b_3 (.cells #[.int .i8 d0.fKind, .bool d0.fBool, .int .i64 d0.fNum, S d0.fText, .slice A_5 s_1.2.1.length cap_5, .slice A_25 (((s_1.2.2.take y_1.toNat) ++ [x_5]) ++ (([] : List (List UInt8)) ++ (s_1.2.2.take s_1.2.2.length).drop y_1.toNat)).length cap_26] 26 (0, 0))) :: (Ent.obj b_2 (.cells #[.int .i8 0, .bool false, .int .i64 0, S [], .slice none 0 0, .slice none 0 0] 26 (0, 0))) :: H) rfl fun w_30 p_59 _ f => W_end rfl (N_te (T_n ?_))))
          exact ⟨((s_1.2.2.take y_1.toNat) ++ [x_5]) ++ (([] : List (List UInt8)) ++ (s_1.2.2.take s_1.2.2.length).drop y_1.toNat), (sI hF_25).symm, M_7, hM_7, A_25, cap_26, cs_9, hr_21, f.kp, p_59⟩
         exact N_none
        exact N_none
       exact N_none
      refine N_alt rfl (fun w_31 p_60 => ?_) ?_
      ·refine V_allocS (k := 1) (c := 1) f p_60 (.cells #[S x_5] 9 (0, 0)) (by kernel_rfl) (fun _ => by kernel_rfl) fun b_11 w_32 p_61 _ f => W_end rfl (N_goN 3 (mR _) p_61 rfl (N_alt rfl (fun w_33 p_62 => ?_) ?_))
       ·obtain ⟨A_26, cap_27, hv_12, hcap_6, hcn_5⟩ := p_62.rowShape 2 rfl
        have f := f.st 73 (hv_12)
        refine Z f (Y36 rfl (A := A_26) (len := s_1.2.2.length) (cap := cap_27) (k' := .i64) (b := y_1) (e := 9) (sz := 1) (by omega) (by omega)) fun _ f => ?_
        have f := f.st 73 (hv_12.symm)
        refine W_end rfl (N_goN 3 (mR _) p_62 rfl (N_alt rfl (fun w_34 p_63 => ?_) ?_))
        ·have p_64 := p_63.pl [2]
         have hr_22 : RepSeq M_5 ((s_1.2.2.take y_1.toNat).map Dat.str) (cs_2.take (y_1.toNat * 1)) := by rw [List.map_take]; exact RepSeq.takeD _ (szd_all szd_str) (RepSeq.mono (hM_3.trans hM_5) _ _ hr_4)
         have hl_8 : (s_1.2.2.take y_1.toNat).length = y_1.toNat := by rw [List.length_take]; omega
         have p_65 : Hp w0 M_5 ((Ent.row 9 1 (.slice (cutA A_26 1 0 cap_27) (s_1.2.2.take y_1.toNat).length cap_27) (s_1.2.2.take y_1.toNat).length (cs_2.take (y_1.toNat * 1))) :: (Ent.obj b_11 (.cells #[S x_5] 9 (0, 0))) :: (Ent.row 9 1 (.slice A_14 (([] : List (List UInt8)) ++ (s_1.2.2.take s_1.2.2.length).drop y_1.toNat).length cap_15) (([] : List (List UInt8)) ++ (s_1.2.2.take s_1.2.2.length).drop y_1.toNat).length cs_4) :: (Ent.row 26 6 (.slice A_17 (([] : List TA0) ++ (s_1.2.1.take s_1.2.1.length).drop y_1.toNat).length cap_18) (([] : List TA0) ++ (s_1.2.1.take s_1.2.1.length).drop y_1.toNat).length cs_5) :: (Ent.obj b_5 (.cells #[.int .i8 x_2.fKind, .bool x_2.fBool, .int .i64 x_2.fNum, S x_2.fText, .slice A_9 x_2.fList.length cap_9, .slice A_10 x_2.fKeys.length cap_10] 26 (0, 0))) :: (Ent.row 26 6 (.slice A_5 s_1.2.1.length cap_5) s_1.2.1.length cs_1) :: (Ent.obj b_3 (.cells #[.int .i8 d0.fKind, .bool d0.fBool, .int .i64 d0.fNum, S d0.fText, .slice A_5 s_1.2.1.length cap_5, .slice A_6 s_1.2.2.length cap_6] 26 (0, 0))) :: (Ent.obj b_2 (.cells #[.int .i8 0, .bool false, .int .i64 0, S [], .slice none 0 0, .slice none 0 0] 26 (0, 0))) :: H) w_34 := by rw [hl_8]; exact p_64.rowFront hv_12 (by omega)
         have f := Frm.set f 75 (v := .slice (cutA A_26 1 0 cap_27) y_1.toNat cap_27) (v' := .slice (cutA A_26 1 0 cap_27) (s_1.2.2.take y_1.toNat).length cap_27) (by kernel_rfl) (by rw [hl_8])
         refine Y19 (z := S []) (f := Dat.str) (xs := s_1.2.2.take y_1.toNat) (ys := [x_5]) (news := [S x_5]) (ad := ⟨b_11, 0, none⟩) (m := 1) (c := 1) f p_65 hr_22 (by exact ⟨_, _, rfl, rfl, rfl⟩) rfl rfl rfl rfl (own_cells (p_65.ownCell 1 rfl) 0 rfl) (by exact g_9) (by have hg_ := g_9; first | omega | (simp only [List.length_cons, List.length_nil] at *; omega)) fun A_27 cap_28 cs_10 w_35 p_66 hr_23 _ f => ?_
         have p_67 := p_66.pl [1]
         have p_68 := p_67.drop
         refine W_end rfl (N_goN 2 (mR _) p_68 rfl (N_alt rfl (fun w_36 p_69 => ?_) ?_))
         ·have p_70 := p_69.pl [1]
          obtain ⟨A_28, cap_29, M_8, hv_13, hM_8, p_71, h_13⟩ := p_70.rowSli (f := Dat.str) (xs := ([] : List (List UInt8)) ++ (s_1.2.2.take s_1.2.2.length).drop y_1.toNat) szd_str hr_11
          have f := f.st 83 (hv_13)
          refine Y21 (z := S []) (f := Dat.str) (xs := (s_1.2.2.take y_1.toNat) ++ [x_5]) (ys := ([] : List (List UInt8)) ++ (s_1.2.2.take s_1.2.2.length).drop y_1.toNat) (c := cap_29) f p_71 (RepSeq.mono hM_8 _ _ hr_23) h_13 rfl rfl rfl g_10 (by omega) fun A_29 cap_30 cs_11 w_37 p_72 hr_24 _ f => W_end rfl (N_goN 1 hM_8 p_72 rfl (N_tail fun w_38 p_73 => Y f 1 fun _ f => Y26 f p_73 4 rfl rfl (b := b_3) (j := 5) (v := .slice A_29 (((s_1.2.2.take y_1.toNat) ++ [x_5]) ++ (([] : List (List UInt8)) ++ (s_1.2.2.take s_1.2.2.length).drop y_1.toNat)).length cap_30) rfl (by exact rfl) (by simp) (by simp) ((Ent.row 9 1 (.slice A_29 (((s_1.2.2.take y_1.toNat) ++ [x_5]) ++ (([] : List (List UInt8)) ++ (s_1.2.2.take s_1.2.2.length).drop y_1.toNat)).length cap_30) (((s_1.2.2.take y_1.toNat) ++ [x_5]) ++ (([] : List (List UInt8)) ++ (s_1.2.2.take s_1.2.2.length).drop y_1.toNat)).length cs_11) :: (Ent.row 26 6 (.slice A_17 (([] : List TA0) ++ (s_1.2.1.take s_1.2.1.length).drop y_1.toNat).length cap_18) (([] : List TA0) ++ (s_1.2.1.take s_1.2.1.length).drop y_1.toNat).length cs_5) :: (Ent.obj b_5 (.cells #[.int .i8 x_2.fKind, .bool x_2.fBool, .int .i64 x_2.fNum, S x_2.fText, .slice A_9 x_2.fList.length cap_9, .slice A_10 x_2.fKeys.length cap_10] 26 (0, 0))) :: (Ent.row 26 6 (.slice A_5 s_1.2.1.length cap_5) s_1.2.1.length cs_1) :: (Ent.obj b_3 (.cells #[.int .i8 d0.fKind, .bool d0.fBool, .int .i64 d0.fNum, S d0.fText, .slice A_5 s_1.2.1.length cap_5, .slice A_29 (((s_1.2.2.take y_1.toNat) ++ [x_5]) ++ (([] : List (List UInt8)) ++ (s_1.2.2.take s_1.2.2.length).drop y_1.toNat)).length cap_30] 26 (0, 0))) :: (Ent.obj b_2 (.cells #[.int .i8 0, .bool false, .int .i64 0, S [], .slice none 0 0, .slice none 0 0] 26 (0, 0))) :: H) rfl fun w_39 p_74 _ f => W_end rfl (N_te (T_n ?_))))
          exact ⟨((s_1.2.2.take y_1.toNat) ++ [x_5]) ++ (([] : List (List UInt8)) ++ (s_1.2.2.take s_1.2.2.length).drop y_1.toNat), (sI hF_25).symm, M_8, hM_8, A_29, cap_30, cs_11, hr_24, f.kp, p_74⟩
         exact N_none
        exact N_none
       exact N_none
      exact N_none
     ·rintro a_110 w_40 ⟨y_2, hq_1, M_9, hM_9, A_30, cap_31, cs_12, hr_25, f, p_75⟩
      subst j_1
      refine T_n ?_
      obtain ⟨j_2, hj_2, hF_26⟩ := bS hF_21
      refine R_mid (fun a_137 w_62 => ∃ y_3 : List TA0, j_2 = y_3 ∧ ∃ M_13 : Mem, M_9.le M_13 ∧ ∃ (A_43 : Option Addr), ∃ (cap_44 : Nat), ∃ (cs_19 : List Value), RepSeq M_13 (y_3.map emb_TA0) cs_19 ∧ Frm 97 [(1, .pointer (some (⟨b_1, 0, none⟩))), (2, .pointer (some (⟨b_2, 0, none⟩))), (3, .pointer (some (⟨b_3, 0, none⟩))), (4, .int .i64 s_1.1)] a_137 ∧ Hp w0 M_13 ((Ent.row 26 6 (.slice A_43 y_3.length cap_44) y_3.length cs_19) :: (Ent.row 9 1 (.slice A_30 y_2.length cap_31) y_2.length cs_12) :: (Ent.obj b_5 (.cells #[.int .i8 x_2.fKind, .bool x_2.fBool, .int .i64 x_2.fNum, S x_2.fText, .slice A_9 x_2.fList.length cap_9, .slice A_10 x_2.fKeys.length cap_10] 26 (0, 0))) :: (Ent.obj b_3 (.cells #[.int .i8 d0.fKind, .bool d0.fBool, .int .i64 d0.fNum, S d0.fText, .slice A_43 y_3.length cap_44, .slice A_30 y_2.length cap_31] 26 (0, 0))) :: (Ent.obj b_2 (.cells #[.int .i8 0, .bool false, .int .i64 0, S [], .slice none 0 0, .slice none 0 0] 26 (0, 0))) :: H) w_62) ?_ ?_
      ·have p_90 := p_75.pl [5, 5, 4, 3, 5, 5]
       obtain ⟨g_11, hF_27⟩ := nS hj_2
       obtain ⟨g_12, hF_28⟩ := nS hF_27
       obtain ⟨g_13, hF_29⟩ := nS hF_28
       refine R_plan (ks := [9, 10]) (E := [Ent.row 26 6 (.slice A_17 (([] : List TA0) ++ (s_1.2.1.take s_1.2.1.length).drop y_1.toNat).length cap_18) (([] : List TA0) ++ (s_1.2.1.take s_1.2.1.length).drop y_1.toNat).length cs_5, Ent.row 26 6 (.slice A_5 s_1.2.1.length cap_5) s_1.2.1.length cs_1]) (Hr := ((Ent.row 9 1 (.slice A_30 y_2.length cap_31) y_2.length cs_12) :: (Ent.obj b_5 (.cells #[.int .i8 x_2.fKind, .bool x_2.fBool, .int .i64 x_2.fNum, S x_2.fText, .slice A_9 x_2.fList.length cap_9, .slice A_10 x_2.fKeys.length cap_10] 26 (0, 0))) :: (Ent.obj b_3 (.cells #[.int .i8 d0.fKind, .bool d0.fBool, .int .i64 d0.fNum, S d0.fText, .slice A_5 s_1.2.1.length cap_5, .slice A_30 y_2.length cap_31] 26 (0, 0))) :: (Ent.obj b_2 (.cells #[.int .i8 0, .bool false, .int .i64 0, S [], .slice none 0 0, .slice none 0 0] 26 (0, 0))) :: H)) (.quiet 0 (.quiet 1 (.quiet 2 (.quiet 4 (.quiet 7 (.alt 3 (.alt 5 (.alt 6 (.alt 8 .done .none) .none) .none) (.alt 5 (.alt 3 (.alt 6 (.alt 8 .done .none) .none) .none) .none))))))) p_90 (by kernel_rfl) (by kernel_rfl) (by kernel_rfl) (Y1 (v := .pointer (some (⟨b_3, 4, none⟩))) rfl f rfl rfl (fun _ _ => by kernel_rfl) fun _ f => Y1 (v := .slice A_5 s_1.2.1.length cap_5) rfl f rfl rfl (fun _ pq => Y31 (v := .slice A_5 s_1.2.1.length cap_5) rfl (ad := ⟨b_3, 4, none⟩) (pq.ownCell 2 rfl 4)) fun _ f => Y1 (v := .int .i64 y_1) rfl f rfl rfl (fun _ _ => by kernel_rfl) fun _ f => Y1 (v := .agg #[.int .i8 x_2.fKind, .bool x_2.fBool, .int .i64 x_2.fNum, S x_2.fText, .slice A_9 x_2.fList.length cap_9, .slice A_10 x_2.fKeys.length cap_10]) rfl f rfl rfl (fun _ pq => Y32 (cs := [.int .i8 x_2.fKind, .bool x_2.fBool, .int .i64 x_2.fNum, S x_2.fText, .slice A_9 x_2.fList.length cap_9, .slice A_10 x_2.fKeys.length cap_10]) rfl (ad := ⟨b_5, 0, none⟩) (own_cells (pq.ownCell 1 rfl) 0 rfl)) fun _ f => Y1 (v := .slice A_17 (([] : List TA0) ++ (s_1.2.1.take s_1.2.1.length).drop y_1.toNat).length cap_18) rfl f rfl rfl (fun _ _ => by kernel_rfl) fun _ f => N_alt rfl (fun w_44 p_91 => ?_) ?_)
       ·obtain ⟨A_35, cap_36, hv_16, hcap_8, hcn_7⟩ := p_91.rowShape 1 rfl
        have f := f.st 87 (hv_16)
        refine Z f (Y36 rfl (A := A_35) (len := s_1.2.1.length) (cap := cap_36) (k' := .i64) (b := y_1) (e := 26) (sz := 6) (by omega) (by omega)) fun _ f => ?_
        have f := f.st 87 (hv_16.symm)
        refine W_end rfl (N_goN 2 (mR _) p_91 rfl (N_alt rfl (fun w_45 p_92 => ?_) ?_))
        ·refine V_allocS (k := 1) (c := 1) f p_92 (.cells #[.int .i8 x_2.fKind, .bool x_2.fBool, .int .i64 x_2.fNum, S x_2.fText, .slice A_9 x_2.fList.length cap_9, .slice A_10 x_2.fKeys.length cap_10] 26 (0, 0)) (by kernel_rfl) (fun _ => by kernel_rfl) fun b_13 w_46 p_93 _ f => W_end rfl (N_goN 3 (mR _) p_93 rfl (N_alt rfl (fun w_47 p_94 => ?_) ?_))
         ·have p_95 := p_94.pl [2]
          have hr_29 : RepSeq M_9 ((s_1.2.1.take y_1.toNat).map emb_TA0) (cs_1.take (y_1.toNat * 6)) := by rw [List.map_take]; exact RepSeq.takeD _ (szd_all szd_TA0) (RepSeq.mono ((hM_3.trans hM_5).trans hM_9) _ _ hr_3)
          have hl_10 : (s_1.2.1.take y_1.toNat).length = y_1.toNat := by rw [List.length_take]; omega
          have p_96 : Hp w0 M_9 ((Ent.row 26 6 (.slice (cutA A_35 6 0 cap_36) (s_1.2.1.take y_1.toNat).length cap_36) (s_1.2.1.take y_1.toNat).length (cs_1.take (y_1.toNat * 6))) :: (Ent.obj b_13 (.cells #[.int .i8 x_2.fKind, .bool x_2.fBool, .int .i64 x_2.fNum, S x_2.fText, .slice A_9 x_2.fList.length cap_9, .slice A_10 x_2.fKeys.length cap_10] 26 (0, 0))) :: (Ent.row 26 6 (.slice A_17 (([] : List TA0) ++ (s_1.2.1.take s_1.2.1.length).drop y_1.toNat).length cap_18) (([] : List TA0) ++ (s_1.2.1.take s_1.2.1.length).drop y_1.toNat).length cs_5) :: (Ent.row 9 1 (.slice A_30 y_2.length cap_31) y_2.length cs_12) :: (Ent.obj b_5 (.cells #[.int .i8 x_2.fKind, .bool x_2.fBool, .int .i64 x_2.fNum, S x_2.fText, .slice A_9 x_2.fList.length cap_9, .slice A_10 x_2.fKeys.length cap_10] 26 (0, 0))) :: (Ent.obj b_3 (.cells #[.int .i8 d0.fKind, .bool d0.fBool, .int .i64 d0.fNum, S d0.fText, .slice A_5 s_1.2.1.length cap_5, .slice A_30 y_2.length cap_31] 26 (0, 0))) :: (Ent.obj b_2 (.cells #[.int .i8 0, .bool false, .int .i64 0, S [], .slice none 0 0, .slice none 0 0] 26 (0, 0))) :: H) w_47 := by rw [hl_10]; exact p_95.rowFront hv_16 (by omega)
          have f := Frm.set f 89 (v := .slice (cutA A_35 6 0 cap_36) y_1.toNat cap_36) (v' := .slice (cutA A_35 6 0 cap_36) (s_1.2.1.take y_1.toNat).length cap_36) (by kernel_rfl) (by rw [hl_10])
          refine Y19 (z := .agg #[.int .i8 0, .bool false, .int .i64 0, S [], .slice none 0 0, .slice none 0 0]) (f := emb_TA0) (xs := s_1.2.1.take y_1.toNat) (ys := [(⟨x_2.fKind, (x_2.fBool), x_2.fNum, x_2.fText, x_2.fList, x_2.fKeys⟩ : TA0)]) (news := [.int .i8 x_2.fKind, .bool x_2.fBool, .int .i64 x_2.fNum, S x_2.fText, .slice A_9 x_2.fList.length cap_9, .slice A_10 x_2.fKeys.length cap_10]) (ad := ⟨b_13, 0, none⟩) (m := 1) (c := 1) f p_96 hr_29 (by exact ⟨_, _, rfl, TA0.shut (h_6.mono (hM_5.trans hM_9)) (h_7.mono (hM_5.trans hM_9)), rfl⟩) rfl rfl rfl rfl (own_cells (p_96.ownCell 1 rfl) 0 rfl) (by exact g_12) (by have hg_ := g_12; first | omega | (simp only [List.length_cons, List.length_nil] at *; omega)) fun A_36 cap_37 cs_15 w_48 p_97 hr_30 _ f => ?_
          have p_98 := p_97.pl [1]
          have p_99 := p_98.drop
          refine W_end rfl (N_goN 2 (mR _) p_99 rfl (N_alt rfl (fun w_49 p_100 => ?_) ?_))
          ·have p_101 := p_100.pl [1]
           obtain ⟨A_37, cap_38, M_11, hv_17, hM_11, p_102, h_15⟩ := p_101.rowSli (f := emb_TA0) (xs := ([] : List TA0) ++ (s_1.2.1.take s_1.2.1.length).drop y_1.toNat) szd_TA0 (RepSeq.mono hM_9 _ _ hr_13)
           have f := f.st 93 (hv_17)
           refine Y21 (z := .agg #[.int .i8 0, .bool false, .int .i64 0, S [], .slice none 0 0, .slice none 0 0]) (f := emb_TA0) (xs := (s_1.2.1.take y_1.toNat) ++ [(⟨x_2.fKind, (x_2.fBool), x_2.fNum, x_2.fText, x_2.fList, x_2.fKeys⟩ : TA0)]) (ys := ([] : List TA0) ++ (s_1.2.1.take s_1.2.1.length).drop y_1.toNat) (c := cap_38) f p_102 (RepSeq.mono hM_11 _ _ hr_30) h_15 rfl rfl rfl g_13 (by omega) fun A_38 cap_39 cs_16 w_50 p_103 hr_31 _ f => W_end rfl (N_goN 1 hM_11 p_103 rfl (N_tail fun w_51 p_104 => Y f 1 fun _ f => Y26 f p_104 3 rfl rfl (b := b_3) (j := 4) (v := .slice A_38 (((s_1.2.1.take y_1.toNat) ++ [(⟨x_2.fKind, (x_2.fBool), x_2.fNum, x_2.fText, x_2.fList, x_2.fKeys⟩ : TA0)]) ++ (([] : List TA0) ++ (s_1.2.1.take s_1.2.1.length).drop y_1.toNat)).length cap_39) rfl (by exact rfl) (by simp) (by simp) ((Ent.row 26 6 (.slice A_38 (((s_1.2.1.take y_1.toNat) ++ [(⟨x_2.fKind, (x_2.fBool), x_2.fNum, x_2.fText, x_2.fList, x_2.fKeys⟩ : TA0)]) ++ (([] : List TA0) ++ (s_1.2.1.take s_1.2.1.length).drop y_1.toNat)).length cap_39) (((s_1.2.1.take y_1.toNat) ++ [(⟨x_2.fKind, (x_2.fBool), x_2.fNum, x_2.fText, x_2.fList, x_2.fKeys⟩ : TA0)]) ++ (([] : List TA0) ++ (s_1.2.1.take s_1.2.1.length).drop y_1.toNat)).length cs_16) :: (Ent.row 9 1 (.slice A_30 y_2.length cap_31) y_2.length cs_12) :: (Ent.obj b_5 (.cells #[.int .i8 x_2.fKind, .bool x_2.fBool, .int .i64 x_2.fNum, S x_2.fText, .slice A_9 x_2.fList.length cap_9, .slice A_10 x_2.fKeys.length cap_10] 26 (0, 0))) :: (Ent.obj b_3 (.cells #[.int .i8 d0.fKind, .bool d0.fBool, .int .i64 d0.fNum, S d0.fText, .slice A_38 (((s_1.2.1.take y_1.toNat) ++ [(⟨x_2.fKind, (x_2.fBool), x_2.fNum, x_2.fText, x_2.fList, x_2.fKeys⟩ : TA0)]) ++ (([] : List TA0) ++ (s_1.2.1.take s_1.2.1.length).drop y_1.toNat)).length cap_39, .slice A_30 y_2.length cap_31] 26 (0, 0))) :: (Ent.obj b_2 (.cells #[.int .i8 0, .bool false, .int .i64 0, S [], .slice none 0 0, .slice none 0 0] 26 (0, 0))) :: H) rfl fun w_52 p_105 _ f => W_end rfl (N_te (T_n ?_))))
           exact ⟨((s_1.2.1.take y_1.toNat) ++ [(⟨x_2.fKind, (x_2.fBool), x_2.fNum, x_2.fText, x_2.fList, x_2.fKeys⟩ : TA0)]) ++ (([] : List TA0) ++ (s_1.2.1.take s_1.2.1.length).drop y_1.toNat), (sI hF_29).symm, M_11, hM_11, A_38, cap_39, cs_16, hr_31, f.kp, p_105⟩
          exact N_none
         exact N_none
        exact N_none
       refine N_alt rfl (fun w_53 p_106 => ?_) ?_
       ·refine V_allocS (k := 1) (c := 1) f p_106 (.cells #[.int .i8 x_2.fKind, .bool x_2.fBool, .int .i64 x_2.fNum, S x_2.fText, .slice A_9 x_2.fList.length cap_9, .slice A_10 x_2.fKeys.length cap_10] 26 (0, 0)) (by kernel_rfl) (fun _ => by kernel_rfl) fun b_14 w_54 p_107 _ f => W_end rfl (N_goN 3 (mR _) p_107 rfl (N_alt rfl (fun w_55 p_108 => ?_) ?_))
        ·obtain ⟨A_39, cap_40, hv_18, hcap_9, hcn_8⟩ := p_108.rowShape 2 rfl
         have f := f.st 87 (hv_18)
         refine Z f (Y36 rfl (A := A_39) (len := s_1.2.1.length) (cap := cap_40) (k' := .i64) (b := y_1) (e := 26) (sz := 6) (by omega) (by omega)) fun _ f => ?_
         have f := f.st 87 (hv_18.symm)
         refine W_end rfl (N_goN 3 (mR _) p_108 rfl (N_alt rfl (fun w_56 p_109 => ?_) ?_))
         ·have p_110 := p_109.pl [2]
          have hr_32 : RepSeq M_9 ((s_1.2.1.take y_1.toNat).map emb_TA0) (cs_1.take (y_1.toNat * 6)) := by rw [List.map_take]; exact RepSeq.takeD _ (szd_all szd_TA0) (RepSeq.mono ((hM_3.trans hM_5).trans hM_9) _ _ hr_3)
          have hl_11 : (s_1.2.1.take y_1.toNat).length = y_1.toNat := by rw [List.length_take]; omega
          have p_111 : Hp w0 M_9 ((Ent.row 26 6 (.slice (cutA A_39 6 0 cap_40) (s_1.2.1.take y_1.toNat).length cap_40) (s_1.2.1.take y_1.toNat).length (cs_1.take (y_1.toNat * 6))) :: (Ent.obj b_14 (.cells #[.int .i8 x_2.fKind, .bool x_2.fBool, .int .i64 x_2.fNum, S x_2.fText, .slice A_9 x_2.fList.length cap_9, .slice A_10 x_2.fKeys.length cap_10] 26 (0, 0))) :: (Ent.row 26 6 (.slice A_17 (([] : List TA0) ++ (s_1.2.1.take s_1.2.1.length).drop y_1.toNat).length cap_18) (([] : List TA0) ++ (s_1.2.1.take s_1.2.1.length).drop y_1.toNat).length cs_5) :: (Ent.row 9 1 (.slice A_30 y_2.length cap_31) y_2.length cs_12) :: (Ent.obj b_5 (.cells #[.int .i8 x_2.fKind, .bool x_2.fBool, .int .i64 x_2.fNum, S x_2.fText, .slice A_9 x_2.fList.length cap_9, .slice A_10 x_2.fKeys.length cap_10] 26 (0, 0))) :: (Ent.obj b_3 (.cells #[.int .i8 d0.fKind, .bool d0.fBool, .int .i64 d0.fNum, S d0.fText, .slice A_5 s_1.2.1.length cap_5, .slice A_30 y_2.length cap_31] 26 (0, 0))) :: (Ent.obj b_2 (.cells #[.int .i8 0, .bool false, .int .i64 0, S [], .slice none 0 0, .slice none 0 0] 26 (0, 0))) :: H) w_56 := by rw [hl_11]; exact p_110.rowFront hv_18 (by omega)
          have f := Frm.set f 89 (v := .slice (cutA A_39 6 0 cap_40) y_1.toNat cap_40) (v' := .slice (cutA A_39 6 0 cap_40) (s_1.2.1.take y_1.toNat).length cap_40) (by kernel_rfl) (by rw [hl_11])
          refine Y19 (z := .agg #[.int .i8 0, .bool false, .int .i64 0, S [], .slice none 0 0, .slice none 0 0]) (f := emb_TA0) (xs := s_1.2.1.take y_1.toNat) (ys := [(⟨x_2.fKind, (x_2.fBool), x_2.fNum, x_2.fText, x_2.fList, x_2.fKeys⟩ : TA0)]) (news := [.int .i8 x_2.fKind, .bool x_2.fBool, .int .i64 x_2.fNum, S x_2.fText, .slice A_9 x_2.fList.length cap_9, .slice A_10 x_2.fKeys.length cap_10]) (ad := ⟨b_14, 0, none⟩) (m := 1) (c := 1) f p_111 hr_32 (by exact ⟨_, _, rfl, TA0.shut (h_6.mono (hM_5.trans hM_9)) (h_7.mono (hM_5.trans hM_9)), rfl⟩) rfl rfl rfl rfl (own_cells (p_111.ownCell 1 rfl) 0 rfl) (by exact g_12) (by have hg_ := g_12; first | omega | (simp only [List.length_cons, List.length_nil] at *; omega)) fun A_40 cap_41 cs_17 w_57 p_112 hr_33 _ f => ?_
          have p_113 := p_112.pl [1]
          have p_114 := p_113.drop
          refine W_end rfl (N_goN 2 (mR _) p_114 rfl (N_alt rfl (fun w_58 p_115 => ?_) ?_))
          ·have p_116 := p_115.pl [1]
           obtain ⟨A_41, cap_42, M_12, hv_19, hM_12, p_117, h_16⟩ := p_116.rowSli (f := emb_TA0) (xs := ([] : List TA0) ++ (s_1.2.1.take s_1.2.1.length).drop y_1.toNat) szd_TA0 (RepSeq.mono hM_9 _ _ hr_13)
           have f := f.st 93 (hv_19)
           refine Y21 (z := .agg #[.int .i8 0, .bool false, .int .i64 0, S [], .slice none 0 0, .slice none 0 0]) (f := emb_TA0) (xs := (s_1.2.1.take y_1.toNat) ++ [(⟨x_2.fKind, (x_2.fBool), x_2.fNum, x_2.fText, x_2.fList, x_2.fKeys⟩ : TA0)]) (ys := ([] : List TA0) ++ (s_1.2.1.take s_1.2.1.length).drop y_1.toNat) (c := cap_42) f p_117 (RepSeq.mono hM_12 _ _ hr_33) h_16 rfl rfl rfl g_13 (by omega) fun A_42 cap_43 cs_18 w_59 p_118 hr_34 _ f => W_end rfl (N_goN 1 hM_12 p_118 rfl (N_tail fun w_60 p_119 => Y f 1 fun _ f => Y26 f p_119 3 rfl rfl (b := b_3) (j := 4) (v := .slice A_42 (((s_1.2.1.take y_1.toNat) ++ [(⟨x_2.fKind, (x_2.fBool), x_2.fNum, x_2.fText, x_2.fList, x_2.fKeys⟩ : TA0)]) ++ (([] : List TA0) ++ (s_1.2.1.take s_1.2.1.length).drop y_1.toNat)).length cap_43) rfl (by exact rfl) (by simp) (by simp) ((Ent.row 26 6 (.slice A_42 (((s_1.2.1.take y_1.toNat) ++ [(⟨x_2.fKind, (x_2.fBool), x_2.fNum, x_2.fText, x_2.fList, x_2.fKeys⟩ : TA0)]) ++ (([] : List TA0) ++ (s_1.2.1.take s_1.2.1.length).drop y_1.toNat)).length cap_43) (((s_1.2.1.take y_1.toNat) ++ [(⟨x_2.fKind, (x_2.fBool), x_2.fNum, x_2.fText, x_2.fList, x_2.fKeys⟩ : TA0)]) ++ (([] : List TA0) ++ (s_1.2.1.take s_1.2.1.length).drop y_1.toNat)).length cs_18) :: (Ent.row 9 1 (.slice A_30 y_2.length cap_31) y_2.length cs_12) :: (Ent.obj b_5 (.cells #[.int .i8 x_2.fKind, .bool x_2.fBool, .int .i64 x_2.fNum, S x_2.fText, .slice A_9 x_2.fList.length cap_9, .slice A_10 x_2.fKeys.length cap_10] 26 (0, 0))) :: (Ent.obj b_3 (.cells #[.int .i8 d0.fKind, .bool d0.fBool, .int .i64 d0.fNum, S d0.fText, .slice A_42 (((s_1.2.1.take y_1.toNat) ++ [(⟨x_2.fKind, (x_2.fBool), x_2.fNum, x_2.fText, x_2.fList, x_2.fKeys⟩ : TA0)]) ++ (([] : List TA0) ++ (s_1.2.1.take s_1.2.1.length).drop y_1.toNat)).length cap_43, .slice A_30 y_2.length cap_31] 26 (0, 0))) :: (Ent.obj b_2 (.cells #[.int .i8 0, .bool false, .int .i64 0, S [], .slice none 0 0, .slice none 0 0] 26 (0, 0))) :: H) rfl fun w_61 p_120 _ f => W_end rfl (N_te (T_n ?_))))
           exact ⟨((s_1.2.1.take y_1.toNat) ++ [(⟨x_2.fKind, (x_2.fBool), x_2.fNum, x_2.fText, x_2.fList, x_2.fKeys⟩ : TA0)]) ++ (([] : List TA0) ++ (s_1.2.1.take s_1.2.1.length).drop y_1.toNat), (sI hF_29).symm, M_12, hM_12, A_42, cap_43, cs_18, hr_34, f.kp, p_120⟩
          exact N_none
         exact N_none
        exact N_none
       exact N_none
      ·rintro a_137 w_62 ⟨y_3, hq_2, M_13, hM_13, A_43, cap_44, cs_19, hr_35, f, p_121⟩
       subst j_2
       refine B_n (T_n (R_reg (Y f 1 fun _ f => ?_)))
       obtain ⟨g_14, hF_30⟩ := nS hF_26
       refine Y f 1 fun _ f => ?_
       have f := f.st 24 (congrArg (Value.int .i64) (inR_wrap g_14))
       refine Y f 1 fun _ f => W_end rfl ?_
       have p_132 := p_121.pl [4, 4, 3, 3, 4]
       refine T_n ?_
       obtain rfl := sI hF_30
       exact ⟨⟨m_2, (s_1.1 + 1, y_3, y_2), A_43, cap_44, cs_19, A_30, cap_31, cs_12⟩, Nat.lt_succ_self _, M_13, ((((hM_2.trans hM_3).trans hM_5).trans hM_9).trans hM_13), ⟨hn_1, hr_35, (RepSeq.mono hM_13 _ _ hr_25)⟩, f.kp, (p_132.dropN 1)⟩
  ·have k_8 := iff_f dI h_3
   refine wp_exit (T_x (T_x ?_))
   obtain rfl := sI hF_31
   exact ⟨rfl, (s_1.2.1, s_1.2.2), (sI hn_1).symm, M_2, hM_2, A_5, cap_5, cs_1, A_6, cap_6, cs_2, hr_3, hr_4, f.kp, p_11⟩
 ·rintro _ _ w_64 ⟨rfl, y_4, hq_, M_14, hM_14, A_44, cap_45, cs_20, A_45, cap_46, cs_21, hr_36, hr_37, f, p_122⟩
  subst b_4
  refine B_x (T_n (RR (Z (v := .agg #[.int .i8 d0.fKind, .bool d0.fBool, .int .i64 d0.fNum, S d0.fText, .slice A_44 y_4.1.length cap_45, .slice A_45 y_4.2.length cap_46]) f (Y32 (cs := [.int .i8 d0.fKind, .bool d0.fBool, .int .i64 d0.fNum, S d0.fText, .slice A_44 y_4.1.length cap_45, .slice A_45 y_4.2.length cap_46]) rfl (ad := ⟨b_3, 0, none⟩) (own_cells (p_122.ownCell 2 rfl) 0 rfl)) fun _ f => ?_)))
  obtain ⟨A_46, cap_47, M_15, hv_20, hM_15, p_133, h_17⟩ := p_122.rowSli (f := emb_TA0) (xs := y_4.1) szd_TA0 hr_36
  have f := Frm.set f 96 (v := .agg #[.int .i8 d0.fKind, .bool d0.fBool, .int .i64 d0.fNum, S d0.fText, .slice A_44 y_4.1.length cap_45, .slice A_45 y_4.2.length cap_46]) (v' := .agg #[.int .i8 d0.fKind, .bool d0.fBool, .int .i64 d0.fNum, S d0.fText, .slice A_46 y_4.1.length cap_47, .slice A_45 y_4.2.length cap_46]) (by kernel_rfl) (by rw [hv_20])
  have p_134 : Hp w0 M_15 ((Ent.row 9 1 (.slice A_45 y_4.2.length cap_46) y_4.2.length cs_21) :: (Ent.obj b_3 (.cells #[.int .i8 d0.fKind, .bool d0.fBool, .int .i64 d0.fNum, S d0.fText, .slice A_46 y_4.1.length cap_47, .slice A_45 y_4.2.length cap_46] 26 (0, 0))) :: (Ent.obj b_2 (.cells #[.int .i8 0, .bool false, .int .i64 0, S [], .slice none 0 0, .slice none 0 0] 26 (0, 0))) :: H) w_64 := by rw [hv_20] at p_133; exact p_133
  obtain ⟨A_47, cap_48, M_16, hv_21, hM_16, p_135, h_18⟩ := p_134.rowSli (f := Dat.str) (xs := y_4.2) szd_str (RepSeq.mono hM_15 _ _ hr_37)
  have f := Frm.set f 96 (v := .agg #[.int .i8 d0.fKind, .bool d0.fBool, .int .i64 d0.fNum, S d0.fText, .slice A_46 y_4.1.length cap_47, .slice A_45 y_4.2.length cap_46]) (v' := .agg #[.int .i8 d0.fKind, .bool d0.fBool, .int .i64 d0.fNum, S d0.fText, .slice A_46 y_4.1.length cap_47, .slice A_47 y_4.2.length cap_48]) (by kernel_rfl) (by rw [hv_21])
  have p_136 : Hp w0 M_16 ((Ent.obj b_3 (.cells #[.int .i8 d0.fKind, .bool d0.fBool, .int .i64 d0.fNum, S d0.fText, .slice A_46 y_4.1.length cap_47, .slice A_47 y_4.2.length cap_48] 26 (0, 0))) :: (Ent.obj b_2 (.cells #[.int .i8 0, .bool false, .int .i64 0, S [], .slice none 0 0, .slice none 0 0] 26 (0, 0))) :: H) w_64 := by rw [hv_21] at p_135; exact p_135
  have p_137 := p_136.pl [1]
  refine Y27 (vs := [.int .i8 d0.fKind, .bool d0.fBool, .int .i64 d0.fNum, S d0.fText, .slice A_46 y_4.1.length cap_47, .slice A_47 y_4.2.length cap_48]) (j := 0) f p_137 rfl rfl (by simp [Value.oneCell', S]) (by simp) (by decide) (cs' := #[.int .i8 d0.fKind, .bool d0.fBool, .int .i64 d0.fNum, S d0.fText, .slice A_46 y_4.1.length cap_47, .slice A_47 y_4.2.length cap_48]) fun w_65 p_138 _ f => eT (wp_ret (E_rv1 f rfl (Y10 (cs := [.int .i8 d0.fKind, .bool d0.fBool, .int .i64 d0.fNum, S d0.fText, .slice A_46 y_4.1.length cap_47, .slice A_47 y_4.2.length cap_48]) (ad := ⟨b_2, 0, none⟩) f (own_cells (p_138.ownCell 0 rfl) 0 rfl)) ?_))
  obtain rfl := sI hF_1
  exact ⟨_, rfl, M_16, (((hM_1.trans hM_14).trans hM_15).trans hM_16), (p_138.dropN 2), ⟨[.int .i8 d0.fKind, .bool d0.fBool, .int .i64 d0.fNum, S d0.fText, .slice A_46 y_4.1.length cap_47, .slice A_47 y_4.2.length cap_48], rfl, (TA0.shut (h_17.mono hM_16) h_18)⟩⟩
def ref03_sorted_k (n : Nat) : Nat → TA0 → Option TA0
  | 0 => fun _ => none
  | k + 1 => ref03_sorted_b n (ref03_sorted_k n k)
def ref03_sorted (n : Nat) (d0 : TA0) : Option TA0 := ref03_sorted_k n n d0
theorem ref03_sorted_ok (n : Nat) (M : Mem) (c0 : List Value) (d0 : TA0) (h0 : Rep M (emb_TA0 d0) c0) (r : TA0) (hF : ref03_sorted n d0 = some r) : Ok Tryz.prog M 33 [.agg c0.toArray] (fun M' v => ∃ (c0 : List Value), v = .agg c0.toArray ∧ Rep M' (emb_TA0 r) c0) := by
 have key : ∀ (k : Nat) (M : Mem) (c0 : List Value) (d0 : TA0) (h0 : Rep M (emb_TA0 d0) c0) (r : TA0) (hF : ref03_sorted_k n k d0 = some r), Ok Tryz.prog M 33 [.agg c0.toArray] (fun M' v => ∃ (c0 : List Value), v = .agg c0.toArray ∧ Rep M' (emb_TA0 r) c0) := by
  intro k
  induction k with
  | zero => intro M c0 d0 h0 r hF; simp [ref03_sorted_k] at hF
  | succ k ih => intro M c0 d0 h0 r hF; exact ref03_sorted_b_ok n (ref03_sorted_k n k) ih M c0 d0 h0 r hF
 exact key n M c0 d0 h0 r hF
def ref03_Sorted (n : Nat) (d0 : TA0) : Option TA0 :=
  (ref03_Check n d0).bind fun x_1 =>
  bif (!(decide (x_1 = 0))) then
    (some (d0))
  else
    (ref03_sorted n d0).bind fun x_2 =>
    some (x_2)
theorem ref03_Sorted_ok (n : Nat) (M : Mem) (c0 : List Value) (d0 : TA0) (h0 : Rep M (emb_TA0 d0) c0) (r : TA0) (hF : ref03_Sorted n d0 = some r) : Ok Tryz.prog M 19 [.agg c0.toArray] (fun M' v => ∃ (c0 : List Value), v = .agg c0.toArray ∧ Rep M' (emb_TA0 r) c0) := by
 unfold ref03_Sorted at hF
 intro M1 hM0 w0 H w p0
 replace h0 := Rep.mono hM0 _ _ h0
 obtain ⟨A_1, cap_1, A_2, cap_2, rfl, h_1, h_2⟩ := TA0.opn h0
 refine R_enter 9 Tryz.func19 rfl rfl (by simp) fun a0 f0 => RR (Y12 (cs := #[.int .i8 d0.fKind, .bool d0.fBool, .int .i64 d0.fNum, S d0.fText, .slice A_1 d0.fList.length cap_1, .slice A_2 d0.fKeys.length cap_2]) (T := 26) f0 p0 fun b_1 M_1 w_1 hM_1 hc_1 p_1 _ f => ?_)
 have hc_2 := fz_box hc_1
 refine Y11 f p_1 (.cells #[.int .i8 0, .bool false, .int .i64 0, S [], .slice none 0 0, .slice none 0 0] 26 (0, 0)) fun b_2 w_2 p_2 _ f => eT (R_seq (RR (Z (v := .agg #[.int .i8 d0.fKind, .bool d0.fBool, .int .i64 d0.fNum, S d0.fText, .slice A_1 d0.fList.length cap_1, .slice A_2 d0.fKeys.length cap_2]) f (Y32 (cs := [.int .i8 d0.fKind, .bool d0.fBool, .int .i64 d0.fNum, S d0.fText, .slice A_1 d0.fList.length cap_1, .slice A_2 d0.fKeys.length cap_2]) rfl (ad := ⟨b_1, 0, none⟩) (fun j v h => p_2.cell (hc_2 j v h))) fun _ f => ?_)))
 obtain ⟨x_1, hx_1, hF_1⟩ := bS hF
 refine Y17 f p_2 (ref03_Check_ok n _ _ d0 (TA0.shutx (x := d0) (h_1.mono hM_1) (h_2.mono hM_1)) x_1 hx_1) fun w_3 p_3 _ f => Y f 1 fun _ f => eT (RcF f hF_1 (fun h_3 hF_2 => ?_) fun h_3 hF_3 => ?_)
 ·have k_1 : ¬ (x_1 = 0) := (not_iff dI).1 h_3
  refine RR (Z (v := .agg #[.int .i8 d0.fKind, .bool d0.fBool, .int .i64 d0.fNum, S d0.fText, .slice A_1 d0.fList.length cap_1, .slice A_2 d0.fKeys.length cap_2]) f (Y32 (cs := [.int .i8 d0.fKind, .bool d0.fBool, .int .i64 d0.fNum, S d0.fText, .slice A_1 d0.fList.length cap_1, .slice A_2 d0.fKeys.length cap_2]) rfl (ad := ⟨b_1, 0, none⟩) (fun j v h => p_3.cell (hc_2 j v h))) fun _ f => Y27 (vs := [.int .i8 d0.fKind, .bool d0.fBool, .int .i64 d0.fNum, S d0.fText, .slice A_1 d0.fList.length cap_1, .slice A_2 d0.fKeys.length cap_2]) (j := 0) f p_3 rfl rfl (by simp [Value.oneCell', S]) (by simp) (by decide) (cs' := #[.int .i8 d0.fKind, .bool d0.fBool, .int .i64 d0.fNum, S d0.fText, .slice A_1 d0.fList.length cap_1, .slice A_2 d0.fKeys.length cap_2]) fun w_4 p_4 _ f => eT (wp_ret (T_r (E_rv1 f rfl (Y10 (cs := [.int .i8 d0.fKind, .bool d0.fBool, .int .i64 d0.fNum, S d0.fText, .slice A_1 d0.fList.length cap_1, .slice A_2 d0.fKeys.length cap_2]) (ad := ⟨b_2, 0, none⟩) f (own_cells (p_4.ownCell 0 rfl) 0 rfl)) ?_))))
  obtain rfl := sI hF_2
  exact ⟨_, rfl, M_1, hM_1, (p_4.dropN 1), ⟨[.int .i8 d0.fKind, .bool d0.fBool, .int .i64 d0.fNum, S d0.fText, .slice A_1 d0.fList.length cap_1, .slice A_2 d0.fKeys.length cap_2], rfl, (TA0.shutx (x := d0) (h_1.mono hM_1) (h_2.mono hM_1))⟩⟩
 ·have k_2 : ¬ (¬ (x_1 = 0)) := iff_f (not_iff dI) h_3
  refine wp_skip (T_n (RR (Z (v := .agg #[.int .i8 d0.fKind, .bool d0.fBool, .int .i64 d0.fNum, S d0.fText, .slice A_1 d0.fList.length cap_1, .slice A_2 d0.fKeys.length cap_2]) f (Y32 (cs := [.int .i8 d0.fKind, .bool d0.fBool, .int .i64 d0.fNum, S d0.fText, .slice A_1 d0.fList.length cap_1, .slice A_2 d0.fKeys.length cap_2]) rfl (ad := ⟨b_1, 0, none⟩) (fun j v h => p_3.cell (hc_2 j v h))) fun _ f => ?_)))
  obtain ⟨x_2, hx_2, hF_4⟩ := bS hF_3
  refine Y15 f p_3 (ref03_sorted_ok n _ _ d0 (TA0.shutx (x := d0) (h_1.mono hM_1) (h_2.mono hM_1)) x_2 hx_2) fun _ M_2 w_5 hM_2 p_5 q_1 _ f => ?_
  obtain ⟨c_1, rfl, hr_1⟩ := q_1
  obtain ⟨A_3, cap_3, A_4, cap_4, rfl, h_4, h_5⟩ := TA0.opn hr_1
  refine Y27 (vs := [.int .i8 x_2.fKind, .bool x_2.fBool, .int .i64 x_2.fNum, S x_2.fText, .slice A_3 x_2.fList.length cap_3, .slice A_4 x_2.fKeys.length cap_4]) (j := 0) f p_5 rfl rfl (by simp [Value.oneCell', S]) (by simp) (by decide) (cs' := #[.int .i8 x_2.fKind, .bool x_2.fBool, .int .i64 x_2.fNum, S x_2.fText, .slice A_3 x_2.fList.length cap_3, .slice A_4 x_2.fKeys.length cap_4]) fun w_6 p_6 _ f => eT (wp_ret (E_rv1 f rfl (Y10 (cs := [.int .i8 x_2.fKind, .bool x_2.fBool, .int .i64 x_2.fNum, S x_2.fText, .slice A_3 x_2.fList.length cap_3, .slice A_4 x_2.fKeys.length cap_4]) (ad := ⟨b_2, 0, none⟩) f (own_cells (p_6.ownCell 0 rfl) 0 rfl)) ?_))
  obtain rfl := sI hF_4
  exact ⟨_, rfl, M_2, (hM_1.trans hM_2), (p_6.dropN 1), ⟨[.int .i8 x_2.fKind, .bool x_2.fBool, .int .i64 x_2.fNum, S x_2.fText, .slice A_3 x_2.fList.length cap_3, .slice A_4 x_2.fKeys.length cap_4], rfl, (TA0.shutx (x := x_2) h_4 h_5)⟩⟩
def ref05_digits_b (n : Nat) (rec_ref05_digits : Int → Option (List UInt8)) (d0 : Int) : Option (List UInt8) :=
  bif (decide (d0 < 0)) then
    (need (inR .i64 (0 - d0)) <|
    (rec_ref05_digits (-d0)).bind fun x_1 =>
    need ([45].length + x_1.length ≤ 9223372036854775807) <|
    some ([45] ++ x_1))
  else
    bif (decide (d0 < 10)) then
      (need (inR .i64 ((48 : Int) + d0)) <|
      need (0 ≤ (IntKind.wrap .u8 ((48 : Int) + d0)) ∧ (IntKind.wrap .u8 ((48 : Int) + d0)) < 256) <|
      some ([UInt8.ofNat (IntKind.wrap .u8 ((48 : Int) + d0)).toNat]))
    else
      need ((10 : Int) ≠ 0) <|
      need (inR .i64 (d0.tdiv (10 : Int))) <|
      (rec_ref05_digits (d0.tdiv (10 : Int))).bind fun x_2 =>
      need ((10 : Int) ≠ 0) <|
      need (inR .i64 ((48 : Int) + (d0.tmod (10 : Int)))) <|
      need (0 ≤ (IntKind.wrap .u8 ((48 : Int) + (d0.tmod (10 : Int)))) ∧ (IntKind.wrap .u8 ((48 : Int) + (d0.tmod (10 : Int)))) < 256) <|
      need (x_2.length + [UInt8.ofNat (IntKind.wrap .u8 ((48 : Int) + (d0.tmod (10 : Int)))).toNat].length ≤ 9223372036854775807) <|
      some (x_2 ++ [UInt8.ofNat (IntKind.wrap .u8 ((48 : Int) + (d0.tmod (10 : Int)))).toNat])
theorem ref05_digits_b_ok (n : Nat) (rec_ref05_digits : Int → Option (List UInt8)) (hrec_ref05_digits : ∀ (M : Mem) (hG : GL M) (d0 : Int) (r : List UInt8) (hF : rec_ref05_digits d0 = some r), Ok Tryz.prog M 47 [.int .i64 d0] (fun _ v => v = S r)) (M : Mem) (hG : GL M) (d0 : Int) (r : List UInt8) (hF : ref05_digits_b n rec_ref05_digits d0 = some r) : Ok Tryz.prog M 47 [.int .i64 d0] (fun _ v => v = S r) := by
 unfold ref05_digits_b at hF
 intro M1 hM0 w0 H w p0
 replace hG := GL.mono hM0 hG
 refine R_enter 26 Tryz.func47 rfl rfl (by simp) fun a0 f0 => RR (Y f0 1 fun _ f => eT (R_seq (RR (Y f 2 fun _ f => eT (RcF f hF (fun h_1 hF_1 => ?_) fun h_1 hF_5 => ?_)))))
 ·have k_1 := dI.1 h_1
  refine RR (Y f 1 fun _ f => ?_)
  obtain ⟨g_1, hF_2⟩ := nS hF_1
  refine Y f 1 fun _ f => ?_
  have f := Frm.set f 6 (v := .int .i64 (IntKind.wrap .i64 (0 - d0))) (v' := .int .i64 (-d0)) (by kernel_rfl) (congrArg (Value.int .i64) ((inR_wrap g_1).trans (Int.zero_sub _)))
  obtain ⟨x_1, hx_1, hF_3⟩ := bS hF_2
  refine Y17 f p0 (hrec_ref05_digits _ hG (-d0) x_1 hx_1) fun w_1 p_1 _ f => ?_
  obtain ⟨g_2, hF_4⟩ := nS hF_3
  refine Z f (Y28 rfl (l := [45]) (m := x_1) g_2) fun _ f => Y f 1 fun _ f => eT (wp_ret (T_r (E_ret1 f rfl (by kernel_rfl : Vc.look _ 2 = some (S ([45] ++ x_1))) ?_)))
  obtain rfl := sI hF_4
  exact ⟨_, rfl, M1, (mR _), p_1, rfl⟩
 ·have k_2 := iff_f dI h_1
  refine wp_skip (T_n (R_seq (RR (Y f 2 fun _ f => eT (RcF f hF_5 (fun h_2 hF_6 => ?_) fun h_2 hF_9 => ?_)))))
  ·have k_3 := dI.1 h_2
   refine RR (Y f 1 fun _ f => ?_)
   obtain ⟨g_3, hF_7⟩ := nS hF_6
   refine Y f 1 fun _ f => ?_
   have f := f.st 12 (congrArg (Value.int .i64) (inR_wrap g_3))
   refine Y f 1 fun _ f => V_allocS (k := 1) (c := 1) f p0 (.cells #[.int .u8 (IntKind.wrap .u8 ((48 : Int) + d0))] 5 (0, 0)) (by kernel_rfl) (fun _ => by kernel_rfl) fun b_1 w_2 p_2 _ f => ?_
   obtain ⟨g_4, hF_8⟩ := nS hF_7
   have hr_1 : RepSeq M1 ([UInt8.ofNat (IntKind.wrap .u8 ((48 : Int) + d0)).toNat].map embB) [.int .u8 (IntKind.wrap .u8 ((48 : Int) + d0))] := ⟨_, _, rfl, (embB_of (by omega)), rfl⟩
   have p_3 : Hp w0 M1 ((Ent.row 5 1 (.slice (some ⟨b_1, 0, none⟩) 1 1) [UInt8.ofNat (IntKind.wrap .u8 ((48 : Int) + d0)).toNat].length [.int .u8 (IntKind.wrap .u8 ((48 : Int) + d0))]) :: H) w_2 := p_2.objRow (n := 1) (cap := 1) (size := 1) (by decide) (by decide) (blk_eq (by decide) rfl) rfl rfl
   have he_1 := RepSeq.bytes_eq hr_1
   refine Z (v := S [UInt8.ofNat (IntKind.wrap .u8 ((48 : Int) + d0)).toNat]) f (X_string_row rfl (l := [UInt8.ofNat (IntKind.wrap .u8 ((48 : Int) + d0)).toNat]) (v := .slice (some ⟨b_1, 0, none⟩) 1 1) (by kernel_rfl) (e := 5) (by kernel_rfl) (by kernel_rfl) (by kernel_rfl) (by have h0 := p_3.rowAt 0 rfl; rw [he_1] at h0; exact h0)) fun _ f => Y f 1 fun _ f => eT (wp_ret (T_r (E_ret1 f rfl (by kernel_rfl : Vc.look _ 2 = some (S [UInt8.ofNat (IntKind.wrap .u8 ((48 : Int) + d0)).toNat])) ?_)))
   obtain rfl := sI hF_8
   exact ⟨_, rfl, M1, (mR _), (p_3.dropN 1), rfl⟩
  ·have k_4 := iff_f dI h_2
   refine wp_skip (T_n (R_seq (R_mix (E := []) (Hr := (H)) [(0, true), (1, true), (2, true), (3, true), (4, true), (5, true), (6, true), (7, false), (8, false), (9, true), (10, true)] p0 (by kernel_rfl) (by kernel_rfl) rfl (by kernel_rfl) (Y0 default f 1 fun _ f => ?_))))
   obtain ⟨g_5, hF_10⟩ := nS hF_9
   obtain ⟨g_6, hF_11⟩ := nS hF_10
   refine M_eq (v := .int .i64 (d0.tdiv (10 : Int))) f (by kernel_rfl) (by kernel_rfl) rfl rfl (fun _ pq => X_quo rfl (a := d0) (b := (10 : Int)) (by kernel_rfl) (by kernel_rfl) g_5 g_6) fun _ f => ?_
   obtain ⟨x_2, hx_2, hF_12⟩ := bS hF_11
   refine M_okv (v := S x_2) f (by kernel_rfl) (by kernel_rfl) rfl rfl (fun _ => by kernel_rfl) (hrec_ref05_digits _ hG (d0.tdiv (10 : Int)) x_2 hx_2) fun _ f => Y0 default f 1 fun _ f => ?_
   obtain ⟨g_7, hF_13⟩ := nS hF_12
   refine M_eq (v := .int .i64 (d0.tmod (10 : Int))) f (by kernel_rfl) (by kernel_rfl) rfl rfl (fun _ pq => X_rem rfl (a := d0) (b := (10 : Int)) (by kernel_rfl) (by kernel_rfl) g_7) fun _ f => ?_
   obtain ⟨g_8, hF_14⟩ := nS hF_13
   refine M_eq (v := .int .i64 (IntKind.wrap .i64 ((48 : Int) + (d0.tmod (10 : Int))))) f (by kernel_rfl) (by kernel_rfl) rfl rfl (fun _ pq => by kernel_rfl) fun _ f => ?_
   have f := f.st 21 (congrArg (Value.int .i64) (inR_wrap g_8))
   refine M_eq (v := .int .u8 (IntKind.wrap .u8 ((48 : Int) + (d0.tmod (10 : Int))))) f (by kernel_rfl) (by kernel_rfl) rfl rfl (fun _ pq => by kernel_rfl) fun _ f => M_fix (E := []) fun w_4 p_5 => V_allocS (k := 1) (c := 1) f p_5 (.cells #[.int .u8 (IntKind.wrap .u8 ((48 : Int) + (d0.tmod (10 : Int))))] 5 (0, 0)) (by kernel_rfl) (fun _ => by kernel_rfl) fun b_2 w_5 p_6 _ f => W_end rfl (M_go (M1 := M1) (E := [Ent.obj b_2 (.cells #[.int .u8 (IntKind.wrap .u8 ((48 : Int) + (d0.tmod (10 : Int))))] 5 (0, 0))]) (mR _) p_6 (M_fix (E := [Ent.obj b_2 (.cells #[.int .u8 (IntKind.wrap .u8 ((48 : Int) + (d0.tmod (10 : Int))))] 5 (0, 0))]) fun w_6 p_7 => ?_))
   obtain ⟨g_9, hF_15⟩ := nS hF_14
   have hr_2 : RepSeq M1 ([UInt8.ofNat (IntKind.wrap .u8 ((48 : Int) + (d0.tmod (10 : Int)))).toNat].map embB) [.int .u8 (IntKind.wrap .u8 ((48 : Int) + (d0.tmod (10 : Int))))] := ⟨_, _, rfl, (embB_of (by omega)), rfl⟩
   have p_8 : Hp w0 M1 ((Ent.row 5 1 (.slice (some ⟨b_2, 0, none⟩) 1 1) [UInt8.ofNat (IntKind.wrap .u8 ((48 : Int) + (d0.tmod (10 : Int)))).toNat].length [.int .u8 (IntKind.wrap .u8 ((48 : Int) + (d0.tmod (10 : Int))))]) :: H) w_6 := p_7.objRow (n := 1) (cap := 1) (size := 1) (by decide) (by decide) (blk_eq (by decide) rfl) rfl rfl
   have he_2 := RepSeq.bytes_eq hr_2
   refine Z (v := S [UInt8.ofNat (IntKind.wrap .u8 ((48 : Int) + (d0.tmod (10 : Int)))).toNat]) f (X_string_row rfl (l := [UInt8.ofNat (IntKind.wrap .u8 ((48 : Int) + (d0.tmod (10 : Int)))).toNat]) (v := .slice (some ⟨b_2, 0, none⟩) 1 1) (by kernel_rfl) (e := 5) (by kernel_rfl) (by kernel_rfl) (by kernel_rfl) (by have h0 := p_8.rowAt 0 rfl; rw [he_2] at h0; exact h0)) fun _ f => W_end rfl (M_go (M1 := M1) (E := [Ent.row 5 1 (.slice (some ⟨b_2, 0, none⟩) 1 1) [UInt8.ofNat (IntKind.wrap .u8 ((48 : Int) + (d0.tmod (10 : Int)))).toNat].length [.int .u8 (IntKind.wrap .u8 ((48 : Int) + (d0.tmod (10 : Int))))]]) (mR _) p_8 ?_)
   obtain ⟨g_10, hF_16⟩ := nS hF_15
   refine M_eq (v := S (x_2 ++ [UInt8.ofNat (IntKind.wrap .u8 ((48 : Int) + (d0.tmod (10 : Int)))).toNat])) f (by kernel_rfl) (by kernel_rfl) rfl rfl (fun _ pq => Y28 rfl (l := x_2) (m := [UInt8.ofNat (IntKind.wrap .u8 ((48 : Int) + (d0.tmod (10 : Int)))).toNat]) g_10) fun _ f => Y0 default f 1 fun _ f => M_end rfl fun w_7 p_9 => T_n (wp_ret (E_ret1 f rfl (by kernel_rfl : Vc.look _ 2 = some (S (x_2 ++ [UInt8.ofNat (IntKind.wrap .u8 ((48 : Int) + (d0.tmod (10 : Int)))).toNat]))) ?_))
   obtain rfl := sI hF_16
   exact ⟨_, rfl, M1, (mR _), (p_9.dropN 1), rfl⟩
def ref05_digits_k (n : Nat) : Nat → Int → Option (List UInt8)
  | 0 => fun _ => none
  | k + 1 => ref05_digits_b n (ref05_digits_k n k)
def ref05_digits (n : Nat) (d0 : Int) : Option (List UInt8) := ref05_digits_k n n d0
theorem ref05_digits_ok (n : Nat) (M : Mem) (hG : GL M) (d0 : Int) (r : List UInt8) (hF : ref05_digits n d0 = some r) : Ok Tryz.prog M 47 [.int .i64 d0] (fun _ v => v = S r) := by
 have key : ∀ (k : Nat) (M : Mem) (hG : GL M) (d0 : Int) (r : List UInt8) (hF : ref05_digits_k n k d0 = some r), Ok Tryz.prog M 47 [.int .i64 d0] (fun _ v => v = S r) := by
  intro k
  induction k with
  | zero => intro M hG d0 r hF; simp [ref05_digits_k] at hF
  | succ k ih => intro M hG d0 r hF; exact ref05_digits_b_ok n (ref05_digits_k n k) ih M hG d0 r hF
 exact key n M hG d0 r hF
def ref01_hex (n : Nat) (d0 : Int) : Option Int :=
  bif (decide (d0 < 10)) then
    (need (inR .i64 ((48 : Int) + d0)) <|
    some (IntKind.wrap .u8 ((48 : Int) + d0)))
  else
    need (inR .i64 ((97 : Int) + d0)) <|
    need (inR .i64 (((97 : Int) + d0) - 10)) <|
    some (IntKind.wrap .u8 (((97 : Int) + d0) - 10))
theorem ref01_hex_ok (n : Nat) (M : Mem) (hG : GL M) (d0 : Int) (r : Int) (hF : ref01_hex n d0 = some r) : Ok Tryz.prog M 62 [.int .i64 d0] (fun _ v => v = .int .u8 r) := by
 unfold ref01_hex at hF
 intro M1 hM0 w0 H w p0
 replace hG := GL.mono hM0 hG
 refine R_enter 12 Tryz.func62 rfl rfl (by simp) fun a0 f0 => RR (Y f0 1 fun _ f => eT (R_seq (RR (Y f 2 fun _ f => eT (RcF f hF (fun h_1 hF_1 => ?_) fun h_1 hF_3 => ?_)))))
 ·have k_1 := dI.1 h_1
  refine RR (Y f 1 fun _ f => ?_)
  obtain ⟨g_1, hF_2⟩ := nS hF_1
  refine Y f 1 fun _ f => ?_
  have f := f.st 6 (congrArg (Value.int .i64) (inR_wrap g_1))
  refine Y f 1 fun _ f => Y f 1 fun _ f => eT (wp_ret (T_r (E_ret1 f rfl (by kernel_rfl : Vc.look _ 2 = some (.int .u8 (IntKind.wrap .u8 ((48 : Int) + d0)))) ?_)))
  obtain rfl := sI hF_2
  exact ⟨_, rfl, M1, (mR _), p0, rfl⟩
 ·have k_2 := iff_f dI h_1
  refine wp_skip (T_n (RR (Y f 1 fun _ f => ?_)))
  obtain ⟨g_2, hF_4⟩ := nS hF_3
  refine Y f 1 fun _ f => ?_
  have f := f.st 9 (congrArg (Value.int .i64) (inR_wrap g_2))
  obtain ⟨g_3, hF_5⟩ := nS hF_4
  refine Y f 1 fun _ f => ?_
  have f := f.st 10 (congrArg (Value.int .i64) (inR_wrap g_3))
  refine Y f 1 fun _ f => Y f 1 fun _ f => eT (wp_ret (E_ret1 f rfl (by kernel_rfl : Vc.look _ 2 = some (.int .u8 (IntKind.wrap .u8 (((97 : Int) + d0) - 10)))) ?_))
  obtain rfl := sI hF_5
  exact ⟨_, rfl, M1, (mR _), p0, rfl⟩
def ref01_Quote_s1 (n : Nat) (d0 : List UInt8) (s_1 : List UInt8 × Int) : Option (Lp (List UInt8 × Int) (List UInt8)) :=
    bif (decide (s_1.2 < (d0.length : Int))) then
      ((getI d0 s_1.2).bind fun c_1 =>
      ((bif (decide (((c_1).toNat : Int) = 34)) then
          (some ((true)))
        else
          some ((decide (((c_1).toNat : Int) = 92))) : Option Bool)).bind fun y_1 =>
      bif y_1 then
        (need ((s_1.1.length + 2) * 1 ≤ 140737488355328) <|
        need (inR .i64 (s_1.2 + 1)) <|
        some (.nx (s_1.1 ++ [(92 : UInt8), c_1], s_1.2 + 1)))
      else
        bif (decide (((c_1).toNat : Int) = 8)) then
          (need ((s_1.1.length + 2) * 1 ≤ 140737488355328) <|
          need (inR .i64 (s_1.2 + 1)) <|
          some (.nx (s_1.1 ++ [(92 : UInt8), (98 : UInt8)], s_1.2 + 1)))
        else
          bif (decide (((c_1).toNat : Int) = 9)) then
            (need ((s_1.1.length + 2) * 1 ≤ 140737488355328) <|
            need (inR .i64 (s_1.2 + 1)) <|
            some (.nx (s_1.1 ++ [(92 : UInt8), (116 : UInt8)], s_1.2 + 1)))
          else
            bif (decide (((c_1).toNat : Int) = 10)) then
              (need ((s_1.1.length + 2) * 1 ≤ 140737488355328) <|
              need (inR .i64 (s_1.2 + 1)) <|
              some (.nx (s_1.1 ++ [(92 : UInt8), (110 : UInt8)], s_1.2 + 1)))
            else
              bif (decide (((c_1).toNat : Int) = 12)) then
                (need ((s_1.1.length + 2) * 1 ≤ 140737488355328) <|
                need (inR .i64 (s_1.2 + 1)) <|
                some (.nx (s_1.1 ++ [(92 : UInt8), (102 : UInt8)], s_1.2 + 1)))
              else
                bif (decide (((c_1).toNat : Int) = 13)) then
                  (need ((s_1.1.length + 2) * 1 ≤ 140737488355328) <|
                  need (inR .i64 (s_1.2 + 1)) <|
                  some (.nx (s_1.1 ++ [(92 : UInt8), (114 : UInt8)], s_1.2 + 1)))
                else
                  bif (decide (((c_1).toNat : Int) < 32)) then
                    (need ((16 : Int) ≠ 0) <|
                    need (inR .i64 (((c_1).toNat : Int).tdiv (16 : Int))) <|
                    (ref01_hex n (((c_1).toNat : Int).tdiv (16 : Int))).bind fun x_2 =>
                    need ((16 : Int) ≠ 0) <|
                    (ref01_hex n (((c_1).toNat : Int).tmod (16 : Int))).bind fun x_3 =>
                    need (0 ≤ x_2 ∧ x_2 < 256) <|
                    need (0 ≤ x_3 ∧ x_3 < 256) <|
                    need ((s_1.1.length + 6) * 1 ≤ 140737488355328) <|
                    need (inR .i64 (s_1.2 + 1)) <|
                    some (.nx (s_1.1 ++ [(92 : UInt8), (117 : UInt8), (48 : UInt8), (48 : UInt8), UInt8.ofNat (x_2).toNat, UInt8.ofNat (x_3).toNat], s_1.2 + 1)))
                  else
                    need ((s_1.1.length + 1) * 1 ≤ 140737488355328) <|
                    need (inR .i64 (s_1.2 + 1)) <|
                    some (.nx (s_1.1 ++ [c_1], s_1.2 + 1)))
    else
      some (.br s_1.1)
def ref01_Quote (n : Nat) (d0 : List UInt8) : Option (List UInt8 × Int) :=
  (ref01_Valid n d0).bind fun x_1 =>
  bif !x_1 then
    (some ((([] : List UInt8), (10 : Int))))
  else
    (loopF (ref01_Quote_s1 n d0) n ([(34 : UInt8)], (0 : Int))).bind fun y_2 =>
    need ((y_2.length + 1) * 1 ≤ 140737488355328) <|
    some ((y_2 ++ [(34 : UInt8)], (0 : Int)))
set_option maxRecDepth 20000 in
theorem ref01_Quote_ok (n : Nat) (M : Mem) (hG : GL M) (d0 : List UInt8) (r : List UInt8 × Int) (hF : ref01_Quote n d0 = some r) : Ok Tryz.prog M 48 [S d0] (fun _ v => v = .tuple #[S r.1, .int .i64 r.2]) := by
 unfold ref01_Quote at hF
 intro M1 hM0 w0 H w p0
 replace hG := GL.mono hM0 hG
 refine R_enter 83 Tryz.func48 rfl rfl (by simp) fun a0 f0 => RR (Y f0 2 fun _ f => eT (R_seq (RR (Y f 1 fun _ f => ?_))))
 obtain ⟨x_1, hx_1, hF_1⟩ := bS hF
 refine Y17 f p0 (ref01_Valid_ok n _ d0 x_1 hx_1) fun w_1 p_1 _ f => Y f 1 fun _ f => eT (RcF f hF_1 (fun h_1 hF_2 => ?_) fun h_1 hF_3 => ?_)
 ·have k_1 : (x_1) = false := by simpa using h_1
  refine RR (Y f 2 fun _ f => eT (wp_ret (T_r (E_ret2 f rfl (by kernel_rfl : Vc.look _ 2 = some (S [])) (by kernel_rfl : Vc.look _ 3 = some (.int .i64 10)) ?_))))
  obtain rfl := sI hF_2
  exact ⟨_, rfl, M1, (mR _), p_1, rfl⟩
 ·have k_2 : (x_1) = true := by simpa using h_1
  refine wp_skip (T_n (RR (V_allocS (k := 1) (c := 1) f p_1 (.cells #[.int .u8 34] 5 (0, 0)) (by kernel_rfl) (fun _ => by kernel_rfl) fun b_1 w_2 p_2 _ f => Y f 1 fun _ f => eT (R_seq (RR (Y f 1 fun _ f => eT (wp_block ?_)))))))
  have hr_1 : RepSeq M1 ([(34 : UInt8)].map embB) [.int .u8 34] := ⟨_, _, rfl, rfl, rfl⟩
  have p_3 : Hp w0 M1 ((Ent.row 5 1 (.slice (some ⟨b_1, 0, none⟩) 1 1) [(34 : UInt8)].length [.int .u8 34]) :: H) w_2 := p_2.objRow (n := 1) (cap := 1) (size := 1) (by decide) (by decide) (blk_eq (by decide) rfl) rfl rfl
  obtain ⟨b_2, hL_1, hF_4⟩ := bS hF_3
  refine wp_mono (Q := fun e a w => (e = .exit 0 ∧ (∃ y_2 : List UInt8, b_2 = y_2 ∧ ∃ M_3 : Mem, M1.le M_3 ∧ ∃ (A_10 : Option Addr), ∃ (cap_10 : Nat), ∃ (cs_10 : List Value), RepSeq M_3 (y_2.map embB) cs_10 ∧ Frm 83 [(4, .slice A_10 y_2.length cap_10)] a ∧ Hp w0 M_3 ((Ent.row 5 1 (.slice A_10 y_2.length cap_10) y_2.length cs_10) :: H) w))) (R_loop (n := 83) (w0 := w0) (M := M1) (fun (x : Nat × (List UInt8 × Int) × (Option Addr) × Nat × (List Value)) => match x with | (m_1, s_1, A_1, cap_1, cs_1) => [(0, S d0), (4, .slice A_1 s_1.1.length cap_1), (5, .int .i64 s_1.2)]) (fun (x : Nat × (List UInt8 × Int) × (Option Addr) × Nat × (List Value)) => match x with | (m_1, s_1, A_1, cap_1, cs_1) => ((Ent.row 5 1 (.slice A_1 s_1.1.length cap_1) s_1.1.length cs_1) :: H)) (fun (x : Nat × (List UInt8 × Int) × (Option Addr) × Nat × (List Value)) (MM : Mem) => match x with | (m_1, s_1, A_1, cap_1, cs_1) => loopF (ref01_Quote_s1 n d0) m_1 s_1 = some b_2 ∧ RepSeq MM (s_1.1.map embB) cs_1) (fun (x : Nat × (List UInt8 × Int) × (Option Addr) × Nat × (List Value)) => match x with | (m_1, s_1, A_1, cap_1, cs_1) => m_1) (n, ([(34 : UInt8)], (0 : Int)), some ⟨b_1, 0, none⟩, 1, [.int .u8 34]) (f.kp) p_3 ⟨hL_1, hr_1⟩ ?_) ?_
  ·rintro ⟨m_1, s_1, A_1, cap_1, cs_1⟩ M_1 _ w_3 hM_1 I_1 f p_4
   obtain ⟨I_1L, hr_2⟩ := I_1
   obtain ⟨m_2, r_1, rfl, hs_1, hn_1⟩ := loop_step I_1L
   unfold ref01_Quote_s1 at hs_1
   refine R_seq (RR (Y f 4 fun _ f => eT (RcF f hs_1 (fun h_2 hF_5 => ?_) fun h_2 hF_47 => ?_)))
   ·have k_3 := dI.1 h_2
    refine wp_skip (T_n (R_seq (wp_block (RR (Y f 2 fun _ f => ?_)))))
    obtain ⟨c_1, hx_2, hF_6⟩ := bS hF_5
    refine Z f (Y37 rfl (l := d0) (k := .i64) (i := s_1.2) (getI_nn hx_2) (getI_lt hx_2)) fun _ f => ?_
    have f := Frm.set f 19 (v := .int .u8 ((d0.getD s_1.2.toNat 0).toNat : Int)) (v' := .int .u8 ((c_1).toNat : Int)) (by kernel_rfl) (congrArg (fun c : UInt8 => Value.int .u8 ((c.toNat : Nat) : Int)) (getI_getD hx_2))
    refine Y f 1 fun _ f => eT (wp_block (R_seq ?_))
    obtain ⟨j_1, hj_1, hF_7⟩ := bS hF_6
    refine R_mid (fun a_17 w_4 => ∃ y_1 : Bool, j_1 = y_1 ∧ ∃ M_2 : Mem, M_1.le M_2 ∧ Frm 83 [(0, S d0), (4, .slice A_1 s_1.1.length cap_1), (5, .int .i64 s_1.2), (6, .int .u8 ((c_1).toNat : Int)), (24, .bool y_1)] a_17 ∧ Hp w0 M_2 ((Ent.row 5 1 (.slice A_1 s_1.1.length cap_1) s_1.1.length cs_1) :: H) w_4) ?_ ?_
    ·refine R_reg (Y f 3 fun _ f => ?_)
     rcases cE hj_1 with ⟨h_3, hF_8⟩ | ⟨h_3, hF_9⟩
     ·have k_4 := dI.1 h_3
      have f := f.st 27 (cB h_3)
      refine Y f 4 fun _ f => eT ?_
      exact ⟨(true), (sI hF_8).symm, M_1, (mR _), f.kp, p_4⟩
     ·have k_5 := iff_f dI h_3
      have f := f.st 27 (cB h_3)
      refine Y f 4 fun _ f => eT ?_
      exact ⟨(decide (((c_1).toNat : Int) = 92)), (sI hF_9).symm, M_1, (mR _), f.kp, p_4⟩
    ·rintro a_17 w_4 ⟨y_1, hq_1, M_2, hM_2, f, p_5⟩
     subst j_1
     refine T_n (RcF f hF_7 (fun h_4 hF_10 => ?_) fun h_4 hF_13 => ?_)
     ·refine R_reg (Y f 2 fun _ f => V_allocS (k := 2) (c := 2) f p_5 (.cells #[.int .u8 92, .int .u8 ((c_1).toNat : Int)] 5 (0, 0)) (by kernel_rfl) (fun _ => by kernel_rfl) fun b_3 w_5 p_6 _ f => ?_)
      have p_7 := p_6.pl [1]
      obtain ⟨g_1, hF_11⟩ := nS hF_10
      refine Y19 (z := .int .u8 0) (f := embB) (xs := s_1.1) (ys := [(92 : UInt8), c_1]) (news := [.int .u8 92, .int .u8 ((c_1).toNat : Int)]) (ad := ⟨b_3, 0, none⟩) (m := 2) (c := 2) f p_7 (RepSeq.mono hM_2 _ _ hr_2) (by exact ⟨_, _, rfl, rfl, ⟨_, _, rfl, rfl, rfl⟩⟩) rfl rfl rfl rfl (own_cells (p_7.ownCell 1 rfl) 0 rfl) (by exact g_1) (by have hg_ := g_1; first | omega | (simp only [List.length_cons, List.length_nil] at *; omega)) fun A_2 cap_2 cs_2 w_6 p_8 hr_3 _ f => ?_
      have p_9 := p_8.pl [1]
      have p_10 := p_9.drop
      refine Y f 1 fun _ f => W_end rfl (B_n (B_n (T_n (R_reg (Y f 1 fun _ f => ?_)))))
      obtain ⟨g_2, hF_12⟩ := nS hF_11
      refine Y f 1 fun _ f => ?_
      have f := f.st 16 (congrArg (Value.int .i64) (inR_wrap g_2))
      refine Y f 1 fun _ f => eT ?_
      obtain rfl := sI hF_12
      exact ⟨⟨m_2, (s_1.1 ++ [(92 : UInt8), c_1], s_1.2 + 1), A_2, cap_2, cs_2⟩, Nat.lt_succ_self _, M_2, (hM_1.trans hM_2), ⟨hn_1, hr_3⟩, f.kp, p_10⟩
     ·refine RR (Y f 3 fun _ f => eT (RcF f hF_13 (fun h_5 hF_14 => ?_) fun h_5 hF_17 => ?_))
      ·have k_8 := dI.1 h_5
       refine R_reg (Y f 1 fun _ f => V_allocS (k := 2) (c := 2) f p_5 (.cells #[.int .u8 92, .int .u8 98] 5 (0, 0)) (by kernel_rfl) (fun _ => by kernel_rfl) fun b_4 w_7 p_11 _ f => ?_)
       have p_12 := p_11.pl [1]
       obtain ⟨g_3, hF_15⟩ := nS hF_14
       refine Y19 (z := .int .u8 0) (f := embB) (xs := s_1.1) (ys := [(92 : UInt8), (98 : UInt8)]) (news := [.int .u8 92, .int .u8 98]) (ad := ⟨b_4, 0, none⟩) (m := 2) (c := 2) f p_12 (RepSeq.mono hM_2 _ _ hr_2) (by exact ⟨_, _, rfl, rfl, ⟨_, _, rfl, rfl, rfl⟩⟩) rfl rfl rfl rfl (own_cells (p_12.ownCell 1 rfl) 0 rfl) (by exact g_3) (by have hg_ := g_3; first | omega | (simp only [List.length_cons, List.length_nil] at *; omega)) fun A_3 cap_3 cs_3 w_8 p_13 hr_4 _ f => ?_
       have p_14 := p_13.pl [1]
       have p_15 := p_14.drop
       refine Y f 1 fun _ f => W_end rfl (B_n (B_n (T_n (R_reg (Y f 1 fun _ f => ?_)))))
       obtain ⟨g_4, hF_16⟩ := nS hF_15
       refine Y f 1 fun _ f => ?_
       have f := f.st 16 (congrArg (Value.int .i64) (inR_wrap g_4))
       refine Y f 1 fun _ f => eT ?_
       obtain rfl := sI hF_16
       exact ⟨⟨m_2, (s_1.1 ++ [(92 : UInt8), (98 : UInt8)], s_1.2 + 1), A_3, cap_3, cs_3⟩, Nat.lt_succ_self _, M_2, (hM_1.trans hM_2), ⟨hn_1, hr_4⟩, f.kp, p_15⟩
      ·have k_9 := iff_f dI h_5
       refine RR (Y f 3 fun _ f => eT (RcF f hF_17 (fun h_6 hF_18 => ?_) fun h_6 hF_21 => ?_))
       ·have k_10 := dI.1 h_6
        refine R_reg (Y f 1 fun _ f => V_allocS (k := 2) (c := 2) f p_5 (.cells #[.int .u8 92, .int .u8 116] 5 (0, 0)) (by kernel_rfl) (fun _ => by kernel_rfl) fun b_5 w_9 p_16 _ f => ?_)
        have p_17 := p_16.pl [1]
        obtain ⟨g_5, hF_19⟩ := nS hF_18
        refine Y19 (z := .int .u8 0) (f := embB) (xs := s_1.1) (ys := [(92 : UInt8), (116 : UInt8)]) (news := [.int .u8 92, .int .u8 116]) (ad := ⟨b_5, 0, none⟩) (m := 2) (c := 2) f p_17 (RepSeq.mono hM_2 _ _ hr_2) (by exact ⟨_, _, rfl, rfl, ⟨_, _, rfl, rfl, rfl⟩⟩) rfl rfl rfl rfl (own_cells (p_17.ownCell 1 rfl) 0 rfl) (by exact g_5) (by have hg_ := g_5; first | omega | (simp only [List.length_cons, List.length_nil] at *; omega)) fun A_4 cap_4 cs_4 w_10 p_18 hr_5 _ f => ?_
        have p_19 := p_18.pl [1]
        have p_20 := p_19.drop
        refine Y f 1 fun _ f => W_end rfl (B_n (B_n (T_n (R_reg (Y f 1 fun _ f => ?_)))))
        obtain ⟨g_6, hF_20⟩ := nS hF_19
        refine Y f 1 fun _ f => ?_
        have f := f.st 16 (congrArg (Value.int .i64) (inR_wrap g_6))
        refine Y f 1 fun _ f => eT ?_
        obtain rfl := sI hF_20
        exact ⟨⟨m_2, (s_1.1 ++ [(92 : UInt8), (116 : UInt8)], s_1.2 + 1), A_4, cap_4, cs_4⟩, Nat.lt_succ_self _, M_2, (hM_1.trans hM_2), ⟨hn_1, hr_5⟩, f.kp, p_20⟩
       ·have k_11 := iff_f dI h_6
        refine RR (Y f 3 fun _ f => eT (RcF f hF_21 (fun h_7 hF_22 => ?_) fun h_7 hF_25 => ?_))
        ·have k_12 := dI.1 h_7
         refine R_reg (Y f 1 fun _ f => V_allocS (k := 2) (c := 2) f p_5 (.cells #[.int .u8 92, .int .u8 110] 5 (0, 0)) (by kernel_rfl) (fun _ => by kernel_rfl) fun b_6 w_11 p_21 _ f => ?_)
         have p_22 := p_21.pl [1]
         obtain ⟨g_7, hF_23⟩ := nS hF_22
         refine Y19 (z := .int .u8 0) (f := embB) (xs := s_1.1) (ys := [(92 : UInt8), (110 : UInt8)]) (news := [.int .u8 92, .int .u8 110]) (ad := ⟨b_6, 0, none⟩) (m := 2) (c := 2) f p_22 (RepSeq.mono hM_2 _ _ hr_2) (by exact ⟨_, _, rfl, rfl, ⟨_, _, rfl, rfl, rfl⟩⟩) rfl rfl rfl rfl (own_cells (p_22.ownCell 1 rfl) 0 rfl) (by exact g_7) (by have hg_ := g_7; first | omega | (simp only [List.length_cons, List.length_nil] at *; omega)) fun A_5 cap_5 cs_5 w_12 p_23 hr_6 _ f => ?_
         have p_24 := p_23.pl [1]
         have p_25 := p_24.drop
         refine Y f 1 fun _ f => W_end rfl (B_n (B_n (T_n (R_reg (Y f 1 fun _ f => ?_)))))
         obtain ⟨g_8, hF_24⟩ := nS hF_23
         refine Y f 1 fun _ f => ?_
         have f := f.st 16 (congrArg (Value.int .i64) (inR_wrap g_8))
         refine Y f 1 fun _ f => eT ?_
         obtain rfl := sI hF_24
         exact ⟨⟨m_2, (s_1.1 ++ [(92 : UInt8), (110 : UInt8)], s_1.2 + 1), A_5, cap_5, cs_5⟩, Nat.lt_succ_self _, M_2, (hM_1.trans hM_2), ⟨hn_1, hr_6⟩, f.kp, p_25⟩
        ·have k_13 := iff_f dI h_7
         refine RR (Y f 3 fun _ f => eT (RcF f hF_25 (fun h_8 hF_26 => ?_) fun h_8 hF_29 => ?_))
         ·have k_14 := dI.1 h_8
          refine R_reg (Y f 1 fun _ f => V_allocS (k := 2) (c := 2) f p_5 (.cells #[.int .u8 92, .int .u8 102] 5 (0, 0)) (by kernel_rfl) (fun _ => by kernel_rfl) fun b_7 w_13 p_26 _ f => ?_)
          have p_27 := p_26.pl [1]
          obtain ⟨g_9, hF_27⟩ := nS hF_26
          refine Y19 (z := .int .u8 0) (f := embB) (xs := s_1.1) (ys := [(92 : UInt8), (102 : UInt8)]) (news := [.int .u8 92, .int .u8 102]) (ad := ⟨b_7, 0, none⟩) (m := 2) (c := 2) f p_27 (RepSeq.mono hM_2 _ _ hr_2) (by exact ⟨_, _, rfl, rfl, ⟨_, _, rfl, rfl, rfl⟩⟩) rfl rfl rfl rfl (own_cells (p_27.ownCell 1 rfl) 0 rfl) (by exact g_9) (by have hg_ := g_9; first | omega | (simp only [List.length_cons, List.length_nil] at *; omega)) fun A_6 cap_6 cs_6 w_14 p_28 hr_7 _ f => ?_
          have p_29 := p_28.pl [1]
          have p_30 := p_29.drop
          refine Y f 1 fun _ f => W_end rfl (B_n (B_n (T_n (R_reg (Y f 1 fun _ f => ?_)))))
          obtain ⟨g_10, hF_28⟩ := nS hF_27
          refine Y f 1 fun _ f => ?_
          have f := f.st 16 (congrArg (Value.int .i64) (inR_wrap g_10))
          refine Y f 1 fun _ f => eT ?_
          obtain rfl := sI hF_28
          exact ⟨⟨m_2, (s_1.1 ++ [(92 : UInt8), (102 : UInt8)], s_1.2 + 1), A_6, cap_6, cs_6⟩, Nat.lt_succ_self _, M_2, (hM_1.trans hM_2), ⟨hn_1, hr_7⟩, f.kp, p_30⟩
         ·have k_15 := iff_f dI h_8
          refine RR (Y f 3 fun _ f => eT (RcF f hF_29 (fun h_9 hF_30 => ?_) fun h_9 hF_33 => ?_))
          ·have k_16 := dI.1 h_9
           refine R_reg (Y f 1 fun _ f => V_allocS (k := 2) (c := 2) f p_5 (.cells #[.int .u8 92, .int .u8 114] 5 (0, 0)) (by kernel_rfl) (fun _ => by kernel_rfl) fun b_8 w_15 p_31 _ f => ?_)
           have p_32 := p_31.pl [1]
           obtain ⟨g_11, hF_31⟩ := nS hF_30
           refine Y19 (z := .int .u8 0) (f := embB) (xs := s_1.1) (ys := [(92 : UInt8), (114 : UInt8)]) (news := [.int .u8 92, .int .u8 114]) (ad := ⟨b_8, 0, none⟩) (m := 2) (c := 2) f p_32 (RepSeq.mono hM_2 _ _ hr_2) (by exact ⟨_, _, rfl, rfl, ⟨_, _, rfl, rfl, rfl⟩⟩) rfl rfl rfl rfl (own_cells (p_32.ownCell 1 rfl) 0 rfl) (by exact g_11) (by have hg_ := g_11; first | omega | (simp only [List.length_cons, List.length_nil] at *; omega)) fun A_7 cap_7 cs_7 w_16 p_33 hr_8 _ f => ?_
           have p_34 := p_33.pl [1]
           have p_35 := p_34.drop
           refine Y f 1 fun _ f => W_end rfl (B_n (B_n (T_n (R_reg (Y f 1 fun _ f => ?_)))))
           obtain ⟨g_12, hF_32⟩ := nS hF_31
           refine Y f 1 fun _ f => ?_
           have f := f.st 16 (congrArg (Value.int .i64) (inR_wrap g_12))
           refine Y f 1 fun _ f => eT ?_
           obtain rfl := sI hF_32
           exact ⟨⟨m_2, (s_1.1 ++ [(92 : UInt8), (114 : UInt8)], s_1.2 + 1), A_7, cap_7, cs_7⟩, Nat.lt_succ_self _, M_2, (hM_1.trans hM_2), ⟨hn_1, hr_8⟩, f.kp, p_35⟩
          ·have k_17 := iff_f dI h_9
           refine RR (Y f 3 fun _ f => eT (RcF f hF_33 (fun h_10 hF_34 => ?_) fun h_10 hF_44 => ?_))
           ·have k_18 := dI.1 h_10
            refine R_reg (Y f 2 fun _ f => Y f 1 fun _ f => ?_)
            have f := Frm.set f 70 (v := .int .i64 (IntKind.wrap .i64 (((c_1).toNat : Int)))) (v' := .int .i64 ((c_1).toNat : Int)) (by kernel_rfl) (congrArg (Value.int .i64) (wrap_byte _ (by simp) _))
            obtain ⟨g_13, hF_35⟩ := nS hF_34
            obtain ⟨g_14, hF_36⟩ := nS hF_35
            refine Z (v := .int .i64 (((c_1).toNat : Int).tdiv (16 : Int))) f (X_quo rfl (a := ((c_1).toNat : Int)) (b := (16 : Int)) (by kernel_rfl) (by kernel_rfl) g_13 g_14) fun _ f => ?_
            obtain ⟨x_2, hx_3, hF_37⟩ := bS hF_36
            refine Y17 f p_5 (ref01_hex_ok n _ (GL.mono (hM_1.trans hM_2) hG) (((c_1).toNat : Int).tdiv (16 : Int)) x_2 hx_3) fun w_17 p_36 _ f => Y f 1 fun _ f => Y f 1 fun _ f => ?_
            have f := Frm.set f 74 (v := .int .i64 (IntKind.wrap .i64 (((c_1).toNat : Int)))) (v' := .int .i64 ((c_1).toNat : Int)) (by kernel_rfl) (congrArg (Value.int .i64) (wrap_byte _ (by simp) _))
            obtain ⟨g_15, hF_38⟩ := nS hF_37
            refine Z (v := .int .i64 (((c_1).toNat : Int).tmod (16 : Int))) f (X_rem rfl (a := ((c_1).toNat : Int)) (b := (16 : Int)) (by kernel_rfl) (by kernel_rfl) g_15) fun _ f => ?_
            obtain ⟨x_3, hx_4, hF_39⟩ := bS hF_38
            refine Y17 f p_36 (ref01_hex_ok n _ (GL.mono (hM_1.trans hM_2) hG) (((c_1).toNat : Int).tmod (16 : Int)) x_3 hx_4) fun w_18 p_37 _ f => V_allocS (k := 6) (c := 6) f p_37 (.cells #[.int .u8 92, .int .u8 117, .int .u8 48, .int .u8 48, .int .u8 x_2, .int .u8 x_3] 5 (0, 0)) (by kernel_rfl) (fun _ => by kernel_rfl) fun b_9 w_19 p_38 _ f => ?_
            obtain ⟨g_16, hF_40⟩ := nS hF_39
            obtain ⟨g_17, hF_41⟩ := nS hF_40
            have p_39 := p_38.pl [1]
            obtain ⟨g_18, hF_42⟩ := nS hF_41
            refine Y19 (z := .int .u8 0) (f := embB) (xs := s_1.1) (ys := [(92 : UInt8), (117 : UInt8), (48 : UInt8), (48 : UInt8), UInt8.ofNat (x_2).toNat, UInt8.ofNat (x_3).toNat]) (news := [.int .u8 92, .int .u8 117, .int .u8 48, .int .u8 48, .int .u8 x_2, .int .u8 x_3]) (ad := ⟨b_9, 0, none⟩) (m := 6) (c := 6) f p_39 (RepSeq.mono hM_2 _ _ hr_2) (by exact ⟨_, _, rfl, rfl, ⟨_, _, rfl, rfl, ⟨_, _, rfl, rfl, ⟨_, _, rfl, rfl, ⟨_, _, rfl, (embB_of (by omega)), ⟨_, _, rfl, (embB_of (by omega)), rfl⟩⟩⟩⟩⟩⟩) rfl rfl rfl rfl (own_cells (p_39.ownCell 1 rfl) 0 rfl) (by exact g_18) (by have hg_ := g_18; first | omega | (simp only [List.length_cons, List.length_nil] at *; omega)) fun A_8 cap_8 cs_8 w_20 p_40 hr_9 _ f => ?_
            have p_41 := p_40.pl [1]
            have p_42 := p_41.drop
            refine Y f 1 fun _ f => W_end rfl (B_n (B_n (T_n (R_reg (Y f 1 fun _ f => ?_)))))
            obtain ⟨g_19, hF_43⟩ := nS hF_42
            refine Y f 1 fun _ f => ?_
            have f := f.st 16 (congrArg (Value.int .i64) (inR_wrap g_19))
            refine Y f 1 fun _ f => eT ?_
            obtain rfl := sI hF_43
            exact ⟨⟨m_2, (s_1.1 ++ [(92 : UInt8), (117 : UInt8), (48 : UInt8), (48 : UInt8), UInt8.ofNat (x_2).toNat, UInt8.ofNat (x_3).toNat], s_1.2 + 1), A_8, cap_8, cs_8⟩, Nat.lt_succ_self _, M_2, (hM_1.trans hM_2), ⟨hn_1, hr_9⟩, f.kp, p_42⟩
           ·have k_19 := iff_f dI h_10
            refine R_reg (Y f 2 fun _ f => V_allocS (k := 1) (c := 1) f p_5 (.cells #[.int .u8 ((c_1).toNat : Int)] 5 (0, 0)) (by kernel_rfl) (fun _ => by kernel_rfl) fun b_10 w_21 p_43 _ f => ?_)
            have p_44 := p_43.pl [1]
            obtain ⟨g_20, hF_45⟩ := nS hF_44
            refine Y19 (z := .int .u8 0) (f := embB) (xs := s_1.1) (ys := [c_1]) (news := [.int .u8 ((c_1).toNat : Int)]) (ad := ⟨b_10, 0, none⟩) (m := 1) (c := 1) f p_44 (RepSeq.mono hM_2 _ _ hr_2) (by exact ⟨_, _, rfl, rfl, rfl⟩) rfl rfl rfl rfl (own_cells (p_44.ownCell 1 rfl) 0 rfl) (by exact g_20) (by have hg_ := g_20; first | omega | (simp only [List.length_cons, List.length_nil] at *; omega)) fun A_9 cap_9 cs_9 w_22 p_45 hr_10 _ f => ?_
            have p_46 := p_45.pl [1]
            have p_47 := p_46.drop
            refine Y f 1 fun _ f => W_end rfl (B_n (B_n (T_n (R_reg (Y f 1 fun _ f => ?_)))))
            obtain ⟨g_21, hF_46⟩ := nS hF_45
            refine Y f 1 fun _ f => ?_
            have f := f.st 16 (congrArg (Value.int .i64) (inR_wrap g_21))
            refine Y f 1 fun _ f => eT ?_
            obtain rfl := sI hF_46
            exact ⟨⟨m_2, (s_1.1 ++ [c_1], s_1.2 + 1), A_9, cap_9, cs_9⟩, Nat.lt_succ_self _, M_2, (hM_1.trans hM_2), ⟨hn_1, hr_10⟩, f.kp, p_47⟩
   ·have k_20 := iff_f dI h_2
    refine wp_exit (T_x (T_x ?_))
    obtain rfl := sI hF_47
    exact ⟨rfl, s_1.1, (sI hn_1).symm, M_1, hM_1, A_1, cap_1, cs_1, hr_2, f.kp, p_4⟩
  ·rintro _ _ w_24 ⟨rfl, y_2, hq_, M_3, hM_3, A_10, cap_10, cs_10, hr_11, f, p_48⟩
   subst b_2
   refine B_x (T_n (RR (Y f 1 fun _ f => V_allocS (k := 1) (c := 1) f p_48 (.cells #[.int .u8 34] 5 (0, 0)) (by kernel_rfl) (fun _ => by kernel_rfl) fun b_11 w_25 p_49 _ f => ?_)))
   have p_50 := p_49.pl [1]
   obtain ⟨g_22, hF_48⟩ := nS hF_4
   refine Y19 (z := .int .u8 0) (f := embB) (xs := y_2) (ys := [(34 : UInt8)]) (news := [.int .u8 34]) (ad := ⟨b_11, 0, none⟩) (m := 1) (c := 1) f p_50 hr_11 (by exact ⟨_, _, rfl, rfl, rfl⟩) rfl rfl rfl rfl (own_cells (p_50.ownCell 1 rfl) 0 rfl) (by exact g_22) (by have hg_ := g_22; first | omega | (simp only [List.length_cons, List.length_nil] at *; omega)) fun A_11 cap_11 cs_11 w_26 p_51 hr_12 _ f => ?_
   have p_52 := p_51.pl [1]
   have p_53 := p_52.drop
   have he_1 := RepSeq.bytes_eq hr_12
   refine Z (v := S (y_2 ++ [(34 : UInt8)])) f (X_string_row rfl (l := y_2 ++ [(34 : UInt8)]) (v := .slice A_11 (y_2 ++ [(34 : UInt8)]).length cap_11) (by kernel_rfl) (e := 5) (by kernel_rfl) (by kernel_rfl) (by kernel_rfl) (by have h0 := p_53.rowAt 0 rfl; rw [he_1] at h0; exact h0)) fun _ f => Y f 2 fun _ f => eT (wp_ret (E_ret2 f rfl (by kernel_rfl : Vc.look _ 2 = some (S (y_2 ++ [(34 : UInt8)]))) (by kernel_rfl : Vc.look _ 3 = some (.int .i64 0)) ?_))
   obtain rfl := sI hF_48
   exact ⟨_, rfl, M_3, hM_3, (p_53.dropN 1), rfl⟩
def ref05_quoted (n : Nat) (d0 : List UInt8) : Option (List UInt8) :=
  (ref01_Quote n d0).bind fun x_1 =>
  some (x_1.1)
theorem ref05_quoted_ok (n : Nat) (M : Mem) (hG : GL M) (d0 : List UInt8) (r : List UInt8) (hF : ref05_quoted n d0 = some r) : Ok Tryz.prog M 32 [S d0] (fun _ v => v = S r) := by
 unfold ref05_quoted at hF
 intro M1 hM0 w0 H w p0
 replace hG := GL.mono hM0 hG
 refine R_enter 11 Tryz.func32 rfl rfl (by simp) fun a0 f0 => RR (Y f0 1 fun _ f => eT (RR (Y f 1 fun _ f => ?_)))
 obtain ⟨x_1, hx_1, hF_1⟩ := bS hF
 refine Y17 f p0 (ref01_Quote_ok n _ hG d0 x_1 hx_1) fun w_1 p_1 _ f => Y f 5 fun _ f => eT (RR (Y f 2 fun _ f => eT (wp_ret (E_ret1 f rfl (by kernel_rfl : Vc.look _ 2 = some (S x_1.1)) ?_))))
 obtain rfl := sI hF_1
 exact ⟨_, rfl, M1, (mR _), p_1, rfl⟩
def ref05_word (n : Nat) (d0 : TA0) : Option (List UInt8) :=
  bif (decide (d0.fKind = 1)) then
    (bif d0.fBool then
      (some ([116, 114, 117, 101]))
    else
      some ([102, 97, 108, 115, 101]))
  else
    bif (decide (d0.fKind = 2)) then
      ((ref05_digits n d0.fNum).bind fun x_1 =>
      some (x_1))
    else
      bif (decide (d0.fKind = 3)) then
        ((ref05_quoted n d0.fText).bind fun x_2 =>
        some (x_2))
      else
        some ([110, 117, 108, 108])
set_option maxRecDepth 20000 in
theorem ref05_word_ok (n : Nat) (M : Mem) (hG : GL M) (c0 : List Value) (d0 : TA0) (h0 : Rep M (emb_TA0 d0) c0) (r : List UInt8) (hF : ref05_word n d0 = some r) : Ok Tryz.prog M 31 [.agg c0.toArray] (fun _ v => v = S r) := by
 unfold ref05_word at hF
 intro M1 hM0 w0 H w p0
 replace hG := GL.mono hM0 hG
 replace h0 := Rep.mono hM0 _ _ h0
 obtain ⟨A_1, cap_1, A_2, cap_2, rfl, h_1, h_2⟩ := TA0.opn h0
 refine R_enter 19 Tryz.func31 rfl rfl (by simp) fun a0 f0 => RR (Y12 (cs := #[.int .i8 d0.fKind, .bool d0.fBool, .int .i64 d0.fNum, S d0.fText, .slice A_1 d0.fList.length cap_1, .slice A_2 d0.fKeys.length cap_2]) (T := 26) f0 p0 fun b_1 M_1 w_1 hM_1 hc_1 p_1 _ f => ?_)
 have hc_2 := fz_box hc_1
 refine Y f 1 fun _ f => eT (R_seq (RR (Y f 1 fun _ f => Y14 f p_1 hc_2 0 rfl fun _ f => eT (wp_block (RR (Y f 2 fun _ f => eT (RcF f hF (fun h_3 hF_1 => ?_) fun h_3 hF_4 => ?_)))))))
 ·have k_1 := dI.1 h_3
  refine R_seq (RR (Y f 1 fun _ f => Y14 f p_1 hc_2 1 rfl fun _ f => eT (RcF f hF_1 (fun h_4 hF_2 => ?_) fun h_4 hF_3 => ?_)))
  ·refine RR (Y f 1 fun _ f => eT (wp_ret (T_r (B_r (T_r (E_ret1 f rfl (by kernel_rfl : Vc.look _ 2 = some (S [116, 114, 117, 101])) ?_))))))
   obtain rfl := sI hF_2
   exact ⟨_, rfl, M_1, hM_1, p_1, rfl⟩
  ·refine wp_skip (T_n (RR (Y f 1 fun _ f => eT (wp_ret (B_r (T_r (E_ret1 f rfl (by kernel_rfl : Vc.look _ 2 = some (S [102, 97, 108, 115, 101])) ?_)))))))
   obtain rfl := sI hF_3
   exact ⟨_, rfl, M_1, hM_1, p_1, rfl⟩
 ·have k_4 := iff_f dI h_3
  refine RR (Y f 2 fun _ f => eT (RcF f hF_4 (fun h_5 hF_5 => ?_) fun h_5 hF_7 => ?_))
  ·have k_5 := dI.1 h_5
   refine RR (Y f 1 fun _ f => Y14 f p_1 hc_2 2 rfl fun _ f => ?_)
   obtain ⟨x_1, hx_1, hF_6⟩ := bS hF_5
   refine Y17 f p_1 (ref05_digits_ok n _ (GL.mono hM_1 hG) d0.fNum x_1 hx_1) fun w_2 p_2 _ f => Y f 1 fun _ f => eT (wp_ret (B_r (T_r (E_ret1 f rfl (by kernel_rfl : Vc.look _ 2 = some (S x_1)) ?_))))
   obtain rfl := sI hF_6
   exact ⟨_, rfl, M_1, hM_1, p_2, rfl⟩
  ·have k_6 := iff_f dI h_5
   refine RR (Y f 2 fun _ f => eT (RcF f hF_7 (fun h_6 hF_8 => ?_) fun h_6 hF_10 => ?_))
   ·have k_7 := dI.1 h_6
    refine RR (Y f 1 fun _ f => Y14 f p_1 hc_2 3 rfl fun _ f => ?_)
    obtain ⟨x_2, hx_2, hF_9⟩ := bS hF_8
    refine Y17 f p_1 (ref05_quoted_ok n _ (GL.mono hM_1 hG) d0.fText x_2 hx_2) fun w_3 p_3 _ f => Y f 1 fun _ f => eT (wp_ret (B_r (T_r (E_ret1 f rfl (by kernel_rfl : Vc.look _ 2 = some (S x_2)) ?_))))
    obtain rfl := sI hF_9
    exact ⟨_, rfl, M_1, hM_1, p_3, rfl⟩
   ·have k_8 := iff_f dI h_6
    refine wp_skip (B_n (T_n (RR (Y f 1 fun _ f => eT (wp_ret (E_ret1 f rfl (by kernel_rfl : Vc.look _ 2 = some (S [110, 117, 108, 108])) ?_))))))
    obtain rfl := sI hF_10
    exact ⟨_, rfl, M_1, hM_1, p_1, rfl⟩
def ref05_short_s1 (n : Nat) (rec_ref05_short : TA0 → Option (List UInt8)) (d0 : TA0) (s_1 : List UInt8 × Int) : Option (Lp (List UInt8 × Int) (List UInt8)) :=
    bif (decide (s_1.2 < ((d0.fList.length : Nat) : Int))) then
      (((bif (decide ((0 : Int) < s_1.2)) then
          (need (s_1.1.length + [44].length ≤ 9223372036854775807) <|
          some (s_1.1 ++ [44]))
        else
          some (s_1.1) : Option (List UInt8))).bind fun y_3 =>
      ((bif (decide (d0.fKind = 5)) then
          ((getI d0.fKeys s_1.2).bind fun x_2 =>
          (ref05_quoted n x_2).bind fun x_3 =>
          need (y_3.length + x_3.length ≤ 9223372036854775807) <|
          need ((y_3 ++ x_3).length + [58].length ≤ 9223372036854775807) <|
          some ((y_3 ++ x_3) ++ [58]))
        else
          some (y_3) : Option (List UInt8))).bind fun y_4 =>
      (getI d0.fList s_1.2).bind fun x_4 =>
      (rec_ref05_short x_4).bind fun x_5 =>
      need (y_4.length + x_5.length ≤ 9223372036854775807) <|
      need (inR .i64 (s_1.2 + 1)) <|
      some (.nx (y_4 ++ x_5, s_1.2 + 1)))
    else
      some (.br s_1.1)
def ref05_short_b (n : Nat) (rec_ref05_short : TA0 → Option (List UInt8)) (d0 : TA0) : Option (List UInt8) :=
  ((bif (!(decide (d0.fKind = 4))) then
      (some ((!(decide (d0.fKind = 5)))))
    else
      some ((false)) : Option Bool)).bind fun y_1 =>
  bif y_1 then
    ((ref05_word n d0).bind fun x_1 =>
    some (x_1))
  else
    ((bif (decide (d0.fKind = 5)) then
        (some ([123]))
      else
        some ([91]) : Option (List UInt8))).bind fun y_2 =>
    (loopF (ref05_short_s1 n rec_ref05_short d0) n (y_2, (0 : Int))).bind fun y_5 =>
    bif (decide (d0.fKind = 5)) then
      (need (y_5.length + [125].length ≤ 9223372036854775807) <|
      some (y_5 ++ [125]))
    else
      need (y_5.length + [93].length ≤ 9223372036854775807) <|
      some (y_5 ++ [93])
set_option maxRecDepth 20000 in
theorem ref05_short_b_ok (n : Nat) (rec_ref05_short : TA0 → Option (List UInt8)) (hrec_ref05_short : ∀ (M : Mem) (hG : GL M) (c0 : List Value) (d0 : TA0) (h0 : Rep M (emb_TA0 d0) c0) (r : List UInt8) (hF : rec_ref05_short d0 = some r), Ok Tryz.prog M 18 [.agg c0.toArray] (fun _ v => v = S r)) (M : Mem) (hG : GL M) (c0 : List Value) (d0 : TA0) (h0 : Rep M (emb_TA0 d0) c0) (r : List UInt8) (hF : ref05_short_b n rec_ref05_short d0 = some r) : Ok Tryz.prog M 18 [.agg c0.toArray] (fun _ v => v = S r) := by
 unfold ref05_short_b at hF
 intro M1 hM0 w0 H w p0
 replace hG := GL.mono hM0 hG
 replace h0 := Rep.mono hM0 _ _ h0
 obtain ⟨A_1, cap_1, A_2, cap_2, rfl, h_1, h_2⟩ := TA0.opn h0
 refine R_enter 56 Tryz.func18 rfl rfl (by simp) fun a0 f0 => RR (Y12 (cs := #[.int .i8 d0.fKind, .bool d0.fBool, .int .i64 d0.fNum, S d0.fText, .slice A_1 d0.fList.length cap_1, .slice A_2 d0.fKeys.length cap_2]) (T := 26) f0 p0 fun b_1 M_1 w_1 hM_1 hc_1 p_1 _ f => ?_)
 have hc_2 := fz_box hc_1
 refine Y f 1 fun _ f => eT (R_seq (R_seq ?_))
 obtain ⟨j_1, hj_1, hF_1⟩ := bS hF
 refine R_mid (fun a_10 w_2 => ∃ y_1 : Bool, j_1 = y_1 ∧ ∃ M_2 : Mem, M_1.le M_2 ∧ Frm 56 [(1, .pointer (some (⟨b_1, 0, none⟩))), (12, .bool y_1)] a_10 ∧ Hp w0 M_2 (H) w_2) ?_ ?_
 ·refine R_reg (Y f 1 fun _ f => Y14 f p_1 hc_2 0 rfl fun _ f => Y f 2 fun _ f => ?_)
  rcases cE hj_1 with ⟨h_3, hF_2⟩ | ⟨h_3, hF_3⟩
  ·have k_1 : ¬ (d0.fKind = 4) := (not_iff dI).1 h_3
   have f := f.st 8 (cB h_3)
   refine Y f 1 fun _ f => Y14 f p_1 hc_2 0 rfl fun _ f => Y f 2 fun _ f => eT ?_
   exact ⟨(!(decide (d0.fKind = 5))), (sI hF_2).symm, M_1, (mR _), f.kp, p_1⟩
  ·have k_2 : ¬ (¬ (d0.fKind = 4)) := iff_f (not_iff dI) h_3
   have f := f.st 8 (cB h_3)
   refine Y f 4 fun _ f => eT ?_
   exact ⟨(false), (sI hF_3).symm, M_1, (mR _), f.kp, p_1⟩
 ·rintro a_10 w_2 ⟨y_1, hq_1, M_2, hM_2, f, p_2⟩
  subst j_1
  refine T_n (RcF f hF_1 (fun h_4 hF_4 => ?_) fun h_4 hF_6 => ?_)
  ·refine RR (Z (v := .agg #[.int .i8 d0.fKind, .bool d0.fBool, .int .i64 d0.fNum, S d0.fText, .slice A_1 d0.fList.length cap_1, .slice A_2 d0.fKeys.length cap_2]) f (Y32 (cs := [.int .i8 d0.fKind, .bool d0.fBool, .int .i64 d0.fNum, S d0.fText, .slice A_1 d0.fList.length cap_1, .slice A_2 d0.fKeys.length cap_2]) rfl (ad := ⟨b_1, 0, none⟩) (fun j v h => p_2.cell ((fzu hM_2 hc_2) j v h))) fun _ f => ?_)
   obtain ⟨x_1, hx_1, hF_5⟩ := bS hF_4
   refine Y17 f p_2 (ref05_word_ok n _ (GL.mono (hM_1.trans hM_2) hG) _ d0 (TA0.shutx (x := d0) (h_1.mono (hM_1.trans hM_2)) (h_2.mono (hM_1.trans hM_2))) x_1 hx_1) fun w_3 p_3 _ f => Y f 1 fun _ f => eT (wp_ret (T_r (E_ret1 f rfl (by kernel_rfl : Vc.look _ 2 = some (S x_1)) ?_)))
   obtain rfl := sI hF_5
   exact ⟨_, rfl, M_2, (hM_1.trans hM_2), p_3, rfl⟩
  ·refine wp_skip (T_n (RR (Y f 1 fun _ f => eT (R_seq (RR (Y f 1 fun _ f => Y14 f p_2 (fzu hM_2 hc_2) 0 rfl fun _ f => Y f 1 fun _ f => eT ?_))))))
   obtain ⟨j_2, hj_2, hF_7⟩ := bS hF_6
   refine R_mid (fun a_19 w_4 => ∃ y_2 : List UInt8, j_2 = y_2 ∧ ∃ M_3 : Mem, M_2.le M_3 ∧ Frm 56 [(1, .pointer (some (⟨b_1, 0, none⟩))), (3, S y_2)] a_19 ∧ Hp w0 M_3 (H) w_4) ?_ ?_
   ·refine RcF f hj_2 (fun h_5 hF_8 => ?_) fun h_5 hF_9 => ?_
    ·have k_5 := dI.1 h_5
     refine R_reg (Y f 1 fun _ f => eT ?_)
     exact ⟨[123], (sI hF_8).symm, M_2, (mR _), f.kp, p_2⟩
    ·have k_6 := iff_f dI h_5
     refine wp_skip (T_n ?_)
     exact ⟨[91], (sI hF_9).symm, M_2, (mR _), f.kp, p_2⟩
   ·rintro a_19 w_4 ⟨y_2, hq_2, M_3, hM_3, f, p_4⟩
    subst j_2
    refine T_n (R_seq (RR (Y f 1 fun _ f => eT (wp_block ?_))))
    obtain ⟨b_2, hL_1, hF_10⟩ := bS hF_7
    refine wp_mono (Q := fun e a w => (e = .exit 0 ∧ (∃ y_5 : List UInt8, b_2 = y_5 ∧ ∃ M_7 : Mem, M_3.le M_7 ∧ Frm 56 [(1, .pointer (some (⟨b_1, 0, none⟩))), (3, S y_5)] a ∧ Hp w0 M_7 (H) w))) (R_loop (n := 56) (w0 := w0) (M := M_3) (fun (x : Nat × (List UInt8 × Int)) => match x with | (m_1, s_1) => [(1, .pointer (some (⟨b_1, 0, none⟩))), (3, S s_1.1), (4, .int .i64 s_1.2)]) (fun (x : Nat × (List UInt8 × Int)) => match x with | (m_1, s_1) => (H)) (fun (x : Nat × (List UInt8 × Int)) (MM : Mem) => match x with | (m_1, s_1) => loopF (ref05_short_s1 n rec_ref05_short d0) m_1 s_1 = some b_2) (fun (x : Nat × (List UInt8 × Int)) => match x with | (m_1, s_1) => m_1) (n, (y_2, (0 : Int))) (f.kp) p_4 hL_1 ?_) ?_
    ·rintro ⟨m_1, s_1⟩ M_4 _ w_5 hM_4 I_1 f p_5
     have I_1L := I_1
     obtain ⟨m_2, r_1, rfl, hs_1, hn_1⟩ := loop_step I_1L
     unfold ref05_short_s1 at hs_1
     refine R_seq (RR (Y f 2 fun _ f => Y14 f p_5 (fzu ((hM_2.trans hM_3).trans hM_4) hc_2) 4 rfl fun _ f => Y f 2 fun _ f => eT (RcF f hs_1 (fun h_6 hF_11 => ?_) fun h_6 hF_27 => ?_)))
     ·have k_7 := dI.1 h_6
      refine wp_skip (T_n (R_seq (wp_block (R_seq (RR (Y f 2 fun _ f => eT ?_))))))
      obtain ⟨j_3, hj_3, hF_12⟩ := bS hF_11
      refine R_mid (fun a_29 w_6 => ∃ y_3 : List UInt8, j_3 = y_3 ∧ ∃ M_5 : Mem, M_4.le M_5 ∧ Frm 56 [(1, .pointer (some (⟨b_1, 0, none⟩))), (3, S y_3), (4, .int .i64 s_1.2)] a_29 ∧ Hp w0 M_5 (H) w_6) ?_ ?_
      ·refine RcF f hj_3 (fun h_7 hF_13 => ?_) fun h_7 hF_15 => ?_
       ·have k_8 := dI.1 h_7
        refine R_reg (Y f 1 fun _ f => ?_)
        obtain ⟨g_1, hF_14⟩ := nS hF_13
        refine Z f (Y28 rfl (l := s_1.1) (m := [44]) g_1) fun _ f => Y f 1 fun _ f => eT ?_
        exact ⟨s_1.1 ++ [44], (sI hF_14).symm, M_4, (mR _), f.kp, p_5⟩
       ·have k_9 := iff_f dI h_7
        refine wp_skip (T_n ?_)
        exact ⟨s_1.1, (sI hF_15).symm, M_4, (mR _), f.kp, p_5⟩
      ·rintro a_29 w_6 ⟨y_3, hq_3, M_5, hM_5, f, p_6⟩
       subst j_3
       refine T_n (R_seq (RR (Y f 1 fun _ f => Y14 f p_6 (fzu (((hM_2.trans hM_3).trans hM_4).trans hM_5) hc_2) 0 rfl fun _ f => Y f 1 fun _ f => eT ?_)))
       obtain ⟨j_4, hj_4, hF_16⟩ := bS hF_12
       refine R_mid (fun a_42 w_8 => ∃ y_4 : List UInt8, j_4 = y_4 ∧ ∃ M_6 : Mem, M_5.le M_6 ∧ Frm 56 [(1, .pointer (some (⟨b_1, 0, none⟩))), (3, S y_4), (4, .int .i64 s_1.2)] a_42 ∧ Hp w0 M_6 (H) w_8) ?_ ?_
       ·refine RcF f hj_4 (fun h_8 hF_17 => ?_) fun h_8 hF_22 => ?_
        ·have k_10 := dI.1 h_8
         refine R_reg (Y f 2 fun _ f => Y14 f p_6 (fzu (((hM_2.trans hM_3).trans hM_4).trans hM_5) hc_2) 5 rfl fun _ f => Y f 1 fun _ f => ?_)
         obtain ⟨x_2, hx_2, hF_18⟩ := bS hF_17
         obtain ⟨ad_1, c_1, e_1, -, hr_1, hc_3⟩ := Sli.at_ (h_2.mono ((((hM_1.trans hM_2).trans hM_3).trans hM_4).trans hM_5)) hx_2
         obtain rfl : c_1 = [S x_2] := hr_1
         refine Z f (Y30 e_1 rfl (len := d0.fKeys.length) (cap := cap_2) (k := .i64) (i := s_1.2) (e := 9) (sz := 1) (getI_nn hx_2) (getI_lt hx_2)) fun _ f => Y14 f p_6 hc_3 0 rfl fun _ f => ?_
         obtain ⟨x_3, hx_3, hF_19⟩ := bS hF_18
         refine Y17 f p_6 (ref05_quoted_ok n _ (GL.mono ((((hM_1.trans hM_2).trans hM_3).trans hM_4).trans hM_5) hG) x_2 x_3 hx_3) fun w_7 p_7 _ f => ?_
         obtain ⟨g_2, hF_20⟩ := nS hF_19
         refine Z f (Y28 rfl (l := y_3) (m := x_3) g_2) fun _ f => ?_
         obtain ⟨g_3, hF_21⟩ := nS hF_20
         refine Z f (Y28 rfl (l := y_3 ++ x_3) (m := [58]) g_3) fun _ f => Y f 1 fun _ f => eT ?_
         exact ⟨(y_3 ++ x_3) ++ [58], (sI hF_21).symm, M_5, (mR _), f.kp, p_7⟩
        ·have k_11 := iff_f dI h_8
         refine wp_skip (T_n ?_)
         exact ⟨y_3, (sI hF_22).symm, M_5, (mR _), f.kp, p_6⟩
       ·rintro a_42 w_8 ⟨y_4, hq_4, M_6, hM_6, f, p_8⟩
        subst j_4
        refine T_n (R_reg (Y f 2 fun _ f => Y14 f p_8 (fzu ((((hM_2.trans hM_3).trans hM_4).trans hM_5).trans hM_6) hc_2) 4 rfl fun _ f => Y f 1 fun _ f => ?_))
        obtain ⟨x_4, hx_4, hF_23⟩ := bS hF_16
        obtain ⟨ad_2, c_2, e_2, -, hr_2, hc_4⟩ := Sli.at_ (h_1.mono (((((hM_1.trans hM_2).trans hM_3).trans hM_4).trans hM_5).trans hM_6)) hx_4
        obtain ⟨A_3, cap_3, A_4, cap_4, rfl, h_9, h_10⟩ := TA0.opn hr_2
        refine Z f (Y30 e_2 rfl (len := d0.fList.length) (cap := cap_1) (k := .i64) (i := s_1.2) (e := 26) (sz := 6) (getI_nn hx_4) (getI_lt hx_4)) fun _ f => Z (v := .agg #[.int .i8 x_4.fKind, .bool x_4.fBool, .int .i64 x_4.fNum, S x_4.fText, .slice A_3 x_4.fList.length cap_3, .slice A_4 x_4.fKeys.length cap_4]) f (Y32 (cs := [.int .i8 x_4.fKind, .bool x_4.fBool, .int .i64 x_4.fNum, S x_4.fText, .slice A_3 x_4.fList.length cap_3, .slice A_4 x_4.fKeys.length cap_4]) rfl (ad := ad_2.add (s_1.2.toNat * 6)) (fun j v h => p_8.cell (hc_4 j v h))) fun _ f => ?_
        obtain ⟨x_5, hx_5, hF_24⟩ := bS hF_23
        refine Y17 f p_8 (hrec_ref05_short _ (GL.mono (((((hM_1.trans hM_2).trans hM_3).trans hM_4).trans hM_5).trans hM_6) hG) _ x_4 (TA0.shutx (x := x_4) h_9 h_10) x_5 hx_5) fun w_9 p_9 _ f => ?_
        obtain ⟨g_4, hF_25⟩ := nS hF_24
        refine Z f (Y28 rfl (l := y_4) (m := x_5) g_4) fun _ f => Y f 1 fun _ f => W_end rfl (B_n (T_n (R_reg (Y f 1 fun _ f => ?_))))
        obtain ⟨g_5, hF_26⟩ := nS hF_25
        refine Y f 1 fun _ f => ?_
        have f := f.st 24 (congrArg (Value.int .i64) (inR_wrap g_5))
        refine Y f 1 fun _ f => eT ?_
        obtain rfl := sI hF_26
        exact ⟨⟨m_2, (y_4 ++ x_5, s_1.2 + 1)⟩, Nat.lt_succ_self _, M_6, ((hM_4.trans hM_5).trans hM_6), hn_1, f.kp, p_9⟩
     ·have k_12 := iff_f dI h_6
      refine wp_exit (T_x (T_x ?_))
      obtain rfl := sI hF_27
      exact ⟨rfl, s_1.1, (sI hn_1).symm, M_4, hM_4, f.kp, p_5⟩
    ·rintro _ _ w_11 ⟨rfl, y_5, hq_, M_7, hM_7, f, p_10⟩
     subst b_2
     refine B_x (T_n (R_seq (RR (Y f 1 fun _ f => Y14 f p_10 (fzu ((hM_2.trans hM_3).trans hM_7) hc_2) 0 rfl fun _ f => Y f 1 fun _ f => eT (RcF f hF_10 (fun h_11 hF_28 => ?_) fun h_11 hF_30 => ?_)))))
     ·have k_13 := dI.1 h_11
      refine RR (Y f 1 fun _ f => ?_)
      obtain ⟨g_6, hF_29⟩ := nS hF_28
      refine Z f (Y28 rfl (l := y_5) (m := [125]) g_6) fun _ f => Y f 1 fun _ f => eT (wp_ret (T_r (E_ret1 f rfl (by kernel_rfl : Vc.look _ 2 = some (S (y_5 ++ [125]))) ?_)))
      obtain rfl := sI hF_29
      exact ⟨_, rfl, M_7, (((hM_1.trans hM_2).trans hM_3).trans hM_7), p_10, rfl⟩
     ·have k_14 := iff_f dI h_11
      refine wp_skip (T_n (RR (Y f 1 fun _ f => ?_)))
      obtain ⟨g_7, hF_31⟩ := nS hF_30
      refine Z f (Y28 rfl (l := y_5) (m := [93]) g_7) fun _ f => Y f 1 fun _ f => eT (wp_ret (E_ret1 f rfl (by kernel_rfl : Vc.look _ 2 = some (S (y_5 ++ [93]))) ?_))
      obtain rfl := sI hF_31
      exact ⟨_, rfl, M_7, (((hM_1.trans hM_2).trans hM_3).trans hM_7), p_10, rfl⟩
def ref05_short_k (n : Nat) : Nat → TA0 → Option (List UInt8)
  | 0 => fun _ => none
  | k + 1 => ref05_short_b n (ref05_short_k n k)
def ref05_short (n : Nat) (d0 : TA0) : Option (List UInt8) := ref05_short_k n n d0
theorem ref05_short_ok (n : Nat) (M : Mem) (hG : GL M) (c0 : List Value) (d0 : TA0) (h0 : Rep M (emb_TA0 d0) c0) (r : List UInt8) (hF : ref05_short n d0 = some r) : Ok Tryz.prog M 18 [.agg c0.toArray] (fun _ v => v = S r) := by
 have key : ∀ (k : Nat) (M : Mem) (hG : GL M) (c0 : List Value) (d0 : TA0) (h0 : Rep M (emb_TA0 d0) c0) (r : List UInt8) (hF : ref05_short_k n k d0 = some r), Ok Tryz.prog M 18 [.agg c0.toArray] (fun _ v => v = S r) := by
  intro k
  induction k with
  | zero => intro M hG c0 d0 h0 r hF; simp [ref05_short_k] at hF
  | succ k ih => intro M hG c0 d0 h0 r hF; exact ref05_short_b_ok n (ref05_short_k n k) ih M hG c0 d0 h0 r hF
 exact key n M hG c0 d0 h0 r hF
def ref05_limited (n : Nat) (d0 : List UInt8) : Option (List UInt8 × Int) :=
  bif (decide ((32768 : Int) < (d0.length : Int))) then
    (some ((([] : List UInt8), (3 : Int))))
  else
    some ((d0, (0 : Int)))
theorem ref05_limited_ok (n : Nat) (M : Mem) (hG : GL M) (d0 : List UInt8) (r : List UInt8 × Int) (hF : ref05_limited n d0 = some r) : Ok Tryz.prog M 17 [S d0] (fun _ v => v = .tuple #[S r.1, .int .i64 r.2]) := by
 unfold ref05_limited at hF
 intro M1 hM0 w0 H w p0
 replace hG := GL.mono hM0 hG
 refine R_enter 8 Tryz.func17 rfl rfl (by simp) fun a0 f0 => RR (Y f0 2 fun _ f => eT (R_seq (RR (Y f 3 fun _ f => eT (RcF f hF (fun h_1 hF_1 => ?_) fun h_1 hF_2 => ?_)))))
 ·have k_1 := dI.1 h_1
  refine RR (Y f 2 fun _ f => eT (wp_ret (T_r (E_ret2 f rfl (by kernel_rfl : Vc.look _ 2 = some (S [])) (by kernel_rfl : Vc.look _ 3 = some (.int .i64 3)) ?_))))
  obtain rfl := sI hF_1
  exact ⟨_, rfl, M1, (mR _), p0, rfl⟩
 ·have k_2 := iff_f dI h_1
  refine wp_skip (T_n (RR (Y f 3 fun _ f => eT (wp_ret (E_ret2 f rfl (by kernel_rfl : Vc.look _ 2 = some (S d0)) (by kernel_rfl : Vc.look _ 3 = some (.int .i64 0)) ?_)))))
  obtain rfl := sI hF_2
  exact ⟨_, rfl, M1, (mR _), p0, rfl⟩
def ref05_Print (n : Nat) (d0 : TA0) : Option (List UInt8 × Int) :=
  (ref03_Check n d0).bind fun x_1 =>
  bif (!(decide (x_1 = 0))) then
    (some ((([] : List UInt8), x_1)))
  else
    (ref03_Sorted n d0).bind fun x_2 =>
    (ref05_short n x_2).bind fun x_3 =>
    (ref05_limited n x_3).bind fun x_4 =>
    some ((x_4.1, x_4.2))
theorem ref05_Print_ok (n : Nat) (M : Mem) (hG : GL M) (c0 : List Value) (d0 : TA0) (h0 : Rep M (emb_TA0 d0) c0) (r : List UInt8 × Int) (hF : ref05_Print n d0 = some r) : Ok Tryz.prog M 7 [.agg c0.toArray] (fun _ v => v = .tuple #[S r.1, .int .i64 r.2]) := by
 unfold ref05_Print at hF
 intro M1 hM0 w0 H w p0
 replace hG := GL.mono hM0 hG
 replace h0 := Rep.mono hM0 _ _ h0
 obtain ⟨A_1, cap_1, A_2, cap_2, rfl, h_1, h_2⟩ := TA0.opn h0
 refine R_enter 16 Tryz.func7 rfl rfl (by simp) fun a0 f0 => RR (Y12 (cs := #[.int .i8 d0.fKind, .bool d0.fBool, .int .i64 d0.fNum, S d0.fText, .slice A_1 d0.fList.length cap_1, .slice A_2 d0.fKeys.length cap_2]) (T := 26) f0 p0 fun b_1 M_1 w_1 hM_1 hc_1 p_1 _ f => ?_)
 have hc_2 := fz_box hc_1
 refine Y f 2 fun _ f => eT (RR (Z (v := .agg #[.int .i8 d0.fKind, .bool d0.fBool, .int .i64 d0.fNum, S d0.fText, .slice A_1 d0.fList.length cap_1, .slice A_2 d0.fKeys.length cap_2]) f (Y32 (cs := [.int .i8 d0.fKind, .bool d0.fBool, .int .i64 d0.fNum, S d0.fText, .slice A_1 d0.fList.length cap_1, .slice A_2 d0.fKeys.length cap_2]) rfl (ad := ⟨b_1, 0, none⟩) (fun j v h => p_1.cell (hc_2 j v h))) fun _ f => ?_))
 obtain ⟨x_1, hx_1, hF_1⟩ := bS hF
 refine Y17 f p_1 (ref03_Check_ok n _ _ d0 (TA0.shutx (x := d0) (h_1.mono hM_1) (h_2.mono hM_1)) x_1 hx_1) fun w_2 p_2 _ f => Y f 1 fun _ f => eT (R_seq (RR (Y f 2 fun _ f => eT (RcF f hF_1 (fun h_3 hF_2 => ?_) fun h_3 hF_3 => ?_))))
 ·have k_1 : ¬ (x_1 = 0) := (not_iff dI).1 h_3
  refine RR (Y f 3 fun _ f => eT (wp_ret (T_r (E_ret2 f rfl (by kernel_rfl : Vc.look _ 2 = some (S [])) (by kernel_rfl : Vc.look _ 3 = some (.int .i64 x_1)) ?_))))
  obtain rfl := sI hF_2
  exact ⟨_, rfl, M_1, hM_1, p_2, rfl⟩
 ·have k_2 : ¬ (¬ (x_1 = 0)) := iff_f (not_iff dI) h_3
  refine wp_skip (T_n (RR (Z (v := .agg #[.int .i8 d0.fKind, .bool d0.fBool, .int .i64 d0.fNum, S d0.fText, .slice A_1 d0.fList.length cap_1, .slice A_2 d0.fKeys.length cap_2]) f (Y32 (cs := [.int .i8 d0.fKind, .bool d0.fBool, .int .i64 d0.fNum, S d0.fText, .slice A_1 d0.fList.length cap_1, .slice A_2 d0.fKeys.length cap_2]) rfl (ad := ⟨b_1, 0, none⟩) (fun j v h => p_2.cell (hc_2 j v h))) fun _ f => ?_)))
  obtain ⟨x_2, hx_2, hF_4⟩ := bS hF_3
  refine Y15 f p_2 (ref03_Sorted_ok n _ _ d0 (TA0.shutx (x := d0) (h_1.mono hM_1) (h_2.mono hM_1)) x_2 hx_2) fun _ M_2 w_3 hM_2 p_3 q_1 _ f => ?_
  obtain ⟨c_1, rfl, hr_1⟩ := q_1
  obtain ⟨A_3, cap_3, A_4, cap_4, rfl, h_4, h_5⟩ := TA0.opn hr_1
  obtain ⟨x_3, hx_3, hF_5⟩ := bS hF_4
  refine Y17 f p_3 (ref05_short_ok n _ (GL.mono (hM_1.trans hM_2) hG) _ x_2 (TA0.shutx (x := x_2) h_4 h_5) x_3 hx_3) fun w_4 p_4 _ f => ?_
  obtain ⟨x_4, hx_4, hF_6⟩ := bS hF_5
  refine Y17 f p_4 (ref05_limited_ok n _ (GL.mono (hM_1.trans hM_2) hG) x_3 x_4 hx_4) fun w_5 p_5 _ f => Y f 4 fun _ f => eT (wp_ret (E_ret2 f rfl (by kernel_rfl : Vc.look _ 2 = some (S x_4.1)) (by kernel_rfl : Vc.look _ 3 = some (.int .i64 x_4.2)) ?_))
  obtain rfl := sI hF_6
  exact ⟨_, rfl, M_2, (hM_1.trans hM_2), p_5, rfl⟩
def ref05_broad_s1 (n : Nat) (rec_ref05_broad : TA0 → (List UInt8) → Option (List UInt8)) (d0 : TA0) (d1 : List UInt8) (s_1 : List UInt8 × Int) : Option (Lp (List UInt8 × Int) (List UInt8)) :=
    bif (decide (s_1.2 < ((d0.fList.length : Nat) : Int))) then
      (((bif (decide ((0 : Int) < s_1.2)) then
          (need (s_1.1.length + [44].length ≤ 9223372036854775807) <|
          some (s_1.1 ++ [44]))
        else
          some (s_1.1) : Option (List UInt8))).bind fun y_3 =>
      need (y_3.length + [10].length ≤ 9223372036854775807) <|
      need ((y_3 ++ [10]).length + d1.length ≤ 9223372036854775807) <|
      need (((y_3 ++ [10]) ++ d1).length + [32, 32].length ≤ 9223372036854775807) <|
      ((bif (decide (d0.fKind = 5)) then
          ((getI d0.fKeys s_1.2).bind fun x_2 =>
          (ref05_quoted n x_2).bind fun x_3 =>
          need ((((y_3 ++ [10]) ++ d1) ++ [32, 32]).length + x_3.length ≤ 9223372036854775807) <|
          need (((((y_3 ++ [10]) ++ d1) ++ [32, 32]) ++ x_3).length + [58, 32].length ≤ 9223372036854775807) <|
          some (((((y_3 ++ [10]) ++ d1) ++ [32, 32]) ++ x_3) ++ [58, 32]))
        else
          some (((y_3 ++ [10]) ++ d1) ++ [32, 32]) : Option (List UInt8))).bind fun y_4 =>
      (getI d0.fList s_1.2).bind fun x_4 =>
      need (d1.length + [32, 32].length ≤ 9223372036854775807) <|
      (rec_ref05_broad x_4 (d1 ++ [32, 32])).bind fun x_5 =>
      need (y_4.length + x_5.length ≤ 9223372036854775807) <|
      need (inR .i64 (s_1.2 + 1)) <|
      some (.nx (y_4 ++ x_5, s_1.2 + 1)))
    else
      some (.br s_1.1)
def ref05_broad_b (n : Nat) (rec_ref05_broad : TA0 → (List UInt8) → Option (List UInt8)) (d0 : TA0) (d1 : List UInt8) : Option (List UInt8) :=
  ((bif (!(decide (d0.fKind = 4))) then
      (some ((!(decide (d0.fKind = 5)))))
    else
      some ((false)) : Option Bool)).bind fun y_1 =>
  bif y_1 then
    ((ref05_word n d0).bind fun x_1 =>
    some (x_1))
  else
    ((bif (decide (d0.fKind = 5)) then
        (some (([123], [125])))
      else
        some (([91], [93])) : Option (List UInt8 × List UInt8))).bind fun y_2 =>
    bif (decide (((d0.fList.length : Nat) : Int) = 0)) then
      (need (y_2.1.length + y_2.2.length ≤ 9223372036854775807) <|
      some (y_2.1 ++ y_2.2))
    else
      (loopF (ref05_broad_s1 n rec_ref05_broad d0 d1) n (y_2.1, (0 : Int))).bind fun y_5 =>
      need (y_5.length + [10].length ≤ 9223372036854775807) <|
      need ((y_5 ++ [10]).length + d1.length ≤ 9223372036854775807) <|
      need (((y_5 ++ [10]) ++ d1).length + y_2.2.length ≤ 9223372036854775807) <|
      some (((y_5 ++ [10]) ++ d1) ++ y_2.2)
set_option maxRecDepth 20000 in
theorem ref05_broad_b_ok (n : Nat) (rec_ref05_broad : TA0 → (List UInt8) → Option (List UInt8)) (hrec_ref05_broad : ∀ (M : Mem) (hG : GL M) (c0 : List Value) (d0 : TA0) (h0 : Rep M (emb_TA0 d0) c0) (d1 : List UInt8) (r : List UInt8) (hF : rec_ref05_broad d0 d1 = some r), Ok Tryz.prog M 20 [.agg c0.toArray, S d1] (fun _ v => v = S r)) (M : Mem) (hG : GL M) (c0 : List Value) (d0 : TA0) (h0 : Rep M (emb_TA0 d0) c0) (d1 : List UInt8) (r : List UInt8) (hF : ref05_broad_b n rec_ref05_broad d0 d1 = some r) : Ok Tryz.prog M 20 [.agg c0.toArray, S d1] (fun _ v => v = S r) := by
 unfold ref05_broad_b at hF
 intro M1 hM0 w0 H w p0
 replace hG := GL.mono hM0 hG
 replace h0 := Rep.mono hM0 _ _ h0
 obtain ⟨A_1, cap_1, A_2, cap_2, rfl, h_1, h_2⟩ := TA0.opn h0
 refine R_enter 74 Tryz.func20 rfl rfl (by simp) fun a0 f0 => RR (Y12 (cs := #[.int .i8 d0.fKind, .bool d0.fBool, .int .i64 d0.fNum, S d0.fText, .slice A_1 d0.fList.length cap_1, .slice A_2 d0.fKeys.length cap_2]) (T := 26) f0 p0 fun b_1 M_1 w_1 hM_1 hc_1 p_1 _ f => ?_)
 have hc_2 := fz_box hc_1
 refine Y f 1 fun _ f => eT (R_seq (R_seq ?_))
 obtain ⟨j_1, hj_1, hF_1⟩ := bS hF
 refine R_mid (fun a_10 w_2 => ∃ y_1 : Bool, j_1 = y_1 ∧ ∃ M_2 : Mem, M_1.le M_2 ∧ Frm 74 [(1, S d1), (2, .pointer (some (⟨b_1, 0, none⟩))), (16, .bool y_1)] a_10 ∧ Hp w0 M_2 (H) w_2) ?_ ?_
 ·refine R_reg (Y f 1 fun _ f => Y14 f p_1 hc_2 0 rfl fun _ f => Y f 2 fun _ f => ?_)
  rcases cE hj_1 with ⟨h_3, hF_2⟩ | ⟨h_3, hF_3⟩
  ·have k_1 : ¬ (d0.fKind = 4) := (not_iff dI).1 h_3
   have f := f.st 12 (cB h_3)
   refine Y f 1 fun _ f => Y14 f p_1 hc_2 0 rfl fun _ f => Y f 2 fun _ f => eT ?_
   exact ⟨(!(decide (d0.fKind = 5))), (sI hF_2).symm, M_1, (mR _), f.kp, p_1⟩
  ·have k_2 : ¬ (¬ (d0.fKind = 4)) := iff_f (not_iff dI) h_3
   have f := f.st 12 (cB h_3)
   refine Y f 4 fun _ f => eT ?_
   exact ⟨(false), (sI hF_3).symm, M_1, (mR _), f.kp, p_1⟩
 ·rintro a_10 w_2 ⟨y_1, hq_1, M_2, hM_2, f, p_2⟩
  subst j_1
  refine T_n (RcF f hF_1 (fun h_4 hF_4 => ?_) fun h_4 hF_6 => ?_)
  ·refine RR (Z (v := .agg #[.int .i8 d0.fKind, .bool d0.fBool, .int .i64 d0.fNum, S d0.fText, .slice A_1 d0.fList.length cap_1, .slice A_2 d0.fKeys.length cap_2]) f (Y32 (cs := [.int .i8 d0.fKind, .bool d0.fBool, .int .i64 d0.fNum, S d0.fText, .slice A_1 d0.fList.length cap_1, .slice A_2 d0.fKeys.length cap_2]) rfl (ad := ⟨b_1, 0, none⟩) (fun j v h => p_2.cell ((fzu hM_2 hc_2) j v h))) fun _ f => ?_)
   obtain ⟨x_1, hx_1, hF_5⟩ := bS hF_4
   refine Y17 f p_2 (ref05_word_ok n _ (GL.mono (hM_1.trans hM_2) hG) _ d0 (TA0.shutx (x := d0) (h_1.mono (hM_1.trans hM_2)) (h_2.mono (hM_1.trans hM_2))) x_1 hx_1) fun w_3 p_3 _ f => Y f 1 fun _ f => eT (wp_ret (T_r (E_ret1 f rfl (by kernel_rfl : Vc.look _ 4 = some (S x_1)) ?_)))
   obtain rfl := sI hF_5
   exact ⟨_, rfl, M_2, (hM_1.trans hM_2), p_3, rfl⟩
  ·refine wp_skip (T_n (RR (Y f 2 fun _ f => eT (R_seq (RR (Y f 1 fun _ f => Y14 f p_2 (fzu hM_2 hc_2) 0 rfl fun _ f => Y f 1 fun _ f => eT ?_))))))
   obtain ⟨j_2, hj_2, hF_7⟩ := bS hF_6
   refine R_mid (fun a_20 w_4 => ∃ y_2 : List UInt8 × List UInt8, j_2 = y_2 ∧ ∃ M_3 : Mem, M_2.le M_3 ∧ Frm 74 [(1, S d1), (2, .pointer (some (⟨b_1, 0, none⟩))), (5, S y_2.1), (6, S y_2.2)] a_20 ∧ Hp w0 M_3 (H) w_4) ?_ ?_
   ·refine RcF f hj_2 (fun h_5 hF_8 => ?_) fun h_5 hF_9 => ?_
    ·have k_5 := dI.1 h_5
     refine RR (Y f 1 fun _ f => eT (R_reg (Y f 1 fun _ f => eT ?_)))
     exact ⟨([123], [125]), (sI hF_8).symm, M_2, (mR _), f.kp, p_2⟩
    ·have k_6 := iff_f dI h_5
     refine wp_skip (T_n ?_)
     exact ⟨([91], [93]), (sI hF_9).symm, M_2, (mR _), f.kp, p_2⟩
   ·rintro a_20 w_4 ⟨y_2, hq_2, M_3, hM_3, f, p_4⟩
    subst j_2
    refine T_n (R_seq (RR (Y f 1 fun _ f => Y14 f p_4 (fzu (hM_2.trans hM_3) hc_2) 4 rfl fun _ f => Y f 2 fun _ f => eT (RcF f hF_7 (fun h_6 hF_10 => ?_) fun h_6 hF_12 => ?_))))
    ·have k_7 := dI.1 h_6
     refine RR (Y f 2 fun _ f => ?_)
     obtain ⟨g_1, hF_11⟩ := nS hF_10
     refine Z f (Y28 rfl (l := y_2.1) (m := y_2.2) g_1) fun _ f => Y f 1 fun _ f => eT (wp_ret (T_r (E_ret1 f rfl (by kernel_rfl : Vc.look _ 4 = some (S (y_2.1 ++ y_2.2))) ?_)))
     obtain rfl := sI hF_11
     exact ⟨_, rfl, M_3, ((hM_1.trans hM_2).trans hM_3), p_4, rfl⟩
    ·have k_8 := iff_f dI h_6
     refine wp_skip (T_n (RR (Y f 2 fun _ f => eT (R_seq (RR (Y f 1 fun _ f => eT (wp_block ?_)))))))
     obtain ⟨b_2, hL_1, hF_13⟩ := bS hF_12
     refine wp_mono (Q := fun e a w => (e = .exit 0 ∧ (∃ y_5 : List UInt8, b_2 = y_5 ∧ ∃ M_7 : Mem, M_3.le M_7 ∧ Frm 74 [(1, S d1), (6, S y_2.2), (7, S y_5)] a ∧ Hp w0 M_7 (H) w))) (R_loop (n := 74) (w0 := w0) (M := M_3) (fun (x : Nat × (List UInt8 × Int)) => match x with | (m_1, s_1) => [(1, S d1), (2, .pointer (some (⟨b_1, 0, none⟩))), (6, S y_2.2), (7, S s_1.1), (8, .int .i64 s_1.2)]) (fun (x : Nat × (List UInt8 × Int)) => match x with | (m_1, s_1) => (H)) (fun (x : Nat × (List UInt8 × Int)) (MM : Mem) => match x with | (m_1, s_1) => loopF (ref05_broad_s1 n rec_ref05_broad d0 d1) m_1 s_1 = some b_2) (fun (x : Nat × (List UInt8 × Int)) => match x with | (m_1, s_1) => m_1) (n, (y_2.1, (0 : Int))) (f.kp) p_4 hL_1 ?_) ?_
     ·rintro ⟨m_1, s_1⟩ M_4 _ w_5 hM_4 I_1 f p_5
      have I_1L := I_1
      obtain ⟨m_2, r_1, rfl, hs_1, hn_1⟩ := loop_step I_1L
      unfold ref05_broad_s1 at hs_1
      refine R_seq (RR (Y f 2 fun _ f => Y14 f p_5 (fzu ((hM_2.trans hM_3).trans hM_4) hc_2) 4 rfl fun _ f => Y f 2 fun _ f => eT (RcF f hs_1 (fun h_7 hF_14 => ?_) fun h_7 hF_34 => ?_)))
      ·have k_9 := dI.1 h_7
       refine wp_skip (T_n (R_seq (wp_block (R_seq (RR (Y f 2 fun _ f => eT ?_))))))
       obtain ⟨j_3, hj_3, hF_15⟩ := bS hF_14
       refine R_mid (fun a_37 w_6 => ∃ y_3 : List UInt8, j_3 = y_3 ∧ ∃ M_5 : Mem, M_4.le M_5 ∧ Frm 74 [(1, S d1), (2, .pointer (some (⟨b_1, 0, none⟩))), (6, S y_2.2), (7, S y_3), (8, .int .i64 s_1.2)] a_37 ∧ Hp w0 M_5 (H) w_6) ?_ ?_
       ·refine RcF f hj_3 (fun h_8 hF_16 => ?_) fun h_8 hF_18 => ?_
        ·have k_10 := dI.1 h_8
         refine R_reg (Y f 1 fun _ f => ?_)
         obtain ⟨g_2, hF_17⟩ := nS hF_16
         refine Z f (Y28 rfl (l := s_1.1) (m := [44]) g_2) fun _ f => Y f 1 fun _ f => eT ?_
         exact ⟨s_1.1 ++ [44], (sI hF_17).symm, M_4, (mR _), f.kp, p_5⟩
        ·have k_11 := iff_f dI h_8
         refine wp_skip (T_n ?_)
         exact ⟨s_1.1, (sI hF_18).symm, M_4, (mR _), f.kp, p_5⟩
       ·rintro a_37 w_6 ⟨y_3, hq_3, M_5, hM_5, f, p_6⟩
        subst j_3
        refine T_n (RR (Y f 1 fun _ f => ?_))
        obtain ⟨g_3, hF_19⟩ := nS hF_15
        refine Z f (Y28 rfl (l := y_3) (m := [10]) g_3) fun _ f => Y f 1 fun _ f => ?_
        obtain ⟨g_4, hF_20⟩ := nS hF_19
        refine Z f (Y28 rfl (l := y_3 ++ [10]) (m := d1) g_4) fun _ f => ?_
        obtain ⟨g_5, hF_21⟩ := nS hF_20
        refine Z f (Y28 rfl (l := (y_3 ++ [10]) ++ d1) (m := [32, 32]) g_5) fun _ f => Y f 1 fun _ f => eT (R_seq (RR (Y f 1 fun _ f => Y14 f p_6 (fzu (((hM_2.trans hM_3).trans hM_4).trans hM_5) hc_2) 0 rfl fun _ f => Y f 1 fun _ f => eT ?_)))
        obtain ⟨j_4, hj_4, hF_22⟩ := bS hF_21
        refine R_mid (fun a_56 w_8 => ∃ y_4 : List UInt8, j_4 = y_4 ∧ ∃ M_6 : Mem, M_5.le M_6 ∧ Frm 74 [(1, S d1), (2, .pointer (some (⟨b_1, 0, none⟩))), (6, S y_2.2), (7, S y_4), (8, .int .i64 s_1.2)] a_56 ∧ Hp w0 M_6 (H) w_8) ?_ ?_
        ·refine RcF f hj_4 (fun h_9 hF_23 => ?_) fun h_9 hF_28 => ?_
         ·have k_12 := dI.1 h_9
          refine R_reg (Y f 2 fun _ f => Y14 f p_6 (fzu (((hM_2.trans hM_3).trans hM_4).trans hM_5) hc_2) 5 rfl fun _ f => Y f 1 fun _ f => ?_)
          obtain ⟨x_2, hx_2, hF_24⟩ := bS hF_23
          obtain ⟨ad_1, c_1, e_1, -, hr_1, hc_3⟩ := Sli.at_ (h_2.mono ((((hM_1.trans hM_2).trans hM_3).trans hM_4).trans hM_5)) hx_2
          obtain rfl : c_1 = [S x_2] := hr_1
          refine Z f (Y30 e_1 rfl (len := d0.fKeys.length) (cap := cap_2) (k := .i64) (i := s_1.2) (e := 9) (sz := 1) (getI_nn hx_2) (getI_lt hx_2)) fun _ f => Y14 f p_6 hc_3 0 rfl fun _ f => ?_
          obtain ⟨x_3, hx_3, hF_25⟩ := bS hF_24
          refine Y17 f p_6 (ref05_quoted_ok n _ (GL.mono ((((hM_1.trans hM_2).trans hM_3).trans hM_4).trans hM_5) hG) x_2 x_3 hx_3) fun w_7 p_7 _ f => ?_
          obtain ⟨g_6, hF_26⟩ := nS hF_25
          refine Z f (Y28 rfl (l := ((y_3 ++ [10]) ++ d1) ++ [32, 32]) (m := x_3) g_6) fun _ f => ?_
          obtain ⟨g_7, hF_27⟩ := nS hF_26
          refine Z f (Y28 rfl (l := (((y_3 ++ [10]) ++ d1) ++ [32, 32]) ++ x_3) (m := [58, 32]) g_7) fun _ f => Y f 1 fun _ f => eT ?_
          exact ⟨((((y_3 ++ [10]) ++ d1) ++ [32, 32]) ++ x_3) ++ [58, 32], (sI hF_27).symm, M_5, (mR _), f.kp, p_7⟩
         ·have k_13 := iff_f dI h_9
          refine wp_skip (T_n ?_)
          exact ⟨((y_3 ++ [10]) ++ d1) ++ [32, 32], (sI hF_28).symm, M_5, (mR _), f.kp, p_6⟩
        ·rintro a_56 w_8 ⟨y_4, hq_4, M_6, hM_6, f, p_8⟩
         subst j_4
         refine T_n (R_reg (Y f 2 fun _ f => Y14 f p_8 (fzu ((((hM_2.trans hM_3).trans hM_4).trans hM_5).trans hM_6) hc_2) 4 rfl fun _ f => Y f 1 fun _ f => ?_))
         obtain ⟨x_4, hx_4, hF_29⟩ := bS hF_22
         obtain ⟨ad_2, c_2, e_2, -, hr_2, hc_4⟩ := Sli.at_ (h_1.mono (((((hM_1.trans hM_2).trans hM_3).trans hM_4).trans hM_5).trans hM_6)) hx_4
         obtain ⟨A_3, cap_3, A_4, cap_4, rfl, h_10, h_11⟩ := TA0.opn hr_2
         refine Z f (Y30 e_2 rfl (len := d0.fList.length) (cap := cap_1) (k := .i64) (i := s_1.2) (e := 26) (sz := 6) (getI_nn hx_4) (getI_lt hx_4)) fun _ f => Z (v := .agg #[.int .i8 x_4.fKind, .bool x_4.fBool, .int .i64 x_4.fNum, S x_4.fText, .slice A_3 x_4.fList.length cap_3, .slice A_4 x_4.fKeys.length cap_4]) f (Y32 (cs := [.int .i8 x_4.fKind, .bool x_4.fBool, .int .i64 x_4.fNum, S x_4.fText, .slice A_3 x_4.fList.length cap_3, .slice A_4 x_4.fKeys.length cap_4]) rfl (ad := ad_2.add (s_1.2.toNat * 6)) (fun j v h => p_8.cell (hc_4 j v h))) fun _ f => Y f 1 fun _ f => ?_
         obtain ⟨g_8, hF_30⟩ := nS hF_29
         refine Z f (Y28 rfl (l := d1) (m := [32, 32]) g_8) fun _ f => ?_
         obtain ⟨x_5, hx_5, hF_31⟩ := bS hF_30
         refine Y17 f p_8 (hrec_ref05_broad _ (GL.mono (((((hM_1.trans hM_2).trans hM_3).trans hM_4).trans hM_5).trans hM_6) hG) _ x_4 (TA0.shutx (x := x_4) h_10 h_11) (d1 ++ [32, 32]) x_5 hx_5) fun w_9 p_9 _ f => ?_
         obtain ⟨g_9, hF_32⟩ := nS hF_31
         refine Z f (Y28 rfl (l := y_4) (m := x_5) g_9) fun _ f => Y f 1 fun _ f => W_end rfl (B_n (T_n (R_reg (Y f 1 fun _ f => ?_))))
         obtain ⟨g_10, hF_33⟩ := nS hF_32
         refine Y f 1 fun _ f => ?_
         have f := f.st 36 (congrArg (Value.int .i64) (inR_wrap g_10))
         refine Y f 1 fun _ f => eT ?_
         obtain rfl := sI hF_33
         exact ⟨⟨m_2, (y_4 ++ x_5, s_1.2 + 1)⟩, Nat.lt_succ_self _, M_6, ((hM_4.trans hM_5).trans hM_6), hn_1, f.kp, p_9⟩
      ·have k_14 := iff_f dI h_7
       refine wp_exit (T_x (T_x ?_))
       obtain rfl := sI hF_34
       exact ⟨rfl, s_1.1, (sI hn_1).symm, M_4, hM_4, f.kp, p_5⟩
     ·rintro _ _ w_11 ⟨rfl, y_5, hq_, M_7, hM_7, f, p_10⟩
      subst b_2
      refine B_x (T_n (RR (Y f 1 fun _ f => ?_)))
      obtain ⟨g_11, hF_35⟩ := nS hF_13
      refine Z f (Y28 rfl (l := y_5) (m := [10]) g_11) fun _ f => Y f 1 fun _ f => ?_
      obtain ⟨g_12, hF_36⟩ := nS hF_35
      refine Z f (Y28 rfl (l := y_5 ++ [10]) (m := d1) g_12) fun _ f => Y f 1 fun _ f => ?_
      obtain ⟨g_13, hF_37⟩ := nS hF_36
      refine Z f (Y28 rfl (l := (y_5 ++ [10]) ++ d1) (m := y_2.2) g_13) fun _ f => Y f 1 fun _ f => eT (wp_ret (E_ret1 f rfl (by kernel_rfl : Vc.look _ 4 = some (S (((y_5 ++ [10]) ++ d1) ++ y_2.2))) ?_))
      obtain rfl := sI hF_37
      exact ⟨_, rfl, M_7, (((hM_1.trans hM_2).trans hM_3).trans hM_7), p_10, rfl⟩
def ref05_broad_k (n : Nat) : Nat → TA0 → (List UInt8) → Option (List UInt8)
  | 0 => fun _ _ => none
  | k + 1 => ref05_broad_b n (ref05_broad_k n k)
def ref05_broad (n : Nat) (d0 : TA0) (d1 : List UInt8) : Option (List UInt8) := ref05_broad_k n n d0 d1
theorem ref05_broad_ok (n : Nat) (M : Mem) (hG : GL M) (c0 : List Value) (d0 : TA0) (h0 : Rep M (emb_TA0 d0) c0) (d1 : List UInt8) (r : List UInt8) (hF : ref05_broad n d0 d1 = some r) : Ok Tryz.prog M 20 [.agg c0.toArray, S d1] (fun _ v => v = S r) := by
 have key : ∀ (k : Nat) (M : Mem) (hG : GL M) (c0 : List Value) (d0 : TA0) (h0 : Rep M (emb_TA0 d0) c0) (d1 : List UInt8) (r : List UInt8) (hF : ref05_broad_k n k d0 d1 = some r), Ok Tryz.prog M 20 [.agg c0.toArray, S d1] (fun _ v => v = S r) := by
  intro k
  induction k with
  | zero => intro M hG c0 d0 h0 d1 r hF; simp [ref05_broad_k] at hF
  | succ k ih => intro M hG c0 d0 h0 d1 r hF; exact ref05_broad_b_ok n (ref05_broad_k n k) ih M hG c0 d0 h0 d1 r hF
 exact key n M hG c0 d0 h0 d1 r hF
def ref05_Broad (n : Nat) (d0 : TA0) : Option (List UInt8 × Int) :=
  (ref03_Check n d0).bind fun x_1 =>
  bif (!(decide (x_1 = 0))) then
    (some ((([] : List UInt8), x_1)))
  else
    (ref03_Sorted n d0).bind fun x_2 =>
    (ref05_broad n x_2 ([] : List UInt8)).bind fun x_3 =>
    (ref05_limited n x_3).bind fun x_4 =>
    some ((x_4.1, x_4.2))
theorem ref05_Broad_ok (n : Nat) (M : Mem) (hG : GL M) (c0 : List Value) (d0 : TA0) (h0 : Rep M (emb_TA0 d0) c0) (r : List UInt8 × Int) (hF : ref05_Broad n d0 = some r) : Ok Tryz.prog M 9 [.agg c0.toArray] (fun _ v => v = .tuple #[S r.1, .int .i64 r.2]) := by
 unfold ref05_Broad at hF
 intro M1 hM0 w0 H w p0
 replace hG := GL.mono hM0 hG
 replace h0 := Rep.mono hM0 _ _ h0
 obtain ⟨A_1, cap_1, A_2, cap_2, rfl, h_1, h_2⟩ := TA0.opn h0
 refine R_enter 16 Tryz.func9 rfl rfl (by simp) fun a0 f0 => RR (Y12 (cs := #[.int .i8 d0.fKind, .bool d0.fBool, .int .i64 d0.fNum, S d0.fText, .slice A_1 d0.fList.length cap_1, .slice A_2 d0.fKeys.length cap_2]) (T := 26) f0 p0 fun b_1 M_1 w_1 hM_1 hc_1 p_1 _ f => ?_)
 have hc_2 := fz_box hc_1
 refine Y f 2 fun _ f => eT (RR (Z (v := .agg #[.int .i8 d0.fKind, .bool d0.fBool, .int .i64 d0.fNum, S d0.fText, .slice A_1 d0.fList.length cap_1, .slice A_2 d0.fKeys.length cap_2]) f (Y32 (cs := [.int .i8 d0.fKind, .bool d0.fBool, .int .i64 d0.fNum, S d0.fText, .slice A_1 d0.fList.length cap_1, .slice A_2 d0.fKeys.length cap_2]) rfl (ad := ⟨b_1, 0, none⟩) (fun j v h => p_1.cell (hc_2 j v h))) fun _ f => ?_))
 obtain ⟨x_1, hx_1, hF_1⟩ := bS hF
 refine Y17 f p_1 (ref03_Check_ok n _ _ d0 (TA0.shutx (x := d0) (h_1.mono hM_1) (h_2.mono hM_1)) x_1 hx_1) fun w_2 p_2 _ f => Y f 1 fun _ f => eT (R_seq (RR (Y f 2 fun _ f => eT (RcF f hF_1 (fun h_3 hF_2 => ?_) fun h_3 hF_3 => ?_))))
 ·have k_1 : ¬ (x_1 = 0) := (not_iff dI).1 h_3
  refine RR (Y f 3 fun _ f => eT (wp_ret (T_r (E_ret2 f rfl (by kernel_rfl : Vc.look _ 2 = some (S [])) (by kernel_rfl : Vc.look _ 3 = some (.int .i64 x_1)) ?_))))
  obtain rfl := sI hF_2
  exact ⟨_, rfl, M_1, hM_1, p_2, rfl⟩
 ·have k_2 : ¬ (¬ (x_1 = 0)) := iff_f (not_iff dI) h_3
  refine wp_skip (T_n (RR (Z (v := .agg #[.int .i8 d0.fKind, .bool d0.fBool, .int .i64 d0.fNum, S d0.fText, .slice A_1 d0.fList.length cap_1, .slice A_2 d0.fKeys.length cap_2]) f (Y32 (cs := [.int .i8 d0.fKind, .bool d0.fBool, .int .i64 d0.fNum, S d0.fText, .slice A_1 d0.fList.length cap_1, .slice A_2 d0.fKeys.length cap_2]) rfl (ad := ⟨b_1, 0, none⟩) (fun j v h => p_2.cell (hc_2 j v h))) fun _ f => ?_)))
  obtain ⟨x_2, hx_2, hF_4⟩ := bS hF_3
  refine Y15 f p_2 (ref03_Sorted_ok n _ _ d0 (TA0.shutx (x := d0) (h_1.mono hM_1) (h_2.mono hM_1)) x_2 hx_2) fun _ M_2 w_3 hM_2 p_3 q_1 _ f => ?_
  obtain ⟨c_1, rfl, hr_1⟩ := q_1
  obtain ⟨A_3, cap_3, A_4, cap_4, rfl, h_4, h_5⟩ := TA0.opn hr_1
  obtain ⟨x_3, hx_3, hF_5⟩ := bS hF_4
  refine Y17 f p_3 (ref05_broad_ok n _ (GL.mono (hM_1.trans hM_2) hG) _ x_2 (TA0.shutx (x := x_2) h_4 h_5) ([] : List UInt8) x_3 hx_3) fun w_4 p_4 _ f => ?_
  obtain ⟨x_4, hx_4, hF_6⟩ := bS hF_5
  refine Y17 f p_4 (ref05_limited_ok n _ (GL.mono (hM_1.trans hM_2) hG) x_3 x_4 hx_4) fun w_5 p_5 _ f => Y f 4 fun _ f => eT (wp_ret (E_ret2 f rfl (by kernel_rfl : Vc.look _ 2 = some (S x_4.1)) (by kernel_rfl : Vc.look _ 3 = some (.int .i64 x_4.2)) ?_))
  obtain rfl := sI hF_6
  exact ⟨_, rfl, M_2, (hM_1.trans hM_2), p_5, rfl⟩
def ref05_Len (n : Nat) (d0 : TA0) : Option Int :=
  (ref05_Print n d0).bind fun x_1 =>
  some ((x_1.1.length : Int))
theorem ref05_Len_ok (n : Nat) (M : Mem) (hG : GL M) (c0 : List Value) (d0 : TA0) (h0 : Rep M (emb_TA0 d0) c0) (r : Int) (hF : ref05_Len n d0 = some r) : Ok Tryz.prog M 11 [.agg c0.toArray] (fun _ v => v = .int .i64 r) := by
 unfold ref05_Len at hF
 intro M1 hM0 w0 H w p0
 replace hG := GL.mono hM0 hG
 replace h0 := Rep.mono hM0 _ _ h0
 obtain ⟨A_1, cap_1, A_2, cap_2, rfl, h_1, h_2⟩ := TA0.opn h0
 refine R_enter 12 Tryz.func11 rfl rfl (by simp) fun a0 f0 => RR (Y12 (cs := #[.int .i8 d0.fKind, .bool d0.fBool, .int .i64 d0.fNum, S d0.fText, .slice A_1 d0.fList.length cap_1, .slice A_2 d0.fKeys.length cap_2]) (T := 26) f0 p0 fun b_1 M_1 w_1 hM_1 hc_1 p_1 _ f => ?_)
 have hc_2 := fz_box hc_1
 refine Y f 1 fun _ f => eT (RR (Z (v := .agg #[.int .i8 d0.fKind, .bool d0.fBool, .int .i64 d0.fNum, S d0.fText, .slice A_1 d0.fList.length cap_1, .slice A_2 d0.fKeys.length cap_2]) f (Y32 (cs := [.int .i8 d0.fKind, .bool d0.fBool, .int .i64 d0.fNum, S d0.fText, .slice A_1 d0.fList.length cap_1, .slice A_2 d0.fKeys.length cap_2]) rfl (ad := ⟨b_1, 0, none⟩) (fun j v h => p_1.cell (hc_2 j v h))) fun _ f => ?_))
 obtain ⟨x_1, hx_1, hF_1⟩ := bS hF
 refine Y17 f p_1 (ref05_Print_ok n _ (GL.mono hM_1 hG) _ d0 (TA0.shutx (x := d0) (h_1.mono hM_1) (h_2.mono hM_1)) x_1 hx_1) fun w_2 p_2 _ f => Y f 5 fun _ f => eT (RR (Y f 3 fun _ f => eT (wp_ret (E_ret1 f rfl (by kernel_rfl : Vc.look _ 2 = some (.int .i64 (x_1.1.length : Int))) ?_))))
 obtain rfl := sI hF_1
 exact ⟨_, rfl, M_1, hM_1, p_2, rfl⟩
def ref05_Word (n : Nat) (d0 : List UInt8) : Option Bool :=
  bif (decide ((d0.length : Int) ≤ 64)) then
    ((ref01_Valid n d0).bind fun x_1 =>
    some ((x_1)))
  else
    some ((false))
theorem ref05_Word_ok (n : Nat) (M : Mem) (hG : GL M) (d0 : List UInt8) (r : Bool) (hF : ref05_Word n d0 = some r) : Ok Tryz.prog M 13 [S d0] (fun _ v => v = .bool r) := by
 unfold ref05_Word at hF
 intro M1 hM0 w0 H w p0
 replace hG := GL.mono hM0 hG
 refine R_enter 10 Tryz.func13 rfl rfl (by simp) fun a0 f0 => RR (Y f0 1 fun _ f => eT (RR (Y f 4 fun _ f => ?_)))
 rcases cE hF with ⟨h_1, hF_1⟩ | ⟨h_1, hF_3⟩
 ·have k_1 := dI.1 h_1
  have f := f.st 6 (cB h_1)
  refine Y f 1 fun _ f => ?_
  obtain ⟨x_1, hx_1, hF_2⟩ := bS hF_1
  refine Y17 f p0 (ref01_Valid_ok n _ d0 x_1 hx_1) fun w_1 p_1 _ f => Y f 2 fun _ f => eT (wp_ret (E_ret1 f rfl (by kernel_rfl : Vc.look _ 2 = some (.bool x_1)) ?_))
  obtain rfl := sI hF_2
  exact ⟨_, rfl, M1, (mR _), p_1, rfl⟩
 ·have k_2 := iff_f dI h_1
  have f := f.st 6 (cB h_1)
  refine Y f 4 fun _ f => eT (wp_ret (E_ret1 f rfl (by kernel_rfl : Vc.look _ 2 = some (.bool false)) ?_))
  obtain rfl := sI hF_3
  exact ⟨_, rfl, M1, (mR _), p0, rfl⟩
def print_Word (n : Nat) (d0 : List UInt8) : Option Bool :=
  bif (decide ((d0.length : Int) ≤ 64)) then
    ((runes_Valid n d0).bind fun x_1 =>
    some ((x_1)))
  else
    some ((false))
theorem print_Word_ok (n : Nat) (M : Mem) (hG : GL M) (d0 : List UInt8) (r : Bool) (hF : print_Word n d0 = some r) : Ok Tryz.prog M 12 [S d0] (fun _ v => v = .bool r) := by
 unfold print_Word at hF
 intro M1 hM0 w0 H w p0
 replace hG := GL.mono hM0 hG
 refine R_enter 10 Tryz.func12 rfl rfl (by simp) fun a0 f0 => RR (Y f0 1 fun _ f => eT (RR (Y f 4 fun _ f => ?_)))
 rcases cE hF with ⟨h_1, hF_1⟩ | ⟨h_1, hF_3⟩
 ·have k_1 := dI.1 h_1
  have f := f.st 6 (cB h_1)
  refine Y f 1 fun _ f => ?_
  obtain ⟨x_1, hx_1, hF_2⟩ := bS hF_1
  refine Y17 f p0 (runes_Valid_ok n _ hG d0 x_1 hx_1) fun w_1 p_1 _ f => Y f 2 fun _ f => eT (wp_ret (E_ret1 f rfl (by kernel_rfl : Vc.look _ 2 = some (.bool x_1)) ?_))
  obtain rfl := sI hF_2
  exact ⟨_, rfl, M1, (mR _), p_1, rfl⟩
 ·have k_2 := iff_f dI h_1
  have f := f.st 6 (cB h_1)
  refine Y f 4 fun _ f => eT (wp_ret (E_ret1 f rfl (by kernel_rfl : Vc.look _ 2 = some (.bool false)) ?_))
  obtain rfl := sI hF_3
  exact ⟨_, rfl, M1, (mR _), p0, rfl⟩
def law05_PrintTells (n : Nat) (d0 : TA0) (d1 : List UInt8) : Option Bool :=
  (((ref03_Great n d0).bind fun x_1 =>
    bif x_1 then
      (some ((true)))
    else
      some ((decide ((1000 : Int) < (d1.length : Int)))) : Option Bool)).bind fun y_1 =>
  bif y_1 then
    ((law05_wakes n).bind fun x_2 =>
    some ((x_2)))
  else
    (print_Print n d0).bind fun x_3 =>
    (ref05_Print n d0).bind fun x_4 =>
    (print_Broad n d0).bind fun x_5 =>
    (ref05_Broad n d0).bind fun x_6 =>
    bif (decide (x_3.1 = x_4.1)) then
      (bif (decide (x_3.2 = x_4.2)) then
        (bif (decide (x_5.1 = x_6.1)) then
          (bif (decide (x_5.2 = x_6.2)) then
            ((print_Len n d0).bind fun x_7 =>
            (ref05_Len n d0).bind fun x_8 =>
            bif (decide (x_7 = x_8)) then
              ((print_Word n d1).bind fun x_9 =>
              (ref05_Word n d1).bind fun x_10 =>
              bif (x_9 == x_10) then
                ((law05_wakes n).bind fun x_11 =>
                some ((x_11)))
              else
                some ((false)))
            else
              some ((false)))
          else
            some ((false)))
        else
          some ((false)))
      else
        some ((false)))
    else
      some ((false))
set_option maxRecDepth 20000 in
theorem law05_PrintTells_ok (n : Nat) (M : Mem) (hG : GL M) (c0 : List Value) (d0 : TA0) (h0 : Rep M (emb_TA0 d0) c0) (d1 : List UInt8) (r : Bool) (hF : law05_PrintTells n d0 d1 = some r) : Ok Tryz.prog M 3 [.agg c0.toArray, S d1] (fun _ v => v = .bool r) := by
 unfold law05_PrintTells at hF
 intro M1 hM0 w0 H w p0
 replace hG := GL.mono hM0 hG
 replace h0 := Rep.mono hM0 _ _ h0
 obtain ⟨A_1, cap_1, A_2, cap_2, rfl, h_1, h_2⟩ := TA0.opn h0
 refine R_enter 76 Tryz.func3 rfl rfl (by simp) fun a0 f0 => RR (Y12 (cs := #[.int .i8 d0.fKind, .bool d0.fBool, .int .i64 d0.fNum, S d0.fText, .slice A_1 d0.fList.length cap_1, .slice A_2 d0.fKeys.length cap_2]) (T := 26) f0 p0 fun b_1 M_1 w_1 hM_1 hc_1 p_1 _ f => ?_)
 have hc_2 := fz_box hc_1
 refine Y f 1 fun _ f => eT (R_seq (R_seq ?_))
 obtain ⟨j_1, hj_1, hF_1⟩ := bS hF
 refine R_mid (fun a_8 w_3 => ∃ y_1 : Bool, j_1 = y_1 ∧ ∃ M_2 : Mem, M_1.le M_2 ∧ Frm 76 [(1, S d1), (2, .pointer (some (⟨b_1, 0, none⟩))), (19, .bool y_1)] a_8 ∧ Hp w0 M_2 (H) w_3) ?_ ?_
 ·refine R_reg (Z (v := .agg #[.int .i8 d0.fKind, .bool d0.fBool, .int .i64 d0.fNum, S d0.fText, .slice A_1 d0.fList.length cap_1, .slice A_2 d0.fKeys.length cap_2]) f (Y32 (cs := [.int .i8 d0.fKind, .bool d0.fBool, .int .i64 d0.fNum, S d0.fText, .slice A_1 d0.fList.length cap_1, .slice A_2 d0.fKeys.length cap_2]) rfl (ad := ⟨b_1, 0, none⟩) (fun j v h => p_1.cell (hc_2 j v h))) fun _ f => ?_)
  obtain ⟨x_1, hx_1, hF_2⟩ := bS hj_1
  refine Y17 f p_1 (ref03_Great_ok n _ _ d0 (TA0.shutx (x := d0) (h_1.mono hM_1) (h_2.mono hM_1)) x_1 hx_1) fun w_2 p_2 _ f => Y f 1 fun _ f => ?_
  rcases cE hF_2 with ⟨h_3, hF_3⟩ | ⟨h_3, hF_4⟩
  ·have f := f.st 15 (cB h_3)
   refine Y f 4 fun _ f => eT ?_
   exact ⟨(true), (sI hF_3).symm, M_1, (mR _), f.kp, p_2⟩
  ·have f := f.st 15 (cB h_3)
   refine Y f 4 fun _ f => eT ?_
   exact ⟨(decide ((1000 : Int) < (d1.length : Int))), (sI hF_4).symm, M_1, (mR _), f.kp, p_2⟩
 ·rintro a_8 w_3 ⟨y_1, hq_1, M_2, hM_2, f, p_3⟩
  subst j_1
  refine T_n (RcF f hF_1 (fun h_4 hF_5 => ?_) fun h_4 hF_7 => ?_)
  ·refine RR ?_
   obtain ⟨x_2, hx_2, hF_6⟩ := bS hF_5
   refine Y17 f p_3 (law05_wakes_ok n _ (GL.mono (hM_1.trans hM_2) hG) x_2 hx_2) fun w_4 p_4 _ f => Y f 1 fun _ f => eT (wp_ret (T_r (E_ret1 f rfl (by kernel_rfl : Vc.look _ 4 = some (.bool x_2)) ?_)))
   obtain rfl := sI hF_6
   exact ⟨_, rfl, M_2, (hM_1.trans hM_2), p_4, rfl⟩
  ·refine wp_skip (T_n (RR (Z (v := .agg #[.int .i8 d0.fKind, .bool d0.fBool, .int .i64 d0.fNum, S d0.fText, .slice A_1 d0.fList.length cap_1, .slice A_2 d0.fKeys.length cap_2]) f (Y32 (cs := [.int .i8 d0.fKind, .bool d0.fBool, .int .i64 d0.fNum, S d0.fText, .slice A_1 d0.fList.length cap_1, .slice A_2 d0.fKeys.length cap_2]) rfl (ad := ⟨b_1, 0, none⟩) (fun j v h => p_3.cell ((fzu hM_2 hc_2) j v h))) fun _ f => ?_)))
   obtain ⟨x_3, hx_3, hF_8⟩ := bS hF_7
   refine Y17 f p_3 (print_Print_ok n _ (GL.mono (hM_1.trans hM_2) hG) _ d0 (TA0.shutx (x := d0) (h_1.mono (hM_1.trans hM_2)) (h_2.mono (hM_1.trans hM_2))) x_3 hx_3) fun w_5 p_5 _ f => Y f 5 fun _ f => eT (RR (Z (v := .agg #[.int .i8 d0.fKind, .bool d0.fBool, .int .i64 d0.fNum, S d0.fText, .slice A_1 d0.fList.length cap_1, .slice A_2 d0.fKeys.length cap_2]) f (Y32 (cs := [.int .i8 d0.fKind, .bool d0.fBool, .int .i64 d0.fNum, S d0.fText, .slice A_1 d0.fList.length cap_1, .slice A_2 d0.fKeys.length cap_2]) rfl (ad := ⟨b_1, 0, none⟩) (fun j v h => p_5.cell ((fzu hM_2 hc_2) j v h))) fun _ f => ?_))
   obtain ⟨x_4, hx_4, hF_9⟩ := bS hF_8
   refine Y17 f p_5 (ref05_Print_ok n _ (GL.mono (hM_1.trans hM_2) hG) _ d0 (TA0.shutx (x := d0) (h_1.mono (hM_1.trans hM_2)) (h_2.mono (hM_1.trans hM_2))) x_4 hx_4) fun w_6 p_6 _ f => Y f 5 fun _ f => eT (RR (Z (v := .agg #[.int .i8 d0.fKind, .bool d0.fBool, .int .i64 d0.fNum, S d0.fText, .slice A_1 d0.fList.length cap_1, .slice A_2 d0.fKeys.length cap_2]) f (Y32 (cs := [.int .i8 d0.fKind, .bool d0.fBool, .int .i64 d0.fNum, S d0.fText, .slice A_1 d0.fList.length cap_1, .slice A_2 d0.fKeys.length cap_2]) rfl (ad := ⟨b_1, 0, none⟩) (fun j v h => p_6.cell ((fzu hM_2 hc_2) j v h))) fun _ f => ?_))
   obtain ⟨x_5, hx_5, hF_10⟩ := bS hF_9
   refine Y17 f p_6 (print_Broad_ok n _ (GL.mono (hM_1.trans hM_2) hG) _ d0 (TA0.shutx (x := d0) (h_1.mono (hM_1.trans hM_2)) (h_2.mono (hM_1.trans hM_2))) x_5 hx_5) fun w_7 p_7 _ f => Y f 5 fun _ f => eT (RR (Z (v := .agg #[.int .i8 d0.fKind, .bool d0.fBool, .int .i64 d0.fNum, S d0.fText, .slice A_1 d0.fList.length cap_1, .slice A_2 d0.fKeys.length cap_2]) f (Y32 (cs := [.int .i8 d0.fKind, .bool d0.fBool, .int .i64 d0.fNum, S d0.fText, .slice A_1 d0.fList.length cap_1, .slice A_2 d0.fKeys.length cap_2]) rfl (ad := ⟨b_1, 0, none⟩) (fun j v h => p_7.cell ((fzu hM_2 hc_2) j v h))) fun _ f => ?_))
   obtain ⟨x_6, hx_6, hF_11⟩ := bS hF_10
   refine Y17 f p_7 (ref05_Broad_ok n _ (GL.mono (hM_1.trans hM_2) hG) _ d0 (TA0.shutx (x := d0) (h_1.mono (hM_1.trans hM_2)) (h_2.mono (hM_1.trans hM_2))) x_6 hx_6) fun w_8 p_8 _ f => Y f 5 fun _ f => eT (R_seq (R_draw p_8 (by kernel_rfl) (by kernel_rfl) (Y5 default f 2 fun _ f => Y2 (v := .bool (decide (x_3.1 = x_4.1))) f (fun _ pq => Y38 rfl (l := x_3.1) (m := x_4.1)) fun _ f => Y5 default f 1 fun _ f => ?_)))
   rcases cE hF_11 with ⟨h_5, hF_12⟩ | ⟨h_5, hF_28⟩
   ·have k_5 := dI.1 h_5
    have f := f.st 44 (cB h_5)
    refine Y5 default f 5 fun _ f => ?_
    rcases cE hF_12 with ⟨h_6, hF_13⟩ | ⟨h_6, hF_27⟩
    ·have k_6 := dI.1 h_6
     have f := f.st 49 (cB h_6)
     refine Y5 default f 2 fun _ f => Y2 (v := .bool (decide (x_5.1 = x_6.1))) f (fun _ pq => Y38 rfl (l := x_5.1) (m := x_6.1)) fun _ f => Y5 default f 2 fun _ f => ?_
     rcases cE hF_13 with ⟨h_7, hF_14⟩ | ⟨h_7, hF_26⟩
     ·have k_7 := dI.1 h_7
      have f := f.st 54 (cB h_7)
      refine Y5 default f 5 fun _ f => ?_
      rcases cE hF_14 with ⟨h_8, hF_15⟩ | ⟨h_8, hF_25⟩
      ·have k_8 := dI.1 h_8
       have f := f.st 59 (cB h_8)
       refine Y2 (v := .agg #[.int .i8 d0.fKind, .bool d0.fBool, .int .i64 d0.fNum, S d0.fText, .slice A_1 d0.fList.length cap_1, .slice A_2 d0.fKeys.length cap_2]) f (fun _ pq => Y32 (cs := [.int .i8 d0.fKind, .bool d0.fBool, .int .i64 d0.fNum, S d0.fText, .slice A_1 d0.fList.length cap_1, .slice A_2 d0.fKeys.length cap_2]) rfl (ad := ⟨b_1, 0, none⟩) (fun j v h => pq.cell ((fzu hM_2 hc_2) j v h))) fun _ f => ?_
       obtain ⟨x_7, hx_7, hF_16⟩ := bS hF_15
       refine Y3 f (print_Len_ok n _ (GL.mono (hM_1.trans hM_2) hG) _ d0 (TA0.shutx (x := d0) (h_1.mono (hM_1.trans hM_2)) (h_2.mono (hM_1.trans hM_2))) x_7 hx_7) fun _ f => Y2 (v := .agg #[.int .i8 d0.fKind, .bool d0.fBool, .int .i64 d0.fNum, S d0.fText, .slice A_1 d0.fList.length cap_1, .slice A_2 d0.fKeys.length cap_2]) f (fun _ pq => Y32 (cs := [.int .i8 d0.fKind, .bool d0.fBool, .int .i64 d0.fNum, S d0.fText, .slice A_1 d0.fList.length cap_1, .slice A_2 d0.fKeys.length cap_2]) rfl (ad := ⟨b_1, 0, none⟩) (fun j v h => pq.cell ((fzu hM_2 hc_2) j v h))) fun _ f => ?_
       obtain ⟨x_8, hx_8, hF_17⟩ := bS hF_16
       refine Y3 f (ref05_Len_ok n _ (GL.mono (hM_1.trans hM_2) hG) _ d0 (TA0.shutx (x := d0) (h_1.mono (hM_1.trans hM_2)) (h_2.mono (hM_1.trans hM_2))) x_8 hx_8) fun _ f => Y5 default f 3 fun _ f => ?_
       rcases cE hF_17 with ⟨h_9, hF_18⟩ | ⟨h_9, hF_24⟩
       ·have k_9 := dI.1 h_9
        have f := f.st 66 (cB h_9)
        refine Y5 default f 1 fun _ f => ?_
        obtain ⟨x_9, hx_9, hF_19⟩ := bS hF_18
        refine Y3 f (print_Word_ok n _ (GL.mono (hM_1.trans hM_2) hG) d1 x_9 hx_9) fun _ f => Y5 default f 1 fun _ f => ?_
        obtain ⟨x_10, hx_10, hF_20⟩ := bS hF_19
        refine Y3 f (ref05_Word_ok n _ (GL.mono (hM_1.trans hM_2) hG) d1 x_10 hx_10) fun _ f => Y5 default f 3 fun _ f => ?_
        rcases cE hF_20 with ⟨h_10, hF_21⟩ | ⟨h_10, hF_23⟩
        ·have f := f.st 73 (cB h_10)
         obtain ⟨x_11, hx_11, hF_22⟩ := bS hF_21
         refine Y3 f (law05_wakes_ok n _ (GL.mono (hM_1.trans hM_2) hG) x_11 hx_11) fun _ f => Y5 default f 2 fun _ f => Q_end rfl ?_
         intro w_14 p_14
         refine T_n (wp_ret (E_ret1 f rfl (by kernel_rfl : Vc.look _ 4 = some (.bool x_11)) ?_))
         obtain rfl := sI hF_22
         exact ⟨_, rfl, M_2, (hM_1.trans hM_2), p_14, rfl⟩
        ·have f := f.st 73 (cB h_10)
         refine Y5 default f 3 fun _ f => Q_end rfl ?_
         intro w_15 p_15
         refine T_n (wp_ret (E_ret1 f rfl (by kernel_rfl : Vc.look _ 4 = some (.bool false)) ?_))
         obtain rfl := sI hF_23
         exact ⟨_, rfl, M_2, (hM_1.trans hM_2), p_15, rfl⟩
       ·have k_12 := iff_f dI h_9
        have f := f.st 66 (cB h_9)
        refine Y5 default f 10 fun _ f => Q_end rfl ?_
        intro w_16 p_16
        refine T_n (wp_ret (E_ret1 f rfl (by kernel_rfl : Vc.look _ 4 = some (.bool false)) ?_))
        obtain rfl := sI hF_24
        exact ⟨_, rfl, M_2, (hM_1.trans hM_2), p_16, rfl⟩
      ·have k_13 := iff_f dI h_8
       have f := f.st 59 (cB h_8)
       refine Y5 default f 17 fun _ f => Q_end rfl ?_
       intro w_17 p_17
       refine T_n (wp_ret (E_ret1 f rfl (by kernel_rfl : Vc.look _ 4 = some (.bool false)) ?_))
       obtain rfl := sI hF_25
       exact ⟨_, rfl, M_2, (hM_1.trans hM_2), p_17, rfl⟩
     ·have k_14 := iff_f dI h_7
      have f := f.st 54 (cB h_7)
      refine Y5 default f 22 fun _ f => Q_end rfl ?_
      intro w_18 p_18
      refine T_n (wp_ret (E_ret1 f rfl (by kernel_rfl : Vc.look _ 4 = some (.bool false)) ?_))
      obtain rfl := sI hF_26
      exact ⟨_, rfl, M_2, (hM_1.trans hM_2), p_18, rfl⟩
    ·have k_15 := iff_f dI h_6
     have f := f.st 49 (cB h_6)
     refine Y5 default f 27 fun _ f => Q_end rfl ?_
     intro w_19 p_19
     refine T_n (wp_ret (E_ret1 f rfl (by kernel_rfl : Vc.look _ 4 = some (.bool false)) ?_))
     obtain rfl := sI hF_27
     exact ⟨_, rfl, M_2, (hM_1.trans hM_2), p_19, rfl⟩
   ·have k_16 := iff_f dI h_5
    have f := f.st 44 (cB h_5)
    refine Y5 default f 32 fun _ f => Q_end rfl ?_
    intro w_20 p_20
    refine T_n (wp_ret (E_ret1 f rfl (by kernel_rfl : Vc.look _ 4 = some (.bool false)) ?_))
    obtain rfl := sI hF_28
    exact ⟨_, rfl, M_2, (hM_1.trans hM_2), p_20, rfl⟩
def posP (p : KV) : List KV → Nat
  | [] => 0
  | q :: r => bif leK p q then 0 else posP p r + 1
theorem posP_le (p : KV) : ∀ l, posP p l ≤ l.length
 | [] => Nat.le_refl _
 | q :: r => by
  have := posP_le p r
  rw [posP, List.length_cons]
  cases leK p q with
  | true => rw [cT]; omega
  | false => rw [cF]; omega
theorem posP_lt (p : KV) : ∀ (l : List KV) (i : Nat) (h : i < l.length), i < posP p l → leK p l[i] = false
 | q :: r, i, h, hi => by
  rw [posP] at hi
  cases hq : leK p q with
  | true => rw [hq, cT] at hi; omega
  | false =>
   rw [hq, cF] at hi
   cases i with
   | zero => exact hq
   | succ i => exact posP_lt p r i (by rw [List.length_cons] at h; omega) (by omega)
theorem posP_at (p : KV) : ∀ (l : List KV) (h : posP p l < l.length), leK p l[posP p l] = true
 | q :: r, h => by
  cases hq : leK p q with
  | true =>
   have e : posP p (q :: r) = 0 := by rw [posP, hq, cT]
   simp only [e]
   exact hq
  | false =>
   have e : posP p (q :: r) = posP p r + 1 := by rw [posP, hq, cF]
   simp only [e] at h ⊢
   rw [List.length_cons] at h
   exact posP_at p r (by omega)
theorem insP_pos (p : KV) : ∀ l, insP p l = l.take (posP p l) ++ p :: l.drop (posP p l)
 | [] => rfl
 | q :: r => by
  rw [insP, posP]
  cases leK p q with
  | true => rw [cT, cT]; rfl
  | false => rw [cF, cF, insP_pos p r]; rfl
def foldKV (l : List KV) : List KV := l.foldl (fun acc p => insP p acc) []
theorem foldKV_snoc (l : List KV) (p : KV) : foldKV (l ++ [p]) = insP p (foldKV l) := by unfold foldKV; rw [List.foldl_append]; rfl
theorem foldKV_perm_gen : ∀ (l acc : List KV), (l.foldl (fun acc p => insP p acc) acc).Perm (l ++ acc)
 | [], acc => List.Perm.refl _
 | p :: r, acc => by
  rw [List.foldl_cons]
  refine (foldKV_perm_gen r _).trans ?_
  refine ((insP_perm p acc).append_left r).trans ?_
  exact List.perm_middle
theorem foldKV_sorted_gen : ∀ (l acc : List KV), acc.Pairwise (fun a b => leK a b = true) → (l.foldl (fun acc p => insP p acc) acc).Pairwise (fun a b => leK a b = true)
 | [], acc, h => h
 | p :: r, acc, h => foldKV_sorted_gen r _ (insP_sorted p acc h)
theorem foldKV_eq {l : List KV} (hn : (l.map (·.1)).Nodup) : foldKV l = isortP l := by
 refine sorted_one hn ?_ (foldKV_sorted_gen l [] List.Pairwise.nil)
 have := foldKV_perm_gen l []
 rwa [List.append_nil] at this
theorem foldKV_len (l : List KV) : (foldKV l).length = l.length := by
 have := (foldKV_perm_gen l []).length_eq
 rwa [List.append_nil] at this
theorem sorted_ref {n : Nat} (hn : 6000 < n) : ∀ (k d : Nat) (v : TA0), d ≤ k → Small d v → OkV v → ref03_sorted_k n k v = some (sortV v)
 | _, 0, v, _, h, _ => h.elim
 | 0, d + 1, v, h, _, _ => absurd h (by omega)
 | k + 1, d + 1, v, hk, hs, hok => by
  obtain ⟨h1, h2, h3, h4, h5⟩ := hs
  obtain ⟨ha, hl⟩ := OkV_iff.1 hok
  obtain ⟨hp, _, _, hnd⟩ := alone_ok ha
  show ref03_sorted_b n (ref03_sorted_k n k) v = _
  unfold ref03_sorted_b
  have ih : ∀ x ∈ v.fList, ref03_sorted_k n k x = some (sortV x) := fun x hx => sorted_ref hn k d x (by omega) (h5 x hx) (hl x hx)
  have ev : ∀ x : TA0, (⟨x.fKind, (x.fBool), x.fNum, x.fText, x.fList, x.fKeys⟩ : TA0) = x := fun x => by cases x; rfl
  by_cases hkind : v.fKind = 5
  ·have hkl : v.fKeys.length = v.fList.length := hp.2.2.2.2.2.2.1 hkind
   obtain ⟨ps, hps⟩ : ∃ ps : List KV, ps = v.fKeys.zip (v.fList.map sortV) := ⟨_, rfl⟩
   have hpl : ps.length = v.fList.length := by rw [hps]; simp [hkl]
   have := loop_all (step := ref03_sorted_s1 n (ref03_sorted_k n k) v) (n := n) (fun q => ((q : Int), (foldKV (ps.take q)).map (·.2), (foldKV (ps.take q)).map (·.1))) v.fList.length ((foldKV ps).map (·.2), (foldKV ps).map (·.1)) (fun q hq => by
    have hx : v.fList[q]? = some v.fList[q] := List.getElem?_eq_getElem hq
    have hg : getI v.fList (q : Int) = some v.fList[q] := by simp [getI]
    have hgk : getI v.fKeys (q : Int) = some (v.fKeys.getD q []) := getI_at [] (by omega)
    have hpq : ps[q]? = some (v.fKeys.getD q [], sortV v.fList[q]) := by
     rw [hps]
     simp [List.getElem?_zip_eq_some, hx, List.getD, (by omega : q < v.fKeys.length)]
    obtain ⟨p, hpe⟩ : ∃ p : KV, p = (v.fKeys.getD q [], sortV v.fList[q]) := ⟨_, rfl⟩
    rw [← hpe] at hpq
    have hp1 : v.fKeys.getD q [] = p.1 := by rw [hpe]
    have hp2 : sortV v.fList[q] = p.2 := by rw [hpe]
    have hfold : foldKV (ps.take (q + 1)) = insP p (foldKV (ps.take q)) := by rw [List.take_add_one, hpq]; exact foldKV_snoc _ _
    have hfl : (foldKV (ps.take q)).length = q := by rw [foldKV_len]; simp; omega
    rw [hp1] at hgk
    unfold ref03_sorted_s1
    dsimp only
    rw [decide_eq_true (by omega), cT, hg, bnd, ih _ (List.getElem_mem hq), bnd, decide_eq_false (by omega), cF, hfold]
    generalize foldKV (ps.take q) = L at hfl ⊢
    have hpos := posP_le p L
    have hin := loop_all (step := ref03_sorted_s2 n v ((q : Int), L.map (·.2), L.map (·.1))) (n := n) (fun i => (i : Int)) (posP p L) ((posP p L : Nat) : Int) (fun i hi => by
     unfold ref03_sorted_s2
     dsimp only
     have hgi : getI (L.map (·.1)) (i : Int) = some (L[i]'(by omega)).1 := by simp [getI, (by omega : i < L.length)]
     have := posP_lt p L i (by omega) hi
     have hless : Op.bytesLess (L[i]'(by omega)).1 p.1 = true := by
      rw [less_cb]
      unfold leK at this
      simpa using this
     rw [decide_eq_true (by rw [List.length_map]; omega), cT, hgi, bnd, hgk, bnd, hless, cT, need_i (by omega) (by omega)]
     rfl) (by
     unfold ref03_sorted_s2
     dsimp only
     by_cases he : posP p L = L.length
     ·rw [decide_eq_false (by rw [List.length_map]; omega), cF]
     ·have hlt : posP p L < L.length := by omega
      have hgi : getI (L.map (·.1)) ((posP p L : Nat) : Int) = some (L[posP p L]).1 := by simp [getI, hlt]
      have := posP_at p L hlt
      have hless : Op.bytesLess (L[posP p L]).1 p.1 = false := by
       rw [less_cb]
       unfold leK at this
       simpa using this
      rw [decide_eq_true (by rw [List.length_map]; omega), cT, hgi, bnd, hgk, bnd, hless, cF]) (by omega)
    have e0 : ((0 : Nat) : Int) = 0 := rfl
    rw [e0] at hin
    have hL1 : (L.map (·.1)).length = q := by rw [List.length_map, hfl]
    have hL2 : (L.map (·.2)).length = q := by rw [List.length_map, hfl]
    rw [hin, bnd, hL1, hL2, Int.toNat_natCast]
    rw [need_t ⟨by omega, by omega⟩, need_t (by simp; omega), need_t ⟨by omega, by omega⟩, need_t (by simp; omega), hgk, bnd, need_t ⟨by omega, by omega⟩, need_t (by simp; omega), need_t (by simp; omega), bnd, need_t ⟨by omega, by omega⟩, need_t (by simp; omega), need_t (by simp; omega), bnd, need_i (by omega) (by omega), ev, hp2, insP_pos]
    congr 3
    ·simp [List.map_take, List.map_drop, List.take_of_length_le, hfl]
    ) (by
    unfold ref03_sorted_s1
    dsimp only
    rw [decide_eq_false (by omega), cF, List.take_of_length_le (by omega)]) (by omega)
   have e0 : ((0 : Nat) : Int) = 0 := rfl
   have e1 : foldKV [] = [] := rfl
   simp only [List.take_zero, e1, List.map_nil, e0] at this
   rw [this, bnd, sortV_5 hkind]
   have hkeys : ps.map (·.1) = v.fKeys := by rw [hps]; exact List.map_fst_zip (by simp [hkl])
   have e : foldKV ps = pairsV v := by
    rw [foldKV_eq (by rw [hkeys]; exact hnd), hps]; rfl
   rw [e]
  ·have hkeys : v.fKeys = [] := by
    have := hp.2.2.2.2.2.2.2 hkind
    simpa using this
   by_cases h4k : v.fKind = 4
   ·have := loop_all (step := ref03_sorted_s1 n (ref03_sorted_k n k) v) (n := n) (fun q => ((q : Int), (v.fList.take q).map sortV, ([] : List (List UInt8)))) v.fList.length (v.fList.map sortV, []) (fun q hq => by
     have hx : v.fList[q]? = some v.fList[q] := List.getElem?_eq_getElem hq
     have hg : getI v.fList (q : Int) = some v.fList[q] := by simp [getI]
     unfold ref03_sorted_s1
     dsimp only
     rw [decide_eq_true (by omega), cT, hg, bnd, ih _ (List.getElem_mem hq), bnd, decide_eq_true h4k, cT, need_t (by simp; omega), need_i (by omega) (by omega), ev, map_take_succ sortV hx]
     rfl) (by
     unfold ref03_sorted_s1
     dsimp only
     rw [decide_eq_false (by omega), cF, List.take_length]) (by omega)
    have e0 : ((0 : Nat) : Int) = 0 := rfl
    simp only [List.take_zero, List.map_nil, e0] at this
    rw [this, bnd, sortV_n hkind]
   ·have hl0 : v.fList = [] := by
     by_cases h0 : v.fList.length = 0
     ·simpa using h0
     ·have := hp.2.2.2.2.2.1 h0
      omega
    obtain ⟨m, rfl⟩ : ∃ m, n = m + 1 := ⟨n - 1, by omega⟩
    have : loopF (ref03_sorted_s1 (m + 1) (ref03_sorted_k (m + 1) k) v) (m + 1) ((0 : Int), ([] : List TA0), ([] : List (List UInt8))) = some ([], []) := by
     unfold loopF ref03_sorted_s1
     dsimp only
     rw [hl0, decide_eq_false (by simp), cF, bnd]
    rw [this, bnd, sortV_n hkind, hl0]
    rfl
theorem sortedT_ref {n : Nat} (hn : 6000 < n) {v : TA0} (h : Fine v) (hok : OkV v) : ref03_sorted n v = some (sortV v) := sorted_ref hn n 60 v (by omega) h.small hok
theorem Sorted_ref {n : Nat} (hn : 6000 < n) {v : TA0} (h : Fine v) : ref03_Sorted n v = some (sortedV v) := by
 unfold ref03_Sorted sortedV
 rw [check_ref hn h, bnd]
 by_cases a : checkV v = 0
 ·rw [decide_eq_true a, Bool.not_true, cF, if_pos a, sortedT_ref hn h (checkV_ok a).1, bnd]
 ·rw [decide_eq_false a, Bool.not_false, cT, if_neg a]
end Go.Proofs.YtfaedhhjamaniaaGreatDoor
end

section
namespace Go.Proofs.YtfaedhhjamaniaaGreatDoor
open Go Go.Vc
theorem dch_of {m : Nat} : UInt8.ofNat (IntKind.wrap .u8 ((48 : Int) + ((m % 10 : Nat) : Int))).toNat = Go.Num.dch m := by
 have h1 : IntKind.wrap .u8 ((48 : Int) + ((m % 10 : Nat) : Int)) = ((48 + m % 10 : Nat) : Int) := by
  rw [IntKind.wrap_u8]; omega
 rw [h1]
 unfold Go.Num.dch
 congr 1
theorem wrap_in {m : Nat} : 0 ≤ IntKind.wrap .u8 ((48 : Int) + ((m % 10 : Nat) : Int)) ∧ IntKind.wrap .u8 ((48 : Int) + ((m % 10 : Nat) : Int)) < 256 := by
 rw [IntKind.wrap_u8]; omega
theorem digits_pos {n : Nat} : ∀ (k m : Nat), m < 10 ^ (k + 1) → m ≤ 9007199254740992 → ref05_digits_k n (k + 1) (m : Int) = some (Go.Num.digs m)
 | k, m, h, hb => by
  show ref05_digits_b n (ref05_digits_k n k) (m : Int) = _
  unfold ref05_digits_b
  rw [decide_eq_false (by omega), cF]
  by_cases h10 : m < 10
  ·have e : m % 10 = m := Nat.mod_eq_of_lt h10
   have w := wrap_in (m := m)
   have d := dch_of (m := m)
   rw [e] at w d
   rw [decide_eq_true (by omega), cT, need_i (by omega) (by omega), need_t w, d, Go.Num.digs_lt h10]
  ·have hk : ∃ j, k = j + 1 := by
    cases k with
    | zero => rw [Nat.zero_add, Nat.pow_one] at h; omega
    | succ j => exact ⟨j, rfl⟩
   obtain ⟨j, rfl⟩ := hk
   have e1 : ((m : Int).tdiv 10) = ((m / 10 : Nat) : Int) := rfl
   have e2 : ((m : Int).tmod 10) = ((m % 10 : Nat) : Int) := rfl
   have hlt : m / 10 < 10 ^ (j + 1) := by
    rw [Nat.pow_succ] at h
    omega
   have hl := Go.Num.digs_len16 (n := m / 10) (by omega)
   rw [decide_eq_false (by omega), cF, need_t (by decide), e1, e2, need_t (inR_mk.2 ⟨by omega, by omega⟩), digits_pos j (m / 10) hlt (by omega), bnd, need_t (by decide), need_t (inR_mk.2 ⟨by omega, by omega⟩), need_t wrap_in, dch_of,
    need_t (by simp only [List.length_cons, List.length_nil]; omega), Go.Num.digs_ge h10]
theorem digits_run {n : Nat} (hn : 6000 < n) {x : Int} (hx : Go.Num.fitsB x = true) : ref05_digits n x = some (numB x) := by
 have hb := Go.Num.fitsB_iff.1 hx
 unfold ref05_digits numB
 obtain ⟨k, rfl⟩ : ∃ k, n = (k + 17) + 2 := ⟨n - 19, by omega⟩
 have hp : ∀ m : Nat, m ≤ 9007199254740992 → m < 10 ^ (k + 17 + 1) := fun m hm => by
  have h1 : 10 ^ 17 ≤ 10 ^ (k + 17 + 1) := Nat.pow_le_pow_right (by decide) (by omega)
  omega
 by_cases h0 : x < 0
 ·obtain ⟨m, hm⟩ : ∃ m : Nat, -x = (m : Int) := ⟨(-x).toNat, by omega⟩
  have hl := Go.Num.digs_len16 (n := m) (by omega)
  show ref05_digits_b _ (ref05_digits_k _ (k + 17 + 1)) x = _
  unfold ref05_digits_b
  rw [decide_eq_true h0, cT, need_t (inR_mk.2 ⟨by omega, by omega⟩), hm, digits_pos (k + 17) m (hp m (by omega)) (by omega), bnd, need_t (by simp only [List.length_cons, List.length_nil]; omega), Go.Num.text_neg hx h0]
  have e : (-x).toNat = m := by omega
  rw [e]; rfl
 ·obtain ⟨m, rfl⟩ := Int.eq_ofNat_of_zero_le (by omega : 0 ≤ x)
  have hpp : m < 10 ^ (k + 17 + 1 + 1) := Nat.lt_of_lt_of_le (hp m (by omega)) (Nat.pow_le_pow_right (by decide) (by omega))
  rw [digits_pos (k + 17 + 1) m hpp (by omega), Go.Num.text_pos hx h0]; rfl
def okR (i : Nat) : Bool := match ref01_hex 0 ((i : Int).tdiv 16), ref01_hex 0 ((i : Int).tmod 16) with
  | some a, some b => decide (0 ≤ a ∧ a < 256) && (decide (0 ≤ b ∧ b < 256) && (decide (i = 8 ∨ i = 9 ∨ i = 10 ∨ i = 12 ∨ i = 13) || decide ([92, 117, 48, 48, UInt8.ofNat a.toNat, UInt8.ofNat b.toNat] = qb (UInt8.ofNat i))))
  | _, _ => false
theorem okR_all : (List.range 32).all okR = true := by decide +kernel
theorem byte_eq {c : UInt8} {k : Nat} (hk : k < 256) (h : (c.toNat : Int) = (k : Int)) : c = UInt8.ofNat k := by
 have : c.toNat = k := by omega
 rw [← this, UInt8.ofNat_toNat]
theorem refq_loop {n : Nat} {s : List UInt8} (hs : s.length ≤ 5000) (hn : 6000 < n) : loopF (ref01_Quote_s1 n s) n ([(34 : UInt8)], (0 : Int)) = some (34 :: s.flatMap qb) := by
 have key := loop_all (n := n) (step := ref01_Quote_s1 n s) (fun k : Nat => (34 :: (s.take k).flatMap qb, (k : Int))) s.length (34 :: s.flatMap qb) (fun k hk => ?_) ?_ (by omega)
 ·simpa using key
 ·have hfl := flat_len (s.take k)
  have htl : (s.take k).length ≤ 5000 := by rw [List.length_take]; omega
  have hi : inR .i64 ((k : Int) + 1) := inR_small (by omega) (by omega)
  have e1 : (s.take (k + 1)).flatMap qb = (s.take k).flatMap qb ++ qb (s.getD k 0) := by
   rw [List.take_add_one, List.flatMap_append]
   congr 1
   simp [List.getD, hk]
  show ref01_Quote_s1 n s (34 :: (s.take k).flatMap qb, (k : Int)) = some (.nx (34 :: (s.take (k + 1)).flatMap qb, ((k + 1 : Nat) : Int)))
  rw [e1]
  generalize hA : (s.take k).flatMap qb = A at *
  have hAl : (34 :: A).length ≤ 40000 := by rw [List.length_cons]; omega
  unfold ref01_Quote_s1
  simp only [decide_eq_true (by omega : (k : Int) < (s.length : Int)), cT, getI_at 0 hk, bnd]
  generalize s.getD k 0 = c at *
  have fin : ∀ t, qb c = t → (some (Lp.nx ((34 :: A) ++ t, (k : Int) + 1)) : Option (Lp (List UInt8 × Int) (List UInt8))) = some (.nx (34 :: (A ++ qb c), ((k + 1 : Nat) : Int))) := fun t ht => by
   rw [ht]; simp
  by_cases h34 : (c.toNat : Int) = 34
  ·have ec := byte_eq (k := 34) (by decide) h34
   rw [decide_eq_true h34, cT, bnd, cT, need_t (by omega), need_t hi]
   exact fin _ (by subst ec; rfl)
  ·rw [decide_eq_false h34, cF, bnd]
   by_cases h92 : (c.toNat : Int) = 92
   ·have ec := byte_eq (k := 92) (by decide) h92
    rw [decide_eq_true h92, cT, need_t (by omega), need_t hi]
    exact fin _ (by subst ec; rfl)
   ·rw [decide_eq_false h92, cF]
    by_cases h8 : (c.toNat : Int) = 8
    ·have ec := byte_eq (k := 8) (by decide) h8
     rw [decide_eq_true h8, cT, need_t (by omega), need_t hi]
     exact fin _ (by subst ec; rfl)
    ·rw [decide_eq_false h8, cF]
     by_cases h9 : (c.toNat : Int) = 9
     ·have ec := byte_eq (k := 9) (by decide) h9
      rw [decide_eq_true h9, cT, need_t (by omega), need_t hi]
      exact fin _ (by subst ec; rfl)
     ·rw [decide_eq_false h9, cF]
      by_cases h10 : (c.toNat : Int) = 10
      ·have ec := byte_eq (k := 10) (by decide) h10
       rw [decide_eq_true h10, cT, need_t (by omega), need_t hi]
       exact fin _ (by subst ec; rfl)
      ·rw [decide_eq_false h10, cF]
       by_cases h12 : (c.toNat : Int) = 12
       ·have ec := byte_eq (k := 12) (by decide) h12
        rw [decide_eq_true h12, cT, need_t (by omega), need_t hi]
        exact fin _ (by subst ec; rfl)
       ·rw [decide_eq_false h12, cF]
        by_cases h13 : (c.toNat : Int) = 13
        ·have ec := byte_eq (k := 13) (by decide) h13
         rw [decide_eq_true h13, cT, need_t (by omega), need_t hi]
         exact fin _ (by subst ec; rfl)
        ·rw [decide_eq_false h13, cF]
         by_cases h32 : (c.toNat : Int) < 32
         ·have hR := List.all_eq_true.1 okR_all c.toNat (List.mem_range.2 (by omega))
          have ec : UInt8.ofNat c.toNat = c := UInt8.ofNat_toNat
          unfold okR at hR
          rw [ec] at hR
          have ex : ∀ x, ref01_hex n x = ref01_hex 0 x := fun _ => rfl
          rw [decide_eq_true h32, cT, need_t (by decide), need_i (by have : ((c.toNat : Int).tdiv 16) = ((c.toNat / 16 : Nat) : Int) := rfl; omega) (by have : ((c.toNat : Int).tdiv 16) = ((c.toNat / 16 : Nat) : Int) := rfl; omega), ex, ex]
          cases ha : ref01_hex 0 ((c.toNat : Int).tdiv 16) with
          | none => rw [ha] at hR; cases hR
          | some a =>
           cases hb : ref01_hex 0 ((c.toNat : Int).tmod 16) with
           | none => rw [ha, hb] at hR; cases hR
           | some b =>
            rw [ha, hb] at hR
            simp only [Bool.and_eq_true, Bool.or_eq_true, decide_eq_true_eq] at hR
            obtain ⟨q1, q2, q3⟩ := hR
            rw [bnd, need_t (by decide), bnd, need_t q1, need_t q2, need_t (by omega), need_t hi]
            refine fin _ ?_
            rcases q3 with q3 | q3
            ·omega
            ·exact q3.symm
         ·rw [decide_eq_false h32, cF, need_t (by omega), need_t hi]
          refine fin _ ?_
          unfold qb
          have ne : ∀ q : Nat, q < 256 → (c.toNat : Int) ≠ (q : Int) → c ≠ UInt8.ofNat q := fun q hq h e => h (by rw [e, UInt8.toNat_ofNat']; omega)
          have nl : ¬ c < 32 := fun h => h32 (by have : c.toNat < 32 := h; omega)
          have n34 : c ≠ 34 := ne 34 (by decide) h34
          have n92 : c ≠ 92 := ne 92 (by decide) h92
          have n8 : c ≠ 8 := ne 8 (by decide) h8
          have n9 : c ≠ 9 := ne 9 (by decide) h9
          have n10 : c ≠ 10 := ne 10 (by decide) h10
          have n12 : c ≠ 12 := ne 12 (by decide) h12
          have n13 : c ≠ 13 := ne 13 (by decide) h13
          rw [if_neg n34, if_neg n92, if_neg n8, if_neg n9, if_neg n10, if_neg n12, if_neg n13, if_neg nl]
 ·show ref01_Quote_s1 n s (_, (s.length : Int)) = _
  unfold ref01_Quote_s1
  simp
theorem refq_run {n : Nat} {s : List UInt8} (hs : s.length ≤ 5000) (hn : 6000 < n) (hv : Lib.validD s = true) : ref05_quoted n s = some (quoteV s) := by
 unfold ref05_quoted ref01_Quote
 have hq := flat_len s
 rw [valid_ref (by omega) (by omega) (by omega), bnd, hv]
 simp only [Bool.not_true, cF]
 rw [refq_loop hs hn, bnd, need_t (by rw [List.length_cons]; omega), bnd]
 rfl
theorem word_run {n : Nat} (hn : 6000 < n) {v : TA0} (hv : OkV v) (hw : Wide v) (br : Bool) (d : Nat) (h4 : v.fKind ≠ 4) (h5 : v.fKind ≠ 5) : ref05_word n v = some (textV br d v) := by
 obtain ⟨hp, hno, hto, -⟩ := alone_ok (OkV_iff.1 hv).1
 rw [textV_eq]
 unfold ref05_word
 by_cases h1 : v.fKind = 1
 ·rw [if_pos h1, decide_eq_true h1, cT]
  cases v.fBool <;> rfl
 ·rw [if_neg h1, decide_eq_false h1, cF]
  by_cases h2 : v.fKind = 2
  ·have hf : Go.Num.fitsB v.fNum = true := Go.Num.fitsB_iff.2 (by unfold NumOut at hno; omega)
   rw [if_pos h2, decide_eq_true h2, cT, digits_run hn hf, bnd]
  ·rw [if_neg h2, decide_eq_false h2, cF]
   by_cases h3 : v.fKind = 3
   ·rw [if_pos h3, decide_eq_true h3, cT, refq_run hw.2.2.1 hn hto.1, bnd]
   ·rw [if_neg h3, decide_eq_false h3, cF, if_neg h4, if_neg h5]
theorem text_45 (br : Bool) (d : Nat) {v : TA0} (h : v.fKind = 4 ∨ v.fKind = 5) : textV br d v = (if v.fKind = 5 then [123] else [91]) ++ (partsV br (d + 1) (decide (v.fKind = 5)) true v.fKeys v.fList ++ (if v.fList.length = 0 then [] else lineV br d)) ++ (if v.fKind = 5 then [125] else [93]) := by
 rw [textV_eq]
 rcases h with h | h
 ·have n1 : ¬ v.fKind = 1 := by omega
  have n2 : ¬ v.fKind = 2 := by omega
  have n3 : ¬ v.fKind = 3 := by omega
  have n5 : ¬ v.fKind = 5 := by omega
  rw [if_neg n1, if_neg n2, if_neg n3, if_pos h, if_neg n5, if_neg n5, decide_eq_false n5]; rfl
 ·have n1 : ¬ v.fKind = 1 := by omega
  have n2 : ¬ v.fKind = 2 := by omega
  have n3 : ¬ v.fKind = 3 := by omega
  have n4 : ¬ v.fKind = 4 := by omega
  rw [if_neg n1, if_neg n2, if_neg n3, if_neg n4, if_pos h, if_pos h, if_pos h, decide_eq_true h]; rfl
theorem short_run {n : Nat} (hn : 6000 < n) : ∀ (m k : Nat) (v : TA0), m ≤ k → Small m v → OkV v → (textV false 0 v).length ≤ 10000000000000 → ref05_short_k n k v = some (textV false 0 v)
 | 0, _, _, _, h, _, _ => h.elim
 | m + 1, 0, _, hk, _, _, _ => absurd hk (by omega)
 | m + 1, k + 1, v, hk, hs, hv, hL => by
  obtain ⟨hp, hno, hto, -⟩ := alone_ok (OkV_iff.1 hv).1
  have hw := hs.wide
  show ref05_short_b n (ref05_short_k n k) v = _
  unfold ref05_short_b
  by_cases h45 : v.fKind = 4 ∨ v.fKind = 5
  ·have e1 : (bif !(decide (v.fKind = 4)) then some (!(decide (v.fKind = 5))) else some false) = some false := by
    rcases h45 with h | h <;> simp [h]
   rw [e1, bnd, cF]
   rw [text_45 false 0 h45, Nat.zero_add] at hL ⊢
   have e2 : (bif decide (v.fKind = 5) then some [123] else some [91] : Option (List UInt8)) = some (if v.fKind = 5 then [123] else [91]) := by
    by_cases h : v.fKind = 5
    ·rw [decide_eq_true h, if_pos h]; rfl
    ·rw [decide_eq_false h, if_neg h]; rfl
   rw [e2, bnd]
   have e0 : (if v.fList.length = 0 then ([] : List UInt8) else lineV false 0) = [] := by split <;> rfl
   rw [e0, List.append_nil] at hL ⊢
   have hop : (if v.fKind = 5 then ([123] : List UInt8) else [91]).length = 1 := by split <;> rfl
   have hsh : (if v.fKind = 5 then ([125] : List UInt8) else [93]).length = 1 := by split <;> rfl
   generalize hO : (if v.fKind = 5 then ([123] : List UInt8) else [91]) = O at *
   simp only [List.length_append] at hL
   have hloop : loopF (ref05_short_s1 n (ref05_short_k n k) v) n (O, (0 : Int)) = some (O ++ partsV false 1 (decide (v.fKind = 5)) true v.fKeys v.fList) := by
    have key := loop_all (n := n) (step := ref05_short_s1 n (ref05_short_k n k) v) (fun q : Nat => (O ++ partsV false 1 (decide (v.fKind = 5)) true v.fKeys (v.fList.take q), (q : Int))) v.fList.length (O ++ partsV false 1 (decide (v.fKind = 5)) true v.fKeys v.fList) (fun q hq => ?_) ?_ (by have := hw.1; omega)
    ·rw [List.take_zero, partsV_nil, List.append_nil] at key
     exact key
    ·have hx : v.fList[q] ∈ v.fList := List.getElem_mem hq
     have hi : inR .i64 ((q : Int) + 1) := inR_small (by omega) (by have := hw.1; omega)
     have htk : v.fList[q]? = some v.fList[q] := List.getElem?_eq_getElem hq
     have hpt := partsV_take false 1 (decide (v.fKind = 5)) v.fKeys htk
     have hle := parts_le false 1 (decide (v.fKind = 5)) v.fList v.fKeys (q + 1)
     have e3 : textV false 1 v.fList[q] = textV false 0 v.fList[q] := text_flat 1 0 _
     rw [hpt, e3] at hle
     simp only [List.length_append] at hle
     show ref05_short_s1 n (ref05_short_k n k) v (O ++ partsV false 1 (decide (v.fKind = 5)) true v.fKeys (v.fList.take q), (q : Int)) = some (.nx (O ++ partsV false 1 (decide (v.fKind = 5)) true v.fKeys (v.fList.take (q + 1)), ((q + 1 : Nat) : Int)))
     rw [hpt, e3]
     generalize hA : partsV false 1 (decide (v.fKind = 5)) true v.fKeys (v.fList.take q) = A at *
     have hg : getI v.fList (q : Int) = some v.fList[q] := by
      unfold getI
      rw [if_pos (by omega)]
      simp
     have l44 : ([44] : List UInt8).length = 1 := rfl
     have l58 : ([58] : List UInt8).length = 1 := rfl
     unfold ref05_short_s1
     simp only [decide_eq_true (by omega : (q : Int) < ((v.fList.length : Nat) : Int)), cT]
     have e4 : (bif decide ((0 : Int) < (q : Int)) then need ((O ++ A).length + [44].length ≤ 9223372036854775807) (some ((O ++ A) ++ [44])) else some (O ++ A) : Option (List UInt8)) = some (O ++ A ++ (if decide (q = 0) = true then [] else [44])) := by
      by_cases h0 : q = 0
      ·subst h0; simp
      ·rw [decide_eq_true (by omega : (0 : Int) < (q : Int)), cT, need_t (by simp only [List.length_append, List.length_cons, List.length_nil]; omega), if_neg (by simpa using h0)]
     rw [e4, bnd]
     have hlead : leadV false 1 (decide (v.fKind = 5)) (decide (q = 0)) (v.fKeys.getD q []) = (if decide (q = 0) = true then [] else [44]) ++ headV false (decide (v.fKind = 5)) (v.fKeys.getD q []) := by
      unfold leadV lineV; simp
     rw [hlead, List.length_append] at hle
     have e5 : (bif decide (v.fKind = 5) then ((getI v.fKeys (q : Int)).bind fun x_2 => (ref05_quoted n x_2).bind fun x_3 => need ((O ++ A ++ (if decide (q = 0) = true then [] else [44])).length + x_3.length ≤ 9223372036854775807) <| need (((O ++ A ++ (if decide (q = 0) = true then [] else [44])) ++ x_3).length + [58].length ≤ 9223372036854775807) <| some (((O ++ A ++ (if decide (q = 0) = true then [] else [44])) ++ x_3) ++ [58])) else some (O ++ A ++ (if decide (q = 0) = true then [] else [44])) : Option (List UInt8)) = some (O ++ A ++ (if decide (q = 0) = true then [] else [44]) ++ headV false (decide (v.fKind = 5)) (v.fKeys.getD q [])) := by
      by_cases h5 : v.fKind = 5
      ·have hkl := plain_len hp h5
       have hkm : v.fKeys.getD q [] ∈ v.fKeys := by
        have : q < v.fKeys.length := by omega
        simp [List.getD, this]
       have hq5 := hw.2.2.2 _ hkm
       have hql := quote_len (v.fKeys.getD q [])
       have hcl : (if decide (q = 0) = true then ([] : List UInt8) else [44]).length ≤ 1 := by split <;> simp
       rw [decide_eq_true h5, cT, getI_at [] (by omega), bnd, refq_run hq5 hn (hto.2 _ hkm), bnd, need_t (by simp only [List.length_append, List.length_cons, List.length_nil]; omega), need_t (by simp only [List.length_append, List.length_cons, List.length_nil]; omega)]
       simp [headV]
      ·rw [decide_eq_false h5, cF]
       simp [headV]
     rw [e5, bnd, hg, bnd, short_run hn m k v.fList[q] (by omega) (hs.2.2.2.2 _ hx) (hv.part hx) (by omega), bnd, need_t (by simp only [List.length_append, List.length_cons, List.length_nil]; omega), need_t hi, hlead]
     simp
    ·show ref05_short_s1 n (ref05_short_k n k) v (_, (v.fList.length : Int)) = _
     unfold ref05_short_s1
     simp
   rw [hloop, bnd]
   by_cases h5 : v.fKind = 5
   ·rw [if_pos h5] at hsh
    rw [decide_eq_true h5, cT, need_t (by rw [decide_eq_true h5] at hL; simp only [List.length_append, List.length_cons, List.length_nil]; omega), if_pos h5]
   ·rw [if_neg h5] at hsh
    rw [decide_eq_false h5, cF, need_t (by rw [decide_eq_false h5] at hL; simp only [List.length_append, List.length_cons, List.length_nil]; omega), if_neg h5]
  ·have h4 : v.fKind ≠ 4 := fun h => h45 (.inl h)
   have h5 : v.fKind ≠ 5 := fun h => h45 (.inr h)
   rw [decide_eq_false h4, decide_eq_false h5]
   simp only [Bool.not_false, cT, bnd, word_run hn hv hw false 0 h4 h5]
theorem blanks (d : Nat) : List.replicate (2 * d) (32 : UInt8) ++ [32, 32] = List.replicate (2 * (d + 1)) 32 := by
 have e : 2 * (d + 1) = 2 * d + 2 := by omega
 rw [e, ← List.replicate_append_replicate]; rfl
theorem broad_run {n : Nat} (hn : 6000 < n) : ∀ (m k d : Nat) (v : TA0), m ≤ k → Small m v → OkV v → d + m ≤ 100 → (textV true d v).length ≤ 10000000000000 → ref05_broad_k n k v (List.replicate (2 * d) 32) = some (textV true d v)
 | 0, _, _, _, _, h, _, _, _ => h.elim
 | m + 1, 0, _, _, hk, _, _, _, _ => absurd hk (by omega)
 | m + 1, k + 1, d, v, hk, hs, hv, hd, hL => by
  obtain ⟨hp, hno, hto, -⟩ := alone_ok (OkV_iff.1 hv).1
  have hw := hs.wide
  show ref05_broad_b n (ref05_broad_k n k) v (List.replicate (2 * d) 32) = _
  unfold ref05_broad_b
  by_cases h45 : v.fKind = 4 ∨ v.fKind = 5
  ·have e1 : (bif !(decide (v.fKind = 4)) then some (!(decide (v.fKind = 5))) else some false) = some false := by
    rcases h45 with h | h <;> simp [h]
   rw [e1, bnd, cF]
   rw [text_45 true d h45] at hL ⊢
   have e2 : (bif decide (v.fKind = 5) then some ([123], [125]) else some ([91], [93]) : Option (List UInt8 × List UInt8)) = some ((if v.fKind = 5 then [123] else [91]), (if v.fKind = 5 then [125] else [93])) := by
    by_cases h : v.fKind = 5
    ·rw [decide_eq_true h, if_pos h, if_pos h]; rfl
    ·rw [decide_eq_false h, if_neg h, if_neg h]; rfl
   rw [e2, bnd]
   have hop : (if v.fKind = 5 then ([123] : List UInt8) else [91]).length = 1 := by split <;> rfl
   have hsh : (if v.fKind = 5 then ([125] : List UInt8) else [93]).length = 1 := by split <;> rfl
   generalize hO : (if v.fKind = 5 then ([123] : List UInt8) else [91]) = O at *
   generalize hC : (if v.fKind = 5 then ([125] : List UInt8) else [93]) = C at *
   dsimp only
   by_cases hz : v.fList.length = 0
   ·have e9 := List.eq_nil_of_length_eq_zero hz
    rw [decide_eq_true (by omega), cT, need_t (by simp only [hop, hsh]; omega), if_pos hz, e9, partsV_nil]
    simp
   ·rw [if_neg hz] at hL ⊢
    simp only [List.length_append] at hL
    rw [decide_eq_false (by omega), cF]
    have hlr : (List.replicate (2 * d) (32 : UInt8)).length = 2 * d := List.length_replicate
    have l10 : ([10] : List UInt8).length = 1 := rfl
    have l32 : ([32, 32] : List UInt8).length = 2 := rfl
    have hloop : loopF (ref05_broad_s1 n (ref05_broad_k n k) v (List.replicate (2 * d) 32)) n (O, (0 : Int)) = some (O ++ partsV true (d + 1) (decide (v.fKind = 5)) true v.fKeys v.fList) := by
     have key := loop_all (n := n) (step := ref05_broad_s1 n (ref05_broad_k n k) v (List.replicate (2 * d) 32)) (fun q : Nat => (O ++ partsV true (d + 1) (decide (v.fKind = 5)) true v.fKeys (v.fList.take q), (q : Int))) v.fList.length (O ++ partsV true (d + 1) (decide (v.fKind = 5)) true v.fKeys v.fList) (fun q hq => ?_) ?_ (by have := hw.1; omega)
     ·rw [List.take_zero, partsV_nil, List.append_nil] at key
      exact key
     ·have hx : v.fList[q] ∈ v.fList := List.getElem_mem hq
      have hi : inR .i64 ((q : Int) + 1) := inR_small (by omega) (by have := hw.1; omega)
      have htk : v.fList[q]? = some v.fList[q] := List.getElem?_eq_getElem hq
      have hpt := partsV_take true (d + 1) (decide (v.fKind = 5)) v.fKeys htk
      have hle := parts_le true (d + 1) (decide (v.fKind = 5)) v.fList v.fKeys (q + 1)
      rw [hpt] at hle
      simp only [List.length_append] at hle
      show ref05_broad_s1 n (ref05_broad_k n k) v (List.replicate (2 * d) 32) (O ++ partsV true (d + 1) (decide (v.fKind = 5)) true v.fKeys (v.fList.take q), (q : Int)) = some (.nx (O ++ partsV true (d + 1) (decide (v.fKind = 5)) true v.fKeys (v.fList.take (q + 1)), ((q + 1 : Nat) : Int)))
      rw [hpt]
      generalize hA : partsV true (d + 1) (decide (v.fKind = 5)) true v.fKeys (v.fList.take q) = A at *
      have hg : getI v.fList (q : Int) = some v.fList[q] := by
       unfold getI
       rw [if_pos (by omega)]
       simp
      have l44 : ([44] : List UInt8).length = 1 := rfl
      have l58 : ([58, 32] : List UInt8).length = 2 := rfl
      unfold ref05_broad_s1
      simp only [decide_eq_true (by omega : (q : Int) < ((v.fList.length : Nat) : Int)), cT]
      have e4 : (bif decide ((0 : Int) < (q : Int)) then need ((O ++ A).length + [44].length ≤ 9223372036854775807) (some ((O ++ A) ++ [44])) else some (O ++ A) : Option (List UInt8)) = some (O ++ A ++ (if decide (q = 0) = true then [] else [44])) := by
       by_cases h0 : q = 0
       ·subst h0; simp
       ·rw [decide_eq_true (by omega : (0 : Int) < (q : Int)), cT, need_t (by simp only [List.length_append, List.length_cons, List.length_nil]; omega), if_neg (by simpa using h0)]
      have hcl : (if decide (q = 0) = true then ([] : List UInt8) else [44]).length ≤ 1 := by split <;> simp
      rw [e4, bnd]
      generalize hB : (if decide (q = 0) = true then ([] : List UInt8) else [44]) = Bq at *
      have hlead : leadV true (d + 1) (decide (v.fKind = 5)) (decide (q = 0)) (v.fKeys.getD q []) = Bq ++ [10] ++ List.replicate (2 * d) 32 ++ [32, 32] ++ headV true (decide (v.fKind = 5)) (v.fKeys.getD q []) := by
       unfold leadV
       rw [hB]
       have e7 : lineV true (d + 1) = [10] ++ List.replicate (2 * d) 32 ++ [32, 32] := by
        unfold lineV
        rw [if_pos rfl, ← blanks]; rfl
       rw [e7]
       simp only [List.append_assoc]
      rw [hlead] at hle
      simp only [List.length_append] at hle
      rw [need_t (by simp only [List.length_append, List.length_cons, List.length_nil]; omega), need_t (by simp only [List.length_append, List.length_cons, List.length_nil]; omega), need_t (by simp only [List.length_append, List.length_cons, List.length_nil]; omega)]
      have e5 : (bif decide (v.fKind = 5) then ((getI v.fKeys (q : Int)).bind fun x_2 => (ref05_quoted n x_2).bind fun x_3 => need (((((O ++ A ++ Bq) ++ [10]) ++ List.replicate (2 * d) 32) ++ [32, 32]).length + x_3.length ≤ 9223372036854775807) <| need ((((((O ++ A ++ Bq) ++ [10]) ++ List.replicate (2 * d) 32) ++ [32, 32]) ++ x_3).length + [58, 32].length ≤ 9223372036854775807) <| some ((((((O ++ A ++ Bq) ++ [10]) ++ List.replicate (2 * d) 32) ++ [32, 32]) ++ x_3) ++ [58, 32])) else some ((((O ++ A ++ Bq) ++ [10]) ++ List.replicate (2 * d) 32) ++ [32, 32]) : Option (List UInt8)) = some (((((O ++ A ++ Bq) ++ [10]) ++ List.replicate (2 * d) 32) ++ [32, 32]) ++ headV true (decide (v.fKind = 5)) (v.fKeys.getD q [])) := by
       by_cases h5 : v.fKind = 5
       ·have hkl := plain_len hp h5
        have hkm : v.fKeys.getD q [] ∈ v.fKeys := by
         have : q < v.fKeys.length := by omega
         simp [List.getD, this]
        have hq5 := hw.2.2.2 _ hkm
        have hql := quote_len (v.fKeys.getD q [])
        rw [decide_eq_true h5, cT, getI_at [] (by omega), bnd, refq_run hq5 hn (hto.2 _ hkm), bnd, need_t (by simp only [List.length_append, List.length_cons, List.length_nil]; omega), need_t (by simp only [List.length_append, List.length_cons, List.length_nil]; omega)]
        simp [headV]
       ·rw [decide_eq_false h5, cF]
        simp [headV]
      rw [e5, bnd, hg, bnd, need_t (by simp only [List.length_cons, List.length_nil]; omega), blanks, broad_run hn m k (d + 1) v.fList[q] (by omega) (hs.2.2.2.2 _ hx) (hv.part hx) (by omega) (by omega), bnd, need_t (by simp only [List.length_append, List.length_cons, List.length_nil]; omega), need_t hi, hlead]
      simp
     ·show ref05_broad_s1 n (ref05_broad_k n k) v (List.replicate (2 * d) 32) (_, (v.fList.length : Int)) = _
      unfold ref05_broad_s1
      simp
    rw [hloop, bnd, need_t (by simp only [List.length_append, List.length_cons, List.length_nil]; omega), need_t (by simp only [List.length_append, List.length_cons, List.length_nil]; omega), need_t (by simp only [List.length_append, List.length_cons, List.length_nil]; omega)]
    have e7 : lineV true d = [10] ++ List.replicate (2 * d) 32 := rfl
    rw [e7]
    simp
  ·have h4 : v.fKind ≠ 4 := fun h => h45 (.inl h)
   have h5 : v.fKind ≠ 5 := fun h => h45 (.inr h)
   rw [decide_eq_false h4, decide_eq_false h5]
   simp only [Bool.not_false, cT, bnd, word_run hn hv hw true d h4 h5]
theorem limit_run {n : Nat} (s : List UInt8) : ref05_limited n s = some (if 32768 < s.length then ([], 3) else (s, 0)) := by
 unfold ref05_limited
 by_cases h : 32768 < s.length
 ·rw [decide_eq_true (by omega), cT, if_pos h]
 ·rw [decide_eq_false (by omega), cF, if_neg h]
theorem Print_ref {n : Nat} (hn : 6000 < n) {v : TA0} (h : Fine v) : ref05_Print n v = some (printV false v) := by
 unfold ref05_Print printV
 rw [check_ref hn h, bnd]
 by_cases hc : checkV v = 0
 ·have hok := (checkV_ok hc).1
  have hf := h.sort hok
  have hl := text_len_gen false 60 0 (sortV v) hf.small (by omega)
  have hfew := hf.few
  have e1 : sortedV v = sortV v := by unfold sortedV; rw [if_pos hc]
  rw [decide_eq_true hc, if_pos hc]
  simp only [Bool.not_true, cF]
  rw [Sorted_ref hn h, bnd, e1]
  unfold ref05_short
  rw [short_run hn 60 n (sortV v) (by omega) hf.small hok.sort (by omega), bnd, limit_run, bnd]
 ·rw [decide_eq_false hc, if_neg hc]
  simp only [Bool.not_false, cT]
theorem Broad_ref {n : Nat} (hn : 6000 < n) {v : TA0} (h : Fine v) : ref05_Broad n v = some (printV true v) := by
 unfold ref05_Broad printV
 rw [check_ref hn h, bnd]
 by_cases hc : checkV v = 0
 ·have hok := (checkV_ok hc).1
  have hf := h.sort hok
  have hl := text_len_gen true 60 0 (sortV v) hf.small (by omega)
  have hfew := hf.few
  have e1 : sortedV v = sortV v := by unfold sortedV; rw [if_pos hc]
  rw [decide_eq_true hc, if_pos hc]
  simp only [Bool.not_true, cF]
  rw [Sorted_ref hn h, bnd, e1]
  unfold ref05_broad
  have e2 : ([] : List UInt8) = List.replicate (2 * 0) 32 := rfl
  rw [e2, broad_run hn 60 n 0 (sortV v) (by omega) hf.small hok.sort (by omega) (by omega), bnd, limit_run, bnd]
  rfl
 ·rw [decide_eq_false hc, if_neg hc]
  simp only [Bool.not_false, cT]
theorem tells_law5 (v : TA0) (s : List UInt8) : law05_PrintTells 10000 v s = some true := by
 have hn : 6000 < 10000 := by decide
 obtain ⟨g, h1, h2⟩ := great_fine hn v
 unfold law05_PrintTells
 rw [h1, bnd]
 cases g with
 | true => simp only [cT, bnd, wakes5]
 | false =>
  obtain ⟨hf, -, -⟩ := h2 rfl
  simp only [cF, bnd]
  by_cases hs : (1000 : Int) < (s.length : Int)
  ·rw [decide_eq_true hs]; simp only [cT, wakes5, bnd]
  ·rw [decide_eq_false hs]
   have hl : ref05_Len 10000 v = some ((printV false v).1.length : Int) := by
    unfold ref05_Len
    rw [Print_ref hn hf, bnd]
   have hw1 : print_Word 10000 s = some (if (s.length : Int) ≤ 64 then Lib.validD s else false) := by
    unfold print_Word
    by_cases h : (s.length : Int) ≤ 64
    ·rw [decide_eq_true h, cT, valid_run5 (by omega), bnd, if_pos h]
    ·rw [decide_eq_false h, cF, if_neg h]
   have hw2 : ref05_Word 10000 s = some (if (s.length : Int) ≤ 64 then Lib.validD s else false) := by
    unfold ref05_Word
    by_cases h : (s.length : Int) ≤ 64
    ·rw [decide_eq_true h, cT, valid_ref (by omega) (by omega) (by omega), bnd, if_pos h]
    ·rw [decide_eq_false h, cF, if_neg h]
   simp only [cF, Print_run hn hf, Print_ref hn hf, Broad_run hn hf, Broad_ref hn hf, bnd, decide_true, cT, Len_run hn hf, hl, hw1, hw2, beq_self_eq_true, wakes5]
end Go.Proofs.YtfaedhhjamaniaaGreatDoor
end

section
namespace Go.Vc
open Go
mutual
def dsz : Dat → Nat
  | .int _ _ => 1
  | .bool _ => 1
  | .str l => l.length + 1
  | .list _ ds => dszs ds + 1
  | .struct ds => dszs ds + 1
def dszs : List Dat → Nat
  | [] => 0
  | d :: ds => dsz d + dszs ds
end
theorem dszs_app : ∀ (a b : List Dat), dszs (a ++ b) = dszs a + dszs b
 | [], b => by simp [dszs]
 | d :: a, b => by simp only [List.cons_append, dszs, dszs_app a b]; omega
theorem le_sum : ∀ {l : List Nat} {x : Nat}, x ∈ l → x ≤ l.sum
 | y :: l, x, h => by
  rcases List.mem_cons.1 h with rfl | h
  ·simp
  ·have := le_sum h; simp only [List.sum_cons]; omega
section
variable {H : Type}
structure BulkOk (B : DataW H → Nat) : Prop where
  one : ∀ d, 1 ≤ B d
  str : ∀ l, B (.lit (.string l)) = l.length + 1
  slice : ∀ e s, (e.map B).sum + 1 ≤ B (.slice e s)
  agg : ∀ e, (e.map B).sum + 1 ≤ B (.agg e)
variable {enc : TypeId × Value → H} {P : Program} {w : World} {t : TypeId} {α : Type} {f : α → Dat} {m : Nat} {B : DataW H → Nat}
def OpnAt (enc : TypeId × Value → H) (P : Program) (w : World) (t : TypeId) {α : Type} (f : α → Dat) (B : DataW H → Nat) (m : Nat) : Prop :=
  ∀ cs x, DataW.trod enc P w 0 (fun _ => true) true m t cs = some x → ∃ a, Rep (Mem.of w) (f a) cs ∧ Vld (f a) ∧ dsz (f a) ≤ B x.1
theorem OpnAt.zero : OpnAt enc P w t f B 0 := fun cs x h => by simp [DataW.trod] at h
theorem opa_int {k : IntKind} (hB : BulkOk B) (ht : P.underlying t = some (.int k)) : OpnAt enc P w t (Dat.int k) B m := fun cs x h => by
 obtain ⟨a, rfl, _, hw⟩ := DataW.trod_int ht h
 exact ⟨a, rfl, hw, hB.one _⟩
theorem opa_bool (hB : BulkOk B) (ht : P.underlying t = some .bool) : OpnAt enc P w t Dat.bool B m := fun cs x h => by
 obtain ⟨a, rfl, _⟩ := DataW.trod_bool ht h
 exact ⟨a, rfl, trivial, hB.one _⟩
theorem opa_str (hB : BulkOk B) (ht : P.underlying t = some .string) : OpnAt enc P w t Dat.str B m := fun cs x h => by
 obtain ⟨s, rfl, hx, hw⟩ := DataW.trod_string ht h
 refine ⟨s.data.toList, (by show [Value.string s] = _; rw [S_eta]), by show s.data.toList.length ≤ maxLen; simpa using hw, ?_⟩
 rw [hx]
 show s.data.toList.length + 1 ≤ B (.lit (.string s.data.toList))
 rw [hB.str]
 exact Nat.le_refl _
theorem opa_slice {e : TypeId} {sz : Nat} (hB : BulkOk B) (ht : P.underlying t = some (.slice e)) (hsz : P.cellsOf e = sz) (h : OpnAt enc P w e f B m) : OpnAt enc P w t (eL sz f) B (m + 1) := fun cs x hx => by
 rcases DataW.trod_slice ht hx with ⟨rfl, hx⟩ | ⟨ad, len, cap, elems, rest, n', hn', rfl, hxe, _, hlc, hcm, hel, hat, _⟩
 ·refine ⟨[], Sli.rep (Sli.nil (sz := sz) (f := f)), by simp [Vld, eL, VldAll], ?_⟩
  have := hB.one x.1
  simpa [eL, dsz, dszs] using this
 ·obtain rfl : n' = m := by omega
  have key : ∀ k, k ≤ len → ∃ xs : List α, xs.length = k ∧ RepArr (Mem.of w) sz (xs.map f) ad ∧ (∀ x ∈ xs, Vld (f x)) ∧ dszs (xs.map f) ≤ ((elems.take k).map fun x => B x.1).sum := by
   intro k
   induction k with
   | zero => intro _; exact ⟨[], rfl, trivial, fun x hx => (by cases hx), by simp [dszs]⟩
   | succ k ih =>
    intro hk
    obtain ⟨xs, h1, h2, h3, h3b⟩ := ih (by omega)
    have hk' : k < elems.length := by omega
    have := hat k (by omega)
    rw [List.getElem?_eq_getElem hk'] at this
    obtain ⟨cs', g1, g2⟩ := Option.bind_eq_some_iff.1 this
    obtain ⟨a, g3, g4, g4b⟩ := h cs' _ g2
    obtain ⟨g5, g6⟩ := cells_of g1
    rw [hsz] at g5 g6
    refine ⟨xs ++ [a], by simp [h1], ?_, fun x hx => ?_, ?_⟩
    ·rw [List.map_append]
     have app : ∀ (ds : List Dat) (ad : Addr), RepArr (Mem.of w) sz ds ad → RepArr (Mem.of w) sz [f a] (ad.add (ds.length * sz)) → RepArr (Mem.of w) sz (ds ++ [f a]) ad := by
      intro ds
      induction ds with
      | nil => intro ad _ hh; simpa [Addr.add] using hh
      | cons d ds ih =>
       intro ad h1 h2
       refine ⟨h1.1, ih _ h1.2 ?_⟩
       rw [add_of_add]
       rw [List.length_cons, show (ds.length + 1) * sz = sz + ds.length * sz by rw [Nat.add_mul]; omega] at h2
       exact h2
     refine app _ _ h2 ⟨⟨cs', g5, g3, ?_⟩, trivial⟩
     rw [List.length_map, h1]
     exact g6
    ·rcases List.mem_append.1 hx with hx | hx
     ·exact h3 x hx
     ·simp at hx; subst hx; exact g4
    ·rw [List.map_append, dszs_app, List.take_add_one, List.getElem?_eq_getElem hk', List.map_append, List.sum_append]
     simp only [List.map_cons, List.map_nil, dszs, Option.toList_some, List.sum_cons, List.sum_nil]
     omega
  obtain ⟨xs, h1, h2, h3, h3b⟩ := key len (Nat.le_refl _)
  subst h1
  refine ⟨xs, Sli.rep ⟨hlc, fun e => (by cases e), .inr ⟨ad, rfl, h2⟩⟩, ?_, ?_⟩
  ·refine ⟨by rw [List.length_map]; omega, VldAll.mk fun d hd => ?_⟩
   obtain ⟨x, hx, rfl⟩ := List.mem_map.1 hd
   exact h3 x hx
  ·rw [hxe]
   show dszs (xs.map f) + 1 ≤ _
   have := hB.slice (elems.map (·.1)) (rest.map (·.1))
   rw [← hel, List.take_length] at h3b
   rw [List.map_map] at this
   have e : (elems.map (B ∘ fun x => x.1)) = elems.map fun x => B x.1 := rfl
   rw [e] at this
   show _ ≤ B (.slice (elems.map (·.1)) (rest.map (·.1)))
   omega
theorem opa_slice0 {e : TypeId} {sz : Nat} (hB : BulkOk B) (ht : P.underlying t = some (.slice e)) (hsz : P.cellsOf e = sz) (h : ∀ k, k < m → OpnAt enc P w e f B k) : OpnAt enc P w t (eL sz f) B m := by
 cases m with
 | zero => exact OpnAt.zero
 | succ m => exact opa_slice hB ht hsz (h m (Nat.lt_succ_self m))
theorem OpnAt.arg (h : ∀ n, OpnAt enc P w t f B n) {v : Value} {d : DataW H} {ps : List MemPlace} (ht : DataW.Trod enc P w 0 (fun _ => true) true t v d ps) : ∃ a, Rep (Mem.of w) (f a) v.cells.toList ∧ Vld (f a) ∧ dsz (f a) ≤ B d := by
 obtain ⟨fuel, hf⟩ := ht
 exact h fuel _ _ hf
theorem OpnAt.struct_arg (h : ∀ n, OpnAt enc P w t f B n) {v : Value} {d : DataW H} {ps : List MemPlace} (hv : ∃ cs : Array Value, v = .agg cs) (ht : DataW.Trod enc P w 0 (fun _ => true) true t v d ps) :
  ∃ (c : List Value) (a : α), v = .agg c.toArray ∧ Rep (Mem.of w) (f a) c ∧ Vld (f a) ∧ dsz (f a) ≤ B d := by
 obtain ⟨cs, rfl⟩ := hv
 obtain ⟨a, h1, h2⟩ := OpnAt.arg h ht
 exact ⟨cs.toList, a, by simp, h1, h2⟩
end
end Go.Vc
end

section
namespace Go.Proofs.YtfaedhhjamaniaaGreatDoor
open Go Go.Vc Go.RowKit
theorem opa_TA0 {H : Type} {enc : TypeId × Value → H} {w : World} {B : DataW H → Nat} (hB : BulkOk B) : ∀ m, OpnAt enc Tryz.prog w 26 emb_TA0 B m := by
 intro m
 induction m using Nat.strongRecOn with
 | ind m ih =>
 intro cs x h
 obtain ⟨xs, n, rfl, rfl, hlen, hxl, hf⟩ := DataW.trod_struct Tryz.underlying26 h
 have hct : Tryz.prog.cellsOf 26 = 6 := by kernel_rfl
 rw [hct] at hlen
 obtain ⟨x0, x1, x2, x3, x4, x5, rfl⟩ : ∃ x0 x1 x2 x3 x4 x5, xs = [x0, x1, x2, x3, x4, x5] := by
  match xs, hxl with
  | [x0, x1, x2, x3, x4, x5], _ => exact ⟨x0, x1, x2, x3, x4, x5, rfl⟩
 have f0 : DataW.trod enc Tryz.prog w 0 (fun _ => true) true n 22 ((cs.drop 0).take (Tryz.prog.cellsOf 22)) = some x0 := hf 0 _ rfl
 rw [show Tryz.prog.cellsOf 22 = 1 by kernel_rfl] at f0
 obtain ⟨a0, r0, v0, b0⟩ := (fun _ => opa_int hB Tryz.underlying22) n _ _ f0
 have f1 : DataW.trod enc Tryz.prog w 0 (fun _ => true) true n 4 ((cs.drop 1).take (Tryz.prog.cellsOf 4)) = some x1 := hf 1 _ rfl
 rw [show Tryz.prog.cellsOf 4 = 1 by kernel_rfl] at f1
 obtain ⟨a1, r1, v1, b1⟩ := (fun _ => opa_bool hB Tryz.underlying4) n _ _ f1
 have f2 : DataW.trod enc Tryz.prog w 0 (fun _ => true) true n 3 ((cs.drop 2).take (Tryz.prog.cellsOf 3)) = some x2 := hf 2 _ rfl
 rw [show Tryz.prog.cellsOf 3 = 1 by kernel_rfl] at f2
 obtain ⟨a2, r2, v2, b2⟩ := (fun _ => opa_int hB Tryz.underlying3) n _ _ f2
 have f3 : DataW.trod enc Tryz.prog w 0 (fun _ => true) true n 9 ((cs.drop 3).take (Tryz.prog.cellsOf 9)) = some x3 := hf 3 _ rfl
 rw [show Tryz.prog.cellsOf 9 = 1 by kernel_rfl] at f3
 obtain ⟨a3, r3, v3, b3⟩ := (fun _ => opa_str hB Tryz.underlying9) n _ _ f3
 have f4 : DataW.trod enc Tryz.prog w 0 (fun _ => true) true n 23 ((cs.drop 4).take (Tryz.prog.cellsOf 23)) = some x4 := hf 4 _ rfl
 rw [show Tryz.prog.cellsOf 23 = 1 by kernel_rfl] at f4
 obtain ⟨a4, r4, v4, b4⟩ := (opa_slice0 (m := n) (e := 26) (sz := 6) hB Tryz.underlying23 (by kernel_rfl) (fun k hk => ih k (by omega))) _ _ f4
 have f5 : DataW.trod enc Tryz.prog w 0 (fun _ => true) true n 24 ((cs.drop 5).take (Tryz.prog.cellsOf 24)) = some x5 := hf 5 _ rfl
 rw [show Tryz.prog.cellsOf 24 = 1 by kernel_rfl] at f5
 obtain ⟨a5, r5, v5, b5⟩ := (opa_slice0 (m := n) (e := 9) (sz := 1) hB Tryz.underlying24 (by kernel_rfl) (fun k _ => (fun _ => opa_str hB Tryz.underlying9) k)) _ _ f5
 refine ⟨⟨a0, a1, a2, a3, a4, a5⟩, ?_, ?_, ?_⟩
 ·rw [emb_TA0_eq]
  have hcs : RepSeq (Mem.of w) _ (cs.drop 0) := (RepSeq.cut (k := 1) r0 (by rw [List.drop_drop]; exact (RepSeq.cut (k := 1) r1 (by rw [List.drop_drop]; exact (RepSeq.cut (k := 1) r2 (by rw [List.drop_drop]; exact (RepSeq.cut (k := 1) r3 (by rw [List.drop_drop]; exact (RepSeq.cut (k := 1) r4 (by rw [List.drop_drop]; exact (RepSeq.cut (k := 1) r5 (by rw [List.drop_drop]; exact (show RepSeq (Mem.of w) [] (cs.drop 6) from List.drop_eq_nil_of_le (by omega))))))))))))))
  exact hcs
 ·rw [emb_TA0_eq]; exact ⟨v0, ⟨v1, ⟨v2, ⟨v3, ⟨v4, ⟨v5, trivial⟩⟩⟩⟩⟩⟩
 ·rw [emb_TA0_eq]
  have := hB.agg ([x0, x1, x2, x3, x4, x5].map (·.1))
  simp only [List.map_cons, List.map_nil, List.sum_cons, List.sum_nil] at this ⊢
  simp only [dsz, dszs] at *
  omega
theorem bulk_all {H : Type} (l : List (DataW H)) : Rows.uptoBulkAll l = (l.map Rows.uptoBulk).sum := by
 induction l with
 | nil => simp [Rows.uptoBulkAll]
 | cons x l ih => simp only [Rows.uptoBulkAll, List.map_cons, List.sum_cons, ih]
theorem bulk_ok {H : Type} : BulkOk (H := H) Rows.uptoBulk where
 one d := by
  cases d with
  | lit l => cases l <;> simp [Rows.uptoBulk]
  | nil => simp [Rows.uptoBulk]
  | ptr d => simp [Rows.uptoBulk]
  | slice elems spare => simp [Rows.uptoBulk]
  | agg parts => simp [Rows.uptoBulk]
  | iface t d => simp [Rows.uptoBulk]
  | map entries => simp [Rows.uptoBulk]
  | held h => simp [Rows.uptoBulk]
 str l := by simp [Rows.uptoBulk]
 slice e s := by
  simp only [Rows.uptoBulk]
  rw [bulk_all e]
  omega
 agg e := by
  simp only [Rows.uptoBulk]
  rw [bulk_all e]
  exact Nat.le_refl _
theorem bulk_one {H : Type} {d : DataW H} {l : List (DataW H)} (h : Rows.uptoSmall H l = true) (hd : d ∈ l) : Rows.uptoBulk d ≤ 1048576 := by
 unfold Rows.uptoSmall at h
 have h := of_decide_eq_true h
 rw [bulk_all] at h
 have := le_sum (List.mem_map_of_mem (f := Rows.uptoBulk) hd)
 omega
end Go.Proofs.YtfaedhhjamaniaaGreatDoor
end
