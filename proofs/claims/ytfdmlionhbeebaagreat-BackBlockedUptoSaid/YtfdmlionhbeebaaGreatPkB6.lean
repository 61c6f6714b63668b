/-
  Texts of this claim, packed (what nothing names is left out): E6, E7, BkW, BkP7, Op. Own work, partly printed by own programs. No condition.
-/
import Derived.Test.YtfdmlionhbeebaaGreatPkB5
import Derived.Test.YtfdmlionhbeebaaGreatPkB4
import Derived.Test.YtfdmlionhbeebaaGreatPkB2
import Derived.Test.YtfdmlionhbeebaaGreatRows
set_option linter.unusedVariables false
set_option linter.unusedSimpArgs false
set_option maxHeartbeats 2000000
section
namespace Go.Proofs.YtfdmlionhbeebaaGreat
open Go Go.Vc Go.RowKit
def law26_two (n : Nat) : Option TK0 :=
  some ((⟨(0 : Int), (1 : Int), z_TF0, z_TL0, ([] : List UInt8), ([] : List TE0), [(⟨[65], (1 : Int), [68, 105, 115, 107], ([] : List TE0), (false), (0 : Int), (false), ([] : List (List UInt8))⟩ : TC0), (⟨[66], (1 : Int), [78, 111, 100, 101], ([] : List TE0), (false), (0 : Int), (false), ([[65]] : List (List UInt8))⟩ : TC0), (⟨[67], (1 : Int), [78, 101, 116], ([] : List TE0), (false), (0 : Int), (false), ([] : List (List UInt8))⟩ : TC0)], [(⟨(0 : Int), (0 : Int), (⟨(1 : Int), (0 : Int), ([] : List UInt8), ([] : List UInt8), ([] : List TE0)⟩ : TQ0), (1 : Int), [112, 49]⟩ : TR0), (⟨(1 : Int), (0 : Int), (⟨(2 : Int), (0 : Int), ([] : List UInt8), ([] : List UInt8), ([] : List TE0)⟩ : TQ0), (1 : Int), [112, 50]⟩ : TR0), (⟨(2 : Int), (0 : Int), (⟨(3 : Int), (0 : Int), ([] : List UInt8), ([] : List UInt8), ([] : List TE0)⟩ : TQ0), (2 : Int), ([] : List UInt8)⟩ : TR0)], (1 : Int), (0 : Int)⟩ : TK0))
theorem law26_two_ok (n : Nat) (M : Mem)  (r : TK0) (hF : law26_two n = some r) : Ok Tryz.prog M 30 [] (fun M' v => ∃ (c0 : List Value), v = .agg c0.toArray ∧ Rep M' (emb_TK0 r) c0) := by
 unfold law26_two at hF
 intro M1 hM0 w0 H w p0
 refine R_enter 18 Tryz.func30 rfl rfl (by simp) fun a0 f0 => RR (Y11 f0 p0 (.cells #[.int .i8 0, .int .i64 0, .slice none 0 0, .slice none 0 0, .slice none 0 0, .slice none 0 0, S [], .slice none 0 0, .int .i64 0, .int .i8 0, .slice none 0 0, .slice none 0 0, S [], .slice none 0 0, .slice none 0 0, .slice none 0 0, .int .i8 0, .int .i8 0] 34 (0, 0)) fun b_1 w_1 p_1 _ f => eT (RR (Y f 1 fun _ f => V_allocS (k := 1) (c := 1) f p_1 (.cells #[S [65]] 9 (0, 0)) (by kernel_rfl) (fun _ => by kernel_rfl) fun b_2 w_2 p_2 _ f => Y f 2 fun _ f => V_allocS (k := 3) (c := 3) f p_2 (.cells #[S [65], .int .i8 1, S [68, 105, 115, 107], .slice none 0 0, .bool false, .int .i64 0, .bool false, .slice none 0 0, S [66], .int .i8 1, S [78, 111, 100, 101], .slice none 0 0, .bool false, .int .i64 0, .bool false, .slice (some ⟨b_2, 0, none⟩) 1 1, S [67], .int .i8 1, S [78, 101, 116], .slice none 0 0, .bool false, .int .i64 0, .bool false, .slice none 0 0] 72 (0, 0)) (by kernel_rfl) (fun _ => by kernel_rfl) fun b_3 w_3 p_3 _ f => Y f 1 fun _ f => eT (RR (Y f 6 fun _ f => ?_)))))
 refine V_allocS (k := 3) (c := 3) f p_3 (.cells #[.int .i64 0, .int .i8 0, .int .i64 1, .int .i8 0, S [], S [], .slice none 0 0, .int .i8 1, S [112, 49], .int .i64 1, .int .i8 0, .int .i64 2, .int .i8 0, S [], S [], .slice none 0 0, .int .i8 1, S [112, 50], .int .i64 2, .int .i8 0, .int .i64 3, .int .i8 0, S [], S [], .slice none 0 0, .int .i8 2, S []] 44 (0, 0)) (by kernel_rfl) (fun _ => by kernel_rfl) fun b_4 w_4 p_4 _ f => Y f 1 fun _ f => eT (RR (Y f 3 fun _ f => ?_))
 have p_5 := p_4.pl [2]
 have hr_1 : RepSeq M1 (([[65]] : List (List UInt8)).map Dat.str) [S [65]] := ⟨_, _, rfl, rfl, rfl⟩
 have p_6 : Hp w0 M1 ((Ent.row 9 1 (.slice (some ⟨b_2, 0, none⟩) 1 1) ([[65]] : List (List UInt8)).length [S [65]]) :: (Ent.obj b_4 (.cells #[.int .i64 0, .int .i8 0, .int .i64 1, .int .i8 0, S [], S [], .slice none 0 0, .int .i8 1, S [112, 49], .int .i64 1, .int .i8 0, .int .i64 2, .int .i8 0, S [], S [], .slice none 0 0, .int .i8 1, S [112, 50], .int .i64 2, .int .i8 0, .int .i64 3, .int .i8 0, S [], S [], .slice none 0 0, .int .i8 2, S []] 44 (0, 0))) :: (Ent.obj b_3 (.cells #[S [65], .int .i8 1, S [68, 105, 115, 107], .slice none 0 0, .bool false, .int .i64 0, .bool false, .slice none 0 0, S [66], .int .i8 1, S [78, 111, 100, 101], .slice none 0 0, .bool false, .int .i64 0, .bool false, .slice (some ⟨b_2, 0, none⟩) 1 1, S [67], .int .i8 1, S [78, 101, 116], .slice none 0 0, .bool false, .int .i64 0, .bool false, .slice none 0 0] 72 (0, 0))) :: (Ent.obj b_1 (.cells #[.int .i8 0, .int .i64 0, .slice none 0 0, .slice none 0 0, .slice none 0 0, .slice none 0 0, S [], .slice none 0 0, .int .i64 0, .int .i8 0, .slice none 0 0, .slice none 0 0, S [], .slice none 0 0, .slice none 0 0, .slice none 0 0, .int .i8 0, .int .i8 0] 34 (0, 0))) :: H) w_4 := p_5.objRow (n := 1) (cap := 1) (size := 1) (by decide) (by decide) (blk_eq (by decide) rfl) rfl rfl
 obtain ⟨A_1, cap_1, M_1, hv_1, hM_1, p_7, h_1⟩ := p_6.rowSli (f := Dat.str) (xs := ([[65]] : List (List UInt8))) szd_str hr_1
 have p_8 : Hp w0 M_1 ((Ent.obj b_4 (.cells #[.int .i64 0, .int .i8 0, .int .i64 1, .int .i8 0, S [], S [], .slice none 0 0, .int .i8 1, S [112, 49], .int .i64 1, .int .i8 0, .int .i64 2, .int .i8 0, S [], S [], .slice none 0 0, .int .i8 1, S [112, 50], .int .i64 2, .int .i8 0, .int .i64 3, .int .i8 0, S [], S [], .slice none 0 0, .int .i8 2, S []] 44 (0, 0))) :: (Ent.obj b_3 (.cells #[S [65], .int .i8 1, S [68, 105, 115, 107], .slice none 0 0, .bool false, .int .i64 0, .bool false, .slice none 0 0, S [66], .int .i8 1, S [78, 111, 100, 101], .slice none 0 0, .bool false, .int .i64 0, .bool false, .slice A_1 ([[65]] : List (List UInt8)).length cap_1, S [67], .int .i8 1, S [78, 101, 116], .slice none 0 0, .bool false, .int .i64 0, .bool false, .slice none 0 0] 72 (0, 0))) :: (Ent.obj b_1 (.cells #[.int .i8 0, .int .i64 0, .slice none 0 0, .slice none 0 0, .slice none 0 0, .slice none 0 0, S [], .slice none 0 0, .int .i64 0, .int .i8 0, .slice none 0 0, .slice none 0 0, S [], .slice none 0 0, .slice none 0 0, .slice none 0 0, .int .i8 0, .int .i8 0] 34 (0, 0))) :: H) w_4 := by rw [hv_1] at p_7; exact p_7
 have p_9 := p_8.pl [1]
 have hr_2 : RepSeq M_1 ([(⟨[65], (1 : Int), [68, 105, 115, 107], ([] : List TE0), (false), (0 : Int), (false), ([] : List (List UInt8))⟩ : TC0), (⟨[66], (1 : Int), [78, 111, 100, 101], ([] : List TE0), (false), (0 : Int), (false), ([[65]] : List (List UInt8))⟩ : TC0), (⟨[67], (1 : Int), [78, 101, 116], ([] : List TE0), (false), (0 : Int), (false), ([] : List (List UInt8))⟩ : TC0)].map emb_TC0) [S [65], .int .i8 1, S [68, 105, 115, 107], .slice none 0 0, .bool false, .int .i64 0, .bool false, .slice none 0 0, S [66], .int .i8 1, S [78, 111, 100, 101], .slice none 0 0, .bool false, .int .i64 0, .bool false, .slice A_1 ([[65]] : List (List UInt8)).length cap_1, S [67], .int .i8 1, S [78, 101, 116], .slice none 0 0, .bool false, .int .i64 0, .bool false, .slice none 0 0] := ⟨_, _, rfl, TC0.shut Sli.nil Sli.nil, ⟨_, _, rfl, TC0.shut Sli.nil h_1, ⟨_, _, rfl, TC0.shut Sli.nil Sli.nil, rfl⟩⟩⟩
 have p_10 : Hp w0 M_1 ((Ent.row 72 8 (.slice (some ⟨b_3, 0, none⟩) 3 3) [(⟨[65], (1 : Int), [68, 105, 115, 107], ([] : List TE0), (false), (0 : Int), (false), ([] : List (List UInt8))⟩ : TC0), (⟨[66], (1 : Int), [78, 111, 100, 101], ([] : List TE0), (false), (0 : Int), (false), ([[65]] : List (List UInt8))⟩ : TC0), (⟨[67], (1 : Int), [78, 101, 116], ([] : List TE0), (false), (0 : Int), (false), ([] : List (List UInt8))⟩ : TC0)].length [S [65], .int .i8 1, S [68, 105, 115, 107], .slice none 0 0, .bool false, .int .i64 0, .bool false, .slice none 0 0, S [66], .int .i8 1, S [78, 111, 100, 101], .slice none 0 0, .bool false, .int .i64 0, .bool false, .slice A_1 ([[65]] : List (List UInt8)).length cap_1, S [67], .int .i8 1, S [78, 101, 116], .slice none 0 0, .bool false, .int .i64 0, .bool false, .slice none 0 0]) :: (Ent.obj b_4 (.cells #[.int .i64 0, .int .i8 0, .int .i64 1, .int .i8 0, S [], S [], .slice none 0 0, .int .i8 1, S [112, 49], .int .i64 1, .int .i8 0, .int .i64 2, .int .i8 0, S [], S [], .slice none 0 0, .int .i8 1, S [112, 50], .int .i64 2, .int .i8 0, .int .i64 3, .int .i8 0, S [], S [], .slice none 0 0, .int .i8 2, S []] 44 (0, 0))) :: (Ent.obj b_1 (.cells #[.int .i8 0, .int .i64 0, .slice none 0 0, .slice none 0 0, .slice none 0 0, .slice none 0 0, S [], .slice none 0 0, .int .i64 0, .int .i8 0, .slice none 0 0, .slice none 0 0, S [], .slice none 0 0, .slice none 0 0, .slice none 0 0, .int .i8 0, .int .i8 0] 34 (0, 0))) :: H) w_4 := p_9.objRow (n := 3) (cap := 3) (size := 8) (by decide) (by decide) (blk_eq (by decide) rfl) rfl rfl
 obtain ⟨A_2, cap_2, M_2, hv_2, hM_2, p_11, h_2⟩ := p_10.rowSli (f := emb_TC0) (xs := [(⟨[65], (1 : Int), [68, 105, 115, 107], ([] : List TE0), (false), (0 : Int), (false), ([] : List (List UInt8))⟩ : TC0), (⟨[66], (1 : Int), [78, 111, 100, 101], ([] : List TE0), (false), (0 : Int), (false), ([[65]] : List (List UInt8))⟩ : TC0), (⟨[67], (1 : Int), [78, 101, 116], ([] : List TE0), (false), (0 : Int), (false), ([] : List (List UInt8))⟩ : TC0)]) szd_TC0 hr_2
 have f := Frm.set f 17 (v := .agg #[.int .i8 0, .int .i64 1, .slice none 0 0, .slice none 0 0, .slice none 0 0, .slice none 0 0, S [], .slice none 0 0, .int .i64 0, .int .i8 0, .slice none 0 0, .slice none 0 0, S [], .slice none 0 0, .slice (some ⟨b_3, 0, none⟩) 3 3, .slice (some ⟨b_4, 0, none⟩) 3 3, .int .i8 1, .int .i8 0]) (v' := .agg #[.int .i8 0, .int .i64 1, .slice none 0 0, .slice none 0 0, .slice none 0 0, .slice none 0 0, S [], .slice none 0 0, .int .i64 0, .int .i8 0, .slice none 0 0, .slice none 0 0, S [], .slice none 0 0, .slice A_2 [(⟨[65], (1 : Int), [68, 105, 115, 107], ([] : List TE0), (false), (0 : Int), (false), ([] : List (List UInt8))⟩ : TC0), (⟨[66], (1 : Int), [78, 111, 100, 101], ([] : List TE0), (false), (0 : Int), (false), ([[65]] : List (List UInt8))⟩ : TC0), (⟨[67], (1 : Int), [78, 101, 116], ([] : List TE0), (false), (0 : Int), (false), ([] : List (List UInt8))⟩ : TC0)].length cap_2, .slice (some ⟨b_4, 0, none⟩) 3 3, .int .i8 1, .int .i8 0]) (by kernel_rfl) (by rw [hv_2])
 have hr_3 : RepSeq M_2 ([(⟨(0 : Int), (0 : Int), (⟨(1 : Int), (0 : Int), ([] : List UInt8), ([] : List UInt8), ([] : List TE0)⟩ : TQ0), (1 : Int), [112, 49]⟩ : TR0), (⟨(1 : Int), (0 : Int), (⟨(2 : Int), (0 : Int), ([] : List UInt8), ([] : List UInt8), ([] : List TE0)⟩ : TQ0), (1 : Int), [112, 50]⟩ : TR0), (⟨(2 : Int), (0 : Int), (⟨(3 : Int), (0 : Int), ([] : List UInt8), ([] : List UInt8), ([] : List TE0)⟩ : TQ0), (2 : Int), ([] : List UInt8)⟩ : TR0)].map emb_TR0) [.int .i64 0, .int .i8 0, .int .i64 1, .int .i8 0, S [], S [], .slice none 0 0, .int .i8 1, S [112, 49], .int .i64 1, .int .i8 0, .int .i64 2, .int .i8 0, S [], S [], .slice none 0 0, .int .i8 1, S [112, 50], .int .i64 2, .int .i8 0, .int .i64 3, .int .i8 0, S [], S [], .slice none 0 0, .int .i8 2, S []] := ⟨_, _, rfl, TR0.shut Sli.nil, ⟨_, _, rfl, TR0.shut Sli.nil, ⟨_, _, rfl, TR0.shut Sli.nil, rfl⟩⟩⟩
 have p_12 : Hp w0 M_2 ((Ent.row 44 9 (.slice (some ⟨b_4, 0, none⟩) 3 3) [(⟨(0 : Int), (0 : Int), (⟨(1 : Int), (0 : Int), ([] : List UInt8), ([] : List UInt8), ([] : List TE0)⟩ : TQ0), (1 : Int), [112, 49]⟩ : TR0), (⟨(1 : Int), (0 : Int), (⟨(2 : Int), (0 : Int), ([] : List UInt8), ([] : List UInt8), ([] : List TE0)⟩ : TQ0), (1 : Int), [112, 50]⟩ : TR0), (⟨(2 : Int), (0 : Int), (⟨(3 : Int), (0 : Int), ([] : List UInt8), ([] : List UInt8), ([] : List TE0)⟩ : TQ0), (2 : Int), ([] : List UInt8)⟩ : TR0)].length [.int .i64 0, .int .i8 0, .int .i64 1, .int .i8 0, S [], S [], .slice none 0 0, .int .i8 1, S [112, 49], .int .i64 1, .int .i8 0, .int .i64 2, .int .i8 0, S [], S [], .slice none 0 0, .int .i8 1, S [112, 50], .int .i64 2, .int .i8 0, .int .i64 3, .int .i8 0, S [], S [], .slice none 0 0, .int .i8 2, S []]) :: (Ent.obj b_1 (.cells #[.int .i8 0, .int .i64 0, .slice none 0 0, .slice none 0 0, .slice none 0 0, .slice none 0 0, S [], .slice none 0 0, .int .i64 0, .int .i8 0, .slice none 0 0, .slice none 0 0, S [], .slice none 0 0, .slice none 0 0, .slice none 0 0, .int .i8 0, .int .i8 0] 34 (0, 0))) :: H) w_4 := p_11.objRow (n := 3) (cap := 3) (size := 9) (by decide) (by decide) (blk_eq (by decide) rfl) rfl rfl
 obtain ⟨A_3, cap_3, M_3, hv_3, hM_3, p_13, h_3⟩ := p_12.rowSli (f := emb_TR0) (xs := [(⟨(0 : Int), (0 : Int), (⟨(1 : Int), (0 : Int), ([] : List UInt8), ([] : List UInt8), ([] : List TE0)⟩ : TQ0), (1 : Int), [112, 49]⟩ : TR0), (⟨(1 : Int), (0 : Int), (⟨(2 : Int), (0 : Int), ([] : List UInt8), ([] : List UInt8), ([] : List TE0)⟩ : TQ0), (1 : Int), [112, 50]⟩ : TR0), (⟨(2 : Int), (0 : Int), (⟨(3 : Int), (0 : Int), ([] : List UInt8), ([] : List UInt8), ([] : List TE0)⟩ : TQ0), (2 : Int), ([] : List UInt8)⟩ : TR0)]) szd_TR0 hr_3
 have f := Frm.set f 17 (v := .agg #[.int .i8 0, .int .i64 1, .slice none 0 0, .slice none 0 0, .slice none 0 0, .slice none 0 0, S [], .slice none 0 0, .int .i64 0, .int .i8 0, .slice none 0 0, .slice none 0 0, S [], .slice none 0 0, .slice A_2 [(⟨[65], (1 : Int), [68, 105, 115, 107], ([] : List TE0), (false), (0 : Int), (false), ([] : List (List UInt8))⟩ : TC0), (⟨[66], (1 : Int), [78, 111, 100, 101], ([] : List TE0), (false), (0 : Int), (false), ([[65]] : List (List UInt8))⟩ : TC0), (⟨[67], (1 : Int), [78, 101, 116], ([] : List TE0), (false), (0 : Int), (false), ([] : List (List UInt8))⟩ : TC0)].length cap_2, .slice (some ⟨b_4, 0, none⟩) 3 3, .int .i8 1, .int .i8 0]) (v' := .agg #[.int .i8 0, .int .i64 1, .slice none 0 0, .slice none 0 0, .slice none 0 0, .slice none 0 0, S [], .slice none 0 0, .int .i64 0, .int .i8 0, .slice none 0 0, .slice none 0 0, S [], .slice none 0 0, .slice A_2 [(⟨[65], (1 : Int), [68, 105, 115, 107], ([] : List TE0), (false), (0 : Int), (false), ([] : List (List UInt8))⟩ : TC0), (⟨[66], (1 : Int), [78, 111, 100, 101], ([] : List TE0), (false), (0 : Int), (false), ([[65]] : List (List UInt8))⟩ : TC0), (⟨[67], (1 : Int), [78, 101, 116], ([] : List TE0), (false), (0 : Int), (false), ([] : List (List UInt8))⟩ : TC0)].length cap_2, .slice A_3 [(⟨(0 : Int), (0 : Int), (⟨(1 : Int), (0 : Int), ([] : List UInt8), ([] : List UInt8), ([] : List TE0)⟩ : TQ0), (1 : Int), [112, 49]⟩ : TR0), (⟨(1 : Int), (0 : Int), (⟨(2 : Int), (0 : Int), ([] : List UInt8), ([] : List UInt8), ([] : List TE0)⟩ : TQ0), (1 : Int), [112, 50]⟩ : TR0), (⟨(2 : Int), (0 : Int), (⟨(3 : Int), (0 : Int), ([] : List UInt8), ([] : List UInt8), ([] : List TE0)⟩ : TQ0), (2 : Int), ([] : List UInt8)⟩ : TR0)].length cap_3, .int .i8 1, .int .i8 0]) (by kernel_rfl) (by rw [hv_3])
 refine Y26 (vs := [.int .i8 0, .int .i64 1, .slice none 0 0, .slice none 0 0, .slice none 0 0, .slice none 0 0, S [], .slice none 0 0, .int .i64 0, .int .i8 0, .slice none 0 0, .slice none 0 0, S [], .slice none 0 0, .slice A_2 [(⟨[65], (1 : Int), [68, 105, 115, 107], ([] : List TE0), (false), (0 : Int), (false), ([] : List (List UInt8))⟩ : TC0), (⟨[66], (1 : Int), [78, 111, 100, 101], ([] : List TE0), (false), (0 : Int), (false), ([[65]] : List (List UInt8))⟩ : TC0), (⟨[67], (1 : Int), [78, 101, 116], ([] : List TE0), (false), (0 : Int), (false), ([] : List (List UInt8))⟩ : TC0)].length cap_2, .slice A_3 [(⟨(0 : Int), (0 : Int), (⟨(1 : Int), (0 : Int), ([] : List UInt8), ([] : List UInt8), ([] : List TE0)⟩ : TQ0), (1 : Int), [112, 49]⟩ : TR0), (⟨(1 : Int), (0 : Int), (⟨(2 : Int), (0 : Int), ([] : List UInt8), ([] : List UInt8), ([] : List TE0)⟩ : TQ0), (1 : Int), [112, 50]⟩ : TR0), (⟨(2 : Int), (0 : Int), (⟨(3 : Int), (0 : Int), ([] : List UInt8), ([] : List UInt8), ([] : List TE0)⟩ : TQ0), (2 : Int), ([] : List UInt8)⟩ : TR0)].length cap_3, .int .i8 1, .int .i8 0]) (j := 0) f p_13 rfl rfl (by simp [Value.oneCell', S]) (by simp) (by decide) (cs' := #[.int .i8 0, .int .i64 1, .slice none 0 0, .slice none 0 0, .slice none 0 0, .slice none 0 0, S [], .slice none 0 0, .int .i64 0, .int .i8 0, .slice none 0 0, .slice none 0 0, S [], .slice none 0 0, .slice A_2 [(⟨[65], (1 : Int), [68, 105, 115, 107], ([] : List TE0), (false), (0 : Int), (false), ([] : List (List UInt8))⟩ : TC0), (⟨[66], (1 : Int), [78, 111, 100, 101], ([] : List TE0), (false), (0 : Int), (false), ([[65]] : List (List UInt8))⟩ : TC0), (⟨[67], (1 : Int), [78, 101, 116], ([] : List TE0), (false), (0 : Int), (false), ([] : List (List UInt8))⟩ : TC0)].length cap_2, .slice A_3 [(⟨(0 : Int), (0 : Int), (⟨(1 : Int), (0 : Int), ([] : List UInt8), ([] : List UInt8), ([] : List TE0)⟩ : TQ0), (1 : Int), [112, 49]⟩ : TR0), (⟨(1 : Int), (0 : Int), (⟨(2 : Int), (0 : Int), ([] : List UInt8), ([] : List UInt8), ([] : List TE0)⟩ : TQ0), (1 : Int), [112, 50]⟩ : TR0), (⟨(2 : Int), (0 : Int), (⟨(3 : Int), (0 : Int), ([] : List UInt8), ([] : List UInt8), ([] : List TE0)⟩ : TQ0), (2 : Int), ([] : List UInt8)⟩ : TR0)].length cap_3, .int .i8 1, .int .i8 0]) fun w_5 p_14 _ f => eT (wp_ret (E_rv1 f rfl (Y9 (cs := [.int .i8 0, .int .i64 1, .slice none 0 0, .slice none 0 0, .slice none 0 0, .slice none 0 0, S [], .slice none 0 0, .int .i64 0, .int .i8 0, .slice none 0 0, .slice none 0 0, S [], .slice none 0 0, .slice A_2 [(⟨[65], (1 : Int), [68, 105, 115, 107], ([] : List TE0), (false), (0 : Int), (false), ([] : List (List UInt8))⟩ : TC0), (⟨[66], (1 : Int), [78, 111, 100, 101], ([] : List TE0), (false), (0 : Int), (false), ([[65]] : List (List UInt8))⟩ : TC0), (⟨[67], (1 : Int), [78, 101, 116], ([] : List TE0), (false), (0 : Int), (false), ([] : List (List UInt8))⟩ : TC0)].length cap_2, .slice A_3 [(⟨(0 : Int), (0 : Int), (⟨(1 : Int), (0 : Int), ([] : List UInt8), ([] : List UInt8), ([] : List TE0)⟩ : TQ0), (1 : Int), [112, 49]⟩ : TR0), (⟨(1 : Int), (0 : Int), (⟨(2 : Int), (0 : Int), ([] : List UInt8), ([] : List UInt8), ([] : List TE0)⟩ : TQ0), (1 : Int), [112, 50]⟩ : TR0), (⟨(2 : Int), (0 : Int), (⟨(3 : Int), (0 : Int), ([] : List UInt8), ([] : List UInt8), ([] : List TE0)⟩ : TQ0), (2 : Int), ([] : List UInt8)⟩ : TR0)].length cap_3, .int .i8 1, .int .i8 0]) (ad := ⟨b_1, 0, none⟩) f (own_cells (p_14.ownCell 0 rfl) 0 rfl)) ?_))
 obtain rfl := sI hF
 exact ⟨_, rfl, M_3, ((hM_1.trans hM_2).trans hM_3), (p_14.dropN 1), ⟨[.int .i8 0, .int .i64 1, .slice none 0 0, .slice none 0 0, .slice none 0 0, .slice none 0 0, S [], .slice none 0 0, .int .i64 0, .int .i8 0, .slice none 0 0, .slice none 0 0, S [], .slice none 0 0, .slice A_2 [(⟨[65], (1 : Int), [68, 105, 115, 107], ([] : List TE0), (false), (0 : Int), (false), ([] : List (List UInt8))⟩ : TC0), (⟨[66], (1 : Int), [78, 111, 100, 101], ([] : List TE0), (false), (0 : Int), (false), ([[65]] : List (List UInt8))⟩ : TC0), (⟨[67], (1 : Int), [78, 101, 116], ([] : List TE0), (false), (0 : Int), (false), ([] : List (List UInt8))⟩ : TC0)].length cap_2, .slice A_3 [(⟨(0 : Int), (0 : Int), (⟨(1 : Int), (0 : Int), ([] : List UInt8), ([] : List UInt8), ([] : List TE0)⟩ : TQ0), (1 : Int), [112, 49]⟩ : TR0), (⟨(1 : Int), (0 : Int), (⟨(2 : Int), (0 : Int), ([] : List UInt8), ([] : List UInt8), ([] : List TE0)⟩ : TQ0), (1 : Int), [112, 50]⟩ : TR0), (⟨(2 : Int), (0 : Int), (⟨(3 : Int), (0 : Int), ([] : List UInt8), ([] : List UInt8), ([] : List TE0)⟩ : TQ0), (2 : Int), ([] : List UInt8)⟩ : TR0)].length cap_3, .int .i8 1, .int .i8 0], rfl, (TK0.shut Sli.nil Sli.nil Sli.nil Sli.nil Sli.nil Sli.nil Sli.nil Sli.nil (h_2.mono hM_3) h_3)⟩⟩
def law26_wakes (n : Nat) : Option Bool :=
  (law26_two n).bind fun x_1 =>
  (back_Ready n x_1).bind fun x_2 =>
  (back_Start n x_1 (1 : Int)).bind fun x_3 =>
  bif (decide (((x_2.length : Nat) : Int) = 1)) then
    ((getI x_2 (0 : Int)).bind fun x_4 =>
    bif (decide (x_4 = 1)) then
      (bif (decide (x_3.2.2 = 0)) then
        (bif (decide (x_3.2.1.fKind = 2)) then
          (bif (decide (x_3.2.1.fPhys = [112, 50])) then
            (bif (decide (x_3.2.1.fToken = 4)) then
              (some ((decide (((x_3.1.fTasks.length : Nat) : Int) = 4))))
            else
              some ((false)))
          else
            some ((false)))
        else
          some ((false)))
      else
        some ((false)))
    else
      some ((false)))
  else
    some ((false))
set_option maxRecDepth 20000 in
theorem law26_wakes_ok (n : Nat) (M : Mem)  (r : Bool) (hF : law26_wakes n = some r) : Ok Tryz.prog M 9 [] (fun _ v => v = .bool r) := by
 unfold law26_wakes at hF
 intro M1 hM0 w0 H w p0
 refine R_enter 49 Tryz.func9 rfl rfl (by simp) fun a0 f0 => RR (Y f0 1 fun _ f => eT (RR ?_))
 obtain ⟨x_1, hx_1, hF_1⟩ := bS hF
 refine Y15 f p0 (law26_two_ok n _  x_1 hx_1) fun _ M_1 w_1 hM_1 p_1 q_1 _ f => ?_
 obtain ⟨c_1, rfl, hr_1⟩ := q_1
 obtain ⟨A_1, cap_1, A_2, cap_2, A_3, cap_3, A_4, cap_4, A_5, cap_5, A_6, cap_6, A_7, cap_7, A_8, cap_8, A_9, cap_9, A_10, cap_10, rfl, h_1, h_2, h_3, h_4, h_5, h_6, h_7, h_8, h_9, h_10⟩ := TK0.opn hr_1
 refine Y11 f p_1 (.cells #[.int .i8 0, .int .i64 0, .slice none 0 0, .slice none 0 0, .slice none 0 0, .slice none 0 0, S [], .slice none 0 0, .int .i64 0, .int .i8 0, .slice none 0 0, .slice none 0 0, S [], .slice none 0 0, .slice none 0 0, .slice none 0 0, .int .i8 0, .int .i8 0] 34 (0, 0)) fun b_1 w_2 p_2 _ f => Y26 (vs := [.int .i8 x_1.fKind, .int .i64 x_1.fWidth, .slice A_1 x_1.fOld.fOwned.length cap_1, .slice A_2 x_1.fOld.fPending.length cap_2, .slice A_3 x_1.fOld.fRetained.length cap_3, .slice A_4 x_1.fOld.fOuts.length cap_4, S x_1.fOld.fText, .slice A_5 x_1.fOld.fArgs.length cap_5, .int .i64 x_1.fOld.fCalls, .int .i8 x_1.fOld.fStatus, .slice A_6 x_1.fNew.fScopes.length cap_6, .slice A_7 x_1.fNew.fNodes.length cap_7, S x_1.fText, .slice A_8 x_1.fArgs.length cap_8, .slice A_9 x_1.fChanges.length cap_9, .slice A_10 x_1.fTasks.length cap_10, .int .i8 x_1.fPhase, .int .i8 x_1.fStatus]) (j := 0) f p_2 rfl rfl (by simp [Value.oneCell', S]) (by simp) (by decide) (cs' := #[.int .i8 x_1.fKind, .int .i64 x_1.fWidth, .slice A_1 x_1.fOld.fOwned.length cap_1, .slice A_2 x_1.fOld.fPending.length cap_2, .slice A_3 x_1.fOld.fRetained.length cap_3, .slice A_4 x_1.fOld.fOuts.length cap_4, S x_1.fOld.fText, .slice A_5 x_1.fOld.fArgs.length cap_5, .int .i64 x_1.fOld.fCalls, .int .i8 x_1.fOld.fStatus, .slice A_6 x_1.fNew.fScopes.length cap_6, .slice A_7 x_1.fNew.fNodes.length cap_7, S x_1.fText, .slice A_8 x_1.fArgs.length cap_8, .slice A_9 x_1.fChanges.length cap_9, .slice A_10 x_1.fTasks.length cap_10, .int .i8 x_1.fPhase, .int .i8 x_1.fStatus]) fun w_3 p_3 _ f => eT (RR (Z (v := .agg #[.int .i8 x_1.fKind, .int .i64 x_1.fWidth, .slice A_1 x_1.fOld.fOwned.length cap_1, .slice A_2 x_1.fOld.fPending.length cap_2, .slice A_3 x_1.fOld.fRetained.length cap_3, .slice A_4 x_1.fOld.fOuts.length cap_4, S x_1.fOld.fText, .slice A_5 x_1.fOld.fArgs.length cap_5, .int .i64 x_1.fOld.fCalls, .int .i8 x_1.fOld.fStatus, .slice A_6 x_1.fNew.fScopes.length cap_6, .slice A_7 x_1.fNew.fNodes.length cap_7, S x_1.fText, .slice A_8 x_1.fArgs.length cap_8, .slice A_9 x_1.fChanges.length cap_9, .slice A_10 x_1.fTasks.length cap_10, .int .i8 x_1.fPhase, .int .i8 x_1.fStatus]) f (Y30 (cs := [.int .i8 x_1.fKind, .int .i64 x_1.fWidth, .slice A_1 x_1.fOld.fOwned.length cap_1, .slice A_2 x_1.fOld.fPending.length cap_2, .slice A_3 x_1.fOld.fRetained.length cap_3, .slice A_4 x_1.fOld.fOuts.length cap_4, S x_1.fOld.fText, .slice A_5 x_1.fOld.fArgs.length cap_5, .int .i64 x_1.fOld.fCalls, .int .i8 x_1.fOld.fStatus, .slice A_6 x_1.fNew.fScopes.length cap_6, .slice A_7 x_1.fNew.fNodes.length cap_7, S x_1.fText, .slice A_8 x_1.fArgs.length cap_8, .slice A_9 x_1.fChanges.length cap_9, .slice A_10 x_1.fTasks.length cap_10, .int .i8 x_1.fPhase, .int .i8 x_1.fStatus]) rfl (ad := ⟨b_1, 0, none⟩) (own_cells (p_3.ownCell 0 rfl) 0 rfl)) fun _ f => ?_))
 obtain ⟨x_2, hx_2, hF_2⟩ := bS hF_1
 refine Y16 (E := []) (H := ((Ent.obj b_1 (.cells #[.int .i8 x_1.fKind, .int .i64 x_1.fWidth, .slice A_1 x_1.fOld.fOwned.length cap_1, .slice A_2 x_1.fOld.fPending.length cap_2, .slice A_3 x_1.fOld.fRetained.length cap_3, .slice A_4 x_1.fOld.fOuts.length cap_4, S x_1.fOld.fText, .slice A_5 x_1.fOld.fArgs.length cap_5, .int .i64 x_1.fOld.fCalls, .int .i8 x_1.fOld.fStatus, .slice A_6 x_1.fNew.fScopes.length cap_6, .slice A_7 x_1.fNew.fNodes.length cap_7, S x_1.fText, .slice A_8 x_1.fArgs.length cap_8, .slice A_9 x_1.fChanges.length cap_9, .slice A_10 x_1.fTasks.length cap_10, .int .i8 x_1.fPhase, .int .i8 x_1.fStatus] 34 (0, 0))) :: H)) f p_3 (back_Ready_ok n _ _ x_1 (TK0.shutx (x := x_1) h_1 h_2 h_3 h_4 h_5 h_6 h_7 h_8 h_9 h_10) x_2 hx_2) fun _ M_2 E_1 w_4 hM_2 p_4 q_2 _ f => ?_
 obtain ⟨A_11, cap_11, cs_1, rfl, rfl, hr_2⟩ := q_2
 refine Y f 1 fun _ f => eT (RR (Z (v := .agg #[.int .i8 x_1.fKind, .int .i64 x_1.fWidth, .slice A_1 x_1.fOld.fOwned.length cap_1, .slice A_2 x_1.fOld.fPending.length cap_2, .slice A_3 x_1.fOld.fRetained.length cap_3, .slice A_4 x_1.fOld.fOuts.length cap_4, S x_1.fOld.fText, .slice A_5 x_1.fOld.fArgs.length cap_5, .int .i64 x_1.fOld.fCalls, .int .i8 x_1.fOld.fStatus, .slice A_6 x_1.fNew.fScopes.length cap_6, .slice A_7 x_1.fNew.fNodes.length cap_7, S x_1.fText, .slice A_8 x_1.fArgs.length cap_8, .slice A_9 x_1.fChanges.length cap_9, .slice A_10 x_1.fTasks.length cap_10, .int .i8 x_1.fPhase, .int .i8 x_1.fStatus]) f (Y30 (cs := [.int .i8 x_1.fKind, .int .i64 x_1.fWidth, .slice A_1 x_1.fOld.fOwned.length cap_1, .slice A_2 x_1.fOld.fPending.length cap_2, .slice A_3 x_1.fOld.fRetained.length cap_3, .slice A_4 x_1.fOld.fOuts.length cap_4, S x_1.fOld.fText, .slice A_5 x_1.fOld.fArgs.length cap_5, .int .i64 x_1.fOld.fCalls, .int .i8 x_1.fOld.fStatus, .slice A_6 x_1.fNew.fScopes.length cap_6, .slice A_7 x_1.fNew.fNodes.length cap_7, S x_1.fText, .slice A_8 x_1.fArgs.length cap_8, .slice A_9 x_1.fChanges.length cap_9, .slice A_10 x_1.fTasks.length cap_10, .int .i8 x_1.fPhase, .int .i8 x_1.fStatus]) rfl (ad := ⟨b_1, 0, none⟩) (own_cells (p_4.ownCell 1 rfl) 0 rfl)) fun _ f => ?_))
 obtain ⟨x_3, hx_3, hF_3⟩ := bS hF_2
 refine Y15 f p_4 (back_Start_ok n _ _ x_1 (TK0.shutx (x := x_1) (h_1.mono hM_2) (h_2.mono hM_2) (h_3.mono hM_2) (h_4.mono hM_2) (h_5.mono hM_2) (h_6.mono hM_2) (h_7.mono hM_2) (h_8.mono hM_2) (h_9.mono hM_2) (h_10.mono hM_2)) (1 : Int) x_3 hx_3) fun _ M_3 w_5 hM_3 p_5 q_3 _ f => ?_
 obtain ⟨c_2, c_3, rfl, hr_3, hr_4⟩ := q_3
 obtain ⟨A_12, cap_12, A_13, cap_13, A_14, cap_14, A_15, cap_15, A_16, cap_16, A_17, cap_17, A_18, cap_18, A_19, cap_19, A_20, cap_20, A_21, cap_21, rfl, h_11, h_12, h_13, h_14, h_15, h_16, h_17, h_18, h_19, h_20⟩ := TK0.opn hr_3
 obtain ⟨A_22, cap_22, rfl, h_21⟩ := TQ0.opn hr_4
 refine Y f 4 fun _ f => Y11 f p_5 (.cells #[.int .i8 0, .int .i64 0, .slice none 0 0, .slice none 0 0, .slice none 0 0, .slice none 0 0, S [], .slice none 0 0, .int .i64 0, .int .i8 0, .slice none 0 0, .slice none 0 0, S [], .slice none 0 0, .slice none 0 0, .slice none 0 0, .int .i8 0, .int .i8 0] 34 (0, 0)) fun b_2 w_6 p_6 _ f => Y11 f p_6 (.cells #[.int .i64 0, .int .i8 0, S [], S [], .slice none 0 0] 42 (0, 0)) fun b_3 w_7 p_7 _ f => ?_
 have p_8 := p_7.pl [1]
 refine Y26 (vs := [.int .i8 x_3.1.fKind, .int .i64 x_3.1.fWidth, .slice A_12 x_3.1.fOld.fOwned.length cap_12, .slice A_13 x_3.1.fOld.fPending.length cap_13, .slice A_14 x_3.1.fOld.fRetained.length cap_14, .slice A_15 x_3.1.fOld.fOuts.length cap_15, S x_3.1.fOld.fText, .slice A_16 x_3.1.fOld.fArgs.length cap_16, .int .i64 x_3.1.fOld.fCalls, .int .i8 x_3.1.fOld.fStatus, .slice A_17 x_3.1.fNew.fScopes.length cap_17, .slice A_18 x_3.1.fNew.fNodes.length cap_18, S x_3.1.fText, .slice A_19 x_3.1.fArgs.length cap_19, .slice A_20 x_3.1.fChanges.length cap_20, .slice A_21 x_3.1.fTasks.length cap_21, .int .i8 x_3.1.fPhase, .int .i8 x_3.1.fStatus]) (j := 0) f p_8 rfl rfl (by simp [Value.oneCell', S]) (by simp) (by decide) (cs' := #[.int .i8 x_3.1.fKind, .int .i64 x_3.1.fWidth, .slice A_12 x_3.1.fOld.fOwned.length cap_12, .slice A_13 x_3.1.fOld.fPending.length cap_13, .slice A_14 x_3.1.fOld.fRetained.length cap_14, .slice A_15 x_3.1.fOld.fOuts.length cap_15, S x_3.1.fOld.fText, .slice A_16 x_3.1.fOld.fArgs.length cap_16, .int .i64 x_3.1.fOld.fCalls, .int .i8 x_3.1.fOld.fStatus, .slice A_17 x_3.1.fNew.fScopes.length cap_17, .slice A_18 x_3.1.fNew.fNodes.length cap_18, S x_3.1.fText, .slice A_19 x_3.1.fArgs.length cap_19, .slice A_20 x_3.1.fChanges.length cap_20, .slice A_21 x_3.1.fTasks.length cap_21, .int .i8 x_3.1.fPhase, .int .i8 x_3.1.fStatus]) fun w_8 p_9 _ f => ?_
 have p_10 := p_9.pl [1]
 refine Y26 (vs := [.int .i64 x_3.2.1.fToken, .int .i8 x_3.2.1.fKind, S x_3.2.1.fPhys, S x_3.2.1.fType, .slice A_22 x_3.2.1.fProps.length cap_22]) (j := 0) f p_10 rfl rfl (by simp [Value.oneCell', S]) (by simp) (by decide) (cs' := #[.int .i64 x_3.2.1.fToken, .int .i8 x_3.2.1.fKind, S x_3.2.1.fPhys, S x_3.2.1.fType, .slice A_22 x_3.2.1.fProps.length cap_22]) fun w_9 p_11 _ f => Y f 1 fun _ f => eT (RR (Y f 4 fun _ f => ?_))
 rcases cE hF_3 with ⟨h_22, hF_4⟩ | ⟨h_22, hF_16⟩
 ·have k_1 := dI.1 h_22
  have f := f.st 18 (cB h_22)
  refine Y f 1 fun _ f => ?_
  obtain ⟨x_4, hx_4, hF_5⟩ := bS hF_4
  obtain ⟨b_4, cap_23, hv_1, hcap_1⟩ := p_11.rowAddr 2 rfl (getI_pos hx_4)
  have f := f.st 19 (hv_1)
  refine Z f (Y27 rfl (ad := ⟨b_4, 0, none⟩) (len := x_2.length) (cap := cap_23) (k := .i64) (i := (0 : Int)) (e := 3) (sz := 1) (getI_nn hx_4) (getI_lt hx_4)) fun _ f => ?_
  have f := f.st 19 (hv_1.symm)
  obtain ⟨c_4, -, hr_5, hc_1⟩ := RepSeq.get (0 : Int).toNat (szd_all (szd_int .i64)) (RepSeq.mono hM_3 _ _ hr_2) (getI_map hx_4)
  obtain rfl : c_4 = [.int .i64 x_4] := hr_5
  refine Z f (Y29 (v := .int .i64 x_4) rfl (ad := (⟨b_4, 0, none⟩ : Addr).add ((0 : Int).toNat * 1)) (by simpa [Addr.add] using (fun j v h => row_at (p_11.rowCell 2 rfl hv_1) hc_1 j v h) 0 _ rfl)) fun _ f => Y f 3 fun _ f => ?_
  rcases cE hF_5 with ⟨h_23, hF_6⟩ | ⟨h_23, hF_15⟩
  ·have k_2 := dI.1 h_23
   have f := f.st 24 (cB h_23)
   refine Y f 4 fun _ f => ?_
   rcases cE hF_6 with ⟨h_24, hF_7⟩ | ⟨h_24, hF_14⟩
   ·have k_3 := dI.1 h_24
    have f := f.st 28 (cB h_24)
    refine Y f 1 fun _ f => Z f (Y29 (v := .int .i8 x_3.2.1.fKind) rfl (ad := ⟨b_3, 1, none⟩) (p_11.ownCell 0 rfl 1)) fun _ f => Y f 3 fun _ f => ?_
    rcases cE hF_7 with ⟨h_25, hF_8⟩ | ⟨h_25, hF_13⟩
    ·have k_4 := dI.1 h_25
     have f := f.st 33 (cB h_25)
     refine Y f 1 fun _ f => Z f (Y29 (v := S x_3.2.1.fPhys) rfl (ad := ⟨b_3, 2, none⟩) (p_11.ownCell 0 rfl 2)) fun _ f => Z f (Y33 rfl (l := x_3.2.1.fPhys) (m := [112, 50])) fun _ f => Y f 2 fun _ f => ?_
     rcases cE hF_8 with ⟨h_26, hF_9⟩ | ⟨h_26, hF_12⟩
     ·have k_5 := dI.1 h_26
      have f := f.st 38 (cB h_26)
      refine Y f 1 fun _ f => Z f (Y29 (v := .int .i64 x_3.2.1.fToken) rfl (ad := ⟨b_3, 0, none⟩) (p_11.ownCell 0 rfl 0)) fun _ f => Y f 3 fun _ f => ?_
      rcases cE hF_9 with ⟨h_27, hF_10⟩ | ⟨h_27, hF_11⟩
      ·have k_6 := dI.1 h_27
       have f := f.st 43 (cB h_27)
       refine Y f 1 fun _ f => Z f (Y29 (v := .slice A_21 x_3.1.fTasks.length cap_21) rfl (ad := ⟨b_2, 15, none⟩) (p_11.ownCell 1 rfl 15)) fun _ f => Y f 4 fun _ f => eT (wp_ret (E_ret1 f rfl (by kernel_rfl : Vc.look _ 0 = some (.bool (decide (((x_3.1.fTasks.length : Nat) : Int) = 4)))) ?_))
       obtain rfl := sI hF_10
       exact ⟨_, rfl, M_3, ((hM_1.trans hM_2).trans hM_3), (p_11.dropN 4), rfl⟩
      ·have k_7 := iff_f dI h_27
       have f := f.st 43 (cB h_27)
       refine Y f 6 fun _ f => eT (wp_ret (E_ret1 f rfl (by kernel_rfl : Vc.look _ 0 = some (.bool false)) ?_))
       obtain rfl := sI hF_11
       exact ⟨_, rfl, M_3, ((hM_1.trans hM_2).trans hM_3), (p_11.dropN 4), rfl⟩
     ·have k_8 := iff_f dI h_26
      have f := f.st 38 (cB h_26)
      refine Y f 11 fun _ f => eT (wp_ret (E_ret1 f rfl (by kernel_rfl : Vc.look _ 0 = some (.bool false)) ?_))
      obtain rfl := sI hF_12
      exact ⟨_, rfl, M_3, ((hM_1.trans hM_2).trans hM_3), (p_11.dropN 4), rfl⟩
    ·have k_9 := iff_f dI h_25
     have f := f.st 33 (cB h_25)
     refine Y f 16 fun _ f => eT (wp_ret (E_ret1 f rfl (by kernel_rfl : Vc.look _ 0 = some (.bool false)) ?_))
     obtain rfl := sI hF_13
     exact ⟨_, rfl, M_3, ((hM_1.trans hM_2).trans hM_3), (p_11.dropN 4), rfl⟩
   ·have k_10 := iff_f dI h_24
    have f := f.st 28 (cB h_24)
    refine Y f 21 fun _ f => eT (wp_ret (E_ret1 f rfl (by kernel_rfl : Vc.look _ 0 = some (.bool false)) ?_))
    obtain rfl := sI hF_14
    exact ⟨_, rfl, M_3, ((hM_1.trans hM_2).trans hM_3), (p_11.dropN 4), rfl⟩
  ·have k_11 := iff_f dI h_23
   have f := f.st 24 (cB h_23)
   refine Y f 25 fun _ f => eT (wp_ret (E_ret1 f rfl (by kernel_rfl : Vc.look _ 0 = some (.bool false)) ?_))
   obtain rfl := sI hF_15
   exact ⟨_, rfl, M_3, ((hM_1.trans hM_2).trans hM_3), (p_11.dropN 4), rfl⟩
 ·have k_12 := iff_f dI h_22
  have f := f.st 18 (cB h_22)
  refine Y f 31 fun _ f => eT (wp_ret (E_ret1 f rfl (by kernel_rfl : Vc.look _ 0 = some (.bool false)) ?_))
  obtain rfl := sI hF_16
  exact ⟨_, rfl, M_3, ((hM_1.trans hM_2).trans hM_3), (p_11.dropN 4), rfl⟩
def law26_BackBlocked_s3 (n : Nat) (x_4 : List Int) (x_5 : List (List Int)) (s_1 : Int) (s_2 : Bool × Int) (s_3 : Bool × Int) : Option (Lp (Bool × Int) Bool) :=
    (getI x_5 s_2.2).bind fun x_7 =>
    bif (decide (s_3.2 < ((x_7.length : Nat) : Int))) then
      (bif s_3.1 then
        (need (inR .i64 (s_3.2 + 1)) <|
        some (.nx ((true), s_3.2 + 1)))
      else
        (getI x_5 s_2.2).bind fun x_8 =>
        (getI x_8 s_3.2).bind fun x_9 =>
        bif (decide (x_9 = s_1)) then
          ((getI x_4 s_2.2).bind fun x_10 =>
          bif (decide (x_10 = 4)) then
            (need (inR .i64 (s_3.2 + 1)) <|
            some (.nx ((true), s_3.2 + 1)))
          else
            (getI x_4 s_2.2).bind fun x_11 =>
            need (inR .i64 (s_3.2 + 1)) <|
            some (.nx ((decide (x_11 = 5)), s_3.2 + 1)))
        else
          need (inR .i64 (s_3.2 + 1)) <|
          some (.nx ((false), s_3.2 + 1)))
    else
      some (.br (s_3.1))
def law26_BackBlocked_s2 (n : Nat) (x_4 : List Int) (x_5 : List (List Int)) (s_1 : Int) (s_2 : Bool × Int) : Option (Lp (Bool × Int) Bool) :=
    bif (decide (s_2.2 < ((x_5.length : Nat) : Int))) then
      ((loopF (law26_BackBlocked_s3 n x_4 x_5 s_1 s_2) n ((s_2.1), (0 : Int))).bind fun y_2 =>
      need (inR .i64 (s_2.2 + 1)) <|
      some (.nx ((y_2), s_2.2 + 1)))
    else
      some (.br (s_2.1))
def law26_BackBlocked_s1 (n : Nat) (d0 : TK0) (x_4 : List Int) (x_5 : List (List Int)) (s_1 : Int) : Option (Lp Int (Sum Unit Unit)) :=
    bif (decide (s_1 < ((x_4.length : Nat) : Int))) then
      ((ref25_Task n d0 s_1 (1 : Int)).bind fun x_6 =>
      (loopF (law26_BackBlocked_s2 n x_4 x_5 s_1) n ((false), (0 : Int))).bind fun y_3 =>
      (getI x_4 s_1).bind fun x_12 =>
      bif (decide (x_12 = 5)) then
        (bif x_6.2 then
          (some (.br (.inl ())))
        else
          bif !y_3 then
            (some (.br (.inl ())))
          else
            (getI x_4 s_1).bind fun x_13 =>
            bif (decide (x_13 = 1)) then
              (bif y_3 then
                (some (.br (.inl ())))
              else
                need (inR .i64 (s_1 + 1)) <|
                some (.nx (s_1 + 1)))
            else
              need (inR .i64 (s_1 + 1)) <|
              some (.nx (s_1 + 1)))
      else
        (getI x_4 s_1).bind fun x_14 =>
        bif (decide (x_14 = 1)) then
          (bif x_6.2 then
            (some (.br (.inl ())))
          else
            bif y_3 then
              (some (.br (.inl ())))
            else
              need (inR .i64 (s_1 + 1)) <|
              some (.nx (s_1 + 1)))
        else
          need (inR .i64 (s_1 + 1)) <|
          some (.nx (s_1 + 1)))
    else
      some (.br (.inr ()))
def law26_BackBlocked (n : Nat) (d0 : TK0) : Option Bool :=
  (((law22_Great n d0).bind fun x_1 =>
    bif x_1 then
      (some ((true)))
    else
      (ref25_May n d0).bind fun x_2 =>
      some ((!x_2)) : Option Bool)).bind fun y_1 =>
  bif y_1 then
    ((law26_wakes n).bind fun x_3 =>
    some ((x_3)))
  else
    (back_States n d0).bind fun x_4 =>
    (ref25_Leans n d0).bind fun x_5 =>
    bif (!(decide (((x_4.length : Nat) : Int) = ((x_5.length : Nat) : Int)))) then
      (some ((false)))
    else
      (loopF (law26_BackBlocked_s1 n d0 x_4 x_5) n (0 : Int)).bind fun b_2 =>
      (match b_2 with 
      | .inl y_4 => some ((false)) 
      | .inr y_5 => (law26_wakes n).bind fun x_15 =>
        some ((x_15)))
set_option maxRecDepth 20000 in
theorem law26_BackBlocked_ok (n : Nat) (M : Mem) (c0 : List Value) (d0 : TK0) (h0 : Rep M (emb_TK0 d0) c0) (r : Bool) (hF : law26_BackBlocked n d0 = some r) : Ok Tryz.prog M 3 [.agg c0.toArray] (fun _ v => v = .bool r) := by
 unfold law26_BackBlocked at hF
 intro M1 hM0 w0 H w p0
 replace h0 := Rep.mono hM0 _ _ h0
 obtain ⟨A_1, cap_1, A_2, cap_2, A_3, cap_3, A_4, cap_4, A_5, cap_5, A_6, cap_6, A_7, cap_7, A_8, cap_8, A_9, cap_9, A_10, cap_10, rfl, h_1, h_2, h_3, h_4, h_5, h_6, h_7, h_8, h_9, h_10⟩ := TK0.opn h0
 refine R_enter 107 Tryz.func3 rfl rfl (by simp) fun a0 f0 => RR (Y12 (cs := #[.int .i8 d0.fKind, .int .i64 d0.fWidth, .slice A_1 d0.fOld.fOwned.length cap_1, .slice A_2 d0.fOld.fPending.length cap_2, .slice A_3 d0.fOld.fRetained.length cap_3, .slice A_4 d0.fOld.fOuts.length cap_4, S d0.fOld.fText, .slice A_5 d0.fOld.fArgs.length cap_5, .int .i64 d0.fOld.fCalls, .int .i8 d0.fOld.fStatus, .slice A_6 d0.fNew.fScopes.length cap_6, .slice A_7 d0.fNew.fNodes.length cap_7, S d0.fText, .slice A_8 d0.fArgs.length cap_8, .slice A_9 d0.fChanges.length cap_9, .slice A_10 d0.fTasks.length cap_10, .int .i8 d0.fPhase, .int .i8 d0.fStatus]) (T := 34) f0 p0 fun b_1 M_1 w_1 hM_1 hc_1 p_1 _ f => ?_)
 have hc_2 := fz_box hc_1
 refine Y f 1 fun _ f => eT (R_seq (R_seq ?_))
 obtain ⟨j_1, hj_1, hF_1⟩ := bS hF
 refine R_mid (fun a_10 w_4 => ∃ y_1 : Bool, j_1 = y_1 ∧ ∃ M_2 : Mem, M_1.le M_2 ∧ Frm 107 [(1, .pointer (some (⟨b_1, 0, none⟩))), (17, .bool y_1)] a_10 ∧ Hp w0 M_2 (H) w_4) ?_ ?_
 ·refine R_reg (Z (v := .agg #[.int .i8 d0.fKind, .int .i64 d0.fWidth, .slice A_1 d0.fOld.fOwned.length cap_1, .slice A_2 d0.fOld.fPending.length cap_2, .slice A_3 d0.fOld.fRetained.length cap_3, .slice A_4 d0.fOld.fOuts.length cap_4, S d0.fOld.fText, .slice A_5 d0.fOld.fArgs.length cap_5, .int .i64 d0.fOld.fCalls, .int .i8 d0.fOld.fStatus, .slice A_6 d0.fNew.fScopes.length cap_6, .slice A_7 d0.fNew.fNodes.length cap_7, S d0.fText, .slice A_8 d0.fArgs.length cap_8, .slice A_9 d0.fChanges.length cap_9, .slice A_10 d0.fTasks.length cap_10, .int .i8 d0.fPhase, .int .i8 d0.fStatus]) f (Y30 (cs := [.int .i8 d0.fKind, .int .i64 d0.fWidth, .slice A_1 d0.fOld.fOwned.length cap_1, .slice A_2 d0.fOld.fPending.length cap_2, .slice A_3 d0.fOld.fRetained.length cap_3, .slice A_4 d0.fOld.fOuts.length cap_4, S d0.fOld.fText, .slice A_5 d0.fOld.fArgs.length cap_5, .int .i64 d0.fOld.fCalls, .int .i8 d0.fOld.fStatus, .slice A_6 d0.fNew.fScopes.length cap_6, .slice A_7 d0.fNew.fNodes.length cap_7, S d0.fText, .slice A_8 d0.fArgs.length cap_8, .slice A_9 d0.fChanges.length cap_9, .slice A_10 d0.fTasks.length cap_10, .int .i8 d0.fPhase, .int .i8 d0.fStatus]) rfl (ad := ⟨b_1, 0, none⟩) (fun j v h => p_1.cell (hc_2 j v h))) fun _ f => ?_)
  obtain ⟨x_1, hx_1, hF_2⟩ := bS hj_1
  refine Y17 f p_1 (law22_Great_ok n _ _ d0 (TK0.shutx (x := d0) (h_1.mono hM_1) (h_2.mono hM_1) (h_3.mono hM_1) (h_4.mono hM_1) (h_5.mono hM_1) (h_6.mono hM_1) (h_7.mono hM_1) (h_8.mono hM_1) (h_9.mono hM_1) (h_10.mono hM_1)) x_1 hx_1) fun w_2 p_2 _ f => Y f 1 fun _ f => ?_
  rcases cE hF_2 with ⟨h_11, hF_3⟩ | ⟨h_11, hF_4⟩
  ·have f := f.st 13 (cB h_11)
   refine Y f 4 fun _ f => eT ?_
   exact ⟨(true), (sI hF_3).symm, M_1, (mR _), f.kp, p_2⟩
  ·have f := f.st 13 (cB h_11)
   refine Z (v := .agg #[.int .i8 d0.fKind, .int .i64 d0.fWidth, .slice A_1 d0.fOld.fOwned.length cap_1, .slice A_2 d0.fOld.fPending.length cap_2, .slice A_3 d0.fOld.fRetained.length cap_3, .slice A_4 d0.fOld.fOuts.length cap_4, S d0.fOld.fText, .slice A_5 d0.fOld.fArgs.length cap_5, .int .i64 d0.fOld.fCalls, .int .i8 d0.fOld.fStatus, .slice A_6 d0.fNew.fScopes.length cap_6, .slice A_7 d0.fNew.fNodes.length cap_7, S d0.fText, .slice A_8 d0.fArgs.length cap_8, .slice A_9 d0.fChanges.length cap_9, .slice A_10 d0.fTasks.length cap_10, .int .i8 d0.fPhase, .int .i8 d0.fStatus]) f (Y30 (cs := [.int .i8 d0.fKind, .int .i64 d0.fWidth, .slice A_1 d0.fOld.fOwned.length cap_1, .slice A_2 d0.fOld.fPending.length cap_2, .slice A_3 d0.fOld.fRetained.length cap_3, .slice A_4 d0.fOld.fOuts.length cap_4, S d0.fOld.fText, .slice A_5 d0.fOld.fArgs.length cap_5, .int .i64 d0.fOld.fCalls, .int .i8 d0.fOld.fStatus, .slice A_6 d0.fNew.fScopes.length cap_6, .slice A_7 d0.fNew.fNodes.length cap_7, S d0.fText, .slice A_8 d0.fArgs.length cap_8, .slice A_9 d0.fChanges.length cap_9, .slice A_10 d0.fTasks.length cap_10, .int .i8 d0.fPhase, .int .i8 d0.fStatus]) rfl (ad := ⟨b_1, 0, none⟩) (fun j v h => p_2.cell (hc_2 j v h))) fun _ f => ?_
   obtain ⟨x_2, hx_2, hF_5⟩ := bS hF_4
   refine Y17 f p_2 (ref25_May_ok n _ _ d0 (TK0.shutx (x := d0) (h_1.mono hM_1) (h_2.mono hM_1) (h_3.mono hM_1) (h_4.mono hM_1) (h_5.mono hM_1) (h_6.mono hM_1) (h_7.mono hM_1) (h_8.mono hM_1) (h_9.mono hM_1) (h_10.mono hM_1)) x_2 hx_2) fun w_3 p_3 _ f => Y f 2 fun _ f => eT ?_
   exact ⟨(!x_2), (sI hF_5).symm, M_1, (mR _), f.kp, p_3⟩
 ·rintro a_10 w_4 ⟨y_1, hq_1, M_2, hM_2, f, p_4⟩
  subst j_1
  refine T_n (RcF f hF_1 (fun h_12 hF_6 => ?_) fun h_12 hF_8 => ?_)
  ·refine RR ?_
   obtain ⟨x_3, hx_3, hF_7⟩ := bS hF_6
   refine Y17 f p_4 (law26_wakes_ok n _  x_3 hx_3) fun w_5 p_5 _ f => Y f 1 fun _ f => eT (wp_ret (T_r (E_ret1 f rfl (by kernel_rfl : Vc.look _ 2 = some (.bool x_3)) ?_)))
   obtain rfl := sI hF_7
   exact ⟨_, rfl, M_2, (hM_1.trans hM_2), p_5, rfl⟩
  ·refine wp_skip (T_n (RR (Z (v := .agg #[.int .i8 d0.fKind, .int .i64 d0.fWidth, .slice A_1 d0.fOld.fOwned.length cap_1, .slice A_2 d0.fOld.fPending.length cap_2, .slice A_3 d0.fOld.fRetained.length cap_3, .slice A_4 d0.fOld.fOuts.length cap_4, S d0.fOld.fText, .slice A_5 d0.fOld.fArgs.length cap_5, .int .i64 d0.fOld.fCalls, .int .i8 d0.fOld.fStatus, .slice A_6 d0.fNew.fScopes.length cap_6, .slice A_7 d0.fNew.fNodes.length cap_7, S d0.fText, .slice A_8 d0.fArgs.length cap_8, .slice A_9 d0.fChanges.length cap_9, .slice A_10 d0.fTasks.length cap_10, .int .i8 d0.fPhase, .int .i8 d0.fStatus]) f (Y30 (cs := [.int .i8 d0.fKind, .int .i64 d0.fWidth, .slice A_1 d0.fOld.fOwned.length cap_1, .slice A_2 d0.fOld.fPending.length cap_2, .slice A_3 d0.fOld.fRetained.length cap_3, .slice A_4 d0.fOld.fOuts.length cap_4, S d0.fOld.fText, .slice A_5 d0.fOld.fArgs.length cap_5, .int .i64 d0.fOld.fCalls, .int .i8 d0.fOld.fStatus, .slice A_6 d0.fNew.fScopes.length cap_6, .slice A_7 d0.fNew.fNodes.length cap_7, S d0.fText, .slice A_8 d0.fArgs.length cap_8, .slice A_9 d0.fChanges.length cap_9, .slice A_10 d0.fTasks.length cap_10, .int .i8 d0.fPhase, .int .i8 d0.fStatus]) rfl (ad := ⟨b_1, 0, none⟩) (fun j v h => p_4.cell ((fzu hM_2 hc_2) j v h))) fun _ f => ?_)))
   obtain ⟨x_4, hx_4, hF_9⟩ := bS hF_8
   refine Y15 f p_4 (back_States_ok n _ _ d0 (TK0.shutx (x := d0) (h_1.mono (hM_1.trans hM_2)) (h_2.mono (hM_1.trans hM_2)) (h_3.mono (hM_1.trans hM_2)) (h_4.mono (hM_1.trans hM_2)) (h_5.mono (hM_1.trans hM_2)) (h_6.mono (hM_1.trans hM_2)) (h_7.mono (hM_1.trans hM_2)) (h_8.mono (hM_1.trans hM_2)) (h_9.mono (hM_1.trans hM_2)) (h_10.mono (hM_1.trans hM_2))) x_4 hx_4) fun _ M_3 w_6 hM_3 p_6 q_1 _ f => ?_
   obtain ⟨A_11, cap_11, rfl, h_13⟩ := q_1
   refine Y f 1 fun _ f => eT (RR (Z (v := .agg #[.int .i8 d0.fKind, .int .i64 d0.fWidth, .slice A_1 d0.fOld.fOwned.length cap_1, .slice A_2 d0.fOld.fPending.length cap_2, .slice A_3 d0.fOld.fRetained.length cap_3, .slice A_4 d0.fOld.fOuts.length cap_4, S d0.fOld.fText, .slice A_5 d0.fOld.fArgs.length cap_5, .int .i64 d0.fOld.fCalls, .int .i8 d0.fOld.fStatus, .slice A_6 d0.fNew.fScopes.length cap_6, .slice A_7 d0.fNew.fNodes.length cap_7, S d0.fText, .slice A_8 d0.fArgs.length cap_8, .slice A_9 d0.fChanges.length cap_9, .slice A_10 d0.fTasks.length cap_10, .int .i8 d0.fPhase, .int .i8 d0.fStatus]) f (Y30 (cs := [.int .i8 d0.fKind, .int .i64 d0.fWidth, .slice A_1 d0.fOld.fOwned.length cap_1, .slice A_2 d0.fOld.fPending.length cap_2, .slice A_3 d0.fOld.fRetained.length cap_3, .slice A_4 d0.fOld.fOuts.length cap_4, S d0.fOld.fText, .slice A_5 d0.fOld.fArgs.length cap_5, .int .i64 d0.fOld.fCalls, .int .i8 d0.fOld.fStatus, .slice A_6 d0.fNew.fScopes.length cap_6, .slice A_7 d0.fNew.fNodes.length cap_7, S d0.fText, .slice A_8 d0.fArgs.length cap_8, .slice A_9 d0.fChanges.length cap_9, .slice A_10 d0.fTasks.length cap_10, .int .i8 d0.fPhase, .int .i8 d0.fStatus]) rfl (ad := ⟨b_1, 0, none⟩) (fun j v h => p_6.cell ((fzu (hM_2.trans hM_3) hc_2) j v h))) fun _ f => ?_))
   obtain ⟨x_5, hx_5, hF_10⟩ := bS hF_9
   refine Y16 (E := []) (H := (H)) f p_6 (ref25_Leans_ok n _ _ d0 (TK0.shutx (x := d0) (h_1.mono ((hM_1.trans hM_2).trans hM_3)) (h_2.mono ((hM_1.trans hM_2).trans hM_3)) (h_3.mono ((hM_1.trans hM_2).trans hM_3)) (h_4.mono ((hM_1.trans hM_2).trans hM_3)) (h_5.mono ((hM_1.trans hM_2).trans hM_3)) (h_6.mono ((hM_1.trans hM_2).trans hM_3)) (h_7.mono ((hM_1.trans hM_2).trans hM_3)) (h_8.mono ((hM_1.trans hM_2).trans hM_3)) (h_9.mono ((hM_1.trans hM_2).trans hM_3)) (h_10.mono ((hM_1.trans hM_2).trans hM_3))) x_5 hx_5) fun _ M_4 E_1 w_7 hM_4 p_7 q_2 _ f => ?_
   obtain ⟨A_12, cap_12, cs_1, rfl, rfl, hr_1⟩ := q_2
   refine Y f 1 fun _ f => eT (R_seq (RR (Y f 5 fun _ f => eT (RcF f hF_10 (fun h_14 hF_11 => ?_) fun h_14 hF_12 => ?_))))
   ·have k_5 : ¬ (((x_4.length : Nat) : Int) = ((x_5.length : Nat) : Int)) := (not_iff dI).1 h_14
    refine RR (Y f 1 fun _ f => eT (wp_ret (T_r (E_ret1 f rfl (by kernel_rfl : Vc.look _ 2 = some (.bool false)) ?_))))
    obtain rfl := sI hF_11
    exact ⟨_, rfl, M_4, (((hM_1.trans hM_2).trans hM_3).trans hM_4), (p_7.dropN 1), rfl⟩
   ·have k_6 : ¬ (¬ (((x_4.length : Nat) : Int) = ((x_5.length : Nat) : Int))) := iff_f (not_iff dI) h_14
    refine wp_skip (T_n (R_seq (RR (Y f 1 fun _ f => eT (wp_block ?_)))))
    obtain ⟨b_2, hL_1, hF_13⟩ := bS hF_12
    refine wp_mono (Q := fun e a w => (e = .ret ∧ (∃ y_4 : Unit, b_2 = .inl y_4 ∧ ∃ M_11 : Mem, M_4.le M_11 ∧ Frm 107 [(2, .bool false)] a ∧ Hp w0 M_11 ((Ent.row 47 1 (.slice A_12 x_5.length cap_12) x_5.length cs_1) :: H) w)) ∨ (e = .exit 0 ∧ (∃ y_5 : Unit, b_2 = .inr y_5 ∧ ∃ M_12 : Mem, M_4.le M_12 ∧ Frm 107 [] a ∧ Hp w0 M_12 ((Ent.row 47 1 (.slice A_12 x_5.length cap_12) x_5.length cs_1) :: H) w))) (R_loop (n := 107) (w0 := w0) (M := M_4) (fun (x : Nat × Int) => match x with | (m_1, s_1) => [(1, .pointer (some (⟨b_1, 0, none⟩))), (3, .slice A_11 x_4.length cap_11), (4, .slice A_12 x_5.length cap_12), (5, .int .i64 s_1)]) (fun (x : Nat × Int) => match x with | (m_1, s_1) => ((Ent.row 47 1 (.slice A_12 x_5.length cap_12) x_5.length cs_1) :: H)) (fun (x : Nat × Int) (MM : Mem) => match x with | (m_1, s_1) => loopF (law26_BackBlocked_s1 n d0 x_4 x_5) m_1 s_1 = some b_2) (fun (x : Nat × Int) => match x with | (m_1, s_1) => m_1) (n, (0 : Int)) (f.kp) p_7 hL_1 ?_) ?_
    ·rintro ⟨m_1, s_1⟩ M_5 _ w_8 hM_5 I_1 f p_8
     have I_1L := I_1
     obtain ⟨m_2, r_1, rfl, hs_1, hn_1⟩ := loop_step I_1L
     unfold law26_BackBlocked_s1 at hs_1
     refine R_seq (RR (Y f 4 fun _ f => eT (RcF f hs_1 (fun h_15 hF_14 => ?_) fun h_15 hF_61 => ?_)))
     ·have k_7 := dI.1 h_15
      refine wp_skip (T_n (R_seq (wp_block (RR (Z (v := .agg #[.int .i8 d0.fKind, .int .i64 d0.fWidth, .slice A_1 d0.fOld.fOwned.length cap_1, .slice A_2 d0.fOld.fPending.length cap_2, .slice A_3 d0.fOld.fRetained.length cap_3, .slice A_4 d0.fOld.fOuts.length cap_4, S d0.fOld.fText, .slice A_5 d0.fOld.fArgs.length cap_5, .int .i64 d0.fOld.fCalls, .int .i8 d0.fOld.fStatus, .slice A_6 d0.fNew.fScopes.length cap_6, .slice A_7 d0.fNew.fNodes.length cap_7, S d0.fText, .slice A_8 d0.fArgs.length cap_8, .slice A_9 d0.fChanges.length cap_9, .slice A_10 d0.fTasks.length cap_10, .int .i8 d0.fPhase, .int .i8 d0.fStatus]) f (Y30 (cs := [.int .i8 d0.fKind, .int .i64 d0.fWidth, .slice A_1 d0.fOld.fOwned.length cap_1, .slice A_2 d0.fOld.fPending.length cap_2, .slice A_3 d0.fOld.fRetained.length cap_3, .slice A_4 d0.fOld.fOuts.length cap_4, S d0.fOld.fText, .slice A_5 d0.fOld.fArgs.length cap_5, .int .i64 d0.fOld.fCalls, .int .i8 d0.fOld.fStatus, .slice A_6 d0.fNew.fScopes.length cap_6, .slice A_7 d0.fNew.fNodes.length cap_7, S d0.fText, .slice A_8 d0.fArgs.length cap_8, .slice A_9 d0.fChanges.length cap_9, .slice A_10 d0.fTasks.length cap_10, .int .i8 d0.fPhase, .int .i8 d0.fStatus]) rfl (ad := ⟨b_1, 0, none⟩) (fun j v h => p_8.cell ((fzu (((hM_2.trans hM_3).trans hM_4).trans hM_5) hc_2) j v h))) fun _ f => Y f 1 fun _ f => ?_)))))
      obtain ⟨x_6, hx_6, hF_15⟩ := bS hF_14
      refine Y15 f p_8 (ref25_Task_ok n _ _ d0 (TK0.shutx (x := d0) (h_1.mono ((((hM_1.trans hM_2).trans hM_3).trans hM_4).trans hM_5)) (h_2.mono ((((hM_1.trans hM_2).trans hM_3).trans hM_4).trans hM_5)) (h_3.mono ((((hM_1.trans hM_2).trans hM_3).trans hM_4).trans hM_5)) (h_4.mono ((((hM_1.trans hM_2).trans hM_3).trans hM_4).trans hM_5)) (h_5.mono ((((hM_1.trans hM_2).trans hM_3).trans hM_4).trans hM_5)) (h_6.mono ((((hM_1.trans hM_2).trans hM_3).trans hM_4).trans hM_5)) (h_7.mono ((((hM_1.trans hM_2).trans hM_3).trans hM_4).trans hM_5)) (h_8.mono ((((hM_1.trans hM_2).trans hM_3).trans hM_4).trans hM_5)) (h_9.mono ((((hM_1.trans hM_2).trans hM_3).trans hM_4).trans hM_5)) (h_10.mono ((((hM_1.trans hM_2).trans hM_3).trans hM_4).trans hM_5))) s_1 (1 : Int) x_6 hx_6) fun _ M_6 w_9 hM_6 p_9 q_3 _ f => ?_
      obtain ⟨c_1, rfl, hr_2⟩ := q_3
      obtain ⟨A_13, cap_13, rfl, h_16⟩ := TR0.opn hr_2
      refine Y f 3 fun _ f => Y11 f p_9 (.cells #[.int .i64 0, .int .i8 0, .int .i64 0, .int .i8 0, S [], S [], .slice none 0 0, .int .i8 0, S []] 44 (0, 0)) fun b_3 w_10 p_10 _ f => Y26 (vs := [.int .i64 x_6.1.fChange, .int .i8 x_6.1.fPhase, .int .i64 x_6.1.fCall.fToken, .int .i8 x_6.1.fCall.fKind, S x_6.1.fCall.fPhys, S x_6.1.fCall.fType, .slice A_13 x_6.1.fCall.fProps.length cap_13, .int .i8 x_6.1.fState, S x_6.1.fPhys]) (j := 0) f p_10 rfl rfl (by simp [Value.oneCell', S]) (by simp) (by decide) (cs' := #[.int .i64 x_6.1.fChange, .int .i8 x_6.1.fPhase, .int .i64 x_6.1.fCall.fToken, .int .i8 x_6.1.fCall.fKind, S x_6.1.fCall.fPhys, S x_6.1.fCall.fType, .slice A_13 x_6.1.fCall.fProps.length cap_13, .int .i8 x_6.1.fState, S x_6.1.fPhys]) fun w_11 p_11 _ f => Y f 1 fun _ f => eT (RR (Y f 1 fun _ f => eT (R_seq (RR (Y f 1 fun _ f => eT (wp_block ?_))))))
      obtain ⟨b_4, hL_2, hF_16⟩ := bS hF_15
      refine wp_mono (Q := fun e a w => (e = .exit 2 ∧ (∃ y_3 : Bool, b_4 = y_3 ∧ ∃ M_10 : Mem, M_6.le M_10 ∧ Frm 107 [(1, .pointer (some (⟨b_1, 0, none⟩))), (3, .slice A_11 x_4.length cap_11), (4, .slice A_12 x_5.length cap_12), (5, .int .i64 s_1), (7, .bool x_6.2), (8, .bool y_3)] a ∧ Hp w0 M_10 ((Ent.obj b_3 (.cells #[.int .i64 x_6.1.fChange, .int .i8 x_6.1.fPhase, .int .i64 x_6.1.fCall.fToken, .int .i8 x_6.1.fCall.fKind, S x_6.1.fCall.fPhys, S x_6.1.fCall.fType, .slice A_13 x_6.1.fCall.fProps.length cap_13, .int .i8 x_6.1.fState, S x_6.1.fPhys] 44 (0, 0))) :: (Ent.row 47 1 (.slice A_12 x_5.length cap_12) x_5.length cs_1) :: H) w))) (R_loop (n := 107) (w0 := w0) (M := M_6) (fun (x : Nat × (Bool × Int)) => match x with | (m_3, s_2) => [(1, .pointer (some (⟨b_1, 0, none⟩))), (3, .slice A_11 x_4.length cap_11), (4, .slice A_12 x_5.length cap_12), (5, .int .i64 s_1), (7, .bool x_6.2), (8, .bool s_2.1), (9, .int .i64 s_2.2)]) (fun (x : Nat × (Bool × Int)) => match x with | (m_3, s_2) => ((Ent.obj b_3 (.cells #[.int .i64 x_6.1.fChange, .int .i8 x_6.1.fPhase, .int .i64 x_6.1.fCall.fToken, .int .i8 x_6.1.fCall.fKind, S x_6.1.fCall.fPhys, S x_6.1.fCall.fType, .slice A_13 x_6.1.fCall.fProps.length cap_13, .int .i8 x_6.1.fState, S x_6.1.fPhys] 44 (0, 0))) :: (Ent.row 47 1 (.slice A_12 x_5.length cap_12) x_5.length cs_1) :: H)) (fun (x : Nat × (Bool × Int)) (MM : Mem) => match x with | (m_3, s_2) => loopF (law26_BackBlocked_s2 n x_4 x_5 s_1) m_3 s_2 = some b_4) (fun (x : Nat × (Bool × Int)) => match x with | (m_3, s_2) => m_3) (n, ((false), (0 : Int))) (f.kp) p_11 hL_2 ?_) ?_
      ·rintro ⟨m_3, s_2⟩ M_7 _ w_12 hM_7 I_2 f p_12
       have I_2L := I_2
       obtain ⟨m_4, r_2, rfl, hs_2, hn_2⟩ := loop_step I_2L
       unfold law26_BackBlocked_s2 at hs_2
       refine R_seq (RR (Y f 4 fun _ f => eT (RcF f hs_2 (fun h_17 hF_17 => ?_) fun h_17 hF_37 => ?_)))
       ·have k_8 := dI.1 h_17
        refine wp_skip (T_n (R_seq (wp_block (RR (Y f 1 fun _ f => eT (wp_block ?_))))))
        obtain ⟨b_5, hL_3, hF_18⟩ := bS hF_17
        refine wp_mono (Q := fun e a w => (e = .exit 4 ∧ (∃ y_2 : Bool, b_5 = y_2 ∧ ∃ M_9 : Mem, M_7.le M_9 ∧ Frm 107 [(1, .pointer (some (⟨b_1, 0, none⟩))), (3, .slice A_11 x_4.length cap_11), (4, .slice A_12 x_5.length cap_12), (5, .int .i64 s_1), (7, .bool x_6.2), (8, .bool y_2), (9, .int .i64 s_2.2)] a ∧ Hp w0 M_9 ((Ent.obj b_3 (.cells #[.int .i64 x_6.1.fChange, .int .i8 x_6.1.fPhase, .int .i64 x_6.1.fCall.fToken, .int .i8 x_6.1.fCall.fKind, S x_6.1.fCall.fPhys, S x_6.1.fCall.fType, .slice A_13 x_6.1.fCall.fProps.length cap_13, .int .i8 x_6.1.fState, S x_6.1.fPhys] 44 (0, 0))) :: (Ent.row 47 1 (.slice A_12 x_5.length cap_12) x_5.length cs_1) :: H) w))) (R_loop (n := 107) (w0 := w0) (M := M_7) (fun (x : Nat × (Bool × Int)) => match x with | (m_5, s_3) => [(1, .pointer (some (⟨b_1, 0, none⟩))), (3, .slice A_11 x_4.length cap_11), (4, .slice A_12 x_5.length cap_12), (5, .int .i64 s_1), (7, .bool x_6.2), (8, .bool s_3.1), (9, .int .i64 s_2.2), (10, .int .i64 s_3.2)]) (fun (x : Nat × (Bool × Int)) => match x with | (m_5, s_3) => ((Ent.obj b_3 (.cells #[.int .i64 x_6.1.fChange, .int .i8 x_6.1.fPhase, .int .i64 x_6.1.fCall.fToken, .int .i8 x_6.1.fCall.fKind, S x_6.1.fCall.fPhys, S x_6.1.fCall.fType, .slice A_13 x_6.1.fCall.fProps.length cap_13, .int .i8 x_6.1.fState, S x_6.1.fPhys] 44 (0, 0))) :: (Ent.row 47 1 (.slice A_12 x_5.length cap_12) x_5.length cs_1) :: H)) (fun (x : Nat × (Bool × Int)) (MM : Mem) => match x with | (m_5, s_3) => loopF (law26_BackBlocked_s3 n x_4 x_5 s_1 s_2) m_5 s_3 = some b_5) (fun (x : Nat × (Bool × Int)) => match x with | (m_5, s_3) => m_5) (n, ((s_2.1), (0 : Int))) (f.kp) p_12 hL_3 ?_) ?_
        ·rintro ⟨m_5, s_3⟩ M_8 _ w_13 hM_8 I_3 f p_13
         have I_3L := I_3
         obtain ⟨m_6, r_3, rfl, hs_3, hn_3⟩ := loop_step I_3L
         unfold law26_BackBlocked_s3 at hs_3
         refine R_seq (RR (Y f 3 fun _ f => ?_))
         obtain ⟨x_7, hx_7, hF_19⟩ := bS hs_3
         obtain ⟨b_6, cap_14, hv_1, hcap_1⟩ := p_13.rowAddr 1 rfl (getI_pos hx_7)
         have f := f.st 47 (hv_1)
         refine Z f (Y27 rfl (ad := ⟨b_6, 0, none⟩) (len := x_5.length) (cap := cap_14) (k := .i64) (i := s_2.2) (e := 47) (sz := 1) (getI_nn hx_7) (getI_lt hx_7)) fun _ f => ?_
         have f := f.st 47 (hv_1.symm)
         obtain ⟨c_2, -, hr_3, hc_3⟩ := RepSeq.get s_2.2.toNat (szd_all (fun _ => szd_list _ _)) (RepSeq.mono (((hM_5.trans hM_6).trans hM_7).trans hM_8) _ _ hr_1) (getI_map hx_7)
         obtain ⟨A_14, cap_15, rfl, h_18⟩ := Rep.sli hr_3
         refine Z f (Y29 (v := .slice A_14 x_7.length cap_15) rfl (ad := (⟨b_6, 0, none⟩ : Addr).add (s_2.2.toNat * 1)) (by simpa [Addr.add] using (fun j v h => row_at (p_13.rowCell 1 rfl hv_1) hc_3 j v h) 0 _ rfl)) fun _ f => Y f 2 fun _ f => eT (RcF f hF_19 (fun h_19 hF_20 => ?_) fun h_19 hF_35 => ?_)
         ·have k_9 := dI.1 h_19
          refine wp_skip (T_n (R_seq (wp_block (R_reg (Y f 2 fun _ f => ?_)))))
          rcases cE hF_20 with ⟨h_20, hF_21⟩ | ⟨h_20, hF_23⟩
          ·have f := f.st 56 (cB h_20)
           refine Y f 25 fun _ f => W_end rfl (B_n (T_n (R_reg (Y f 1 fun _ f => ?_))))
           obtain ⟨g_1, hF_22⟩ := nS hF_21
           refine Y f 1 fun _ f => ?_
           have f := f.st 54 (congrArg (Value.int .i64) (inR_wrap g_1))
           refine Y f 1 fun _ f => eT ?_
           obtain rfl := sI hF_22
           exact ⟨⟨m_6, ((true), s_3.2 + 1)⟩, Nat.lt_succ_self _, M_8, hM_8, hn_3, f.kp, p_13⟩
          ·have f := f.st 56 (cB h_20)
           refine Y f 2 fun _ f => ?_
           obtain ⟨x_8, hx_8, hF_24⟩ := bS hF_23
           obtain ⟨b_7, cap_16, hv_2, hcap_2⟩ := p_13.rowAddr 1 rfl (getI_pos hx_8)
           have f := f.st 57 (hv_2)
           refine Z f (Y27 rfl (ad := ⟨b_7, 0, none⟩) (len := x_5.length) (cap := cap_16) (k := .i64) (i := s_2.2) (e := 47) (sz := 1) (getI_nn hx_8) (getI_lt hx_8)) fun _ f => ?_
           have f := f.st 57 (hv_2.symm)
           obtain ⟨c_3, -, hr_4, hc_4⟩ := RepSeq.get s_2.2.toNat (szd_all (fun _ => szd_list _ _)) (RepSeq.mono (((hM_5.trans hM_6).trans hM_7).trans hM_8) _ _ hr_1) (getI_map hx_8)
           obtain ⟨A_15, cap_17, rfl, h_21⟩ := Rep.sli hr_4
           refine Z f (Y29 (v := .slice A_15 x_8.length cap_17) rfl (ad := (⟨b_7, 0, none⟩ : Addr).add (s_2.2.toNat * 1)) (by simpa [Addr.add] using (fun j v h => row_at (p_13.rowCell 1 rfl hv_2) hc_4 j v h) 0 _ rfl)) fun _ f => Y f 1 fun _ f => ?_
           obtain ⟨x_9, hx_9, hF_25⟩ := bS hF_24
           obtain ⟨ad_1, c_4, e_1, -, hr_5, hc_5⟩ := Sli.at_ h_21 hx_9
           obtain rfl : c_4 = [.int .i64 x_9] := hr_5
           refine Z f (Y28 e_1 rfl (len := x_8.length) (cap := cap_17) (k := .i64) (i := s_3.2) (e := 3) (sz := 1) (getI_nn hx_9) (getI_lt hx_9)) fun _ f => Y14 f p_13 hc_5 0 rfl fun _ f => Y f 3 fun _ f => ?_
           rcases cE hF_25 with ⟨h_22, hF_26⟩ | ⟨h_22, hF_33⟩
           ·have k_12 := dI.1 h_22
            have f := f.st 66 (cB h_22)
            refine Y f 2 fun _ f => ?_
            obtain ⟨x_10, hx_10, hF_27⟩ := bS hF_26
            obtain ⟨ad_2, c_5, e_2, -, hr_6, hc_6⟩ := Sli.at_ (h_13.mono ((((hM_4.trans hM_5).trans hM_6).trans hM_7).trans hM_8)) hx_10
            obtain rfl : c_5 = [.int .i8 x_10] := hr_6
            refine Z f (Y28 e_2 rfl (len := x_4.length) (cap := cap_11) (k := .i64) (i := s_2.2) (e := 22) (sz := 1) (getI_nn hx_10) (getI_lt hx_10)) fun _ f => Y14 f p_13 hc_6 0 rfl fun _ f => Y f 2 fun _ f => ?_
            rcases cE hF_27 with ⟨h_23, hF_28⟩ | ⟨h_23, hF_30⟩
            ·have k_13 := dI.1 h_23
             have f := f.st 72 (cB h_23)
             refine Y f 9 fun _ f => W_end rfl (B_n (T_n (R_reg (Y f 1 fun _ f => ?_))))
             obtain ⟨g_2, hF_29⟩ := nS hF_28
             refine Y f 1 fun _ f => ?_
             have f := f.st 54 (congrArg (Value.int .i64) (inR_wrap g_2))
             refine Y f 1 fun _ f => eT ?_
             obtain rfl := sI hF_29
             exact ⟨⟨m_6, ((true), s_3.2 + 1)⟩, Nat.lt_succ_self _, M_8, hM_8, hn_3, f.kp, p_13⟩
            ·have k_14 := iff_f dI h_23
             have f := f.st 72 (cB h_23)
             refine Y f 2 fun _ f => ?_
             obtain ⟨x_11, hx_11, hF_31⟩ := bS hF_30
             obtain ⟨ad_3, c_6, e_3, -, hr_7, hc_7⟩ := Sli.at_ (h_13.mono ((((hM_4.trans hM_5).trans hM_6).trans hM_7).trans hM_8)) hx_11
             obtain rfl : c_6 = [.int .i8 x_11] := hr_7
             refine Z f (Y28 e_3 rfl (len := x_4.length) (cap := cap_11) (k := .i64) (i := s_2.2) (e := 22) (sz := 1) (getI_nn hx_11) (getI_lt hx_11)) fun _ f => Y14 f p_13 hc_7 0 rfl fun _ f => Y f 5 fun _ f => W_end rfl (B_n (T_n (R_reg (Y f 1 fun _ f => ?_))))
             obtain ⟨g_3, hF_32⟩ := nS hF_31
             refine Y f 1 fun _ f => ?_
             have f := f.st 54 (congrArg (Value.int .i64) (inR_wrap g_3))
             refine Y f 1 fun _ f => eT ?_
             obtain rfl := sI hF_32
             exact ⟨⟨m_6, ((decide (x_11 = 5)), s_3.2 + 1)⟩, Nat.lt_succ_self _, M_8, hM_8, hn_3, f.kp, p_13⟩
           ·have k_15 := iff_f dI h_22
            have f := f.st 66 (cB h_22)
            refine Y f 15 fun _ f => W_end rfl (B_n (T_n (R_reg (Y f 1 fun _ f => ?_))))
            obtain ⟨g_4, hF_34⟩ := nS hF_33
            refine Y f 1 fun _ f => ?_
            have f := f.st 54 (congrArg (Value.int .i64) (inR_wrap g_4))
            refine Y f 1 fun _ f => eT ?_
            obtain rfl := sI hF_34
            exact ⟨⟨m_6, ((false), s_3.2 + 1)⟩, Nat.lt_succ_self _, M_8, hM_8, hn_3, f.kp, p_13⟩
         ·have k_16 := iff_f dI h_19
          refine wp_exit (T_x (T_x ?_))
          obtain rfl := sI hF_35
          exact ⟨rfl, (s_3.1), (sI hn_3).symm, M_8, hM_8, f.kp, p_13⟩
        ·rintro _ _ w_15 ⟨rfl, y_2, hq_, M_9, hM_9, f, p_14⟩
         subst b_5
         refine B_x (B_n (T_n (R_reg (Y f 1 fun _ f => ?_))))
         obtain ⟨g_5, hF_36⟩ := nS hF_18
         refine Y f 1 fun _ f => ?_
         have f := f.st 45 (congrArg (Value.int .i64) (inR_wrap g_5))
         refine Y f 1 fun _ f => eT ?_
         obtain rfl := sI hF_36
         exact ⟨⟨m_4, ((y_2), s_2.2 + 1)⟩, Nat.lt_succ_self _, M_9, (hM_7.trans hM_9), hn_2, f.kp, p_14⟩
       ·have k_17 := iff_f dI h_17
        refine wp_exit (T_x (T_x ?_))
        obtain rfl := sI hF_37
        exact ⟨rfl, (s_2.1), (sI hn_2).symm, M_7, hM_7, f.kp, p_12⟩
      ·rintro _ _ w_17 ⟨rfl, y_3, hq_, M_10, hM_10, f, p_15⟩
       subst b_4
       refine B_x (T_n (RR (Y f 2 fun _ f => ?_)))
       obtain ⟨x_12, hx_12, hF_38⟩ := bS hF_16
       obtain ⟨ad_4, c_7, e_4, -, hr_8, hc_8⟩ := Sli.at_ (h_13.mono (((hM_4.trans hM_5).trans hM_6).trans hM_10)) hx_12
       obtain rfl : c_7 = [.int .i8 x_12] := hr_8
       refine Z f (Y28 e_4 rfl (len := x_4.length) (cap := cap_11) (k := .i64) (i := s_1) (e := 22) (sz := 1) (getI_nn hx_12) (getI_lt hx_12)) fun _ f => Y14 f p_15 hc_8 0 rfl fun _ f => Y f 2 fun _ f => ?_
       rcases cE hF_38 with ⟨h_24, hF_39⟩ | ⟨h_24, hF_51⟩
       ·have k_18 := dI.1 h_24
        have f := f.st 86 (cB h_24)
        refine Y f 2 fun _ f => ?_
        rcases cE hF_39 with ⟨h_25, hF_40⟩ | ⟨h_25, hF_41⟩
        ·have f := f.st 88 (cB h_25)
         refine Y f 17 fun _ f => eT (Y8 f (RR (Y f 1 fun _ f => eT (wp_ret (B_r (T_r (T_r ?_)))))))
         obtain rfl := sI hF_40
         exact .inl ⟨rfl, (), (sI hn_1).symm, M_10, ((hM_5.trans hM_6).trans hM_10), f.kp, (p_15.dropN 1)⟩
        ·have f := f.st 88 (cB h_25)
         refine Y f 5 fun _ f => ?_
         rcases cE hF_41 with ⟨h_26, hF_42⟩ | ⟨h_26, hF_43⟩
         ·have k_21 : (y_3) = false := by simpa using h_26
          have f := f.st 93 (cB h_26)
          refine Y f 12 fun _ f => eT (Y8 f (RR (Y f 1 fun _ f => eT (wp_ret (B_r (T_r (T_r ?_)))))))
          obtain rfl := sI hF_42
          exact .inl ⟨rfl, (), (sI hn_1).symm, M_10, ((hM_5.trans hM_6).trans hM_10), f.kp, (p_15.dropN 1)⟩
         ·have k_22 : (y_3) = true := by simpa using h_26
          have f := f.st 93 (cB h_26)
          refine Y f 2 fun _ f => ?_
          obtain ⟨x_13, hx_13, hF_44⟩ := bS hF_43
          obtain ⟨ad_5, c_8, e_5, -, hr_9, hc_9⟩ := Sli.at_ (h_13.mono (((hM_4.trans hM_5).trans hM_6).trans hM_10)) hx_13
          obtain rfl : c_8 = [.int .i8 x_13] := hr_9
          refine Z f (Y28 e_5 rfl (len := x_4.length) (cap := cap_11) (k := .i64) (i := s_1) (e := 22) (sz := 1) (getI_nn hx_13) (getI_lt hx_13)) fun _ f => Y14 f p_15 hc_9 0 rfl fun _ f => Y f 2 fun _ f => ?_
          rcases cE hF_44 with ⟨h_27, hF_45⟩ | ⟨h_27, hF_49⟩
          ·have k_23 := dI.1 h_27
           have f := f.st 99 (cB h_27)
           refine Y f 2 fun _ f => ?_
           have f := f.st 101 (cB h_25)
           refine Y f 4 fun _ f => eT (RcF f hF_45 (fun h_28 hF_46 => ?_) fun h_28 hF_47 => ?_)
           ·refine RR (Y f 1 fun _ f => eT (wp_ret (B_r (T_r (T_r ?_)))))
            obtain rfl := sI hF_46
            exact .inl ⟨rfl, (), (sI hn_1).symm, M_10, ((hM_5.trans hM_6).trans hM_10), f.kp, (p_15.dropN 1)⟩
           ·refine wp_skip (B_n (T_n (R_reg (Y f 1 fun _ f => ?_))))
            obtain ⟨g_6, hF_48⟩ := nS hF_47
            refine Y f 1 fun _ f => ?_
            have f := f.st 33 (congrArg (Value.int .i64) (inR_wrap g_6))
            refine Y f 1 fun _ f => eT ?_
            obtain rfl := sI hF_48
            exact ⟨⟨m_2, s_1 + 1⟩, Nat.lt_succ_self _, M_10, ((hM_5.trans hM_6).trans hM_10), hn_1, f.kp, (p_15.dropN 1)⟩
          ·have k_26 := iff_f dI h_27
           have f := f.st 99 (cB h_27)
           refine Y f 6 fun _ f => eT (Y7 f (wp_skip (B_n (T_n (R_reg (Y f 1 fun _ f => ?_))))))
           obtain ⟨g_7, hF_50⟩ := nS hF_49
           refine Y f 1 fun _ f => ?_
           have f := f.st 33 (congrArg (Value.int .i64) (inR_wrap g_7))
           refine Y f 1 fun _ f => eT ?_
           obtain rfl := sI hF_50
           exact ⟨⟨m_2, s_1 + 1⟩, Nat.lt_succ_self _, M_10, ((hM_5.trans hM_6).trans hM_10), hn_1, f.kp, (p_15.dropN 1)⟩
       ·have k_27 := iff_f dI h_24
        have f := f.st 86 (cB h_24)
        refine Y f 9 fun _ f => ?_
        obtain ⟨x_14, hx_14, hF_52⟩ := bS hF_51
        obtain ⟨ad_6, c_9, e_6, -, hr_10, hc_10⟩ := Sli.at_ (h_13.mono (((hM_4.trans hM_5).trans hM_6).trans hM_10)) hx_14
        obtain rfl : c_9 = [.int .i8 x_14] := hr_10
        refine Z f (Y28 e_6 rfl (len := x_4.length) (cap := cap_11) (k := .i64) (i := s_1) (e := 22) (sz := 1) (getI_nn hx_14) (getI_lt hx_14)) fun _ f => Y14 f p_15 hc_10 0 rfl fun _ f => Y f 2 fun _ f => ?_
        rcases cE hF_52 with ⟨h_29, hF_53⟩ | ⟨h_29, hF_59⟩
        ·have k_28 := dI.1 h_29
         have f := f.st 99 (cB h_29)
         refine Y f 2 fun _ f => ?_
         rcases cE hF_53 with ⟨h_30, hF_54⟩ | ⟨h_30, hF_55⟩
         ·have f := f.st 101 (cB h_30)
          refine Y f 4 fun _ f => eT (Y8 f (RR (Y f 1 fun _ f => eT (wp_ret (B_r (T_r (T_r ?_)))))))
          obtain rfl := sI hF_54
          exact .inl ⟨rfl, (), (sI hn_1).symm, M_10, ((hM_5.trans hM_6).trans hM_10), f.kp, (p_15.dropN 1)⟩
         ·have f := f.st 101 (cB h_30)
          refine Y f 4 fun _ f => eT (RcF f hF_55 (fun h_31 hF_56 => ?_) fun h_31 hF_57 => ?_)
          ·refine RR (Y f 1 fun _ f => eT (wp_ret (B_r (T_r (T_r ?_)))))
           obtain rfl := sI hF_56
           exact .inl ⟨rfl, (), (sI hn_1).symm, M_10, ((hM_5.trans hM_6).trans hM_10), f.kp, (p_15.dropN 1)⟩
          ·refine wp_skip (B_n (T_n (R_reg (Y f 1 fun _ f => ?_))))
           obtain ⟨g_8, hF_58⟩ := nS hF_57
           refine Y f 1 fun _ f => ?_
           have f := f.st 33 (congrArg (Value.int .i64) (inR_wrap g_8))
           refine Y f 1 fun _ f => eT ?_
           obtain rfl := sI hF_58
           exact ⟨⟨m_2, s_1 + 1⟩, Nat.lt_succ_self _, M_10, ((hM_5.trans hM_6).trans hM_10), hn_1, f.kp, (p_15.dropN 1)⟩
        ·have k_33 := iff_f dI h_29
         have f := f.st 99 (cB h_29)
         refine Y f 6 fun _ f => eT (Y7 f (wp_skip (B_n (T_n (R_reg (Y f 1 fun _ f => ?_))))))
         obtain ⟨g_9, hF_60⟩ := nS hF_59
         refine Y f 1 fun _ f => ?_
         have f := f.st 33 (congrArg (Value.int .i64) (inR_wrap g_9))
         refine Y f 1 fun _ f => eT ?_
         obtain rfl := sI hF_60
         exact ⟨⟨m_2, s_1 + 1⟩, Nat.lt_succ_self _, M_10, ((hM_5.trans hM_6).trans hM_10), hn_1, f.kp, (p_15.dropN 1)⟩
     ·have k_34 := iff_f dI h_15
      refine wp_exit (T_x (T_x ?_))
      obtain rfl := sI hF_61
      exact .inr ⟨rfl, (), (sI hn_1).symm, M_5, hM_5, f.kp, p_8⟩
    ·rintro _ _ w_20 (⟨rfl, y_4, rfl, M_11, hM_11, f, p_16⟩ | ⟨rfl, y_5, rfl, M_12, hM_12, f, p_17⟩)
     ·refine B_r (T_r (E_ret1 f rfl (by kernel_rfl : Vc.look _ 2 = some (.bool false)) ?_))
      obtain rfl := sI hF_13
      exact ⟨_, rfl, M_11, ((((hM_1.trans hM_2).trans hM_3).trans hM_4).trans hM_11), (p_16.dropN 1), rfl⟩
     ·refine B_x (T_n (RR ?_))
      obtain ⟨x_15, hx_15, hF_62⟩ := bS hF_13
      refine Y17 f p_17 (law26_wakes_ok n _  x_15 hx_15) fun w_21 p_18 _ f => Y f 1 fun _ f => eT (wp_ret (E_ret1 f rfl (by kernel_rfl : Vc.look _ 2 = some (.bool x_15)) ?_))
      obtain rfl := sI hF_62
      exact ⟨_, rfl, M_12, ((((hM_1.trans hM_2).trans hM_3).trans hM_4).trans hM_12), (p_18.dropN 1), rfl⟩
end Go.Proofs.YtfdmlionhbeebaaGreat
end

section
namespace Go.Proofs.YtfdmlionhbeebaaGreat
open Go Go.Vc
theorem wakes26 : law26_wakes 10000 = some true := by decide +kernel
end Go.Proofs.YtfdmlionhbeebaaGreat
end

section
namespace Go.Proofs.YtfdmlionhbeebaaGreat
open Go Go.Vc Go.RowKit
theorem leans_at {l : List TC0} {R : LL} (h : LeansOf l R) {r : List Int} (hr : r ∈ R) : ∃ i, i < l.length ∧ R.getD i [] = r := by
 obtain ⟨i, hi, rfl⟩ := List.getElem_of_mem hr
 exact ⟨i, h.len ▸ hi, by simp [List.getD, hi]⟩
theorem leans_in {l : List TC0} {R : LL} (h : LeansOf l R) : ∀ r ∈ R, ∀ x ∈ r, 0 ≤ x ∧ x < R.length := by
 intro r hr x hx
 obtain ⟨i, hi, rfl⟩ := leans_at h hr
 have := hits_in ((h.row i hi x).1 hx)
 rw [h.len]; exact this
theorem leans_sm {l : List TC0} {R : LL} (h : LeansOf l R) (hl : l.length ≤ 60) : Sm R := ⟨by rw [h.len]; omega, fun r hr => by
 obtain ⟨i, hi, rfl⟩ := leans_at h hr
 have := h.sz i hi
 omega⟩
theorem bind_any {α β : Type} {X : Option α} {f : α → Option β} {P : α → Prop} {Q : β → Prop} (h1 : ∃ y, X = some y ∧ P y) (h2 : ∀ y, P y → ∃ z, f y = some z ∧ Q z) : ∃ z, X.bind f = some z ∧ Q z := by
 obtain ⟨y, rfl, hy⟩ := h1
 rw [bnd]
 exact h2 y hy
theorem of_ok {n : Nat} {a b c d : Int} {e f : List UInt8} {g : List TE0} {s : Int} {p : List UInt8} (h0 : 0 ≤ s) (h1 : s ≤ 2) : ∃ y, forward_of n a b c d e f g s p = some y ∧ True := by
 unfold forward_of
 rw [need_t ⟨h0, by omega⟩]
 cases decide (s = 0)
 ·rw [cF]
  cases decide (s = 1)
  ·rw [cF]; exact ⟨_, rfl, trivial⟩
  ·rw [cT]; exact ⟨_, rfl, trivial⟩
 ·rw [cT]; exact ⟨_, rfl, trivial⟩
theorem task_st {w : TK0} (h : Okt w) {t : TR0} (ht : t ∈ w.fTasks) : 0 ≤ t.fState ∧ t.fState ≤ 2 := by
 obtain ⟨k, hk, rfl⟩ := List.getElem_of_mem ht
 obtain ⟨_, _, _, a, b, _, _⟩ := h.tk k hk
 exact ⟨a, b⟩
theorem states_fwd {n : Nat} (hn : 3000 < n) (w : TK0) (hs : Sml w) (h : Okt w) : ∃ st, forward_States n w = some st ∧ st.length = w.fChanges.length := by
 have ht := hs.tk
 have hc := hs.ch
 unfold forward_States
 rw [may_own hn w hs h, bnd, Bool.not_true, cF]
 obtain ⟨b, hb, pb⟩ := loop_inv (step := forward_States_s1 n w) (n := n) (s0 := (([] : List Int), (0 : Int))) (fun k s => s.2 = (k : Int) ∧ s.1.length = k) (fun b => b.length = w.fChanges.length) w.fChanges.length ⟨rfl, rfl⟩
  (fun k s hk hI => by
   obtain ⟨o, i⟩ := s
   obtain ⟨rfl, e⟩ := hI
   dsimp only at e
   left
   obtain ⟨r, hr, h1, h2⟩ := task_own hn w ht (k : Int) 0
   have key : ∃ z, forward_States_s1 n w (o, (k : Int)) = some z ∧ ∃ s', z = .nx s' ∧ s'.2 = ((k + 1 : Nat) : Int) ∧ s'.1.length = k + 1 := by
    unfold forward_States_s1
    dsimp only
    rw [decide_eq_true (by omega), cT, getI_here hk, bnd, hr, bnd]
    refine bind_any (P := fun _ => True) ?_ fun y1 _ => ?_
    ·cases e2 : r.2 with
     | true =>
      rw [cT]
      obtain ⟨a, b⟩ := task_st h (h2 e2)
      exact bind_any (of_ok a b) fun y _ => ⟨_, rfl, trivial⟩
     | false => rw [cF]; exact ⟨_, rfl, trivial⟩
    ·refine bind_any (P := fun _ => True) ?_ fun y2 _ => bind_any (P := fun _ => True) ?_ fun y3 _ => ?_
     ·cases (!decide (w.fChanges[k].fKind = 1))
      ·rw [cF]; exact ⟨_, rfl, trivial⟩
      ·rw [cT]
       cases (!decide (w.fChanges[k].fKind = 2))
       ·rw [cF]; exact ⟨_, rfl, trivial⟩
       ·rw [cT]; exact ⟨_, rfl, trivial⟩
     ·cases y2
      ·rw [cF]; exact ⟨_, rfl, trivial⟩
      ·rw [cT]; exact ⟨_, rfl, trivial⟩
     ·rw [need_t (by omega), need_i (by omega) (by omega)]
      exact ⟨_, rfl, _, rfl, by simp, by dsimp only; simp [e]⟩
   obtain ⟨z, hz, s', rfl, p⟩ := key
   exact ⟨s', hz, p⟩)
  (fun s hI => by
   obtain ⟨o, i⟩ := s
   obtain ⟨rfl, e⟩ := hI
   unfold forward_States_s1
   dsimp only
   rw [decide_eq_false (by omega), cF]
   exact ⟨_, rfl, e⟩) (by omega)
 rw [hb, bnd]
 exact ⟨_, rfl, pb⟩
theorem at3 {n : Nat} (hn : 3000 < n) (st : List Int) (hl : st.length ≤ 60) : ∃ G, back_at n st [(3 : Int)] = some G ∧ G.length ≤ st.length ∧ ∀ x ∈ G, 0 ≤ x ∧ x < st.length := by
 unfold back_at
 obtain ⟨b, hb, p1, p2⟩ := loop_inv (step := back_at_s1 n st [(3 : Int)]) (n := n) (s0 := (([] : List Int), (0 : Int))) (fun k s => s.2 = (k : Int) ∧ s.1.length ≤ k ∧ ∀ x ∈ s.1, 0 ≤ x ∧ x < st.length) (fun b => b.length ≤ st.length ∧ ∀ x ∈ b, 0 ≤ x ∧ x < st.length) st.length ⟨rfl, Nat.le_refl _, fun x h => by cases h⟩
  (fun k s hk hI => by
   obtain ⟨o, i⟩ := s
   obtain ⟨rfl, e1, e2⟩ := hI
   dsimp only at e1 e2
   left
   unfold back_at_s1
   dsimp only
   rw [decide_eq_true (by omega), cT]
   obtain ⟨b, hb, q1, q2⟩ := loop_inv (step := back_at_s2 n st [(3 : Int)] (o, (k : Int))) (n := n) (s0 := (o, (0 : Int))) (fun q s => s.2 = (q : Int) ∧ s.1.length ≤ o.length + q ∧ ∀ x ∈ s.1, 0 ≤ x ∧ x < st.length) (fun b => b.length ≤ o.length + 1 ∧ ∀ x ∈ b, 0 ≤ x ∧ x < st.length) 1 ⟨rfl, Nat.le_refl _, e2⟩
    (fun q s hq hI => by
     obtain ⟨o2, j⟩ := s
     obtain ⟨rfl, f1, f2⟩ := hI
     dsimp only at f1 f2
     have hq0 : q = 0 := by omega
     subst hq0
     left
     unfold back_at_s2
     dsimp only
     have g3 : getI [(3 : Int)] ((0 : Nat) : Int) = some 3 := by simp [getI]
     rw [decide_eq_true (by simp), cT, g3, bnd, getI_here hk, bnd]
     by_cases h3 : st[k] = 3
     ·rw [decide_eq_true h3, cT, need_t (by omega), need_i (by omega) (by omega)]
      refine ⟨_, rfl, by simp, by dsimp only; simp; omega, fun x hx => ?_⟩
      dsimp only at hx
      rcases List.mem_append.1 hx with hx | hx
      ·exact f2 x hx
      ·rw [List.mem_singleton] at hx; subst hx; omega
     ·rw [decide_eq_false h3, cF, need_i (by omega) (by omega)]
      exact ⟨_, rfl, by simp, by dsimp only; omega, f2⟩)
    (fun s hI => by
     obtain ⟨o2, j⟩ := s
     obtain ⟨rfl, f1, f2⟩ := hI
     unfold back_at_s2
     dsimp only
     rw [decide_eq_false (by simp), cF]
     exact ⟨_, rfl, f1, f2⟩) (by omega)
   rw [hb, bnd, need_i (by omega) (by omega)]
   exact ⟨_, rfl, by simp, by dsimp only; omega, q2⟩)
  (fun s hI => by
   obtain ⟨o, i⟩ := s
   obtain ⟨rfl, e1, e2⟩ := hI
   unfold back_at_s1
   dsimp only
   rw [decide_eq_false (by omega), cF]
   exact ⟨_, rfl, e1, e2⟩) (by omega)
 rw [hb, bnd]
 exact ⟨_, rfl, p1, p2⟩
theorem goes_back {n : Nat} (hn : 3000 < n) (w : TK0) (hs : Sml w) (h : Okt w) : ∃ G, back_Goes n w = some G ∧ G.length ≤ 60 ∧ ∀ x ∈ G, 0 ≤ x ∧ x < w.fChanges.length := by
 obtain ⟨st, h1, h2⟩ := states_fwd hn w hs h
 have hc := hs.ch
 obtain ⟨G, h3, h4, h5⟩ := at3 hn st (by omega)
 unfold back_Goes
 rw [h1, bnd, h3, bnd]
 exact ⟨G, rfl, by omega, fun x hx => by have := h5 x hx; omega⟩
theorem getD_set0 {o : List Int} {i j : Nat} {v : Int} (hi : i < o.length) : (o.set i v).getD j 0 = if i = j then v else o.getD j 0 := by
 simp only [List.getD_eq_getElem?_getD, List.getElem?_set]
 by_cases h : i = j
 ·subst h; simp [hi]
 ·simp [h]
def StB (w : TK0) (o : List Int) : Prop := o.length = w.fChanges.length ∧ ∀ i, i < o.length → 0 ≤ o.getD i 0 ∧ o.getD i 0 ≤ 4 ∧ (o.getD i 0 = 1 → w.fTasks.any (isT i 1) = false)
theorem StB.put {w : TK0} {o : List Int} (h : StB w o) {k : Nat} (hk : k < w.fChanges.length) {v : Int} (h0 : 0 ≤ v) (h4 : v ≤ 4) (h1 : v = 1 → w.fTasks.any (isT k 1) = false) : StB w (o.set k v) := by
 obtain ⟨a, b⟩ := h
 refine ⟨by rw [List.length_set]; exact a, fun i hi => ?_⟩
 rw [List.length_set] at hi
 rw [getD_set0 (by omega)]
 by_cases e : k = i
 ·subst e; rw [if_pos rfl]; exact ⟨h0, h4, h1⟩
 ·rw [if_neg e]; exact b i hi
theorem states_back {n : Nat} (hn : 3000 < n) (w : TK0) (hs : Sml w) (h : Okt w) : ∃ R st, LeansOf (keptL w.fChanges) R ∧ back_States n w = some (settledL (turnedL R) st) ∧ StB w st := by
 have ht := hs.tk
 have hc := hs.ch
 obtain ⟨G, hG, hG1, hG2⟩ := goes_back hn w hs h
 obtain ⟨R, hR, pR⟩ := leans_back hn w hs
 obtain ⟨b, hb, pb⟩ := loop_inv (step := back_States_s1 n w G) (n := n) (s0 := (List.replicate ((w.fChanges.length : Nat) : Int).toNat (0 : Int), (0 : Int))) (fun k s => s.2 = (k : Int) ∧ StB w s.1) (fun b => StB w b) G.length
  ⟨rfl, by simp, fun i hi => by
   have : (List.replicate ((w.fChanges.length : Nat) : Int).toNat (0 : Int)).getD i 0 = 0 := by simp [List.getD_eq_getElem?_getD, List.getElem?_replicate]; split <;> rfl
   dsimp only
   rw [this]
   exact ⟨by omega, by omega, fun h => by omega⟩⟩
  (fun k s hk hI => by
   obtain ⟨o, i0⟩ := s
   obtain ⟨rfl, hI⟩ := hI
   dsimp only at hI
   left
   obtain ⟨x0, x1⟩ := hG2 _ (List.getElem_mem hk)
   obtain ⟨m, hm⟩ := Int.eq_ofNat_of_zero_le x0
   have hmc : m < w.fChanges.length := by omega
   have hol := hI.1
   obtain ⟨r, hr, h1, h2⟩ := task_own hn w ht (m : Int) 1
   have hg : ∀ o' : List Int, o'.length = w.fChanges.length → ∃ y, getI o' ((m : Nat) : Int) = some y := fun o' e => ⟨_, getI_at 0 (by omega)⟩
   unfold back_States_s1
   dsimp only
   obtain ⟨y, hy⟩ := hg o hol
   rw [decide_eq_true (by omega), cT, getI_here hk, bnd, hm, hy, bnd, hr, bnd, Int.toNat_natCast]
   obtain ⟨y2, hy2⟩ := hg (o.set m 1) (by rw [List.length_set]; exact hol)
   have nn : ∀ (v : Int), 0 ≤ v → v ≤ 4 → v ≠ 1 → StB w ((o.set m 1).set m v) := fun v a b c => by
    rw [List.set_set]
    exact hI.put hmc a b (fun e => absurd e c)
   cases e2 : r.2 with
   | true =>
    obtain ⟨a, b⟩ := task_st h (h2 e2)
    rw [cT, need_t ⟨a, by omega⟩]
    by_cases s0 : r.1.fState = 0
    ·rw [decide_eq_true s0, cT, hy2, bnd, need_i (by omega) (by omega)]
     exact ⟨_, rfl, by simp, nn 2 (by omega) (by omega) (by omega)⟩
    ·rw [decide_eq_false s0, cF]
     by_cases s1 : r.1.fState = 1
     ·rw [decide_eq_true s1, cT, hy2, bnd, need_i (by omega) (by omega)]
      exact ⟨_, rfl, by simp, nn 3 (by omega) (by omega) (by omega)⟩
     ·rw [decide_eq_false s1, cF, hy2, bnd, need_i (by omega) (by omega)]
      exact ⟨_, rfl, by simp, nn 4 (by omega) (by omega) (by omega)⟩
   | false =>
    rw [cF, need_i (by omega) (by omega)]
    exact ⟨_, rfl, by simp, hI.put hmc (by omega) (by omega) fun _ => by rw [← h1, e2]⟩)
  (fun s hI => by
   obtain ⟨o, i0⟩ := s
   obtain ⟨rfl, hI⟩ := hI
   unfold back_States_s1
   dsimp only
   rw [decide_eq_false (by omega), cF]
   exact ⟨_, rfl, hI⟩) (by omega)
 refine ⟨R, b, pR, ?_, pb⟩
 have hRl : R.length = w.fChanges.length := by rw [pR.len, keptL_len]
 have hsm : Sm R := leans_sm pR (by rw [keptL_len]; exact hc)
 unfold back_States
 rw [may_own hn w hs h, bnd, Bool.not_true, cF, need_t ⟨by omega, by omega, by omega⟩, hG, bnd, hb, bnd, hR, bnd, settle_eq R b true hsm (by omega), bnd]
 have hm : mayB R b = true := mayB_of (by rw [hRl, pb.1]) (fun i hi => by have := pb.2 i hi; omega) (leans_in pR)
 rw [hm, cT]
 rfl
theorem left_s3 {n : Nat} (hn : 3000 < n) {st : List Int} {R : LL} {i k : Nat} (hk : k < R.length) (hks : k < st.length) (hz : (R.getD k []).length ≤ 60) (b0 : Bool) :
  ∃ b, loopF (law26_BackBlocked_s3 n st R (i : Int) (b0, (k : Int))) n (b0, (0 : Int)) = some b ∧ (b = true ↔ b0 = true ∨ ((i : Int) ∈ R.getD k [] ∧ blocksB (st.getD k 0) = true)) := by
 obtain ⟨row, hrow⟩ : ∃ r, r = R.getD k [] := ⟨_, rfl⟩
 rw [← hrow] at hz ⊢
 have hgr : getI R (k : Int) = some row := by rw [hrow]; exact getI_D hk
 have hgs : getI st (k : Int) = some (st.getD k 0) := getI_at 0 hks
 exact loop_inv (step := law26_BackBlocked_s3 n st R (i : Int) (b0, (k : Int))) (n := n) (s0 := (b0, (0 : Int)))
  (fun q s => s.2 = (q : Int) ∧ (s.1 = true ↔ b0 = true ∨ ((i : Int) ∈ row.take q ∧ blocksB (st.getD k 0) = true)))
  (fun b => b = true ↔ b0 = true ∨ ((i : Int) ∈ row ∧ blocksB (st.getD k 0) = true)) row.length ⟨rfl, by simp⟩
  (fun q s hq hI => by
   obtain ⟨c, q0⟩ := s
   obtain ⟨rfl, hI⟩ := hI
   dsimp only at hI
   left
   unfold law26_BackBlocked_s3
   dsimp only
   rw [hgr, bnd, decide_eq_true (by omega), cT]
   have hT : ∀ x, x ∈ row.take (q + 1) ↔ (x ∈ row.take q ∨ x = row[q]) := fun x => by
    rw [List.take_succ_eq_append_getElem hq, List.mem_append, List.mem_singleton]
   cases c with
   | true =>
    rw [cT, need_i (by omega) (by omega)]
    refine ⟨_, rfl, by simp, ?_⟩
    dsimp only
    constructor
    ·intro _
     rcases hI.1 rfl with h | ⟨h1, h2⟩
     ·exact .inl h
     ·exact .inr ⟨(hT _).2 (.inl h1), h2⟩
    ·intro _; rfl
   | false =>
    have hno : ¬ (b0 = true ∨ ((i : Int) ∈ row.take q ∧ blocksB (st.getD k 0) = true)) := fun h => by have := hI.2 h; cases this
    rw [cF, bnd, getI_here hq, bnd]
    by_cases e : row[q] = (i : Int)
    ·rw [decide_eq_true e, cT, hgs, bnd]
     by_cases e4 : st.getD k 0 = 4
     ·rw [decide_eq_true e4, cT, need_i (by omega) (by omega)]
      exact ⟨_, rfl, by simp, fun _ => .inr ⟨(hT _).2 (.inr e.symm), by unfold blocksB; rw [decide_eq_true e4]; rfl⟩, fun _ => rfl⟩
     ·rw [decide_eq_false e4, cF, bnd, need_i (by omega) (by omega)]
      refine ⟨_, rfl, by simp, fun h => .inr ⟨(hT _).2 (.inr e.symm), ?_⟩, fun h => ?_⟩
      ·unfold blocksB; rw [of_decide_eq_true h]; rfl
      ·rcases h with h | ⟨_, h⟩
       ·exact absurd (.inl h) hno
       ·unfold blocksB at h
        rw [decide_eq_false e4, Bool.false_or] at h
        exact h
    ·rw [decide_eq_false e, cF, need_i (by omega) (by omega)]
     refine ⟨_, rfl, by simp, (fun h => by cases h), fun h => ?_⟩
     rcases h with h | ⟨h1, h2⟩
     ·exact absurd (.inl h) hno
     ·rcases (hT _).1 h1 with h1 | h1
      ·exact absurd (.inr ⟨h1, h2⟩) hno
      ·exact absurd h1.symm e)
  (fun s hI => by
   obtain ⟨c, q0⟩ := s
   obtain ⟨rfl, hI⟩ := hI
   dsimp only at hI
   rw [List.take_length] at hI
   unfold law26_BackBlocked_s3
   dsimp only
   rw [hgr, bnd, decide_eq_false (by omega), cF]
   exact ⟨_, rfl, hI⟩) (by omega)
theorem left_s2 {n : Nat} (hn : 3000 < n) {st : List Int} {R : LL} {i : Nat} (hR : R.length ≤ 60) (hl : R.length = st.length) (hz : ∀ k, k < R.length → (R.getD k []).length ≤ 60) :
  ∃ b, loopF (law26_BackBlocked_s2 n st R (i : Int)) n (false, (0 : Int)) = some b ∧ (b = true ↔ LeftP R st i) :=
 loop_inv (step := law26_BackBlocked_s2 n st R (i : Int)) (n := n) (s0 := (false, (0 : Int)))
  (fun q s => s.2 = (q : Int) ∧ (s.1 = true ↔ ∃ k, k < q ∧ k < R.length ∧ (i : Int) ∈ R.getD k [] ∧ blocksB (st.getD k 0) = true))
  (fun b => b = true ↔ LeftP R st i) R.length ⟨rfl, by simp⟩
  (fun q s hq hI => by
   obtain ⟨c, q0⟩ := s
   obtain ⟨rfl, hI⟩ := hI
   dsimp only at hI
   left
   unfold law26_BackBlocked_s2
   dsimp only
   obtain ⟨b, hb, pb⟩ := left_s3 (n := n) (st := st) (R := R) (i := i) (k := q) hn hq (hl ▸ hq) (hz q hq) c
   rw [decide_eq_true (by omega), cT, hb, bnd, need_i (by omega) (by omega)]
   refine ⟨_, rfl, by simp, ?_⟩
   dsimp only
   rw [pb, hI]
   constructor
   ·rintro (⟨k, a, b, c⟩ | ⟨a, b⟩)
    ·exact ⟨k, by omega, b, c⟩
    ·exact ⟨q, by omega, hq, a, b⟩
   ·rintro ⟨k, a, b, c⟩
    by_cases e : k = q
    ·subst e; exact .inr c
    ·exact .inl ⟨k, by omega, b, c⟩)
  (fun s hI => by
   obtain ⟨c, q0⟩ := s
   obtain ⟨rfl, hI⟩ := hI
   dsimp only at hI
   unfold law26_BackBlocked_s2
   dsimp only
   rw [decide_eq_false (by omega), cF]
   refine ⟨_, rfl, hI.trans ⟨?_, ?_⟩⟩
   ·rintro ⟨k, _, b, c⟩; exact ⟨k, b, c⟩
   ·rintro ⟨k, b, c⟩; exact ⟨k, b, b, c⟩) (by omega)
theorem blocked26 (w : TK0) (hb : dsz (emb_TK0 w) ≤ 1048576) : law26_BackBlocked 10000 w = some true := by
 have hn : 3000 < 10000 := by omega
 obtain ⟨g, hg, pg⟩ := great22 hn w hb
 unfold law26_BackBlocked
 rw [hg, bnd]
 cases g with
 | true => rw [cT, bnd, cT, wakes26, bnd]
 | false =>
  have hs := pg rfl
  have hc := hs.ch
  have ht := hs.tk
  obtain ⟨m, hm, pm⟩ := may_ref hn w hs
  rw [cF, hm, bnd, bnd]
  cases m with
  | false => rw [Bool.not_false, cT, wakes26, bnd]
  | true =>
   have h := pm rfl
   obtain ⟨R, st, pR, hS, hSt⟩ := states_back hn w hs h
   obtain ⟨R2, hR2, pR2⟩ := leans25 hn w hs
   have hRl : R.length = w.fChanges.length := by rw [pR.len, keptL_len]
   have hR2l : R2.length = w.fChanges.length := by rw [pR2.len, keptL_len]
   have hsl := settled_len (turnedL R) st
   have hst := hSt.1
   rw [Bool.not_true, cF, hS, bnd, hR2, bnd, decide_eq_true (by omega), Bool.not_true, cF]
   obtain ⟨b, hb, ⟨u, rfl⟩⟩ := loop_inv (step := law26_BackBlocked_s1 10000 w (settledL (turnedL R) st) R2) (n := 10000) (s0 := (0 : Int)) (fun k t => t = (k : Int)) (fun b => ∃ u, b = .inr u) w.fChanges.length rfl
    (fun k t hk hI => by
     subst hI
     left
     obtain ⟨r, hr, h1⟩ := task_ref hn w ht (k : Int) 1
     obtain ⟨y, hy, py⟩ := left_s2 hn (st := settledL (turnedL R) st) (R := R2) (i := k) (by omega) (by omega) (fun k hk => pR2.sz k (by rw [keptL_len]; omega))
     obtain ⟨B1, B2⟩ := blocked_law (R := R) (st := st) (i := k) (by omega) (fun i hi => (hSt.2 i hi).2.1) (by omega)
     have hgs : getI (settledL (turnedL R) st) (k : Int) = some ((settledL (turnedL R) st).getD k 0) := getI_at 0 (by omega)
     unfold law26_BackBlocked_s1
     rw [decide_eq_true (by omega), cT, hr, bnd, hy, bnd, hgs, bnd]
     by_cases e5 : (settledL (turnedL R) st).getD k 0 = 5
     ·obtain ⟨w1, w2⟩ := B1 e5
      have hno := (hSt.2 k (by omega)).2.2 w1
      have hyt : y = true := py.2 (left_of pR pR2 w2)
      rw [decide_eq_true e5, cT, h1, hno, cF, hyt, Bool.not_true, cF, bnd, decide_eq_false (by omega), cF, need_i (by omega) (by omega)]
      exact ⟨_, rfl, by simp⟩
     ·rw [decide_eq_false e5, cF, bnd]
      by_cases e1 : (settledL (turnedL R) st).getD k 0 = 1
      ·obtain ⟨w1, w2⟩ := B2 e1
       have hno := (hSt.2 k (by omega)).2.2 w1
       have hyf : y = false := by
        cases y with
        | false => rfl
        | true => exact absurd (left_of pR2 pR (py.1 rfl)) w2
       rw [decide_eq_true e1, cT, h1, hno, cF, hyf, cF, need_i (by omega) (by omega)]
       exact ⟨_, rfl, by simp⟩
      ·rw [decide_eq_false e1, cF, need_i (by omega) (by omega)]
       exact ⟨_, rfl, by simp⟩)
    (fun t hI => by
     subst hI
     unfold law26_BackBlocked_s1
     rw [decide_eq_false (by omega), cF]
     exact ⟨_, rfl, _, rfl⟩) (by omega)
   rw [hb, bnd]
   dsimp only
   rw [wakes26, bnd]
theorem opa_TJ0 {H : Type} {enc : TypeId × Value → H} {w : World} {B : DataW H → Nat} (hB : BulkOk B) : ∀ m, OpnAt enc Tryz.prog w 117 emb_TJ0 B m := by
 intro m
 induction m using Nat.strongRecOn with
 | ind m ih =>
 intro cs x h
 obtain ⟨xs, n, rfl, rfl, hlen, hxl, hf⟩ := DataW.trod_struct Tryz.underlying117 h
 have hct : Tryz.prog.cellsOf 117 = 6 := by kernel_rfl
 rw [hct] at hlen
 obtain ⟨x0, x1, x2, x3, x4, x5, rfl⟩ : ∃ x0 x1 x2 x3 x4 x5, xs = [x0, x1, x2, x3, x4, x5] := by
  match xs, hxl with
  | [x0, x1, x2, x3, x4, x5], _ => exact ⟨x0, x1, x2, x3, x4, x5, rfl⟩
 have f0 : DataW.trod enc Tryz.prog w 0 (fun _ => true) true n 22 ((cs.drop 0).take (Tryz.prog.cellsOf 22)) = some x0 := hf 0 _ rfl
 rw [show Tryz.prog.cellsOf 22 = 1 by kernel_rfl] at f0
 obtain ⟨a0, r0, v0, b0⟩ := (fun _ => opa_int hB Tryz.underlying22) n _ _ f0
 have f1 : DataW.trod enc Tryz.prog w 0 (fun _ => true) true n 4 ((cs.drop 1).take (Tryz.prog.cellsOf 4)) = some x1 := hf 1 _ rfl
 rw [show Tryz.prog.cellsOf 4 = 1 by kernel_rfl] at f1
 obtain ⟨a1, r1, v1, b1⟩ := (fun _ => opa_bool hB Tryz.underlying4) n _ _ f1
 have f2 : DataW.trod enc Tryz.prog w 0 (fun _ => true) true n 3 ((cs.drop 2).take (Tryz.prog.cellsOf 3)) = some x2 := hf 2 _ rfl
 rw [show Tryz.prog.cellsOf 3 = 1 by kernel_rfl] at f2
 obtain ⟨a2, r2, v2, b2⟩ := (fun _ => opa_int hB Tryz.underlying3) n _ _ f2
 have f3 : DataW.trod enc Tryz.prog w 0 (fun _ => true) true n 9 ((cs.drop 3).take (Tryz.prog.cellsOf 9)) = some x3 := hf 3 _ rfl
 rw [show Tryz.prog.cellsOf 9 = 1 by kernel_rfl] at f3
 obtain ⟨a3, r3, v3, b3⟩ := (fun _ => opa_str hB Tryz.underlying9) n _ _ f3
 have f4 : DataW.trod enc Tryz.prog w 0 (fun _ => true) true n 115 ((cs.drop 4).take (Tryz.prog.cellsOf 115)) = some x4 := hf 4 _ rfl
 rw [show Tryz.prog.cellsOf 115 = 1 by kernel_rfl] at f4
 obtain ⟨a4, r4, v4, b4⟩ := (opa_slice0 (m := n) (e := 117) (sz := 6) hB Tryz.underlying115 (by kernel_rfl) (fun k hk => ih k (by omega))) _ _ f4
 have f5 : DataW.trod enc Tryz.prog w 0 (fun _ => true) true n 66 ((cs.drop 5).take (Tryz.prog.cellsOf 66)) = some x5 := hf 5 _ rfl
 rw [show Tryz.prog.cellsOf 66 = 1 by kernel_rfl] at f5
 obtain ⟨a5, r5, v5, b5⟩ := (opa_slice0 (m := n) (e := 9) (sz := 1) hB Tryz.underlying66 (by kernel_rfl) (fun k _ => (fun _ => opa_str hB Tryz.underlying9) k)) _ _ f5
 refine ⟨⟨a0, a1, a2, a3, a4, a5⟩, ?_, ?_, ?_⟩
 ·rw [emb_TJ0_eq]
  have hcs : RepSeq (Mem.of w) _ (cs.drop 0) := (RepSeq.cut (k := 1) r0 (by rw [List.drop_drop]; exact (RepSeq.cut (k := 1) r1 (by rw [List.drop_drop]; exact (RepSeq.cut (k := 1) r2 (by rw [List.drop_drop]; exact (RepSeq.cut (k := 1) r3 (by rw [List.drop_drop]; exact (RepSeq.cut (k := 1) r4 (by rw [List.drop_drop]; exact (RepSeq.cut (k := 1) r5 (by rw [List.drop_drop]; exact (show RepSeq (Mem.of w) [] (cs.drop 6) from List.drop_eq_nil_of_le (by omega))))))))))))))
  exact hcs
 ·rw [emb_TJ0_eq]; exact ⟨v0, ⟨v1, ⟨v2, ⟨v3, ⟨v4, ⟨v5, trivial⟩⟩⟩⟩⟩⟩
 ·rw [emb_TJ0_eq]
  have := hB.agg ([x0, x1, x2, x3, x4, x5].map (·.1))
  simp only [List.map_cons, List.map_nil, List.sum_cons, List.sum_nil] at this ⊢
  simp only [dsz, dszs] at *
  omega
theorem opa_TE0 {H : Type} {enc : TypeId × Value → H} {w : World} {B : DataW H → Nat} (hB : BulkOk B) : ∀ m, OpnAt enc Tryz.prog w 119 emb_TE0 B m := by
 intro m
 induction m using Nat.strongRecOn with
 | ind m ih =>
 intro cs x h
 obtain ⟨xs, n, rfl, rfl, hlen, hxl, hf⟩ := DataW.trod_struct Tryz.underlying119 h
 have hct : Tryz.prog.cellsOf 119 = 8 := by kernel_rfl
 rw [hct] at hlen
 obtain ⟨x0, x1, x2, rfl⟩ : ∃ x0 x1 x2, xs = [x0, x1, x2] := by
  match xs, hxl with
  | [x0, x1, x2], _ => exact ⟨x0, x1, x2, rfl⟩
 have f0 : DataW.trod enc Tryz.prog w 0 (fun _ => true) true n 9 ((cs.drop 0).take (Tryz.prog.cellsOf 9)) = some x0 := hf 0 _ rfl
 rw [show Tryz.prog.cellsOf 9 = 1 by kernel_rfl] at f0
 obtain ⟨a0, r0, v0, b0⟩ := (fun _ => opa_str hB Tryz.underlying9) n _ _ f0
 have f1 : DataW.trod enc Tryz.prog w 0 (fun _ => true) true n 4 ((cs.drop 1).take (Tryz.prog.cellsOf 4)) = some x1 := hf 1 _ rfl
 rw [show Tryz.prog.cellsOf 4 = 1 by kernel_rfl] at f1
 obtain ⟨a1, r1, v1, b1⟩ := (fun _ => opa_bool hB Tryz.underlying4) n _ _ f1
 have f2 : DataW.trod enc Tryz.prog w 0 (fun _ => true) true n 117 ((cs.drop 2).take (Tryz.prog.cellsOf 117)) = some x2 := hf 2 _ rfl
 rw [show Tryz.prog.cellsOf 117 = 6 by kernel_rfl] at f2
 obtain ⟨a2, r2, v2, b2⟩ := (opa_TJ0 hB) n _ _ f2
 refine ⟨⟨a0, a1, a2⟩, ?_, ?_, ?_⟩
 ·rw [emb_TE0_eq]
  have hcs : RepSeq (Mem.of w) _ (cs.drop 0) := (RepSeq.cut (k := 1) r0 (by rw [List.drop_drop]; exact (RepSeq.cut (k := 1) r1 (by rw [List.drop_drop]; exact (RepSeq.cut (k := 6) r2 (by rw [List.drop_drop]; exact (show RepSeq (Mem.of w) [] (cs.drop 8) from List.drop_eq_nil_of_le (by omega))))))))
  exact hcs
 ·rw [emb_TE0_eq]; exact ⟨v0, ⟨v1, ⟨v2, trivial⟩⟩⟩
 ·rw [emb_TE0_eq]
  have := hB.agg ([x0, x1, x2].map (·.1))
  simp only [List.map_cons, List.map_nil, List.sum_cons, List.sum_nil] at this ⊢
  simp only [dsz, dszs] at *
  omega
theorem opa_TS0 {H : Type} {enc : TypeId × Value → H} {w : World} {B : DataW H → Nat} (hB : BulkOk B) : ∀ m, OpnAt enc Tryz.prog w 68 emb_TS0 B m := by
 intro m
 induction m using Nat.strongRecOn with
 | ind m ih =>
 intro cs x h
 obtain ⟨xs, n, rfl, rfl, hlen, hxl, hf⟩ := DataW.trod_struct Tryz.underlying68 h
 have hct : Tryz.prog.cellsOf 68 = 6 := by kernel_rfl
 rw [hct] at hlen
 obtain ⟨x0, x1, x2, x3, x4, x5, rfl⟩ : ∃ x0 x1 x2 x3 x4 x5, xs = [x0, x1, x2, x3, x4, x5] := by
  match xs, hxl with
  | [x0, x1, x2, x3, x4, x5], _ => exact ⟨x0, x1, x2, x3, x4, x5, rfl⟩
 have f0 : DataW.trod enc Tryz.prog w 0 (fun _ => true) true n 9 ((cs.drop 0).take (Tryz.prog.cellsOf 9)) = some x0 := hf 0 _ rfl
 rw [show Tryz.prog.cellsOf 9 = 1 by kernel_rfl] at f0
 obtain ⟨a0, r0, v0, b0⟩ := (fun _ => opa_str hB Tryz.underlying9) n _ _ f0
 have f1 : DataW.trod enc Tryz.prog w 0 (fun _ => true) true n 9 ((cs.drop 1).take (Tryz.prog.cellsOf 9)) = some x1 := hf 1 _ rfl
 rw [show Tryz.prog.cellsOf 9 = 1 by kernel_rfl] at f1
 obtain ⟨a1, r1, v1, b1⟩ := (fun _ => opa_str hB Tryz.underlying9) n _ _ f1
 have f2 : DataW.trod enc Tryz.prog w 0 (fun _ => true) true n 9 ((cs.drop 2).take (Tryz.prog.cellsOf 9)) = some x2 := hf 2 _ rfl
 rw [show Tryz.prog.cellsOf 9 = 1 by kernel_rfl] at f2
 obtain ⟨a2, r2, v2, b2⟩ := (fun _ => opa_str hB Tryz.underlying9) n _ _ f2
 have f3 : DataW.trod enc Tryz.prog w 0 (fun _ => true) true n 24 ((cs.drop 3).take (Tryz.prog.cellsOf 24)) = some x3 := hf 3 _ rfl
 rw [show Tryz.prog.cellsOf 24 = 1 by kernel_rfl] at f3
 obtain ⟨a3, r3, v3, b3⟩ := (fun m => opa_slice0 (e := 119) (sz := 8) hB Tryz.underlying24 (by kernel_rfl) (fun k _ => (opa_TE0 hB) k)) n _ _ f3
 have f4 : DataW.trod enc Tryz.prog w 0 (fun _ => true) true n 4 ((cs.drop 4).take (Tryz.prog.cellsOf 4)) = some x4 := hf 4 _ rfl
 rw [show Tryz.prog.cellsOf 4 = 1 by kernel_rfl] at f4
 obtain ⟨a4, r4, v4, b4⟩ := (fun _ => opa_bool hB Tryz.underlying4) n _ _ f4
 have f5 : DataW.trod enc Tryz.prog w 0 (fun _ => true) true n 66 ((cs.drop 5).take (Tryz.prog.cellsOf 66)) = some x5 := hf 5 _ rfl
 rw [show Tryz.prog.cellsOf 66 = 1 by kernel_rfl] at f5
 obtain ⟨a5, r5, v5, b5⟩ := (fun m => opa_slice0 (e := 9) (sz := 1) hB Tryz.underlying66 (by kernel_rfl) (fun k _ => (fun _ => opa_str hB Tryz.underlying9) k)) n _ _ f5
 refine ⟨⟨a0, a1, a2, a3, a4, a5⟩, ?_, ?_, ?_⟩
 ·rw [emb_TS0_eq]
  have hcs : RepSeq (Mem.of w) _ (cs.drop 0) := (RepSeq.cut (k := 1) r0 (by rw [List.drop_drop]; exact (RepSeq.cut (k := 1) r1 (by rw [List.drop_drop]; exact (RepSeq.cut (k := 1) r2 (by rw [List.drop_drop]; exact (RepSeq.cut (k := 1) r3 (by rw [List.drop_drop]; exact (RepSeq.cut (k := 1) r4 (by rw [List.drop_drop]; exact (RepSeq.cut (k := 1) r5 (by rw [List.drop_drop]; exact (show RepSeq (Mem.of w) [] (cs.drop 6) from List.drop_eq_nil_of_le (by omega))))))))))))))
  exact hcs
 ·rw [emb_TS0_eq]; exact ⟨v0, ⟨v1, ⟨v2, ⟨v3, ⟨v4, ⟨v5, trivial⟩⟩⟩⟩⟩⟩
 ·rw [emb_TS0_eq]
  have := hB.agg ([x0, x1, x2, x3, x4, x5].map (·.1))
  simp only [List.map_cons, List.map_nil, List.sum_cons, List.sum_nil] at this ⊢
  simp only [dsz, dszs] at *
  omega
theorem opa_TF0 {H : Type} {enc : TypeId × Value → H} {w : World} {B : DataW H → Nat} (hB : BulkOk B) : ∀ m, OpnAt enc Tryz.prog w 26 emb_TF0 B m := by
 intro m
 induction m using Nat.strongRecOn with
 | ind m ih =>
 intro cs x h
 obtain ⟨xs, n, rfl, rfl, hlen, hxl, hf⟩ := DataW.trod_struct Tryz.underlying26 h
 have hct : Tryz.prog.cellsOf 26 = 8 := by kernel_rfl
 rw [hct] at hlen
 obtain ⟨x0, x1, x2, x3, x4, x5, x6, x7, rfl⟩ : ∃ x0 x1 x2 x3 x4 x5 x6 x7, xs = [x0, x1, x2, x3, x4, x5, x6, x7] := by
  match xs, hxl with
  | [x0, x1, x2, x3, x4, x5, x6, x7], _ => exact ⟨x0, x1, x2, x3, x4, x5, x6, x7, rfl⟩
 have f0 : DataW.trod enc Tryz.prog w 0 (fun _ => true) true n 23 ((cs.drop 0).take (Tryz.prog.cellsOf 23)) = some x0 := hf 0 _ rfl
 rw [show Tryz.prog.cellsOf 23 = 1 by kernel_rfl] at f0
 obtain ⟨a0, r0, v0, b0⟩ := (fun m => opa_slice0 (e := 68) (sz := 6) hB Tryz.underlying23 (by kernel_rfl) (fun k _ => (opa_TS0 hB) k)) n _ _ f0
 have f1 : DataW.trod enc Tryz.prog w 0 (fun _ => true) true n 23 ((cs.drop 1).take (Tryz.prog.cellsOf 23)) = some x1 := hf 1 _ rfl
 rw [show Tryz.prog.cellsOf 23 = 1 by kernel_rfl] at f1
 obtain ⟨a1, r1, v1, b1⟩ := (fun m => opa_slice0 (e := 68) (sz := 6) hB Tryz.underlying23 (by kernel_rfl) (fun k _ => (opa_TS0 hB) k)) n _ _ f1
 have f2 : DataW.trod enc Tryz.prog w 0 (fun _ => true) true n 23 ((cs.drop 2).take (Tryz.prog.cellsOf 23)) = some x2 := hf 2 _ rfl
 rw [show Tryz.prog.cellsOf 23 = 1 by kernel_rfl] at f2
 obtain ⟨a2, r2, v2, b2⟩ := (fun m => opa_slice0 (e := 68) (sz := 6) hB Tryz.underlying23 (by kernel_rfl) (fun k _ => (opa_TS0 hB) k)) n _ _ f2
 have f3 : DataW.trod enc Tryz.prog w 0 (fun _ => true) true n 24 ((cs.drop 3).take (Tryz.prog.cellsOf 24)) = some x3 := hf 3 _ rfl
 rw [show Tryz.prog.cellsOf 24 = 1 by kernel_rfl] at f3
 obtain ⟨a3, r3, v3, b3⟩ := (fun m => opa_slice0 (e := 119) (sz := 8) hB Tryz.underlying24 (by kernel_rfl) (fun k _ => (opa_TE0 hB) k)) n _ _ f3
 have f4 : DataW.trod enc Tryz.prog w 0 (fun _ => true) true n 9 ((cs.drop 4).take (Tryz.prog.cellsOf 9)) = some x4 := hf 4 _ rfl
 rw [show Tryz.prog.cellsOf 9 = 1 by kernel_rfl] at f4
 obtain ⟨a4, r4, v4, b4⟩ := (fun _ => opa_str hB Tryz.underlying9) n _ _ f4
 have f5 : DataW.trod enc Tryz.prog w 0 (fun _ => true) true n 24 ((cs.drop 5).take (Tryz.prog.cellsOf 24)) = some x5 := hf 5 _ rfl
 rw [show Tryz.prog.cellsOf 24 = 1 by kernel_rfl] at f5
 obtain ⟨a5, r5, v5, b5⟩ := (fun m => opa_slice0 (e := 119) (sz := 8) hB Tryz.underlying24 (by kernel_rfl) (fun k _ => (opa_TE0 hB) k)) n _ _ f5
 have f6 : DataW.trod enc Tryz.prog w 0 (fun _ => true) true n 3 ((cs.drop 6).take (Tryz.prog.cellsOf 3)) = some x6 := hf 6 _ rfl
 rw [show Tryz.prog.cellsOf 3 = 1 by kernel_rfl] at f6
 obtain ⟨a6, r6, v6, b6⟩ := (fun _ => opa_int hB Tryz.underlying3) n _ _ f6
 have f7 : DataW.trod enc Tryz.prog w 0 (fun _ => true) true n 22 ((cs.drop 7).take (Tryz.prog.cellsOf 22)) = some x7 := hf 7 _ rfl
 rw [show Tryz.prog.cellsOf 22 = 1 by kernel_rfl] at f7
 obtain ⟨a7, r7, v7, b7⟩ := (fun _ => opa_int hB Tryz.underlying22) n _ _ f7
 refine ⟨⟨a0, a1, a2, a3, a4, a5, a6, a7⟩, ?_, ?_, ?_⟩
 ·rw [emb_TF0_eq]
  have hcs : RepSeq (Mem.of w) _ (cs.drop 0) := (RepSeq.cut (k := 1) r0 (by rw [List.drop_drop]; exact (RepSeq.cut (k := 1) r1 (by rw [List.drop_drop]; exact (RepSeq.cut (k := 1) r2 (by rw [List.drop_drop]; exact (RepSeq.cut (k := 1) r3 (by rw [List.drop_drop]; exact (RepSeq.cut (k := 1) r4 (by rw [List.drop_drop]; exact (RepSeq.cut (k := 1) r5 (by rw [List.drop_drop]; exact (RepSeq.cut (k := 1) r6 (by rw [List.drop_drop]; exact (RepSeq.cut (k := 1) r7 (by rw [List.drop_drop]; exact (show RepSeq (Mem.of w) [] (cs.drop 8) from List.drop_eq_nil_of_le (by omega))))))))))))))))))
  exact hcs
 ·rw [emb_TF0_eq]; exact ⟨v0, ⟨v1, ⟨v2, ⟨v3, ⟨v4, ⟨v5, ⟨v6, ⟨v7, trivial⟩⟩⟩⟩⟩⟩⟩⟩
 ·rw [emb_TF0_eq]
  have := hB.agg ([x0, x1, x2, x3, x4, x5, x6, x7].map (·.1))
  simp only [List.map_cons, List.map_nil, List.sum_cons, List.sum_nil] at this ⊢
  simp only [dsz, dszs] at *
  omega
theorem opa_TI0 {H : Type} {enc : TypeId × Value → H} {w : World} {B : DataW H → Nat} (hB : BulkOk B) : ∀ m, OpnAt enc Tryz.prog w 263 emb_TI0 B m := by
 intro m
 induction m using Nat.strongRecOn with
 | ind m ih =>
 intro cs x h
 obtain ⟨xs, n, rfl, rfl, hlen, hxl, hf⟩ := DataW.trod_struct Tryz.underlying263 h
 have hct : Tryz.prog.cellsOf 263 = 10 := by kernel_rfl
 rw [hct] at hlen
 obtain ⟨x0, x1, x2, x3, x4, rfl⟩ : ∃ x0 x1 x2 x3 x4, xs = [x0, x1, x2, x3, x4] := by
  match xs, hxl with
  | [x0, x1, x2, x3, x4], _ => exact ⟨x0, x1, x2, x3, x4, rfl⟩
 have f0 : DataW.trod enc Tryz.prog w 0 (fun _ => true) true n 9 ((cs.drop 0).take (Tryz.prog.cellsOf 9)) = some x0 := hf 0 _ rfl
 rw [show Tryz.prog.cellsOf 9 = 1 by kernel_rfl] at f0
 obtain ⟨a0, r0, v0, b0⟩ := (fun _ => opa_str hB Tryz.underlying9) n _ _ f0
 have f1 : DataW.trod enc Tryz.prog w 0 (fun _ => true) true n 4 ((cs.drop 1).take (Tryz.prog.cellsOf 4)) = some x1 := hf 1 _ rfl
 rw [show Tryz.prog.cellsOf 4 = 1 by kernel_rfl] at f1
 obtain ⟨a1, r1, v1, b1⟩ := (fun _ => opa_bool hB Tryz.underlying4) n _ _ f1
 have f2 : DataW.trod enc Tryz.prog w 0 (fun _ => true) true n 4 ((cs.drop 2).take (Tryz.prog.cellsOf 4)) = some x2 := hf 2 _ rfl
 rw [show Tryz.prog.cellsOf 4 = 1 by kernel_rfl] at f2
 obtain ⟨a2, r2, v2, b2⟩ := (fun _ => opa_bool hB Tryz.underlying4) n _ _ f2
 have f3 : DataW.trod enc Tryz.prog w 0 (fun _ => true) true n 117 ((cs.drop 3).take (Tryz.prog.cellsOf 117)) = some x3 := hf 3 _ rfl
 rw [show Tryz.prog.cellsOf 117 = 6 by kernel_rfl] at f3
 obtain ⟨a3, r3, v3, b3⟩ := (opa_TJ0 hB) n _ _ f3
 have f4 : DataW.trod enc Tryz.prog w 0 (fun _ => true) true n 115 ((cs.drop 9).take (Tryz.prog.cellsOf 115)) = some x4 := hf 4 _ rfl
 rw [show Tryz.prog.cellsOf 115 = 1 by kernel_rfl] at f4
 obtain ⟨a4, r4, v4, b4⟩ := (fun m => opa_slice0 (e := 117) (sz := 6) hB Tryz.underlying115 (by kernel_rfl) (fun k _ => (opa_TJ0 hB) k)) n _ _ f4
 refine ⟨⟨a0, a1, a2, a3, a4⟩, ?_, ?_, ?_⟩
 ·rw [emb_TI0_eq]
  have hcs : RepSeq (Mem.of w) _ (cs.drop 0) := (RepSeq.cut (k := 1) r0 (by rw [List.drop_drop]; exact (RepSeq.cut (k := 1) r1 (by rw [List.drop_drop]; exact (RepSeq.cut (k := 1) r2 (by rw [List.drop_drop]; exact (RepSeq.cut (k := 6) r3 (by rw [List.drop_drop]; exact (RepSeq.cut (k := 1) r4 (by rw [List.drop_drop]; exact (show RepSeq (Mem.of w) [] (cs.drop 10) from List.drop_eq_nil_of_le (by omega))))))))))))
  exact hcs
 ·rw [emb_TI0_eq]; exact ⟨v0, ⟨v1, ⟨v2, ⟨v3, ⟨v4, trivial⟩⟩⟩⟩⟩
 ·rw [emb_TI0_eq]
  have := hB.agg ([x0, x1, x2, x3, x4].map (·.1))
  simp only [List.map_cons, List.map_nil, List.sum_cons, List.sum_nil] at this ⊢
  simp only [dsz, dszs] at *
  omega
theorem opa_TP0 {H : Type} {enc : TypeId × Value → H} {w : World} {B : DataW H → Nat} (hB : BulkOk B) : ∀ m, OpnAt enc Tryz.prog w 201 emb_TP0 B m := by
 intro m
 induction m using Nat.strongRecOn with
 | ind m ih =>
 intro cs x h
 obtain ⟨xs, n, rfl, rfl, hlen, hxl, hf⟩ := DataW.trod_struct Tryz.underlying201 h
 have hct : Tryz.prog.cellsOf 201 = 6 := by kernel_rfl
 rw [hct] at hlen
 obtain ⟨x0, x1, x2, x3, x4, x5, rfl⟩ : ∃ x0 x1 x2 x3 x4 x5, xs = [x0, x1, x2, x3, x4, x5] := by
  match xs, hxl with
  | [x0, x1, x2, x3, x4, x5], _ => exact ⟨x0, x1, x2, x3, x4, x5, rfl⟩
 have f0 : DataW.trod enc Tryz.prog w 0 (fun _ => true) true n 22 ((cs.drop 0).take (Tryz.prog.cellsOf 22)) = some x0 := hf 0 _ rfl
 rw [show Tryz.prog.cellsOf 22 = 1 by kernel_rfl] at f0
 obtain ⟨a0, r0, v0, b0⟩ := (fun _ => opa_int hB Tryz.underlying22) n _ _ f0
 have f1 : DataW.trod enc Tryz.prog w 0 (fun _ => true) true n 9 ((cs.drop 1).take (Tryz.prog.cellsOf 9)) = some x1 := hf 1 _ rfl
 rw [show Tryz.prog.cellsOf 9 = 1 by kernel_rfl] at f1
 obtain ⟨a1, r1, v1, b1⟩ := (fun _ => opa_str hB Tryz.underlying9) n _ _ f1
 have f2 : DataW.trod enc Tryz.prog w 0 (fun _ => true) true n 3 ((cs.drop 2).take (Tryz.prog.cellsOf 3)) = some x2 := hf 2 _ rfl
 rw [show Tryz.prog.cellsOf 3 = 1 by kernel_rfl] at f2
 obtain ⟨a2, r2, v2, b2⟩ := (fun _ => opa_int hB Tryz.underlying3) n _ _ f2
 have f3 : DataW.trod enc Tryz.prog w 0 (fun _ => true) true n 9 ((cs.drop 3).take (Tryz.prog.cellsOf 9)) = some x3 := hf 3 _ rfl
 rw [show Tryz.prog.cellsOf 9 = 1 by kernel_rfl] at f3
 obtain ⟨a3, r3, v3, b3⟩ := (fun _ => opa_str hB Tryz.underlying9) n _ _ f3
 have f4 : DataW.trod enc Tryz.prog w 0 (fun _ => true) true n 9 ((cs.drop 4).take (Tryz.prog.cellsOf 9)) = some x4 := hf 4 _ rfl
 rw [show Tryz.prog.cellsOf 9 = 1 by kernel_rfl] at f4
 obtain ⟨a4, r4, v4, b4⟩ := (fun _ => opa_str hB Tryz.underlying9) n _ _ f4
 have f5 : DataW.trod enc Tryz.prog w 0 (fun _ => true) true n 199 ((cs.drop 5).take (Tryz.prog.cellsOf 199)) = some x5 := hf 5 _ rfl
 rw [show Tryz.prog.cellsOf 199 = 1 by kernel_rfl] at f5
 obtain ⟨a5, r5, v5, b5⟩ := (opa_slice0 (m := n) (e := 201) (sz := 6) hB Tryz.underlying199 (by kernel_rfl) (fun k hk => ih k (by omega))) _ _ f5
 refine ⟨⟨a0, a1, a2, a3, a4, a5⟩, ?_, ?_, ?_⟩
 ·rw [emb_TP0_eq]
  have hcs : RepSeq (Mem.of w) _ (cs.drop 0) := (RepSeq.cut (k := 1) r0 (by rw [List.drop_drop]; exact (RepSeq.cut (k := 1) r1 (by rw [List.drop_drop]; exact (RepSeq.cut (k := 1) r2 (by rw [List.drop_drop]; exact (RepSeq.cut (k := 1) r3 (by rw [List.drop_drop]; exact (RepSeq.cut (k := 1) r4 (by rw [List.drop_drop]; exact (RepSeq.cut (k := 1) r5 (by rw [List.drop_drop]; exact (show RepSeq (Mem.of w) [] (cs.drop 6) from List.drop_eq_nil_of_le (by omega))))))))))))))
  exact hcs
 ·rw [emb_TP0_eq]; exact ⟨v0, ⟨v1, ⟨v2, ⟨v3, ⟨v4, ⟨v5, trivial⟩⟩⟩⟩⟩⟩
 ·rw [emb_TP0_eq]
  have := hB.agg ([x0, x1, x2, x3, x4, x5].map (·.1))
  simp only [List.map_cons, List.map_nil, List.sum_cons, List.sum_nil] at this ⊢
  simp only [dsz, dszs] at *
  omega
theorem opa_TO0 {H : Type} {enc : TypeId × Value → H} {w : World} {B : DataW H → Nat} (hB : BulkOk B) : ∀ m, OpnAt enc Tryz.prog w 209 emb_TO0 B m := by
 intro m
 induction m using Nat.strongRecOn with
 | ind m ih =>
 intro cs x h
 obtain ⟨xs, n, rfl, rfl, hlen, hxl, hf⟩ := DataW.trod_struct Tryz.underlying209 h
 have hct : Tryz.prog.cellsOf 209 = 15 := by kernel_rfl
 rw [hct] at hlen
 obtain ⟨x0, x1, x2, x3, x4, rfl⟩ : ∃ x0 x1 x2 x3 x4, xs = [x0, x1, x2, x3, x4] := by
  match xs, hxl with
  | [x0, x1, x2, x3, x4], _ => exact ⟨x0, x1, x2, x3, x4, rfl⟩
 have f0 : DataW.trod enc Tryz.prog w 0 (fun _ => true) true n 9 ((cs.drop 0).take (Tryz.prog.cellsOf 9)) = some x0 := hf 0 _ rfl
 rw [show Tryz.prog.cellsOf 9 = 1 by kernel_rfl] at f0
 obtain ⟨a0, r0, v0, b0⟩ := (fun _ => opa_str hB Tryz.underlying9) n _ _ f0
 have f1 : DataW.trod enc Tryz.prog w 0 (fun _ => true) true n 22 ((cs.drop 1).take (Tryz.prog.cellsOf 22)) = some x1 := hf 1 _ rfl
 rw [show Tryz.prog.cellsOf 22 = 1 by kernel_rfl] at f1
 obtain ⟨a1, r1, v1, b1⟩ := (fun _ => opa_int hB Tryz.underlying22) n _ _ f1
 have f2 : DataW.trod enc Tryz.prog w 0 (fun _ => true) true n 201 ((cs.drop 2).take (Tryz.prog.cellsOf 201)) = some x2 := hf 2 _ rfl
 rw [show Tryz.prog.cellsOf 201 = 6 by kernel_rfl] at f2
 obtain ⟨a2, r2, v2, b2⟩ := (opa_TP0 hB) n _ _ f2
 have f3 : DataW.trod enc Tryz.prog w 0 (fun _ => true) true n 201 ((cs.drop 8).take (Tryz.prog.cellsOf 201)) = some x3 := hf 3 _ rfl
 rw [show Tryz.prog.cellsOf 201 = 6 by kernel_rfl] at f3
 obtain ⟨a3, r3, v3, b3⟩ := (opa_TP0 hB) n _ _ f3
 have f4 : DataW.trod enc Tryz.prog w 0 (fun _ => true) true n 49 ((cs.drop 14).take (Tryz.prog.cellsOf 49)) = some x4 := hf 4 _ rfl
 rw [show Tryz.prog.cellsOf 49 = 1 by kernel_rfl] at f4
 obtain ⟨a4, r4, v4, b4⟩ := (opa_slice0 (m := n) (e := 209) (sz := 15) hB Tryz.underlying49 (by kernel_rfl) (fun k hk => ih k (by omega))) _ _ f4
 refine ⟨⟨a0, a1, a2, a3, a4⟩, ?_, ?_, ?_⟩
 ·rw [emb_TO0_eq]
  have hcs : RepSeq (Mem.of w) _ (cs.drop 0) := (RepSeq.cut (k := 1) r0 (by rw [List.drop_drop]; exact (RepSeq.cut (k := 1) r1 (by rw [List.drop_drop]; exact (RepSeq.cut (k := 6) r2 (by rw [List.drop_drop]; exact (RepSeq.cut (k := 6) r3 (by rw [List.drop_drop]; exact (RepSeq.cut (k := 1) r4 (by rw [List.drop_drop]; exact (show RepSeq (Mem.of w) [] (cs.drop 15) from List.drop_eq_nil_of_le (by omega))))))))))))
  exact hcs
 ·rw [emb_TO0_eq]; exact ⟨v0, ⟨v1, ⟨v2, ⟨v3, ⟨v4, trivial⟩⟩⟩⟩⟩
 ·rw [emb_TO0_eq]
  have := hB.agg ([x0, x1, x2, x3, x4].map (·.1))
  simp only [List.map_cons, List.map_nil, List.sum_cons, List.sum_nil] at this ⊢
  simp only [dsz, dszs] at *
  omega
theorem opa_TM0 {H : Type} {enc : TypeId × Value → H} {w : World} {B : DataW H → Nat} (hB : BulkOk B) : ∀ m, OpnAt enc Tryz.prog w 203 emb_TM0 B m := by
 intro m
 induction m using Nat.strongRecOn with
 | ind m ih =>
 intro cs x h
 obtain ⟨xs, n, rfl, rfl, hlen, hxl, hf⟩ := DataW.trod_struct Tryz.underlying203 h
 have hct : Tryz.prog.cellsOf 203 = 7 := by kernel_rfl
 rw [hct] at hlen
 obtain ⟨x0, x1, rfl⟩ : ∃ x0 x1, xs = [x0, x1] := by
  match xs, hxl with
  | [x0, x1], _ => exact ⟨x0, x1, rfl⟩
 have f0 : DataW.trod enc Tryz.prog w 0 (fun _ => true) true n 9 ((cs.drop 0).take (Tryz.prog.cellsOf 9)) = some x0 := hf 0 _ rfl
 rw [show Tryz.prog.cellsOf 9 = 1 by kernel_rfl] at f0
 obtain ⟨a0, r0, v0, b0⟩ := (fun _ => opa_str hB Tryz.underlying9) n _ _ f0
 have f1 : DataW.trod enc Tryz.prog w 0 (fun _ => true) true n 201 ((cs.drop 1).take (Tryz.prog.cellsOf 201)) = some x1 := hf 1 _ rfl
 rw [show Tryz.prog.cellsOf 201 = 6 by kernel_rfl] at f1
 obtain ⟨a1, r1, v1, b1⟩ := (opa_TP0 hB) n _ _ f1
 refine ⟨⟨a0, a1⟩, ?_, ?_, ?_⟩
 ·rw [emb_TM0_eq]
  have hcs : RepSeq (Mem.of w) _ (cs.drop 0) := (RepSeq.cut (k := 1) r0 (by rw [List.drop_drop]; exact (RepSeq.cut (k := 6) r1 (by rw [List.drop_drop]; exact (show RepSeq (Mem.of w) [] (cs.drop 7) from List.drop_eq_nil_of_le (by omega))))))
  exact hcs
 ·rw [emb_TM0_eq]; exact ⟨v0, ⟨v1, trivial⟩⟩
 ·rw [emb_TM0_eq]
  have := hB.agg ([x0, x1].map (·.1))
  simp only [List.map_cons, List.map_nil, List.sum_cons, List.sum_nil] at this ⊢
  simp only [dsz, dszs] at *
  omega
theorem opa_TD0 {H : Type} {enc : TypeId × Value → H} {w : World} {B : DataW H → Nat} (hB : BulkOk B) : ∀ m, OpnAt enc Tryz.prog w 206 emb_TD0 B m := by
 intro m
 induction m using Nat.strongRecOn with
 | ind m ih =>
 intro cs x h
 obtain ⟨xs, n, rfl, rfl, hlen, hxl, hf⟩ := DataW.trod_struct Tryz.underlying206 h
 have hct : Tryz.prog.cellsOf 206 = 8 := by kernel_rfl
 rw [hct] at hlen
 obtain ⟨x0, x1, x2, rfl⟩ : ∃ x0 x1 x2, xs = [x0, x1, x2] := by
  match xs, hxl with
  | [x0, x1, x2], _ => exact ⟨x0, x1, x2, rfl⟩
 have f0 : DataW.trod enc Tryz.prog w 0 (fun _ => true) true n 9 ((cs.drop 0).take (Tryz.prog.cellsOf 9)) = some x0 := hf 0 _ rfl
 rw [show Tryz.prog.cellsOf 9 = 1 by kernel_rfl] at f0
 obtain ⟨a0, r0, v0, b0⟩ := (fun _ => opa_str hB Tryz.underlying9) n _ _ f0
 have f1 : DataW.trod enc Tryz.prog w 0 (fun _ => true) true n 9 ((cs.drop 1).take (Tryz.prog.cellsOf 9)) = some x1 := hf 1 _ rfl
 rw [show Tryz.prog.cellsOf 9 = 1 by kernel_rfl] at f1
 obtain ⟨a1, r1, v1, b1⟩ := (fun _ => opa_str hB Tryz.underlying9) n _ _ f1
 have f2 : DataW.trod enc Tryz.prog w 0 (fun _ => true) true n 201 ((cs.drop 2).take (Tryz.prog.cellsOf 201)) = some x2 := hf 2 _ rfl
 rw [show Tryz.prog.cellsOf 201 = 6 by kernel_rfl] at f2
 obtain ⟨a2, r2, v2, b2⟩ := (opa_TP0 hB) n _ _ f2
 refine ⟨⟨a0, a1, a2⟩, ?_, ?_, ?_⟩
 ·rw [emb_TD0_eq]
  have hcs : RepSeq (Mem.of w) _ (cs.drop 0) := (RepSeq.cut (k := 1) r0 (by rw [List.drop_drop]; exact (RepSeq.cut (k := 1) r1 (by rw [List.drop_drop]; exact (RepSeq.cut (k := 6) r2 (by rw [List.drop_drop]; exact (show RepSeq (Mem.of w) [] (cs.drop 8) from List.drop_eq_nil_of_le (by omega))))))))
  exact hcs
 ·rw [emb_TD0_eq]; exact ⟨v0, ⟨v1, ⟨v2, trivial⟩⟩⟩
 ·rw [emb_TD0_eq]
  have := hB.agg ([x0, x1, x2].map (·.1))
  simp only [List.map_cons, List.map_nil, List.sum_cons, List.sum_nil] at this ⊢
  simp only [dsz, dszs] at *
  omega
theorem opa_TA0_TB0 {H : Type} {enc : TypeId × Value → H} {w : World} {B : DataW H → Nat} (hB : BulkOk B) : ∀ m, OpnAt enc Tryz.prog w 154 emb_TA0 B m ∧ OpnAt enc Tryz.prog w 53 emb_TB0 B m := by
 intro m
 induction m using Nat.strongRecOn with
 | ind m ih =>
 refine ⟨?_, ?_⟩
 ·skip
  intro cs x h
  obtain ⟨xs, n, rfl, rfl, hlen, hxl, hf⟩ := DataW.trod_struct Tryz.underlying154 h
  have hct : Tryz.prog.cellsOf 154 = 7 := by kernel_rfl
  rw [hct] at hlen
  obtain ⟨x0, x1, x2, x3, x4, x5, x6, rfl⟩ : ∃ x0 x1 x2 x3 x4 x5 x6, xs = [x0, x1, x2, x3, x4, x5, x6] := by
   match xs, hxl with
   | [x0, x1, x2, x3, x4, x5, x6], _ => exact ⟨x0, x1, x2, x3, x4, x5, x6, rfl⟩
  have f0 : DataW.trod enc Tryz.prog w 0 (fun _ => true) true n 9 ((cs.drop 0).take (Tryz.prog.cellsOf 9)) = some x0 := hf 0 _ rfl
  rw [show Tryz.prog.cellsOf 9 = 1 by kernel_rfl] at f0
  obtain ⟨a0, r0, v0, b0⟩ := (fun _ => opa_str hB Tryz.underlying9) n _ _ f0
  have f1 : DataW.trod enc Tryz.prog w 0 (fun _ => true) true n 9 ((cs.drop 1).take (Tryz.prog.cellsOf 9)) = some x1 := hf 1 _ rfl
  rw [show Tryz.prog.cellsOf 9 = 1 by kernel_rfl] at f1
  obtain ⟨a1, r1, v1, b1⟩ := (fun _ => opa_str hB Tryz.underlying9) n _ _ f1
  have f2 : DataW.trod enc Tryz.prog w 0 (fun _ => true) true n 9 ((cs.drop 2).take (Tryz.prog.cellsOf 9)) = some x2 := hf 2 _ rfl
  rw [show Tryz.prog.cellsOf 9 = 1 by kernel_rfl] at f2
  obtain ⟨a2, r2, v2, b2⟩ := (fun _ => opa_str hB Tryz.underlying9) n _ _ f2
  have f3 : DataW.trod enc Tryz.prog w 0 (fun _ => true) true n 151 ((cs.drop 3).take (Tryz.prog.cellsOf 151)) = some x3 := hf 3 _ rfl
  rw [show Tryz.prog.cellsOf 151 = 1 by kernel_rfl] at f3
  obtain ⟨a3, r3, v3, b3⟩ := (opa_slice0 (m := n) (e := 203) (sz := 7) hB Tryz.underlying151 (by kernel_rfl) (fun k _ => (opa_TM0 hB) k)) _ _ f3
  have f4 : DataW.trod enc Tryz.prog w 0 (fun _ => true) true n 66 ((cs.drop 4).take (Tryz.prog.cellsOf 66)) = some x4 := hf 4 _ rfl
  rw [show Tryz.prog.cellsOf 66 = 1 by kernel_rfl] at f4
  obtain ⟨a4, r4, v4, b4⟩ := (opa_slice0 (m := n) (e := 9) (sz := 1) hB Tryz.underlying66 (by kernel_rfl) (fun k _ => (fun _ => opa_str hB Tryz.underlying9) k)) _ _ f4
  have f5 : DataW.trod enc Tryz.prog w 0 (fun _ => true) true n 4 ((cs.drop 5).take (Tryz.prog.cellsOf 4)) = some x5 := hf 5 _ rfl
  rw [show Tryz.prog.cellsOf 4 = 1 by kernel_rfl] at f5
  obtain ⟨a5, r5, v5, b5⟩ := (fun _ => opa_bool hB Tryz.underlying4) n _ _ f5
  have f6 : DataW.trod enc Tryz.prog w 0 (fun _ => true) true n 152 ((cs.drop 6).take (Tryz.prog.cellsOf 152)) = some x6 := hf 6 _ rfl
  rw [show Tryz.prog.cellsOf 152 = 1 by kernel_rfl] at f6
  obtain ⟨a6, r6, v6, b6⟩ := (opa_slice0 (m := n) (e := 53) (sz := 4) hB Tryz.underlying152 (by kernel_rfl) (fun k hk => (ih k (by omega)).2)) _ _ f6
  refine ⟨⟨a0, a1, a2, a3, a4, a5, a6⟩, ?_, ?_, ?_⟩
  ·rw [emb_TA0_eq]
   have hcs : RepSeq (Mem.of w) _ (cs.drop 0) := (RepSeq.cut (k := 1) r0 (by rw [List.drop_drop]; exact (RepSeq.cut (k := 1) r1 (by rw [List.drop_drop]; exact (RepSeq.cut (k := 1) r2 (by rw [List.drop_drop]; exact (RepSeq.cut (k := 1) r3 (by rw [List.drop_drop]; exact (RepSeq.cut (k := 1) r4 (by rw [List.drop_drop]; exact (RepSeq.cut (k := 1) r5 (by rw [List.drop_drop]; exact (RepSeq.cut (k := 1) r6 (by rw [List.drop_drop]; exact (show RepSeq (Mem.of w) [] (cs.drop 7) from List.drop_eq_nil_of_le (by omega))))))))))))))))
   exact hcs
  ·rw [emb_TA0_eq]; exact ⟨v0, ⟨v1, ⟨v2, ⟨v3, ⟨v4, ⟨v5, ⟨v6, trivial⟩⟩⟩⟩⟩⟩⟩
  ·rw [emb_TA0_eq]
   have := hB.agg ([x0, x1, x2, x3, x4, x5, x6].map (·.1))
   simp only [List.map_cons, List.map_nil, List.sum_cons, List.sum_nil] at this ⊢
   simp only [dsz, dszs] at *
   omega
 ·skip
  intro cs x h
  obtain ⟨xs, n, rfl, rfl, hlen, hxl, hf⟩ := DataW.trod_struct Tryz.underlying53 h
  have hct : Tryz.prog.cellsOf 53 = 4 := by kernel_rfl
  rw [hct] at hlen
  obtain ⟨x0, x1, x2, x3, rfl⟩ : ∃ x0 x1 x2 x3, xs = [x0, x1, x2, x3] := by
   match xs, hxl with
   | [x0, x1, x2, x3], _ => exact ⟨x0, x1, x2, x3, rfl⟩
  have f0 : DataW.trod enc Tryz.prog w 0 (fun _ => true) true n 48 ((cs.drop 0).take (Tryz.prog.cellsOf 48)) = some x0 := hf 0 _ rfl
  rw [show Tryz.prog.cellsOf 48 = 1 by kernel_rfl] at f0
  obtain ⟨a0, r0, v0, b0⟩ := (opa_slice0 (m := n) (e := 263) (sz := 10) hB Tryz.underlying48 (by kernel_rfl) (fun k _ => (opa_TI0 hB) k)) _ _ f0
  have f1 : DataW.trod enc Tryz.prog w 0 (fun _ => true) true n 49 ((cs.drop 1).take (Tryz.prog.cellsOf 49)) = some x1 := hf 1 _ rfl
  rw [show Tryz.prog.cellsOf 49 = 1 by kernel_rfl] at f1
  obtain ⟨a1, r1, v1, b1⟩ := (opa_slice0 (m := n) (e := 209) (sz := 15) hB Tryz.underlying49 (by kernel_rfl) (fun k _ => (opa_TO0 hB) k)) _ _ f1
  have f2 : DataW.trod enc Tryz.prog w 0 (fun _ => true) true n 50 ((cs.drop 2).take (Tryz.prog.cellsOf 50)) = some x2 := hf 2 _ rfl
  rw [show Tryz.prog.cellsOf 50 = 1 by kernel_rfl] at f2
  obtain ⟨a2, r2, v2, b2⟩ := (opa_slice0 (m := n) (e := 154) (sz := 7) hB Tryz.underlying50 (by kernel_rfl) (fun k hk => (ih k (by omega)).1)) _ _ f2
  have f3 : DataW.trod enc Tryz.prog w 0 (fun _ => true) true n 51 ((cs.drop 3).take (Tryz.prog.cellsOf 51)) = some x3 := hf 3 _ rfl
  rw [show Tryz.prog.cellsOf 51 = 1 by kernel_rfl] at f3
  obtain ⟨a3, r3, v3, b3⟩ := (opa_slice0 (m := n) (e := 206) (sz := 8) hB Tryz.underlying51 (by kernel_rfl) (fun k _ => (opa_TD0 hB) k)) _ _ f3
  refine ⟨⟨a0, a1, a2, a3⟩, ?_, ?_, ?_⟩
  ·rw [emb_TB0_eq]
   have hcs : RepSeq (Mem.of w) _ (cs.drop 0) := (RepSeq.cut (k := 1) r0 (by rw [List.drop_drop]; exact (RepSeq.cut (k := 1) r1 (by rw [List.drop_drop]; exact (RepSeq.cut (k := 1) r2 (by rw [List.drop_drop]; exact (RepSeq.cut (k := 1) r3 (by rw [List.drop_drop]; exact (show RepSeq (Mem.of w) [] (cs.drop 4) from List.drop_eq_nil_of_le (by omega))))))))))
   exact hcs
  ·rw [emb_TB0_eq]; exact ⟨v0, ⟨v1, ⟨v2, ⟨v3, trivial⟩⟩⟩⟩
  ·rw [emb_TB0_eq]
   have := hB.agg ([x0, x1, x2, x3].map (·.1))
   simp only [List.map_cons, List.map_nil, List.sum_cons, List.sum_nil] at this ⊢
   simp only [dsz, dszs] at *
   omega
theorem opa_TA0 {H : Type} {enc : TypeId × Value → H} {w : World} {B : DataW H → Nat} (hB : BulkOk B) (m : Nat) : OpnAt enc Tryz.prog w 154 emb_TA0 B m := (opa_TA0_TB0 hB m).1
theorem opa_TB0 {H : Type} {enc : TypeId × Value → H} {w : World} {B : DataW H → Nat} (hB : BulkOk B) (m : Nat) : OpnAt enc Tryz.prog w 53 emb_TB0 B m := (opa_TA0_TB0 hB m).2
theorem opa_TG0 {H : Type} {enc : TypeId × Value → H} {w : World} {B : DataW H → Nat} (hB : BulkOk B) : ∀ m, OpnAt enc Tryz.prog w 169 emb_TG0 B m := by
 intro m
 induction m using Nat.strongRecOn with
 | ind m ih =>
 intro cs x h
 obtain ⟨xs, n, rfl, rfl, hlen, hxl, hf⟩ := DataW.trod_struct Tryz.underlying169 h
 have hct : Tryz.prog.cellsOf 169 = 7 := by kernel_rfl
 rw [hct] at hlen
 obtain ⟨x0, x1, x2, x3, rfl⟩ : ∃ x0 x1 x2 x3, xs = [x0, x1, x2, x3] := by
  match xs, hxl with
  | [x0, x1, x2, x3], _ => exact ⟨x0, x1, x2, x3, rfl⟩
 have f0 : DataW.trod enc Tryz.prog w 0 (fun _ => true) true n 3 ((cs.drop 0).take (Tryz.prog.cellsOf 3)) = some x0 := hf 0 _ rfl
 rw [show Tryz.prog.cellsOf 3 = 1 by kernel_rfl] at f0
 obtain ⟨a0, r0, v0, b0⟩ := (fun _ => opa_int hB Tryz.underlying3) n _ _ f0
 have f1 : DataW.trod enc Tryz.prog w 0 (fun _ => true) true n 9 ((cs.drop 1).take (Tryz.prog.cellsOf 9)) = some x1 := hf 1 _ rfl
 rw [show Tryz.prog.cellsOf 9 = 1 by kernel_rfl] at f1
 obtain ⟨a1, r1, v1, b1⟩ := (fun _ => opa_str hB Tryz.underlying9) n _ _ f1
 have f2 : DataW.trod enc Tryz.prog w 0 (fun _ => true) true n 53 ((cs.drop 2).take (Tryz.prog.cellsOf 53)) = some x2 := hf 2 _ rfl
 rw [show Tryz.prog.cellsOf 53 = 4 by kernel_rfl] at f2
 obtain ⟨a2, r2, v2, b2⟩ := (opa_TB0 hB) n _ _ f2
 have f3 : DataW.trod enc Tryz.prog w 0 (fun _ => true) true n 151 ((cs.drop 6).take (Tryz.prog.cellsOf 151)) = some x3 := hf 3 _ rfl
 rw [show Tryz.prog.cellsOf 151 = 1 by kernel_rfl] at f3
 obtain ⟨a3, r3, v3, b3⟩ := (fun m => opa_slice0 (e := 203) (sz := 7) hB Tryz.underlying151 (by kernel_rfl) (fun k _ => (opa_TM0 hB) k)) n _ _ f3
 refine ⟨⟨a0, a1, a2, a3⟩, ?_, ?_, ?_⟩
 ·rw [emb_TG0_eq]
  have hcs : RepSeq (Mem.of w) _ (cs.drop 0) := (RepSeq.cut (k := 1) r0 (by rw [List.drop_drop]; exact (RepSeq.cut (k := 1) r1 (by rw [List.drop_drop]; exact (RepSeq.cut (k := 4) r2 (by rw [List.drop_drop]; exact (RepSeq.cut (k := 1) r3 (by rw [List.drop_drop]; exact (show RepSeq (Mem.of w) [] (cs.drop 7) from List.drop_eq_nil_of_le (by omega))))))))))
  exact hcs
 ·rw [emb_TG0_eq]; exact ⟨v0, ⟨v1, ⟨v2, ⟨v3, trivial⟩⟩⟩⟩
 ·rw [emb_TG0_eq]
  have := hB.agg ([x0, x1, x2, x3].map (·.1))
  simp only [List.map_cons, List.map_nil, List.sum_cons, List.sum_nil] at this ⊢
  simp only [dsz, dszs] at *
  omega
theorem opa_TH0 {H : Type} {enc : TypeId × Value → H} {w : World} {B : DataW H → Nat} (hB : BulkOk B) : ∀ m, OpnAt enc Tryz.prog w 236 emb_TH0 B m := by
 intro m
 induction m using Nat.strongRecOn with
 | ind m ih =>
 intro cs x h
 obtain ⟨xs, n, rfl, rfl, hlen, hxl, hf⟩ := DataW.trod_struct Tryz.underlying236 h
 have hct : Tryz.prog.cellsOf 236 = 2 := by kernel_rfl
 rw [hct] at hlen
 obtain ⟨x0, x1, rfl⟩ : ∃ x0 x1, xs = [x0, x1] := by
  match xs, hxl with
  | [x0, x1], _ => exact ⟨x0, x1, rfl⟩
 have f0 : DataW.trod enc Tryz.prog w 0 (fun _ => true) true n 3 ((cs.drop 0).take (Tryz.prog.cellsOf 3)) = some x0 := hf 0 _ rfl
 rw [show Tryz.prog.cellsOf 3 = 1 by kernel_rfl] at f0
 obtain ⟨a0, r0, v0, b0⟩ := (fun _ => opa_int hB Tryz.underlying3) n _ _ f0
 have f1 : DataW.trod enc Tryz.prog w 0 (fun _ => true) true n 9 ((cs.drop 1).take (Tryz.prog.cellsOf 9)) = some x1 := hf 1 _ rfl
 rw [show Tryz.prog.cellsOf 9 = 1 by kernel_rfl] at f1
 obtain ⟨a1, r1, v1, b1⟩ := (fun _ => opa_str hB Tryz.underlying9) n _ _ f1
 refine ⟨⟨a0, a1⟩, ?_, ?_, ?_⟩
 ·rw [emb_TH0_eq]
  have hcs : RepSeq (Mem.of w) _ (cs.drop 0) := (RepSeq.cut (k := 1) r0 (by rw [List.drop_drop]; exact (RepSeq.cut (k := 1) r1 (by rw [List.drop_drop]; exact (show RepSeq (Mem.of w) [] (cs.drop 2) from List.drop_eq_nil_of_le (by omega))))))
  exact hcs
 ·rw [emb_TH0_eq]; exact ⟨v0, ⟨v1, trivial⟩⟩
 ·rw [emb_TH0_eq]
  have := hB.agg ([x0, x1].map (·.1))
  simp only [List.map_cons, List.map_nil, List.sum_cons, List.sum_nil] at this ⊢
  simp only [dsz, dszs] at *
  omega
theorem opa_TN0 {H : Type} {enc : TypeId × Value → H} {w : World} {B : DataW H → Nat} (hB : BulkOk B) : ∀ m, OpnAt enc Tryz.prog w 157 emb_TN0 B m := by
 intro m
 induction m using Nat.strongRecOn with
 | ind m ih =>
 intro cs x h
 obtain ⟨xs, n, rfl, rfl, hlen, hxl, hf⟩ := DataW.trod_struct Tryz.underlying157 h
 have hct : Tryz.prog.cellsOf 157 = 11 := by kernel_rfl
 rw [hct] at hlen
 obtain ⟨x0, x1, x2, x3, x4, rfl⟩ : ∃ x0 x1 x2 x3 x4, xs = [x0, x1, x2, x3, x4] := by
  match xs, hxl with
  | [x0, x1, x2, x3, x4], _ => exact ⟨x0, x1, x2, x3, x4, rfl⟩
 have f0 : DataW.trod enc Tryz.prog w 0 (fun _ => true) true n 9 ((cs.drop 0).take (Tryz.prog.cellsOf 9)) = some x0 := hf 0 _ rfl
 rw [show Tryz.prog.cellsOf 9 = 1 by kernel_rfl] at f0
 obtain ⟨a0, r0, v0, b0⟩ := (fun _ => opa_str hB Tryz.underlying9) n _ _ f0
 have f1 : DataW.trod enc Tryz.prog w 0 (fun _ => true) true n 3 ((cs.drop 1).take (Tryz.prog.cellsOf 3)) = some x1 := hf 1 _ rfl
 rw [show Tryz.prog.cellsOf 3 = 1 by kernel_rfl] at f1
 obtain ⟨a1, r1, v1, b1⟩ := (fun _ => opa_int hB Tryz.underlying3) n _ _ f1
 have f2 : DataW.trod enc Tryz.prog w 0 (fun _ => true) true n 154 ((cs.drop 2).take (Tryz.prog.cellsOf 154)) = some x2 := hf 2 _ rfl
 rw [show Tryz.prog.cellsOf 154 = 7 by kernel_rfl] at f2
 obtain ⟨a2, r2, v2, b2⟩ := (opa_TA0 hB) n _ _ f2
 have f3 : DataW.trod enc Tryz.prog w 0 (fun _ => true) true n 155 ((cs.drop 9).take (Tryz.prog.cellsOf 155)) = some x3 := hf 3 _ rfl
 rw [show Tryz.prog.cellsOf 155 = 1 by kernel_rfl] at f3
 obtain ⟨a3, r3, v3, b3⟩ := (fun m => opa_slice0 (e := 236) (sz := 2) hB Tryz.underlying155 (by kernel_rfl) (fun k _ => (opa_TH0 hB) k)) n _ _ f3
 have f4 : DataW.trod enc Tryz.prog w 0 (fun _ => true) true n 66 ((cs.drop 10).take (Tryz.prog.cellsOf 66)) = some x4 := hf 4 _ rfl
 rw [show Tryz.prog.cellsOf 66 = 1 by kernel_rfl] at f4
 obtain ⟨a4, r4, v4, b4⟩ := (fun m => opa_slice0 (e := 9) (sz := 1) hB Tryz.underlying66 (by kernel_rfl) (fun k _ => (fun _ => opa_str hB Tryz.underlying9) k)) n _ _ f4
 refine ⟨⟨a0, a1, a2, a3, a4⟩, ?_, ?_, ?_⟩
 ·rw [emb_TN0_eq]
  have hcs : RepSeq (Mem.of w) _ (cs.drop 0) := (RepSeq.cut (k := 1) r0 (by rw [List.drop_drop]; exact (RepSeq.cut (k := 1) r1 (by rw [List.drop_drop]; exact (RepSeq.cut (k := 7) r2 (by rw [List.drop_drop]; exact (RepSeq.cut (k := 1) r3 (by rw [List.drop_drop]; exact (RepSeq.cut (k := 1) r4 (by rw [List.drop_drop]; exact (show RepSeq (Mem.of w) [] (cs.drop 11) from List.drop_eq_nil_of_le (by omega))))))))))))
  exact hcs
 ·rw [emb_TN0_eq]; exact ⟨v0, ⟨v1, ⟨v2, ⟨v3, ⟨v4, trivial⟩⟩⟩⟩⟩
 ·rw [emb_TN0_eq]
  have := hB.agg ([x0, x1, x2, x3, x4].map (·.1))
  simp only [List.map_cons, List.map_nil, List.sum_cons, List.sum_nil] at this ⊢
  simp only [dsz, dszs] at *
  omega
theorem opa_TL0 {H : Type} {enc : TypeId × Value → H} {w : World} {B : DataW H → Nat} (hB : BulkOk B) : ∀ m, OpnAt enc Tryz.prog w 30 emb_TL0 B m := by
 intro m
 induction m using Nat.strongRecOn with
 | ind m ih =>
 intro cs x h
 obtain ⟨xs, n, rfl, rfl, hlen, hxl, hf⟩ := DataW.trod_struct Tryz.underlying30 h
 have hct : Tryz.prog.cellsOf 30 = 2 := by kernel_rfl
 rw [hct] at hlen
 obtain ⟨x0, x1, rfl⟩ : ∃ x0 x1, xs = [x0, x1] := by
  match xs, hxl with
  | [x0, x1], _ => exact ⟨x0, x1, rfl⟩
 have f0 : DataW.trod enc Tryz.prog w 0 (fun _ => true) true n 27 ((cs.drop 0).take (Tryz.prog.cellsOf 27)) = some x0 := hf 0 _ rfl
 rw [show Tryz.prog.cellsOf 27 = 1 by kernel_rfl] at f0
 obtain ⟨a0, r0, v0, b0⟩ := (fun m => opa_slice0 (e := 169) (sz := 7) hB Tryz.underlying27 (by kernel_rfl) (fun k _ => (opa_TG0 hB) k)) n _ _ f0
 have f1 : DataW.trod enc Tryz.prog w 0 (fun _ => true) true n 28 ((cs.drop 1).take (Tryz.prog.cellsOf 28)) = some x1 := hf 1 _ rfl
 rw [show Tryz.prog.cellsOf 28 = 1 by kernel_rfl] at f1
 obtain ⟨a1, r1, v1, b1⟩ := (fun m => opa_slice0 (e := 157) (sz := 11) hB Tryz.underlying28 (by kernel_rfl) (fun k _ => (opa_TN0 hB) k)) n _ _ f1
 refine ⟨⟨a0, a1⟩, ?_, ?_, ?_⟩
 ·rw [emb_TL0_eq]
  have hcs : RepSeq (Mem.of w) _ (cs.drop 0) := (RepSeq.cut (k := 1) r0 (by rw [List.drop_drop]; exact (RepSeq.cut (k := 1) r1 (by rw [List.drop_drop]; exact (show RepSeq (Mem.of w) [] (cs.drop 2) from List.drop_eq_nil_of_le (by omega))))))
  exact hcs
 ·rw [emb_TL0_eq]; exact ⟨v0, ⟨v1, trivial⟩⟩
 ·rw [emb_TL0_eq]
  have := hB.agg ([x0, x1].map (·.1))
  simp only [List.map_cons, List.map_nil, List.sum_cons, List.sum_nil] at this ⊢
  simp only [dsz, dszs] at *
  omega
theorem opa_TC0 {H : Type} {enc : TypeId × Value → H} {w : World} {B : DataW H → Nat} (hB : BulkOk B) : ∀ m, OpnAt enc Tryz.prog w 72 emb_TC0 B m := by
 intro m
 induction m using Nat.strongRecOn with
 | ind m ih =>
 intro cs x h
 obtain ⟨xs, n, rfl, rfl, hlen, hxl, hf⟩ := DataW.trod_struct Tryz.underlying72 h
 have hct : Tryz.prog.cellsOf 72 = 8 := by kernel_rfl
 rw [hct] at hlen
 obtain ⟨x0, x1, x2, x3, x4, x5, x6, x7, rfl⟩ : ∃ x0 x1 x2 x3 x4 x5 x6 x7, xs = [x0, x1, x2, x3, x4, x5, x6, x7] := by
  match xs, hxl with
  | [x0, x1, x2, x3, x4, x5, x6, x7], _ => exact ⟨x0, x1, x2, x3, x4, x5, x6, x7, rfl⟩
 have f0 : DataW.trod enc Tryz.prog w 0 (fun _ => true) true n 9 ((cs.drop 0).take (Tryz.prog.cellsOf 9)) = some x0 := hf 0 _ rfl
 rw [show Tryz.prog.cellsOf 9 = 1 by kernel_rfl] at f0
 obtain ⟨a0, r0, v0, b0⟩ := (fun _ => opa_str hB Tryz.underlying9) n _ _ f0
 have f1 : DataW.trod enc Tryz.prog w 0 (fun _ => true) true n 22 ((cs.drop 1).take (Tryz.prog.cellsOf 22)) = some x1 := hf 1 _ rfl
 rw [show Tryz.prog.cellsOf 22 = 1 by kernel_rfl] at f1
 obtain ⟨a1, r1, v1, b1⟩ := (fun _ => opa_int hB Tryz.underlying22) n _ _ f1
 have f2 : DataW.trod enc Tryz.prog w 0 (fun _ => true) true n 9 ((cs.drop 2).take (Tryz.prog.cellsOf 9)) = some x2 := hf 2 _ rfl
 rw [show Tryz.prog.cellsOf 9 = 1 by kernel_rfl] at f2
 obtain ⟨a2, r2, v2, b2⟩ := (fun _ => opa_str hB Tryz.underlying9) n _ _ f2
 have f3 : DataW.trod enc Tryz.prog w 0 (fun _ => true) true n 24 ((cs.drop 3).take (Tryz.prog.cellsOf 24)) = some x3 := hf 3 _ rfl
 rw [show Tryz.prog.cellsOf 24 = 1 by kernel_rfl] at f3
 obtain ⟨a3, r3, v3, b3⟩ := (fun m => opa_slice0 (e := 119) (sz := 8) hB Tryz.underlying24 (by kernel_rfl) (fun k _ => (opa_TE0 hB) k)) n _ _ f3
 have f4 : DataW.trod enc Tryz.prog w 0 (fun _ => true) true n 4 ((cs.drop 4).take (Tryz.prog.cellsOf 4)) = some x4 := hf 4 _ rfl
 rw [show Tryz.prog.cellsOf 4 = 1 by kernel_rfl] at f4
 obtain ⟨a4, r4, v4, b4⟩ := (fun _ => opa_bool hB Tryz.underlying4) n _ _ f4
 have f5 : DataW.trod enc Tryz.prog w 0 (fun _ => true) true n 3 ((cs.drop 5).take (Tryz.prog.cellsOf 3)) = some x5 := hf 5 _ rfl
 rw [show Tryz.prog.cellsOf 3 = 1 by kernel_rfl] at f5
 obtain ⟨a5, r5, v5, b5⟩ := (fun _ => opa_int hB Tryz.underlying3) n _ _ f5
 have f6 : DataW.trod enc Tryz.prog w 0 (fun _ => true) true n 4 ((cs.drop 6).take (Tryz.prog.cellsOf 4)) = some x6 := hf 6 _ rfl
 rw [show Tryz.prog.cellsOf 4 = 1 by kernel_rfl] at f6
 obtain ⟨a6, r6, v6, b6⟩ := (fun _ => opa_bool hB Tryz.underlying4) n _ _ f6
 have f7 : DataW.trod enc Tryz.prog w 0 (fun _ => true) true n 66 ((cs.drop 7).take (Tryz.prog.cellsOf 66)) = some x7 := hf 7 _ rfl
 rw [show Tryz.prog.cellsOf 66 = 1 by kernel_rfl] at f7
 obtain ⟨a7, r7, v7, b7⟩ := (fun m => opa_slice0 (e := 9) (sz := 1) hB Tryz.underlying66 (by kernel_rfl) (fun k _ => (fun _ => opa_str hB Tryz.underlying9) k)) n _ _ f7
 refine ⟨⟨a0, a1, a2, a3, a4, a5, a6, a7⟩, ?_, ?_, ?_⟩
 ·rw [emb_TC0_eq]
  have hcs : RepSeq (Mem.of w) _ (cs.drop 0) := (RepSeq.cut (k := 1) r0 (by rw [List.drop_drop]; exact (RepSeq.cut (k := 1) r1 (by rw [List.drop_drop]; exact (RepSeq.cut (k := 1) r2 (by rw [List.drop_drop]; exact (RepSeq.cut (k := 1) r3 (by rw [List.drop_drop]; exact (RepSeq.cut (k := 1) r4 (by rw [List.drop_drop]; exact (RepSeq.cut (k := 1) r5 (by rw [List.drop_drop]; exact (RepSeq.cut (k := 1) r6 (by rw [List.drop_drop]; exact (RepSeq.cut (k := 1) r7 (by rw [List.drop_drop]; exact (show RepSeq (Mem.of w) [] (cs.drop 8) from List.drop_eq_nil_of_le (by omega))))))))))))))))))
  exact hcs
 ·rw [emb_TC0_eq]; exact ⟨v0, ⟨v1, ⟨v2, ⟨v3, ⟨v4, ⟨v5, ⟨v6, ⟨v7, trivial⟩⟩⟩⟩⟩⟩⟩⟩
 ·rw [emb_TC0_eq]
  have := hB.agg ([x0, x1, x2, x3, x4, x5, x6, x7].map (·.1))
  simp only [List.map_cons, List.map_nil, List.sum_cons, List.sum_nil] at this ⊢
  simp only [dsz, dszs] at *
  omega
theorem opa_TQ0 {H : Type} {enc : TypeId × Value → H} {w : World} {B : DataW H → Nat} (hB : BulkOk B) : ∀ m, OpnAt enc Tryz.prog w 42 emb_TQ0 B m := by
 intro m
 induction m using Nat.strongRecOn with
 | ind m ih =>
 intro cs x h
 obtain ⟨xs, n, rfl, rfl, hlen, hxl, hf⟩ := DataW.trod_struct Tryz.underlying42 h
 have hct : Tryz.prog.cellsOf 42 = 5 := by kernel_rfl
 rw [hct] at hlen
 obtain ⟨x0, x1, x2, x3, x4, rfl⟩ : ∃ x0 x1 x2 x3 x4, xs = [x0, x1, x2, x3, x4] := by
  match xs, hxl with
  | [x0, x1, x2, x3, x4], _ => exact ⟨x0, x1, x2, x3, x4, rfl⟩
 have f0 : DataW.trod enc Tryz.prog w 0 (fun _ => true) true n 3 ((cs.drop 0).take (Tryz.prog.cellsOf 3)) = some x0 := hf 0 _ rfl
 rw [show Tryz.prog.cellsOf 3 = 1 by kernel_rfl] at f0
 obtain ⟨a0, r0, v0, b0⟩ := (fun _ => opa_int hB Tryz.underlying3) n _ _ f0
 have f1 : DataW.trod enc Tryz.prog w 0 (fun _ => true) true n 22 ((cs.drop 1).take (Tryz.prog.cellsOf 22)) = some x1 := hf 1 _ rfl
 rw [show Tryz.prog.cellsOf 22 = 1 by kernel_rfl] at f1
 obtain ⟨a1, r1, v1, b1⟩ := (fun _ => opa_int hB Tryz.underlying22) n _ _ f1
 have f2 : DataW.trod enc Tryz.prog w 0 (fun _ => true) true n 9 ((cs.drop 2).take (Tryz.prog.cellsOf 9)) = some x2 := hf 2 _ rfl
 rw [show Tryz.prog.cellsOf 9 = 1 by kernel_rfl] at f2
 obtain ⟨a2, r2, v2, b2⟩ := (fun _ => opa_str hB Tryz.underlying9) n _ _ f2
 have f3 : DataW.trod enc Tryz.prog w 0 (fun _ => true) true n 9 ((cs.drop 3).take (Tryz.prog.cellsOf 9)) = some x3 := hf 3 _ rfl
 rw [show Tryz.prog.cellsOf 9 = 1 by kernel_rfl] at f3
 obtain ⟨a3, r3, v3, b3⟩ := (fun _ => opa_str hB Tryz.underlying9) n _ _ f3
 have f4 : DataW.trod enc Tryz.prog w 0 (fun _ => true) true n 24 ((cs.drop 4).take (Tryz.prog.cellsOf 24)) = some x4 := hf 4 _ rfl
 rw [show Tryz.prog.cellsOf 24 = 1 by kernel_rfl] at f4
 obtain ⟨a4, r4, v4, b4⟩ := (fun m => opa_slice0 (e := 119) (sz := 8) hB Tryz.underlying24 (by kernel_rfl) (fun k _ => (opa_TE0 hB) k)) n _ _ f4
 refine ⟨⟨a0, a1, a2, a3, a4⟩, ?_, ?_, ?_⟩
 ·rw [emb_TQ0_eq]
  have hcs : RepSeq (Mem.of w) _ (cs.drop 0) := (RepSeq.cut (k := 1) r0 (by rw [List.drop_drop]; exact (RepSeq.cut (k := 1) r1 (by rw [List.drop_drop]; exact (RepSeq.cut (k := 1) r2 (by rw [List.drop_drop]; exact (RepSeq.cut (k := 1) r3 (by rw [List.drop_drop]; exact (RepSeq.cut (k := 1) r4 (by rw [List.drop_drop]; exact (show RepSeq (Mem.of w) [] (cs.drop 5) from List.drop_eq_nil_of_le (by omega))))))))))))
  exact hcs
 ·rw [emb_TQ0_eq]; exact ⟨v0, ⟨v1, ⟨v2, ⟨v3, ⟨v4, trivial⟩⟩⟩⟩⟩
 ·rw [emb_TQ0_eq]
  have := hB.agg ([x0, x1, x2, x3, x4].map (·.1))
  simp only [List.map_cons, List.map_nil, List.sum_cons, List.sum_nil] at this ⊢
  simp only [dsz, dszs] at *
  omega
theorem opa_TR0 {H : Type} {enc : TypeId × Value → H} {w : World} {B : DataW H → Nat} (hB : BulkOk B) : ∀ m, OpnAt enc Tryz.prog w 44 emb_TR0 B m := by
 intro m
 induction m using Nat.strongRecOn with
 | ind m ih =>
 intro cs x h
 obtain ⟨xs, n, rfl, rfl, hlen, hxl, hf⟩ := DataW.trod_struct Tryz.underlying44 h
 have hct : Tryz.prog.cellsOf 44 = 9 := by kernel_rfl
 rw [hct] at hlen
 obtain ⟨x0, x1, x2, x3, x4, rfl⟩ : ∃ x0 x1 x2 x3 x4, xs = [x0, x1, x2, x3, x4] := by
  match xs, hxl with
  | [x0, x1, x2, x3, x4], _ => exact ⟨x0, x1, x2, x3, x4, rfl⟩
 have f0 : DataW.trod enc Tryz.prog w 0 (fun _ => true) true n 3 ((cs.drop 0).take (Tryz.prog.cellsOf 3)) = some x0 := hf 0 _ rfl
 rw [show Tryz.prog.cellsOf 3 = 1 by kernel_rfl] at f0
 obtain ⟨a0, r0, v0, b0⟩ := (fun _ => opa_int hB Tryz.underlying3) n _ _ f0
 have f1 : DataW.trod enc Tryz.prog w 0 (fun _ => true) true n 22 ((cs.drop 1).take (Tryz.prog.cellsOf 22)) = some x1 := hf 1 _ rfl
 rw [show Tryz.prog.cellsOf 22 = 1 by kernel_rfl] at f1
 obtain ⟨a1, r1, v1, b1⟩ := (fun _ => opa_int hB Tryz.underlying22) n _ _ f1
 have f2 : DataW.trod enc Tryz.prog w 0 (fun _ => true) true n 42 ((cs.drop 2).take (Tryz.prog.cellsOf 42)) = some x2 := hf 2 _ rfl
 rw [show Tryz.prog.cellsOf 42 = 5 by kernel_rfl] at f2
 obtain ⟨a2, r2, v2, b2⟩ := (opa_TQ0 hB) n _ _ f2
 have f3 : DataW.trod enc Tryz.prog w 0 (fun _ => true) true n 22 ((cs.drop 7).take (Tryz.prog.cellsOf 22)) = some x3 := hf 3 _ rfl
 rw [show Tryz.prog.cellsOf 22 = 1 by kernel_rfl] at f3
 obtain ⟨a3, r3, v3, b3⟩ := (fun _ => opa_int hB Tryz.underlying22) n _ _ f3
 have f4 : DataW.trod enc Tryz.prog w 0 (fun _ => true) true n 9 ((cs.drop 8).take (Tryz.prog.cellsOf 9)) = some x4 := hf 4 _ rfl
 rw [show Tryz.prog.cellsOf 9 = 1 by kernel_rfl] at f4
 obtain ⟨a4, r4, v4, b4⟩ := (fun _ => opa_str hB Tryz.underlying9) n _ _ f4
 refine ⟨⟨a0, a1, a2, a3, a4⟩, ?_, ?_, ?_⟩
 ·rw [emb_TR0_eq]
  have hcs : RepSeq (Mem.of w) _ (cs.drop 0) := (RepSeq.cut (k := 1) r0 (by rw [List.drop_drop]; exact (RepSeq.cut (k := 1) r1 (by rw [List.drop_drop]; exact (RepSeq.cut (k := 5) r2 (by rw [List.drop_drop]; exact (RepSeq.cut (k := 1) r3 (by rw [List.drop_drop]; exact (RepSeq.cut (k := 1) r4 (by rw [List.drop_drop]; exact (show RepSeq (Mem.of w) [] (cs.drop 9) from List.drop_eq_nil_of_le (by omega))))))))))))
  exact hcs
 ·rw [emb_TR0_eq]; exact ⟨v0, ⟨v1, ⟨v2, ⟨v3, ⟨v4, trivial⟩⟩⟩⟩⟩
 ·rw [emb_TR0_eq]
  have := hB.agg ([x0, x1, x2, x3, x4].map (·.1))
  simp only [List.map_cons, List.map_nil, List.sum_cons, List.sum_nil] at this ⊢
  simp only [dsz, dszs] at *
  omega
theorem opa_TK0 {H : Type} {enc : TypeId × Value → H} {w : World} {B : DataW H → Nat} (hB : BulkOk B) : ∀ m, OpnAt enc Tryz.prog w 34 emb_TK0 B m := by
 intro m
 induction m using Nat.strongRecOn with
 | ind m ih =>
 intro cs x h
 obtain ⟨xs, n, rfl, rfl, hlen, hxl, hf⟩ := DataW.trod_struct Tryz.underlying34 h
 have hct : Tryz.prog.cellsOf 34 = 18 := by kernel_rfl
 rw [hct] at hlen
 obtain ⟨x0, x1, x2, x3, x4, x5, x6, x7, x8, x9, rfl⟩ : ∃ x0 x1 x2 x3 x4 x5 x6 x7 x8 x9, xs = [x0, x1, x2, x3, x4, x5, x6, x7, x8, x9] := by
  match xs, hxl with
  | [x0, x1, x2, x3, x4, x5, x6, x7, x8, x9], _ => exact ⟨x0, x1, x2, x3, x4, x5, x6, x7, x8, x9, rfl⟩
 have f0 : DataW.trod enc Tryz.prog w 0 (fun _ => true) true n 22 ((cs.drop 0).take (Tryz.prog.cellsOf 22)) = some x0 := hf 0 _ rfl
 rw [show Tryz.prog.cellsOf 22 = 1 by kernel_rfl] at f0
 obtain ⟨a0, r0, v0, b0⟩ := (fun _ => opa_int hB Tryz.underlying22) n _ _ f0
 have f1 : DataW.trod enc Tryz.prog w 0 (fun _ => true) true n 3 ((cs.drop 1).take (Tryz.prog.cellsOf 3)) = some x1 := hf 1 _ rfl
 rw [show Tryz.prog.cellsOf 3 = 1 by kernel_rfl] at f1
 obtain ⟨a1, r1, v1, b1⟩ := (fun _ => opa_int hB Tryz.underlying3) n _ _ f1
 have f2 : DataW.trod enc Tryz.prog w 0 (fun _ => true) true n 26 ((cs.drop 2).take (Tryz.prog.cellsOf 26)) = some x2 := hf 2 _ rfl
 rw [show Tryz.prog.cellsOf 26 = 8 by kernel_rfl] at f2
 obtain ⟨a2, r2, v2, b2⟩ := (opa_TF0 hB) n _ _ f2
 have f3 : DataW.trod enc Tryz.prog w 0 (fun _ => true) true n 30 ((cs.drop 10).take (Tryz.prog.cellsOf 30)) = some x3 := hf 3 _ rfl
 rw [show Tryz.prog.cellsOf 30 = 2 by kernel_rfl] at f3
 obtain ⟨a3, r3, v3, b3⟩ := (opa_TL0 hB) n _ _ f3
 have f4 : DataW.trod enc Tryz.prog w 0 (fun _ => true) true n 9 ((cs.drop 12).take (Tryz.prog.cellsOf 9)) = some x4 := hf 4 _ rfl
 rw [show Tryz.prog.cellsOf 9 = 1 by kernel_rfl] at f4
 obtain ⟨a4, r4, v4, b4⟩ := (fun _ => opa_str hB Tryz.underlying9) n _ _ f4
 have f5 : DataW.trod enc Tryz.prog w 0 (fun _ => true) true n 24 ((cs.drop 13).take (Tryz.prog.cellsOf 24)) = some x5 := hf 5 _ rfl
 rw [show Tryz.prog.cellsOf 24 = 1 by kernel_rfl] at f5
 obtain ⟨a5, r5, v5, b5⟩ := (fun m => opa_slice0 (e := 119) (sz := 8) hB Tryz.underlying24 (by kernel_rfl) (fun k _ => (opa_TE0 hB) k)) n _ _ f5
 have f6 : DataW.trod enc Tryz.prog w 0 (fun _ => true) true n 31 ((cs.drop 14).take (Tryz.prog.cellsOf 31)) = some x6 := hf 6 _ rfl
 rw [show Tryz.prog.cellsOf 31 = 1 by kernel_rfl] at f6
 obtain ⟨a6, r6, v6, b6⟩ := (fun m => opa_slice0 (e := 72) (sz := 8) hB Tryz.underlying31 (by kernel_rfl) (fun k _ => (opa_TC0 hB) k)) n _ _ f6
 have f7 : DataW.trod enc Tryz.prog w 0 (fun _ => true) true n 32 ((cs.drop 15).take (Tryz.prog.cellsOf 32)) = some x7 := hf 7 _ rfl
 rw [show Tryz.prog.cellsOf 32 = 1 by kernel_rfl] at f7
 obtain ⟨a7, r7, v7, b7⟩ := (fun m => opa_slice0 (e := 44) (sz := 9) hB Tryz.underlying32 (by kernel_rfl) (fun k _ => (opa_TR0 hB) k)) n _ _ f7
 have f8 : DataW.trod enc Tryz.prog w 0 (fun _ => true) true n 22 ((cs.drop 16).take (Tryz.prog.cellsOf 22)) = some x8 := hf 8 _ rfl
 rw [show Tryz.prog.cellsOf 22 = 1 by kernel_rfl] at f8
 obtain ⟨a8, r8, v8, b8⟩ := (fun _ => opa_int hB Tryz.underlying22) n _ _ f8
 have f9 : DataW.trod enc Tryz.prog w 0 (fun _ => true) true n 22 ((cs.drop 17).take (Tryz.prog.cellsOf 22)) = some x9 := hf 9 _ rfl
 rw [show Tryz.prog.cellsOf 22 = 1 by kernel_rfl] at f9
 obtain ⟨a9, r9, v9, b9⟩ := (fun _ => opa_int hB Tryz.underlying22) n _ _ f9
 refine ⟨⟨a0, a1, a2, a3, a4, a5, a6, a7, a8, a9⟩, ?_, ?_, ?_⟩
 ·rw [emb_TK0_eq]
  have hcs : RepSeq (Mem.of w) _ (cs.drop 0) := (RepSeq.cut (k := 1) r0 (by rw [List.drop_drop]; exact (RepSeq.cut (k := 1) r1 (by rw [List.drop_drop]; exact (RepSeq.cut (k := 8) r2 (by rw [List.drop_drop]; exact (RepSeq.cut (k := 2) r3 (by rw [List.drop_drop]; exact (RepSeq.cut (k := 1) r4 (by rw [List.drop_drop]; exact (RepSeq.cut (k := 1) r5 (by rw [List.drop_drop]; exact (RepSeq.cut (k := 1) r6 (by rw [List.drop_drop]; exact (RepSeq.cut (k := 1) r7 (by rw [List.drop_drop]; exact (RepSeq.cut (k := 1) r8 (by rw [List.drop_drop]; exact (RepSeq.cut (k := 1) r9 (by rw [List.drop_drop]; exact (show RepSeq (Mem.of w) [] (cs.drop 18) from List.drop_eq_nil_of_le (by omega))))))))))))))))))))))
  exact hcs
 ·rw [emb_TK0_eq]; exact ⟨v0, ⟨v1, ⟨v2, ⟨v3, ⟨v4, ⟨v5, ⟨v6, ⟨v7, ⟨v8, ⟨v9, trivial⟩⟩⟩⟩⟩⟩⟩⟩⟩⟩
 ·rw [emb_TK0_eq]
  have := hB.agg ([x0, x1, x2, x3, x4, x5, x6, x7, x8, x9].map (·.1))
  simp only [List.map_cons, List.map_nil, List.sum_cons, List.sum_nil] at this ⊢
  simp only [dsz, dszs] at *
  omega
theorem bulk_all {H : Type} (l : List (DataW H)) : Rows.uptoBulkAll l = (l.map Rows.uptoBulk).sum := by
 induction l with
 | nil => simp [Rows.uptoBulkAll]
 | cons x l ih => simp only [Rows.uptoBulkAll, List.map_cons, List.sum_cons, ih]
theorem bulk_ok {H : Type} : BulkOk (H := H) Rows.uptoBulk where
 one d := by
  cases d with
  | lit l => cases l <;> simp [Rows.uptoBulk]
  | nil => simp [Rows.uptoBulk]
  | ptr d => simp [Rows.uptoBulk]
  | slice elems spare => simp [Rows.uptoBulk]
  | agg parts => simp [Rows.uptoBulk]
  | iface t d => simp [Rows.uptoBulk]
  | map entries => simp [Rows.uptoBulk]
  | held h => simp [Rows.uptoBulk]
 str l := by simp [Rows.uptoBulk]
 slice e s := by
  simp only [Rows.uptoBulk]
  rw [bulk_all e]
  omega
 agg e := by
  simp only [Rows.uptoBulk]
  rw [bulk_all e]
  exact Nat.le_refl _
theorem bulk_one {H : Type} {d : DataW H} {l : List (DataW H)} (h : Rows.uptoSmall H l = true) (hd : d ∈ l) : Rows.uptoBulk d ≤ 1048576 := by
 unfold Rows.uptoSmall at h
 have h := of_decide_eq_true h
 rw [bulk_all] at h
 have := le_sum (List.mem_map_of_mem (f := Rows.uptoBulk) hd)
 omega
end Go.Proofs.YtfdmlionhbeebaaGreat
end
