/-
  Printed by a program: of each function its shallow reading, and the proof that the function gives what the reading gives. No condition.
-/
import Derived.Test.YtdmjgmleilgbpaaDoorVkB
import Derived.Test.YtdmjgmleilgbpaaDoorRows
set_option linter.unusedVariables false
set_option linter.unusedSimpArgs false
namespace Go.Proofs.YtdmjgmleilgbpaaDoor
open Go Go.Vc Go.RowKit
def strings_Builder_Len (n : Nat) (d0_1 : List UInt8) : Option (Int × List UInt8) :=
  some ((((d0_1.length : Nat) : Int), d0_1))
theorem strings_Builder_Len_ok (n : Nat) (M : Mem) (b0 : Nat) (A_1 : Option Addr) (hb_1 : (A_1 = none ∨ A_1 = some ⟨b0, 0, none⟩)) (d0_1 : List UInt8) (A_2 : Option Addr) (cap_1 : Nat) (cs_1 : List Value) (hr_1 : RepSeq M (d0_1.map embB) cs_1) (r : Int × List UInt8) (hF : strings_Builder_Len n d0_1 = some r) : OkH Tryd.prog M [Ent.obj b0 (.cells #[.pointer A_1, .slice A_2 d0_1.length cap_1] 41 (0, 0)), Ent.row 5 1 (.slice A_2 d0_1.length cap_1) d0_1.length cs_1] 21 [.pointer (some (⟨b0, 0, none⟩))] (fun M' E' v => ∃ (A_3 : Option Addr) (A_4 : Option Addr) (cap_2 : Nat) (cs_2 : List Value), v = .int .i64 r.1 ∧ E' = [Ent.obj b0 (.cells #[.pointer A_3, .slice A_4 r.2.length cap_2] 41 (0, 0)), Ent.row 5 1 (.slice A_4 r.2.length cap_2) r.2.length cs_2] ∧ (A_3 = none ∨ A_3 = some ⟨b0, 0, none⟩) ∧ RepSeq M' (r.2.map embB) cs_2) := by
  unfold strings_Builder_Len at hF
  intro M1 hM0 w0 H w p0
  replace hr_1 := RepSeq.mono hM0 _ _ hr_1
  replace p0 : Hp w0 M1 ((Ent.obj b0 (.cells #[.pointer A_1, .slice A_2 d0_1.length cap_1] 41 (0, 0))) :: (Ent.row 5 1 (.slice A_2 d0_1.length cap_1) d0_1.length cs_1) :: H) w := p0
  refine R_enter 8 Tryd.func21 rfl rfl (by simp) (fun a0 f0 => ?_)
  replace f0 : Frm 8 [(0, .pointer (some (⟨b0, 0, none⟩)))] a0 := f0
  refine R_seq ?_
  refine R_reg ?_
  refine W_run (L' := [(0, .pointer (some (⟨b0, 0, none⟩)))]) (w' := w) f0 1 [0] (by kernel_rfl) (fun a_1 f_1 => ?_)
  refine W_end rfl ?_
  refine T_n ?_
  refine R_seq ?_
  refine R_reg ?_
  refine W_run (L' := [(5, .pointer (some (⟨b0, 1, none⟩)))]) (w' := w) f_1 3 [5] (by kernel_rfl) (fun a_2 f_2 => ?_)
  refine W_eq (v := .slice A_2 d0_1.length cap_1) f_2 (by kernel_rfl) (by kernel_rfl) rfl rfl (X_load1 (v := .slice A_2 d0_1.length cap_1) rfl (ad := ⟨b0, 1, none⟩) (by kernel_rfl) (by kernel_rfl) (p0.ownCell 0 rfl 1)) (fun a_3 f_3 => ?_)
  refine W_run (L' := [(2, .int .i64 ((d0_1.length : Nat) : Int))]) (w' := w) f_3 2 [2] (by kernel_rfl) (fun a_4 f_4 => ?_)
  refine W_end rfl ?_
  refine T_n ?_
  refine wp_ret ?_
  refine E_ret1 f_4 rfl (by kernel_rfl : Vc.look _ 2 = some (.int .i64 ((d0_1.length : Nat) : Int))) ?_
  obtain rfl := Option.some.inj hF
  exact ⟨_, rfl, M1, _, (Mem.le_refl _), p0, ⟨A_1, A_2, cap_1, cs_1, rfl, rfl, hb_1, hr_1⟩⟩

def strings_Builder_Reset (n : Nat) (d0_1 : List UInt8) : Option (List UInt8) :=
  some (([] : List UInt8))
theorem strings_Builder_Reset_ok (n : Nat) (M : Mem) (b0 : Nat) (A_1 : Option Addr) (hb_1 : (A_1 = none ∨ A_1 = some ⟨b0, 0, none⟩)) (d0_1 : List UInt8) (A_2 : Option Addr) (cap_1 : Nat) (cs_1 : List Value) (hr_1 : RepSeq M (d0_1.map embB) cs_1) (r : List UInt8) (hF : strings_Builder_Reset n d0_1 = some r) : OkH Tryd.prog M [Ent.obj b0 (.cells #[.pointer A_1, .slice A_2 d0_1.length cap_1] 41 (0, 0)), Ent.row 5 1 (.slice A_2 d0_1.length cap_1) d0_1.length cs_1] 23 [.pointer (some (⟨b0, 0, none⟩))] (fun M' E' v => ∃ (A_4 : Option Addr) (A_5 : Option Addr) (cap_3 : Nat) (cs_2 : List Value), v = .tuple #[] ∧ E' = [Ent.obj b0 (.cells #[.pointer A_4, .slice A_5 r.length cap_3] 41 (0, 0)), Ent.row 5 1 (.slice A_5 r.length cap_3) r.length cs_2] ∧ (A_4 = none ∨ A_4 = some ⟨b0, 0, none⟩) ∧ RepSeq M' (r.map embB) cs_2) := by
  unfold strings_Builder_Reset at hF
  intro M1 hM0 w0 H w p0
  replace hr_1 := RepSeq.mono hM0 _ _ hr_1
  replace p0 : Hp w0 M1 ((Ent.obj b0 (.cells #[.pointer A_1, .slice A_2 d0_1.length cap_1] 41 (0, 0))) :: (Ent.row 5 1 (.slice A_2 d0_1.length cap_1) d0_1.length cs_1) :: H) w := p0
  refine R_enter 8 Tryd.func23 rfl rfl (by simp) (fun a0 f0 => ?_)
  replace f0 : Frm 8 [(0, .pointer (some (⟨b0, 0, none⟩)))] a0 := f0
  refine R_seq ?_
  refine R_reg ?_
  refine W_run (L' := [(0, .pointer (some (⟨b0, 0, none⟩))), (4, .pointer (some (⟨b0, 0, none⟩)))]) (w' := w) f0 3 [0, 4] (by kernel_rfl) (fun a_1 f_1 => ?_)
  refine W_store1 f_1 p0 0 (by kernel_rfl) (by kernel_rfl) rfl rfl (b := b0) (j := 0) (v := .pointer none) (by kernel_rfl) (by kernel_rfl) rfl (by kernel_rfl) (by exact rfl) (by simp) (by simp) ((Ent.obj b0 (.cells #[.pointer none, .slice A_2 d0_1.length cap_1] 41 (0, 0))) :: (Ent.row 5 1 (.slice A_2 d0_1.length cap_1) d0_1.length cs_1) :: H) rfl (fun w_1 p_1 a_2 f_2 => ?_)
  refine W_end rfl ?_
  refine T_n ?_
  refine R_reg ?_
  refine W_run (L' := [(7, .pointer (some (⟨b0, 1, none⟩)))]) (w' := w_1) f_2 3 [7] (by kernel_rfl) (fun a_3 f_3 => ?_)
  refine W_store1 f_3 p_1 0 (by kernel_rfl) (by kernel_rfl) rfl rfl (b := b0) (j := 1) (v := .slice none 0 0) (by kernel_rfl) (by kernel_rfl) rfl (by kernel_rfl) (by exact rfl) (by simp) (by simp) ((Ent.obj b0 (.cells #[.pointer none, .slice none 0 0] 41 (0, 0))) :: (Ent.row 5 1 (.slice A_2 d0_1.length cap_1) d0_1.length cs_1) :: H) rfl (fun w_2 p_2 a_4 f_4 => ?_)
  refine W_end rfl ?_
  obtain ⟨A_3, cap_2, hv_1⟩ : ∃ A cap, Value.slice none 0 0 = .slice A ([] : List UInt8).length cap := ⟨none, 0, rfl⟩
  have p_3 : Hp w0 M1 ((Ent.row 5 1 (.slice A_3 ([] : List UInt8).length cap_2) ([] : List UInt8).length []) :: (Ent.obj b0 (.cells #[.pointer none, .slice A_3 ([] : List UInt8).length cap_2] 41 (0, 0))) :: (Ent.row 5 1 (.slice A_2 d0_1.length cap_1) d0_1.length cs_1) :: H) w_2 := by rw [← hv_1]; exact p_2.nilRow 5 1
  have hr_2 : RepSeq M1 (([] : List UInt8).map embB) [] := rfl
  refine E_end0 f_4 rfl  ?_
  obtain rfl := Option.some.inj hF
  have p_4 : Hp w0 M1 ((Ent.obj b0 (.cells #[.pointer none, .slice A_3 ([] : List UInt8).length cap_2] 41 (0, 0))) :: (Ent.row 5 1 (.slice A_3 ([] : List UInt8).length cap_2) ([] : List UInt8).length []) :: (Ent.row 5 1 (.slice A_2 d0_1.length cap_1) d0_1.length cs_1) :: H) w_2 := p_3.pull 1 rfl rfl
  have p_5 : Hp w0 M1 ((Ent.row 5 1 (.slice A_2 d0_1.length cap_1) d0_1.length cs_1) :: (Ent.obj b0 (.cells #[.pointer none, .slice A_3 ([] : List UInt8).length cap_2] 41 (0, 0))) :: (Ent.row 5 1 (.slice A_3 ([] : List UInt8).length cap_2) ([] : List UInt8).length []) :: H) w_2 := p_4.pull 2 rfl rfl
  exact ⟨_, rfl, M1, _, (Mem.le_refl _), (p_5.dropN 1), ⟨none, A_3, cap_2, [], rfl, rfl, (.inl rfl), hr_2⟩⟩

def strings_Builder_String (n : Nat) (d0_1 : List UInt8) : Option (List UInt8 × List UInt8) :=
  some ((d0_1, d0_1))
theorem strings_Builder_String_ok (n : Nat) (M : Mem) (b0 : Nat) (A_1 : Option Addr) (hb_1 : (A_1 = none ∨ A_1 = some ⟨b0, 0, none⟩)) (d0_1 : List UInt8) (A_2 : Option Addr) (cap_1 : Nat) (cs_1 : List Value) (hr_1 : RepSeq M (d0_1.map embB) cs_1) (r : List UInt8 × List UInt8) (hF : strings_Builder_String n d0_1 = some r) : OkH Tryd.prog M [Ent.obj b0 (.cells #[.pointer A_1, .slice A_2 d0_1.length cap_1] 41 (0, 0)), Ent.row 5 1 (.slice A_2 d0_1.length cap_1) d0_1.length cs_1] 22 [.pointer (some (⟨b0, 0, none⟩))] (fun M' E' v => ∃ (A_3 : Option Addr) (A_4 : Option Addr) (cap_2 : Nat), v = S r.1 ∧ E' = [Ent.obj b0 (.cells #[.pointer A_3, .slice A_4 r.2.length cap_2] 41 (0, 0))] ∧ (A_3 = none ∨ A_3 = some ⟨b0, 0, none⟩) ∧ Sli M' 1 embB A_4 cap_2 r.2) := by
  unfold strings_Builder_String at hF
  intro M1 hM0 w0 H w p0
  replace hr_1 := RepSeq.mono hM0 _ _ hr_1
  replace p0 : Hp w0 M1 ((Ent.obj b0 (.cells #[.pointer A_1, .slice A_2 d0_1.length cap_1] 41 (0, 0))) :: (Ent.row 5 1 (.slice A_2 d0_1.length cap_1) d0_1.length cs_1) :: H) w := p0
  refine R_enter 14 Tryd.func22 rfl rfl (by simp) (fun a0 f0 => ?_)
  replace f0 : Frm 14 [(0, .pointer (some (⟨b0, 0, none⟩)))] a0 := f0
  refine R_seq ?_
  refine R_reg ?_
  refine W_run (L' := [(0, .pointer (some (⟨b0, 0, none⟩)))]) (w' := w) f0 1 [0] (by kernel_rfl) (fun a_1 f_1 => ?_)
  refine W_end rfl ?_
  refine T_n ?_
  refine R_seq ?_
  have p_1 : Hp w0 M1 ((Ent.row 5 1 (.slice A_2 d0_1.length cap_1) d0_1.length cs_1) :: (Ent.obj b0 (.cells #[.pointer A_1, .slice A_2 d0_1.length cap_1] 41 (0, 0))) :: H) w := p0.pull 1 rfl rfl
  refine R_mix (E := [Ent.row 5 1 (.slice A_2 d0_1.length cap_1) d0_1.length cs_1]) (Hr := ((Ent.obj b0 (.cells #[.pointer A_1, .slice A_2 d0_1.length cap_1] 41 (0, 0))) :: H)) [(0, true), (1, true), (2, true), (3, true), (5, true), (6, true), (7, true), (8, true), (9, true), (4, false), (10, false), (11, true)] p_1 (by kernel_rfl) (by kernel_rfl) rfl (by kernel_rfl) ?_
  refine M_eq (v := .pointer (some (⟨b0, 0, none⟩))) f_1 (by kernel_rfl) (by kernel_rfl) rfl rfl (fun _ _ => by kernel_rfl) (fun a_2 f_2 => ?_)
  refine M_eq (v := .pointer (some (⟨b0, 0, none⟩))) f_2 (by kernel_rfl) (by kernel_rfl) rfl rfl (fun _ _ => by kernel_rfl) (fun a_3 f_3 => ?_)
  refine M_eq (v := .pointer (some (⟨b0, 1, none⟩))) f_3 (by kernel_rfl) (by kernel_rfl) rfl rfl (fun _ _ => by kernel_rfl) (fun a_4 f_4 => ?_)
  have f_5 : Frm 14 [(0, .pointer (some (⟨b0, 0, none⟩))), (5, .pointer (some (⟨b0, 1, none⟩)))] a_4 := f_4.keep (ks := [0, 5]) (by kernel_rfl)
  refine M_eq (v := .slice A_2 d0_1.length cap_1) f_5 (by kernel_rfl) (by kernel_rfl) rfl rfl (fun _ pq => X_load1 (v := .slice A_2 d0_1.length cap_1) rfl (ad := ⟨b0, 1, none⟩) (by kernel_rfl) (by kernel_rfl) (pq.ownCell 0 rfl 1)) (fun a_5 f_6 => ?_)
  refine M_eq (v := .pointer (some (⟨b0, 0, none⟩))) f_6 (by kernel_rfl) (by kernel_rfl) rfl rfl (fun _ _ => by kernel_rfl) (fun a_6 f_7 => ?_)
  refine M_eq (v := .pointer (some (⟨b0, 0, none⟩))) f_7 (by kernel_rfl) (by kernel_rfl) rfl rfl (fun _ _ => by kernel_rfl) (fun a_7 f_8 => ?_)
  refine M_eq (v := .pointer (some (⟨b0, 1, none⟩))) f_8 (by kernel_rfl) (by kernel_rfl) rfl rfl (fun _ _ => by kernel_rfl) (fun a_8 f_9 => ?_)
  have f_10 : Frm 14 [(6, .slice A_2 d0_1.length cap_1), (10, .pointer (some (⟨b0, 1, none⟩)))] a_8 := f_9.keep (ks := [6, 10]) (by kernel_rfl)
  refine M_eq (v := .slice A_2 d0_1.length cap_1) f_10 (by kernel_rfl) (by kernel_rfl) rfl rfl (fun _ pq => X_load1 (v := .slice A_2 d0_1.length cap_1) rfl (ad := ⟨b0, 1, none⟩) (by kernel_rfl) (by kernel_rfl) (pq.ownCell 0 rfl 1)) (fun a_9 f_11 => ?_)
  refine M_eq (v := .int .i64 ((d0_1.length : Nat) : Int)) f_11 (by kernel_rfl) (by kernel_rfl) rfl rfl (fun _ _ => by kernel_rfl) (fun a_10 f_12 => ?_)
  have f_13 : Frm 14 [(6, .slice A_2 d0_1.length cap_1), (12, .int .i64 ((d0_1.length : Nat) : Int))] a_10 := f_12.keep (ks := [6, 12]) (by kernel_rfl)
  refine M_fix (E := [Ent.row 5 1 (.slice A_2 d0_1.length cap_1) d0_1.length cs_1]) (fun w_1 p_2 => ?_)
  replace p_2 : Hp w0 M1 ((Ent.row 5 1 (.slice A_2 d0_1.length cap_1) d0_1.length cs_1) :: (Ent.obj b0 (.cells #[.pointer A_1, .slice A_2 d0_1.length cap_1] 41 (0, 0))) :: H) w_1 := p_2
  refine W_sliceData (v := .slice A_2 d0_1.length cap_1) f_13 p_2 (by kernel_rfl) (by kernel_rfl) rfl rfl rfl (by kernel_rfl) (by kernel_rfl) (fun q_1 w_2 p_3 hd_1 a_11 f_14 => ?_)
  refine W_end rfl ?_
  refine M_go (M1 := M1) (E := [Ent.row 5 1 (.slice A_2 d0_1.length cap_1) d0_1.length cs_1]) (Mem.le_refl _) p_3 ?_
  refine M_fix (E := [Ent.row 5 1 (.slice A_2 d0_1.length cap_1) d0_1.length cs_1]) (fun w_3 p_4 => ?_)
  replace p_4 : Hp w0 M1 ((Ent.row 5 1 (.slice A_2 d0_1.length cap_1) d0_1.length cs_1) :: (Ent.obj b0 (.cells #[.pointer A_1, .slice A_2 d0_1.length cap_1] 41 (0, 0))) :: H) w_3 := p_4
  refine W_unsafeString (q := q_1) (v := .slice A_2 d0_1.length cap_1) (l := d0_1) (A := A_2) (cap := cap_1) rfl f_14 p_4 hr_1 hd_1 (by kernel_rfl) (by kernel_rfl) rfl rfl rfl (by kernel_rfl) (by kernel_rfl) (by kernel_rfl) (by kernel_rfl) (fun M_1 w_4 hM_1 p_5 h_1 a_12 f_15 => ?_)
  refine W_end rfl ?_
  refine M_go (M1 := M_1) (E := []) hM_1 p_5 ?_
  refine M_eq (v := S d0_1) f_15 (by kernel_rfl) (by kernel_rfl) rfl rfl (fun _ _ => by kernel_rfl) (fun a_13 f_16 => ?_)
  have f_17 : Frm 14 [(2, S d0_1)] a_13 := f_16.keep (ks := [2]) (by kernel_rfl)
  refine M_end rfl (fun w_5 p_6 => ?_)
  replace p_6 : Hp w0 M_1 ((Ent.obj b0 (.cells #[.pointer A_1, .slice A_2 d0_1.length cap_1] 41 (0, 0))) :: H) w_5 := p_6
  refine T_n ?_
  refine wp_ret ?_
  refine E_ret1 f_17 rfl (by kernel_rfl : Vc.look _ 2 = some (S d0_1)) ?_
  obtain rfl := Option.some.inj hF
  exact ⟨_, rfl, M_1, _, hM_1, p_6, ⟨A_1, A_2, cap_1, rfl, rfl, hb_1, h_1⟩⟩

def strings_Builder_copyCheck (n : Nat) (d0_1 : List UInt8) : Option (List UInt8) :=
  some (d0_1)
theorem strings_Builder_copyCheck_ok (n : Nat) (M : Mem) (b0 : Nat) (d0_1 : List UInt8) (A_1 : Option Addr) (cap_1 : Nat) (cs_1 : List Value) (hr_1 : RepSeq M (d0_1.map embB) cs_1) (r : List UInt8) (hF : strings_Builder_copyCheck n d0_1 = some r) : OkH Tryd.prog M [Ent.obj b0 (.cells #[.pointer none, .slice A_1 d0_1.length cap_1] 41 (0, 0)), Ent.row 5 1 (.slice A_1 d0_1.length cap_1) d0_1.length cs_1] 44 [.pointer (some (⟨b0, 0, none⟩))] (fun M' E' v => ∃ (A_2 : Option Addr) (A_3 : Option Addr) (cap_2 : Nat) (cs_2 : List Value), v = .tuple #[] ∧ E' = [Ent.obj b0 (.cells #[.pointer A_2, .slice A_3 r.length cap_2] 41 (0, 0)), Ent.row 5 1 (.slice A_3 r.length cap_2) r.length cs_2] ∧ (A_2 = none ∨ A_2 = some ⟨b0, 0, none⟩) ∧ RepSeq M' (r.map embB) cs_2) := by
  unfold strings_Builder_copyCheck at hF
  intro M1 hM0 w0 H w p0
  replace hr_1 := RepSeq.mono hM0 _ _ hr_1
  replace p0 : Hp w0 M1 ((Ent.obj b0 (.cells #[.pointer none, .slice A_1 d0_1.length cap_1] 41 (0, 0))) :: (Ent.row 5 1 (.slice A_1 d0_1.length cap_1) d0_1.length cs_1) :: H) w := p0
  refine R_enter 20 Tryd.func44 rfl rfl (by simp) (fun a0 f0 => ?_)
  replace f0 : Frm 20 [(0, .pointer (some (⟨b0, 0, none⟩)))] a0 := f0
  refine R_seq ?_
  refine R_reg ?_
  refine W_run (L' := [(0, .pointer (some (⟨b0, 0, none⟩))), (4, .pointer (some (⟨b0, 0, none⟩)))]) (w' := w) f0 3 [0, 4] (by kernel_rfl) (fun a_1 f_1 => ?_)
  refine W_eq (v := .pointer none) f_1 (by kernel_rfl) (by kernel_rfl) rfl rfl (X_load1 (v := .pointer none) rfl (ad := ⟨b0, 0, none⟩) (by kernel_rfl) (by kernel_rfl) (p0.ownCell 0 rfl 0)) (fun a_2 f_2 => ?_)
  refine W_eq (v := .bool true) f_2 (by kernel_rfl) (by kernel_rfl) rfl rfl (X_ptrNil (q := none) (e := 41) rfl (by kernel_rfl) (by kernel_rfl) (by kernel_rfl) _) (fun a_3 f_3 => ?_)
  refine W_end rfl ?_
  refine T_n ?_
  refine R_cond_t f_3 (by kernel_rfl) (by kernel_rfl) ?_
  refine R_reg ?_
  refine W_run (L' := [(7, .pointer (some (⟨b0, 0, none⟩))), (8, .pointer (some (⟨b0, 0, none⟩)))]) (w' := w) f_3 2 [7, 8] (by kernel_rfl) (fun a_4 f_4 => ?_)
  refine W_eq (v := .pointer (some (⟨b0, 0, none⟩))) f_4 (by kernel_rfl) (by kernel_rfl) rfl rfl (X_toUnsafe rfl (by kernel_rfl) (t := 41) (by kernel_rfl) (by kernel_rfl) (by kernel_rfl) p0 (i := 0) rfl (by simp)) (fun a_5 f_5 => ?_)
  refine W_eq (v := .pointer (some (⟨b0, 0, none⟩))) f_5 (by kernel_rfl) (by kernel_rfl) rfl rfl (X_here (by kernel_rfl)) (fun a_6 f_6 => ?_)
  refine W_eq (v := .pointer (some (⟨b0, 0, none⟩))) f_6 (by kernel_rfl) (by kernel_rfl) rfl rfl (X_fromUnsafe rfl (by kernel_rfl) (u := 41) (by kernel_rfl) (by kernel_rfl) (by kernel_rfl) p0 (i := 0) rfl (by kernel_rfl)) (fun a_7 f_7 => ?_)
  refine W_run (L' := [(11, .pointer (some (⟨b0, 0, none⟩))), (13, .pointer (some (⟨b0, 0, none⟩)))]) (w' := w) f_7 2 [11, 13] (by kernel_rfl) (fun a_8 f_8 => ?_)
  refine W_store1 f_8 p0 0 (by kernel_rfl) (by kernel_rfl) rfl rfl (b := b0) (j := 0) (v := .pointer (some (⟨b0, 0, none⟩))) (by kernel_rfl) (by kernel_rfl) rfl (by kernel_rfl) (by exact rfl) (by simp) (by simp) ((Ent.obj b0 (.cells #[.pointer (some (⟨b0, 0, none⟩)), .slice A_1 d0_1.length cap_1] 41 (0, 0))) :: (Ent.row 5 1 (.slice A_1 d0_1.length cap_1) d0_1.length cs_1) :: H) rfl (fun w_1 p_1 a_9 f_9 => ?_)
  refine W_end rfl ?_
  refine E_end0 f_9 rfl  ?_
  obtain rfl := Option.some.inj hF
  exact ⟨_, rfl, M1, _, (Mem.le_refl _), p_1, ⟨(some ⟨b0, 0, none⟩), A_1, cap_1, cs_1, rfl, rfl, (.inr rfl), hr_1⟩⟩

def strings_Builder_copyCheck_2 (n : Nat) (d0_1 : List UInt8) : Option (List UInt8) :=
  some (d0_1)
theorem strings_Builder_copyCheck_2_ok (n : Nat) (M : Mem) (b0 : Nat) (d0_1 : List UInt8) (A_1 : Option Addr) (cap_1 : Nat) (cs_1 : List Value) (hr_1 : RepSeq M (d0_1.map embB) cs_1) (r : List UInt8) (hF : strings_Builder_copyCheck_2 n d0_1 = some r) : OkH Tryd.prog M [Ent.obj b0 (.cells #[.pointer (some (⟨b0, 0, none⟩)), .slice A_1 d0_1.length cap_1] 41 (0, 0)), Ent.row 5 1 (.slice A_1 d0_1.length cap_1) d0_1.length cs_1] 44 [.pointer (some (⟨b0, 0, none⟩))] (fun M' E' v => ∃ (A_2 : Option Addr) (A_3 : Option Addr) (cap_2 : Nat) (cs_2 : List Value), v = .tuple #[] ∧ E' = [Ent.obj b0 (.cells #[.pointer A_2, .slice A_3 r.length cap_2] 41 (0, 0)), Ent.row 5 1 (.slice A_3 r.length cap_2) r.length cs_2] ∧ (A_2 = none ∨ A_2 = some ⟨b0, 0, none⟩) ∧ RepSeq M' (r.map embB) cs_2) := by
  unfold strings_Builder_copyCheck_2 at hF
  intro M1 hM0 w0 H w p0
  replace hr_1 := RepSeq.mono hM0 _ _ hr_1
  replace p0 : Hp w0 M1 ((Ent.obj b0 (.cells #[.pointer (some (⟨b0, 0, none⟩)), .slice A_1 d0_1.length cap_1] 41 (0, 0))) :: (Ent.row 5 1 (.slice A_1 d0_1.length cap_1) d0_1.length cs_1) :: H) w := p0
  refine R_enter 20 Tryd.func44 rfl rfl (by simp) (fun a0 f0 => ?_)
  replace f0 : Frm 20 [(0, .pointer (some (⟨b0, 0, none⟩)))] a0 := f0
  refine R_seq ?_
  refine R_reg ?_
  refine W_run (L' := [(0, .pointer (some (⟨b0, 0, none⟩))), (4, .pointer (some (⟨b0, 0, none⟩)))]) (w' := w) f0 3 [0, 4] (by kernel_rfl) (fun a_1 f_1 => ?_)
  refine W_eq (v := .pointer (some (⟨b0, 0, none⟩))) f_1 (by kernel_rfl) (by kernel_rfl) rfl rfl (X_load1 (v := .pointer (some (⟨b0, 0, none⟩))) rfl (ad := ⟨b0, 0, none⟩) (by kernel_rfl) (by kernel_rfl) (p0.ownCell 0 rfl 0)) (fun a_2 f_2 => ?_)
  refine W_eq (v := .bool false) f_2 (by kernel_rfl) (by kernel_rfl) rfl rfl (X_ptrNil (q := some (⟨b0, 0, none⟩)) (e := 41) rfl (by kernel_rfl) (by kernel_rfl) (by kernel_rfl) _) (fun a_3 f_3 => ?_)
  refine W_end rfl ?_
  refine T_n ?_
  refine R_cond_f f_3 (by kernel_rfl) (by kernel_rfl) ?_
  refine R_seq ?_
  refine R_reg ?_
  refine W_run (L' := [(0, .pointer (some (⟨b0, 0, none⟩))), (16, .pointer (some (⟨b0, 0, none⟩)))]) (w' := w) f_3 3 [0, 16] (by kernel_rfl) (fun a_4 f_4 => ?_)
  refine W_eq (v := .pointer (some (⟨b0, 0, none⟩))) f_4 (by kernel_rfl) (by kernel_rfl) rfl rfl (X_load1 (v := .pointer (some (⟨b0, 0, none⟩))) rfl (ad := ⟨b0, 0, none⟩) (by kernel_rfl) (by kernel_rfl) (p0.ownCell 0 rfl 0)) (fun a_5 f_5 => ?_)
  refine W_run (L' := [(17, .pointer (some (⟨b0, 0, none⟩))), (18, .pointer (some (⟨b0, 0, none⟩)))]) (w' := w) f_5 1 [17, 18] (by kernel_rfl) (fun a_6 f_6 => ?_)
  refine W_eq (v := .bool false) f_6 (by kernel_rfl) (by kernel_rfl) rfl rfl (X_ptrNeSame (a := ⟨b0, 0, none⟩) (e := 41) rfl (by kernel_rfl) (by kernel_rfl) (by kernel_rfl) (by kernel_rfl) _) (fun a_7 f_7 => ?_)
  refine W_end rfl ?_
  refine T_n ?_
  refine R_cond_f f_7 (by kernel_rfl) (by kernel_rfl) ?_
  refine wp_skip ?_
  refine E_end0 f_7 rfl  ?_
  obtain rfl := Option.some.inj hF
  exact ⟨_, rfl, M1, _, (Mem.le_refl _), p0, ⟨(some ⟨b0, 0, none⟩), A_1, cap_1, cs_1, rfl, rfl, (.inr rfl), hr_1⟩⟩

def strings_Builder_copyCheck_3 (n : Nat) (d0_1 : List UInt8) : Option (List UInt8) := strings_Builder_copyCheck n d0_1
theorem strings_Builder_copyCheck_3_same (n : Nat) (d0_1 : List UInt8) : strings_Builder_copyCheck n d0_1 = strings_Builder_copyCheck_2 n d0_1 := rfl
theorem strings_Builder_copyCheck_3_ok (n : Nat) (M : Mem) (b0 : Nat) (A_1 : Option Addr) (hb_1 : (A_1 = none ∨ A_1 = some ⟨b0, 0, none⟩)) (d0_1 : List UInt8) (A_2 : Option Addr) (cap_1 : Nat) (cs_1 : List Value) (hr_1 : RepSeq M (d0_1.map embB) cs_1) (r : List UInt8) (hF : strings_Builder_copyCheck_3 n d0_1 = some r) : OkH Tryd.prog M [Ent.obj b0 (.cells #[.pointer A_1, .slice A_2 d0_1.length cap_1] 41 (0, 0)), Ent.row 5 1 (.slice A_2 d0_1.length cap_1) d0_1.length cs_1] 44 [.pointer (some (⟨b0, 0, none⟩))] (fun M' E' v => ∃ (A_3 : Option Addr) (A_4 : Option Addr) (cap_2 : Nat) (cs_2 : List Value), v = .tuple #[] ∧ E' = [Ent.obj b0 (.cells #[.pointer A_3, .slice A_4 r.length cap_2] 41 (0, 0)), Ent.row 5 1 (.slice A_4 r.length cap_2) r.length cs_2] ∧ (A_3 = none ∨ A_3 = some ⟨b0, 0, none⟩) ∧ RepSeq M' (r.map embB) cs_2) := by
  rcases hb_1 with rfl | rfl
  · exact strings_Builder_copyCheck_ok n M b0 d0_1 A_2 cap_1 cs_1 hr_1 r hF
  · exact strings_Builder_copyCheck_2_ok n M b0 d0_1 A_2 cap_1 cs_1 hr_1 r hF

def strings_Builder_WriteString (n : Nat) (d0_1 : List UInt8) (d1 : List UInt8) : Option (Int × Unit × List UInt8) :=
  (strings_Builder_copyCheck_3 n d0_1).bind fun x_1 =>
  need ((x_1.length + d1.length) * 1 ≤ 140737488355328) <|
  some (((d1.length : Int), (), x_1 ++ d1))
theorem strings_Builder_WriteString_ok (n : Nat) (M : Mem) (b0 : Nat) (A_1 : Option Addr) (hb_1 : (A_1 = none ∨ A_1 = some ⟨b0, 0, none⟩)) (d0_1 : List UInt8) (A_2 : Option Addr) (cap_1 : Nat) (cs_1 : List Value) (hr_1 : RepSeq M (d0_1.map embB) cs_1) (d1 : List UInt8) (r : Int × Unit × List UInt8) (hF : strings_Builder_WriteString n d0_1 d1 = some r) : OkH Tryd.prog M [Ent.obj b0 (.cells #[.pointer A_1, .slice A_2 d0_1.length cap_1] 41 (0, 0)), Ent.row 5 1 (.slice A_2 d0_1.length cap_1) d0_1.length cs_1] 25 [.pointer (some (⟨b0, 0, none⟩)), S d1] (fun M' E' v => ∃ (A_6 : Option Addr) (A_7 : Option Addr) (cap_4 : Nat) (cs_4 : List Value), v = .tuple #[.int .i64 r.1, .nilIface] ∧ E' = [Ent.obj b0 (.cells #[.pointer A_6, .slice A_7 r.2.2.length cap_4] 41 (0, 0)), Ent.row 5 1 (.slice A_7 r.2.2.length cap_4) r.2.2.length cs_4] ∧ (A_6 = none ∨ A_6 = some ⟨b0, 0, none⟩) ∧ RepSeq M' (r.2.2.map embB) cs_4) := by
  unfold strings_Builder_WriteString at hF
  intro M1 hM0 w0 H w p0
  replace hr_1 := RepSeq.mono hM0 _ _ hr_1
  replace p0 : Hp w0 M1 ((Ent.obj b0 (.cells #[.pointer A_1, .slice A_2 d0_1.length cap_1] 41 (0, 0))) :: (Ent.row 5 1 (.slice A_2 d0_1.length cap_1) d0_1.length cs_1) :: H) w := p0
  refine R_enter 19 Tryd.func25 rfl rfl (by simp) (fun a0 f0 => ?_)
  replace f0 : Frm 19 [(0, .pointer (some (⟨b0, 0, none⟩))), (1, S d1)] a0 := f0
  refine R_seq ?_
  refine R_reg ?_
  refine W_run (L' := [(0, .pointer (some (⟨b0, 0, none⟩))), (1, S d1)]) (w' := w) f0 2 [0, 1] (by kernel_rfl) (fun a_1 f_1 => ?_)
  refine W_end rfl ?_
  refine T_n ?_
  refine R_seq ?_
  refine R_reg ?_
  refine W_run (L' := [(0, .pointer (some (⟨b0, 0, none⟩))), (1, S d1), (6, .pointer (some (⟨b0, 0, none⟩)))]) (w' := w) f_1 1 [0, 1, 6] (by kernel_rfl) (fun a_2 f_2 => ?_)
  obtain ⟨x_1, hx_1, hF_1⟩ := bind_some' hF
  refine W_okH (E := [Ent.obj b0 (.cells #[.pointer A_1, .slice A_2 d0_1.length cap_1] 41 (0, 0)), Ent.row 5 1 (.slice A_2 d0_1.length cap_1) d0_1.length cs_1]) (H := (H)) f_2 p0 (by kernel_rfl) (by kernel_rfl) rfl rfl (fun _ => by kernel_rfl) (strings_Builder_copyCheck_3_ok n _ b0 A_1 hb_1 d0_1 A_2 cap_1 cs_1 hr_1 x_1 hx_1) (fun u_1 M_1 E_1 w_1 hM_1 p_1 q_1 a_3 f_3 => ?_)
  obtain ⟨A_3, A_4, cap_2, cs_2, rfl, rfl, hb_2, hr_2⟩ := q_1
  replace p_1 : Hp w0 M_1 ((Ent.obj b0 (.cells #[.pointer A_3, .slice A_4 x_1.length cap_2] 41 (0, 0))) :: (Ent.row 5 1 (.slice A_4 x_1.length cap_2) x_1.length cs_2) :: H) w_1 := p_1
  refine W_end rfl ?_
  refine T_n ?_
  refine R_seq ?_
  refine R_reg ?_
  refine W_run (L' := [(1, S d1), (8, .pointer (some (⟨b0, 0, none⟩))), (11, .pointer (some (⟨b0, 1, none⟩)))]) (w' := w_1) f_3 4 [1, 8, 11] (by kernel_rfl) (fun a_4 f_4 => ?_)
  refine W_eq (v := .slice A_4 x_1.length cap_2) f_4 (by kernel_rfl) (by kernel_rfl) rfl rfl (X_load1 (v := .slice A_4 x_1.length cap_2) rfl (ad := ⟨b0, 1, none⟩) (by kernel_rfl) (by kernel_rfl) (p_1.ownCell 0 rfl 1)) (fun a_5 f_5 => ?_)
  refine W_run (L' := [(1, S d1), (8, .pointer (some (⟨b0, 0, none⟩))), (12, .slice A_4 x_1.length cap_2), (13, S d1)]) (w' := w_1) f_5 1 [1, 8, 12, 13] (by kernel_rfl) (fun a_6 f_6 => ?_)
  have p_2 : Hp w0 M_1 ((Ent.row 5 1 (.slice A_4 x_1.length cap_2) x_1.length cs_2) :: (Ent.obj b0 (.cells #[.pointer A_3, .slice A_4 x_1.length cap_2] 41 (0, 0))) :: H) w_1 := p_1.pull 1 rfl rfl
  obtain ⟨g_1, hF_2⟩ := need_some hF_1
  refine W_appendT (z := .int .u8 0) (xs := x_1) (l := d1) f_6 p_2 hr_2 (by kernel_rfl) (by kernel_rfl) rfl rfl rfl (by kernel_rfl) (by kernel_rfl) (by kernel_rfl) (by kernel_rfl) (by kernel_rfl) g_1 (by omega) (fun A_5 cap_3 cs_3 w_2 p_3 hr_3 a_7 f_7 => ?_)
  refine W_run (L' := [(1, S d1), (14, .slice A_5 (x_1 ++ d1).length cap_3), (16, .pointer (some (⟨b0, 1, none⟩)))]) (w' := w_2) f_7 2 [1, 14, 16] (by kernel_rfl) (fun a_8 f_8 => ?_)
  refine W_store1 f_8 p_3 1 (by kernel_rfl) (by kernel_rfl) rfl rfl (b := b0) (j := 1) (v := .slice A_5 (x_1 ++ d1).length cap_3) (by kernel_rfl) (by kernel_rfl) rfl (by kernel_rfl) (by exact rfl) (by simp) (by simp) ((Ent.row 5 1 (.slice A_5 (x_1 ++ d1).length cap_3) (x_1 ++ d1).length cs_3) :: (Ent.obj b0 (.cells #[.pointer A_3, .slice A_5 (x_1 ++ d1).length cap_3] 41 (0, 0))) :: H) rfl (fun w_3 p_4 a_9 f_9 => ?_)
  refine W_end rfl ?_
  refine T_n ?_
  refine R_seq ?_
  refine R_reg ?_
  refine W_run (L' := [(4, .int .i64 (d1.length : Int)), (5, .nilIface)]) (w' := w_3) f_9 4 [4, 5] (by kernel_rfl) (fun a_10 f_10 => ?_)
  refine W_end rfl ?_
  refine T_n ?_
  refine wp_ret ?_
  refine E_ret2 f_10 rfl (by kernel_rfl : Vc.look _ 4 = some (.int .i64 (d1.length : Int))) (by kernel_rfl : Vc.look _ 5 = some (.nilIface)) ?_
  obtain rfl := Option.some.inj hF_2
  have p_5 : Hp w0 M_1 ((Ent.obj b0 (.cells #[.pointer A_3, .slice A_5 (x_1 ++ d1).length cap_3] 41 (0, 0))) :: (Ent.row 5 1 (.slice A_5 (x_1 ++ d1).length cap_3) (x_1 ++ d1).length cs_3) :: H) w_3 := p_4.pull 1 rfl rfl
  exact ⟨_, rfl, M_1, _, hM_1, p_5, ⟨A_3, A_5, cap_3, cs_3, rfl, rfl, hb_2, hr_3⟩⟩

def strings_Builder_WriteByte (n : Nat) (d0_1 : List UInt8) (d1 : Int) : Option (Unit × List UInt8) :=
  (strings_Builder_copyCheck_3 n d0_1).bind fun x_1 =>
  need (0 ≤ d1 ∧ d1 < 256) <|
  need ((x_1.length + 1) * 1 ≤ 140737488355328) <|
  some (((), x_1 ++ [UInt8.ofNat (d1).toNat]))
theorem strings_Builder_WriteByte_ok (n : Nat) (M : Mem) (b0 : Nat) (A_1 : Option Addr) (hb_1 : (A_1 = none ∨ A_1 = some ⟨b0, 0, none⟩)) (d0_1 : List UInt8) (A_2 : Option Addr) (cap_1 : Nat) (cs_1 : List Value) (hr_1 : RepSeq M (d0_1.map embB) cs_1) (d1 : Int) (r : Unit × List UInt8) (hF : strings_Builder_WriteByte n d0_1 d1 = some r) : OkH Tryd.prog M [Ent.obj b0 (.cells #[.pointer A_1, .slice A_2 d0_1.length cap_1] 41 (0, 0)), Ent.row 5 1 (.slice A_2 d0_1.length cap_1) d0_1.length cs_1] 27 [.pointer (some (⟨b0, 0, none⟩)), .int .u8 d1] (fun M' E' v => ∃ (A_6 : Option Addr) (A_7 : Option Addr) (cap_4 : Nat) (cs_4 : List Value), v = .nilIface ∧ E' = [Ent.obj b0 (.cells #[.pointer A_6, .slice A_7 r.2.length cap_4] 41 (0, 0)), Ent.row 5 1 (.slice A_7 r.2.length cap_4) r.2.length cs_4] ∧ (A_6 = none ∨ A_6 = some ⟨b0, 0, none⟩) ∧ RepSeq M' (r.2.map embB) cs_4) := by
  unfold strings_Builder_WriteByte at hF
  intro M1 hM0 w0 H w p0
  replace hr_1 := RepSeq.mono hM0 _ _ hr_1
  replace p0 : Hp w0 M1 ((Ent.obj b0 (.cells #[.pointer A_1, .slice A_2 d0_1.length cap_1] 41 (0, 0))) :: (Ent.row 5 1 (.slice A_2 d0_1.length cap_1) d0_1.length cs_1) :: H) w := p0
  refine R_enter 17 Tryd.func27 rfl rfl (by simp) (fun a0 f0 => ?_)
  replace f0 : Frm 17 [(0, .pointer (some (⟨b0, 0, none⟩))), (1, .int .u8 d1)] a0 := f0
  refine R_seq ?_
  refine R_reg ?_
  refine W_run (L' := [(0, .pointer (some (⟨b0, 0, none⟩))), (1, .int .u8 d1)]) (w' := w) f0 1 [0, 1] (by kernel_rfl) (fun a_1 f_1 => ?_)
  refine W_end rfl ?_
  refine T_n ?_
  refine R_seq ?_
  refine R_reg ?_
  refine W_run (L' := [(0, .pointer (some (⟨b0, 0, none⟩))), (1, .int .u8 d1), (5, .pointer (some (⟨b0, 0, none⟩)))]) (w' := w) f_1 1 [0, 1, 5] (by kernel_rfl) (fun a_2 f_2 => ?_)
  obtain ⟨x_1, hx_1, hF_1⟩ := bind_some' hF
  refine W_okH (E := [Ent.obj b0 (.cells #[.pointer A_1, .slice A_2 d0_1.length cap_1] 41 (0, 0)), Ent.row 5 1 (.slice A_2 d0_1.length cap_1) d0_1.length cs_1]) (H := (H)) f_2 p0 (by kernel_rfl) (by kernel_rfl) rfl rfl (fun _ => by kernel_rfl) (strings_Builder_copyCheck_3_ok n _ b0 A_1 hb_1 d0_1 A_2 cap_1 cs_1 hr_1 x_1 hx_1) (fun u_1 M_1 E_1 w_1 hM_1 p_1 q_1 a_3 f_3 => ?_)
  obtain ⟨A_3, A_4, cap_2, cs_2, rfl, rfl, hb_2, hr_2⟩ := q_1
  replace p_1 : Hp w0 M_1 ((Ent.obj b0 (.cells #[.pointer A_3, .slice A_4 x_1.length cap_2] 41 (0, 0))) :: (Ent.row 5 1 (.slice A_4 x_1.length cap_2) x_1.length cs_2) :: H) w_1 := p_1
  refine W_end rfl ?_
  refine T_n ?_
  refine R_seq ?_
  refine R_reg ?_
  refine W_run (L' := [(1, .int .u8 d1), (7, .pointer (some (⟨b0, 0, none⟩))), (10, .pointer (some (⟨b0, 1, none⟩)))]) (w' := w_1) f_3 4 [1, 7, 10] (by kernel_rfl) (fun a_4 f_4 => ?_)
  refine W_eq (v := .slice A_4 x_1.length cap_2) f_4 (by kernel_rfl) (by kernel_rfl) rfl rfl (X_load1 (v := .slice A_4 x_1.length cap_2) rfl (ad := ⟨b0, 1, none⟩) (by kernel_rfl) (by kernel_rfl) (p_1.ownCell 0 rfl 1)) (fun a_5 f_5 => ?_)
  refine W_run (L' := [(7, .pointer (some (⟨b0, 0, none⟩))), (11, .slice A_4 x_1.length cap_2), (12, .int .u8 d1)]) (w' := w_1) f_5 1 [7, 11, 12] (by kernel_rfl) (fun a_6 f_6 => ?_)
  refine W_alloc f_6 p_1 1 [7, 11, 12, 13] (.cells #[.int .u8 d1] 5 (0, 0)) (fun b_1 => [(7, .pointer (some (⟨b0, 0, none⟩))), (11, .slice A_4 x_1.length cap_2), (12, .int .u8 d1), (13, .slice (some ⟨b_1, 0, none⟩) 1 1)]) (fun _ => by kernel_rfl) (fun b_1 w_2 p_2 a_7 f_7 => ?_)
  replace f_7 : Frm 17 [(7, .pointer (some (⟨b0, 0, none⟩))), (11, .slice A_4 x_1.length cap_2), (12, .int .u8 d1), (13, .slice (some ⟨b_1, 0, none⟩) 1 1)] a_7 := f_7
  obtain ⟨g_1, hF_2⟩ := need_some hF_1
  have p_3 : Hp w0 M_1 ((Ent.row 5 1 (.slice A_4 x_1.length cap_2) x_1.length cs_2) :: (Ent.obj b_1 (.cells #[.int .u8 d1] 5 (0, 0))) :: (Ent.obj b0 (.cells #[.pointer A_3, .slice A_4 x_1.length cap_2] 41 (0, 0))) :: H) w_2 := p_2.pull 2 rfl rfl
  obtain ⟨g_2, hF_3⟩ := need_some hF_2
  refine W_appendL (z := .int .u8 0) (f := embB) (xs := x_1) (ys := [UInt8.ofNat (d1).toNat]) (news := [.int .u8 d1]) (ad := ⟨b_1, 0, none⟩) (m := 1) (c := 1) f_7 p_3 hr_2 (by exact ⟨_, _, rfl, (embB_of (by omega)), rfl⟩) (by kernel_rfl) (by kernel_rfl) rfl rfl rfl (by kernel_rfl) (by kernel_rfl) (by kernel_rfl) (by kernel_rfl) rfl (own_cells (p_3.ownCell 1 rfl) 0 rfl) (by exact g_2) (by have hg_ := g_2; first | omega | (simp only [List.length_cons, List.length_nil] at *; omega)) (fun A_5 cap_3 cs_3 w_3 p_4 hr_3 a_8 f_8 => ?_)
  have p_5 : Hp w0 M_1 ((Ent.obj b_1 (.cells #[.int .u8 d1] 5 (0, 0))) :: (Ent.row 5 1 (.slice A_5 (x_1 ++ [UInt8.ofNat (d1).toNat]).length cap_3) (x_1 ++ [UInt8.ofNat (d1).toNat]).length cs_3) :: (Ent.obj b0 (.cells #[.pointer A_3, .slice A_4 x_1.length cap_2] 41 (0, 0))) :: H) w_3 := p_4.pull 1 rfl rfl
  have p_6 := p_5.drop
  refine W_run (L' := [(14, .slice A_5 (x_1 ++ [UInt8.ofNat (d1).toNat]).length cap_3), (16, .pointer (some (⟨b0, 1, none⟩)))]) (w' := w_3) f_8 2 [14, 16] (by kernel_rfl) (fun a_9 f_9 => ?_)
  refine W_store1 f_9 p_6 1 (by kernel_rfl) (by kernel_rfl) rfl rfl (b := b0) (j := 1) (v := .slice A_5 (x_1 ++ [UInt8.ofNat (d1).toNat]).length cap_3) (by kernel_rfl) (by kernel_rfl) rfl (by kernel_rfl) (by exact rfl) (by simp) (by simp) ((Ent.row 5 1 (.slice A_5 (x_1 ++ [UInt8.ofNat (d1).toNat]).length cap_3) (x_1 ++ [UInt8.ofNat (d1).toNat]).length cs_3) :: (Ent.obj b0 (.cells #[.pointer A_3, .slice A_5 (x_1 ++ [UInt8.ofNat (d1).toNat]).length cap_3] 41 (0, 0))) :: H) rfl (fun w_4 p_7 a_10 f_10 => ?_)
  refine W_end rfl ?_
  refine T_n ?_
  refine R_seq ?_
  refine R_reg ?_
  refine W_run (L' := [(4, .nilIface)]) (w' := w_4) f_10 1 [4] (by kernel_rfl) (fun a_11 f_11 => ?_)
  refine W_end rfl ?_
  refine T_n ?_
  refine wp_ret ?_
  refine E_ret1 f_11 rfl (by kernel_rfl : Vc.look _ 4 = some (.nilIface)) ?_
  obtain rfl := Option.some.inj hF_3
  have p_8 : Hp w0 M_1 ((Ent.obj b0 (.cells #[.pointer A_3, .slice A_5 (x_1 ++ [UInt8.ofNat (d1).toNat]).length cap_3] 41 (0, 0))) :: (Ent.row 5 1 (.slice A_5 (x_1 ++ [UInt8.ofNat (d1).toNat]).length cap_3) (x_1 ++ [UInt8.ofNat (d1).toNat]).length cs_3) :: H) w_4 := p_7.pull 1 rfl rfl
  exact ⟨_, rfl, M_1, _, hM_1, p_8, ⟨A_3, A_5, cap_3, cs_3, rfl, rfl, hb_2, hr_3⟩⟩

def unicode_utf8_appendRuneNonASCII (n : Nat) (d0 : List UInt8) (d1 : Int) : Option (List UInt8) :=
  need (inR .u32 (d1)) <|
  bif (decide (d1 ≤ 2047)) then
    (need (0 ≤ (bOr .u8 (192 : Int) (IntKind.wrap .u8 (bShr .i32 d1 (6 : Int)))) ∧ (bOr .u8 (192 : Int) (IntKind.wrap .u8 (bShr .i32 d1 (6 : Int)))) < 256) <|
    need (0 ≤ (bOr .u8 (128 : Int) (bAnd .u8 (IntKind.wrap .u8 (d1)) (63 : Int))) ∧ (bOr .u8 (128 : Int) (bAnd .u8 (IntKind.wrap .u8 (d1)) (63 : Int))) < 256) <|
    need ((d0.length + 2) * 1 ≤ 140737488355328) <|
    some (d0 ++ [UInt8.ofNat (bOr .u8 (192 : Int) (IntKind.wrap .u8 (bShr .i32 d1 (6 : Int)))).toNat, UInt8.ofNat (bOr .u8 (128 : Int) (bAnd .u8 (IntKind.wrap .u8 (d1)) (63 : Int))).toNat]))
  else
    ((bif (decide (d1 < 55296)) then
        (some ((decide (d1 < 55296))))
      else
        bif (decide ((57343 : Int) < d1)) then
          (some ((decide (d1 ≤ 65535))))
        else
          some ((false)) : Option Bool)).bind fun y_1 =>
    bif y_1 then
      (need (0 ≤ (bOr .u8 (224 : Int) (IntKind.wrap .u8 (bShr .i32 d1 (12 : Int)))) ∧ (bOr .u8 (224 : Int) (IntKind.wrap .u8 (bShr .i32 d1 (12 : Int)))) < 256) <|
      need (0 ≤ (bOr .u8 (128 : Int) (bAnd .u8 (IntKind.wrap .u8 (bShr .i32 d1 (6 : Int))) (63 : Int))) ∧ (bOr .u8 (128 : Int) (bAnd .u8 (IntKind.wrap .u8 (bShr .i32 d1 (6 : Int))) (63 : Int))) < 256) <|
      need (0 ≤ (bOr .u8 (128 : Int) (bAnd .u8 (IntKind.wrap .u8 (d1)) (63 : Int))) ∧ (bOr .u8 (128 : Int) (bAnd .u8 (IntKind.wrap .u8 (d1)) (63 : Int))) < 256) <|
      need ((d0.length + 3) * 1 ≤ 140737488355328) <|
      some (d0 ++ [UInt8.ofNat (bOr .u8 (224 : Int) (IntKind.wrap .u8 (bShr .i32 d1 (12 : Int)))).toNat, UInt8.ofNat (bOr .u8 (128 : Int) (bAnd .u8 (IntKind.wrap .u8 (bShr .i32 d1 (6 : Int))) (63 : Int))).toNat, UInt8.ofNat (bOr .u8 (128 : Int) (bAnd .u8 (IntKind.wrap .u8 (d1)) (63 : Int))).toNat]))
    else
      ((bif (decide ((65535 : Int) < d1)) then
          (some ((decide (d1 ≤ 1114111))))
        else
          some ((false)) : Option Bool)).bind fun y_2 =>
      bif y_2 then
        (need (0 ≤ (bOr .u8 (240 : Int) (IntKind.wrap .u8 (bShr .i32 d1 (18 : Int)))) ∧ (bOr .u8 (240 : Int) (IntKind.wrap .u8 (bShr .i32 d1 (18 : Int)))) < 256) <|
        need (0 ≤ (bOr .u8 (128 : Int) (bAnd .u8 (IntKind.wrap .u8 (bShr .i32 d1 (12 : Int))) (63 : Int))) ∧ (bOr .u8 (128 : Int) (bAnd .u8 (IntKind.wrap .u8 (bShr .i32 d1 (12 : Int))) (63 : Int))) < 256) <|
        need (0 ≤ (bOr .u8 (128 : Int) (bAnd .u8 (IntKind.wrap .u8 (bShr .i32 d1 (6 : Int))) (63 : Int))) ∧ (bOr .u8 (128 : Int) (bAnd .u8 (IntKind.wrap .u8 (bShr .i32 d1 (6 : Int))) (63 : Int))) < 256) <|
        need (0 ≤ (bOr .u8 (128 : Int) (bAnd .u8 (IntKind.wrap .u8 (d1)) (63 : Int))) ∧ (bOr .u8 (128 : Int) (bAnd .u8 (IntKind.wrap .u8 (d1)) (63 : Int))) < 256) <|
        need ((d0.length + 4) * 1 ≤ 140737488355328) <|
        some (d0 ++ [UInt8.ofNat (bOr .u8 (240 : Int) (IntKind.wrap .u8 (bShr .i32 d1 (18 : Int)))).toNat, UInt8.ofNat (bOr .u8 (128 : Int) (bAnd .u8 (IntKind.wrap .u8 (bShr .i32 d1 (12 : Int))) (63 : Int))).toNat, UInt8.ofNat (bOr .u8 (128 : Int) (bAnd .u8 (IntKind.wrap .u8 (bShr .i32 d1 (6 : Int))) (63 : Int))).toNat, UInt8.ofNat (bOr .u8 (128 : Int) (bAnd .u8 (IntKind.wrap .u8 (d1)) (63 : Int))).toNat]))
      else
        need ((d0.length + 3) * 1 ≤ 140737488355328) <|
        some (d0 ++ [(239 : UInt8), (191 : UInt8), (189 : UInt8)])
theorem unicode_utf8_appendRuneNonASCII_ok (n : Nat) (M : Mem) (d0 : List UInt8) (A_1 : Option Addr) (cap_1 : Nat) (cs_1 : List Value) (hr_1 : RepSeq M (d0.map embB) cs_1) (d1 : Int) (r : List UInt8) (hF : unicode_utf8_appendRuneNonASCII n d0 d1 = some r) : OkH Tryd.prog M [Ent.row 5 1 (.slice A_1 d0.length cap_1) d0.length cs_1] 55 [.slice A_1 d0.length cap_1, .int .i32 d1] (fun M' E' v => ∃ (A0 : Option Addr) (k0 : Nat) (s0 : List Value), v = .slice A0 r.length k0 ∧ E' = [.row 5 1 (.slice A0 r.length k0) r.length s0] ∧ RepSeq M' (r.map embB) s0) := by
  unfold unicode_utf8_appendRuneNonASCII at hF
  intro M1 hM0 w0 H w p0
  replace hr_1 := RepSeq.mono hM0 _ _ hr_1
  replace p0 : Hp w0 M1 ((Ent.row 5 1 (.slice A_1 d0.length cap_1) d0.length cs_1) :: H) w := p0
  refine R_enter 78 Tryd.func55 rfl rfl (by simp) (fun a0 f0 => ?_)
  replace f0 : Frm 78 [(0, .slice A_1 d0.length cap_1), (1, .int .i32 d1)] a0 := f0
  refine R_seq ?_
  refine R_reg ?_
  refine W_run (L' := [(0, .slice A_1 d0.length cap_1), (1, .int .i32 d1)]) (w' := w) f0 1 [0, 1] (by kernel_rfl) (fun a_1 f_1 => ?_)
  refine W_end rfl ?_
  refine T_n ?_
  refine R_seq ?_
  refine R_reg ?_
  refine W_run (L' := [(0, .slice A_1 d0.length cap_1), (1, .int .i32 d1), (6, .int .i32 d1)]) (w' := w) f_1 1 [0, 1, 6] (by kernel_rfl) (fun a_2 f_2 => ?_)
  obtain ⟨g_1, hF_1⟩ := need_some hF
  refine W_run (L' := [(0, .slice A_1 d0.length cap_1), (1, .int .i32 d1), (6, .int .i32 d1), (7, .int .u32 (IntKind.wrap .u32 (d1)))]) (w' := w) f_2 1 [0, 1, 6, 7] (by kernel_rfl) (fun a_3 f_3 => ?_)
  have f_4 := Frm.set f_3 7 (v := .int .u32 (IntKind.wrap .u32 (d1))) (v' := .int .u32 d1) (by kernel_rfl) (congrArg (Value.int .u32) (inR_wrap g_1))
  have f_5 : Frm 78 [(0, .slice A_1 d0.length cap_1), (1, .int .i32 d1), (6, .int .i32 d1), (7, .int .u32 d1)] a_3 := f_4.keep (ks := [0, 1, 6, 7]) (by kernel_rfl)
  refine W_run (L' := [(0, .slice A_1 d0.length cap_1), (1, .int .i32 d1), (5, .int .u32 d1)]) (w' := w) f_5 1 [0, 1, 5] (by kernel_rfl) (fun a_4 f_6 => ?_)
  refine W_end rfl ?_
  refine T_n ?_
  refine wp_block ?_
  refine R_seq ?_
  refine R_reg ?_
  refine W_run (L' := [(0, .slice A_1 d0.length cap_1), (1, .int .i32 d1), (5, .int .u32 d1), (11, .bool (decide (d1 ≤ 2047)))]) (w' := w) f_6 3 [0, 1, 5, 11] (by kernel_rfl) (fun a_5 f_7 => ?_)
  refine W_end rfl ?_
  refine T_n ?_
  refine R_cond f_7 (b := decide (d1 ≤ 2047)) (by kernel_rfl) (by kernel_rfl) (fun h_1 => ?_) (fun h_1 => ?_)
  · have k_1 : d1 ≤ 2047 := decide_eq_true_iff.1 h_1
    have hF_2 := cnd_t h_1 hF_1
    refine R_seq ?_
    refine R_reg ?_
    refine W_run (L' := [(1, .int .i32 d1), (14, .slice A_1 d0.length cap_1), (16, .int .i32 (bShr .i32 d1 (6 : Int)))]) (w' := w) f_7 3 [1, 14, 16] (by kernel_rfl) (fun a_6 f_8 => ?_)
    refine W_run (L' := [(1, .int .i32 d1), (14, .slice A_1 d0.length cap_1), (16, .int .i32 (bShr .i32 d1 (6 : Int))), (17, .int .u8 (IntKind.wrap .u8 (bShr .i32 d1 (6 : Int))))]) (w' := w) f_8 1 [1, 14, 16, 17] (by kernel_rfl) (fun a_7 f_9 => ?_)
    refine W_run (L' := [(14, .slice A_1 d0.length cap_1), (18, .int .u8 (bOr .u8 (192 : Int) (IntKind.wrap .u8 (bShr .i32 d1 (6 : Int))))), (19, .int .i32 d1)]) (w' := w) f_9 2 [14, 18, 19] (by kernel_rfl) (fun a_8 f_10 => ?_)
    refine W_run (L' := [(14, .slice A_1 d0.length cap_1), (18, .int .u8 (bOr .u8 (192 : Int) (IntKind.wrap .u8 (bShr .i32 d1 (6 : Int))))), (19, .int .i32 d1), (20, .int .u8 (IntKind.wrap .u8 (d1)))]) (w' := w) f_10 1 [14, 18, 19, 20] (by kernel_rfl) (fun a_9 f_11 => ?_)
    refine W_run (L' := [(14, .slice A_1 d0.length cap_1), (18, .int .u8 (bOr .u8 (192 : Int) (IntKind.wrap .u8 (bShr .i32 d1 (6 : Int))))), (22, .int .u8 (bOr .u8 (128 : Int) (bAnd .u8 (IntKind.wrap .u8 (d1)) (63 : Int))))]) (w' := w) f_11 2 [14, 18, 22] (by kernel_rfl) (fun a_10 f_12 => ?_)
    refine W_alloc f_12 p0 1 [14, 18, 22, 23] (.cells #[.int .u8 (bOr .u8 (192 : Int) (IntKind.wrap .u8 (bShr .i32 d1 (6 : Int)))), .int .u8 (bOr .u8 (128 : Int) (bAnd .u8 (IntKind.wrap .u8 (d1)) (63 : Int)))] 5 (0, 0)) (fun b_1 => [(14, .slice A_1 d0.length cap_1), (18, .int .u8 (bOr .u8 (192 : Int) (IntKind.wrap .u8 (bShr .i32 d1 (6 : Int))))), (22, .int .u8 (bOr .u8 (128 : Int) (bAnd .u8 (IntKind.wrap .u8 (d1)) (63 : Int)))), (23, .slice (some ⟨b_1, 0, none⟩) 2 2)]) (fun _ => by kernel_rfl) (fun b_1 w_1 p_1 a_11 f_13 => ?_)
    replace f_13 : Frm 78 [(14, .slice A_1 d0.length cap_1), (18, .int .u8 (bOr .u8 (192 : Int) (IntKind.wrap .u8 (bShr .i32 d1 (6 : Int))))), (22, .int .u8 (bOr .u8 (128 : Int) (bAnd .u8 (IntKind.wrap .u8 (d1)) (63 : Int)))), (23, .slice (some ⟨b_1, 0, none⟩) 2 2)] a_11 := f_13
    obtain ⟨g_2, hF_3⟩ := need_some hF_2
    obtain ⟨g_3, hF_4⟩ := need_some hF_3
    have p_2 : Hp w0 M1 ((Ent.row 5 1 (.slice A_1 d0.length cap_1) d0.length cs_1) :: (Ent.obj b_1 (.cells #[.int .u8 (bOr .u8 (192 : Int) (IntKind.wrap .u8 (bShr .i32 d1 (6 : Int)))), .int .u8 (bOr .u8 (128 : Int) (bAnd .u8 (IntKind.wrap .u8 (d1)) (63 : Int)))] 5 (0, 0))) :: H) w_1 := p_1.pull 1 rfl rfl
    obtain ⟨g_4, hF_5⟩ := need_some hF_4
    refine W_appendL (z := .int .u8 0) (f := embB) (xs := d0) (ys := [UInt8.ofNat (bOr .u8 (192 : Int) (IntKind.wrap .u8 (bShr .i32 d1 (6 : Int)))).toNat, UInt8.ofNat (bOr .u8 (128 : Int) (bAnd .u8 (IntKind.wrap .u8 (d1)) (63 : Int))).toNat]) (news := [.int .u8 (bOr .u8 (192 : Int) (IntKind.wrap .u8 (bShr .i32 d1 (6 : Int)))), .int .u8 (bOr .u8 (128 : Int) (bAnd .u8 (IntKind.wrap .u8 (d1)) (63 : Int)))]) (ad := ⟨b_1, 0, none⟩) (m := 2) (c := 2) f_13 p_2 hr_1 (by exact ⟨_, _, rfl, (embB_of (by omega)), ⟨_, _, rfl, (embB_of (by omega)), rfl⟩⟩) (by kernel_rfl) (by kernel_rfl) rfl rfl rfl (by kernel_rfl) (by kernel_rfl) (by kernel_rfl) (by kernel_rfl) rfl (own_cells (p_2.ownCell 1 rfl) 0 rfl) (by exact g_4) (by have hg_ := g_4; first | omega | (simp only [List.length_cons, List.length_nil] at *; omega)) (fun A_2 cap_2 cs_2 w_2 p_3 hr_2 a_12 f_14 => ?_)
    have p_4 : Hp w0 M1 ((Ent.obj b_1 (.cells #[.int .u8 (bOr .u8 (192 : Int) (IntKind.wrap .u8 (bShr .i32 d1 (6 : Int)))), .int .u8 (bOr .u8 (128 : Int) (bAnd .u8 (IntKind.wrap .u8 (d1)) (63 : Int)))] 5 (0, 0))) :: (Ent.row 5 1 (.slice A_2 (d0 ++ [UInt8.ofNat (bOr .u8 (192 : Int) (IntKind.wrap .u8 (bShr .i32 d1 (6 : Int)))).toNat, UInt8.ofNat (bOr .u8 (128 : Int) (bAnd .u8 (IntKind.wrap .u8 (d1)) (63 : Int))).toNat]).length cap_2) (d0 ++ [UInt8.ofNat (bOr .u8 (192 : Int) (IntKind.wrap .u8 (bShr .i32 d1 (6 : Int)))).toNat, UInt8.ofNat (bOr .u8 (128 : Int) (bAnd .u8 (IntKind.wrap .u8 (d1)) (63 : Int))).toNat]).length cs_2) :: H) w_2 := p_3.pull 1 rfl rfl
    have p_5 := p_4.drop
    refine W_run (L' := [(4, .slice A_2 (d0 ++ [UInt8.ofNat (bOr .u8 (192 : Int) (IntKind.wrap .u8 (bShr .i32 d1 (6 : Int)))).toNat, UInt8.ofNat (bOr .u8 (128 : Int) (bAnd .u8 (IntKind.wrap .u8 (d1)) (63 : Int))).toNat]).length cap_2)]) (w' := w_2) f_14 1 [4] (by kernel_rfl) (fun a_13 f_15 => ?_)
    refine W_end rfl ?_
    refine T_n ?_
    refine wp_ret ?_
    refine B_r ?_
    refine E_ret1 f_15 rfl (by kernel_rfl : Vc.look _ 4 = some (.slice A_2 (d0 ++ [UInt8.ofNat (bOr .u8 (192 : Int) (IntKind.wrap .u8 (bShr .i32 d1 (6 : Int)))).toNat, UInt8.ofNat (bOr .u8 (128 : Int) (bAnd .u8 (IntKind.wrap .u8 (d1)) (63 : Int))).toNat]).length cap_2)) ?_
    obtain rfl := Option.some.inj hF_5
    exact ⟨_, rfl, M1, _, (Mem.le_refl _), p_5, ⟨A_2, cap_2, cs_2, rfl, rfl, hr_2⟩⟩
  · have k_2 : ¬ (d1 ≤ 2047) := iff_f decide_eq_true_iff h_1
    have hF_6 := cnd_f h_1 hF_1
    refine R_seq ?_
    refine R_seq ?_
    refine R_reg ?_
    refine W_run (L' := [(0, .slice A_1 d0.length cap_1), (1, .int .i32 d1), (5, .int .u32 d1), (25, .bool (decide (d1 < 55296)))]) (w' := w) f_7 3 [0, 1, 5, 25] (by kernel_rfl) (fun a_14 f_16 => ?_)
    refine W_end rfl ?_
    refine T_n ?_
    obtain ⟨j_1, hj_1, hF_7⟩ := bind_some' hF_6
    refine R_mid (fun a_18 w_3 => ∃ y_1 : Bool, j_1 = y_1 ∧ ∃ M_1 : Mem, M1.le M_1 ∧ Frm 78 [(0, .slice A_1 d0.length cap_1), (1, .int .i32 d1), (5, .int .u32 d1), (25, .bool y_1)] a_18 ∧ Hp w0 M_1 ((Ent.row 5 1 (.slice A_1 d0.length cap_1) d0.length cs_1) :: H) w_3) ?_ ?_
    · refine R_cond f_16 (b := decide (d1 < 55296)) (by kernel_rfl) (by kernel_rfl) (fun h_2 => ?_) (fun h_2 => ?_)
      · have k_3 : d1 < 55296 := decide_eq_true_iff.1 h_2
        have hF_8 := cnd_t h_2 hj_1
        refine wp_skip ?_
        refine T_n ?_
        exact ⟨(decide (d1 < 55296)), (Option.some.inj hF_8).symm, M1, (Mem.le_refl _), f_16.keep (ks := [0, 1, 5, 25]) (by kernel_rfl), p0⟩
      · have k_4 : ¬ (d1 < 55296) := iff_f decide_eq_true_iff h_2
        have hF_9 := cnd_f h_2 hj_1
        refine R_reg ?_
        refine W_run (L' := [(0, .slice A_1 d0.length cap_1), (1, .int .i32 d1), (5, .int .u32 d1), (30, .bool (decide ((57343 : Int) < d1)))]) (w' := w) f_16 3 [0, 1, 5, 30] (by kernel_rfl) (fun a_15 f_17 => ?_)
        rcases Bool.eq_false_or_eq_true (decide ((57343 : Int) < d1)) with h_3 | h_3
        · have k_5 : (57343 : Int) < d1 := decide_eq_true_iff.1 h_3
          have hF_10 := cnd_t h_3 hF_9
          have f_18 := Frm.set f_17 30 (v := .bool (decide ((57343 : Int) < d1))) (v' := .bool true) (by kernel_rfl) (congrArg Value.bool h_3)
          have f_19 : Frm 78 [(0, .slice A_1 d0.length cap_1), (1, .int .i32 d1), (5, .int .u32 d1), (30, .bool true)] a_15 := f_18.keep (ks := [0, 1, 5, 30]) (by kernel_rfl)
          refine W_run (L' := [(0, .slice A_1 d0.length cap_1), (1, .int .i32 d1), (5, .int .u32 d1), (25, .bool (decide (d1 ≤ 65535)))]) (w' := w) f_19 4 [0, 1, 5, 25] (by kernel_rfl) (fun a_16 f_20 => ?_)
          refine W_end rfl ?_
          refine T_n ?_
          exact ⟨(decide (d1 ≤ 65535)), (Option.some.inj hF_10).symm, M1, (Mem.le_refl _), f_20.keep (ks := [0, 1, 5, 25]) (by kernel_rfl), p0⟩
        · have k_6 : ¬ ((57343 : Int) < d1) := iff_f decide_eq_true_iff h_3
          have hF_11 := cnd_f h_3 hF_9
          have f_21 := Frm.set f_17 30 (v := .bool (decide ((57343 : Int) < d1))) (v' := .bool false) (by kernel_rfl) (congrArg Value.bool h_3)
          have f_22 : Frm 78 [(0, .slice A_1 d0.length cap_1), (1, .int .i32 d1), (5, .int .u32 d1), (30, .bool false)] a_15 := f_21.keep (ks := [0, 1, 5, 30]) (by kernel_rfl)
          refine W_run (L' := [(0, .slice A_1 d0.length cap_1), (1, .int .i32 d1), (5, .int .u32 d1), (25, .bool false)]) (w' := w) f_22 4 [0, 1, 5, 25] (by kernel_rfl) (fun a_17 f_23 => ?_)
          refine W_end rfl ?_
          refine T_n ?_
          exact ⟨(false), (Option.some.inj hF_11).symm, M1, (Mem.le_refl _), f_23.keep (ks := [0, 1, 5, 25]) (by kernel_rfl), p0⟩
    · rintro a_18 w_3 ⟨y_1, hq_1, M_1, hM_1, f_24, p_6⟩
      subst j_1
      refine T_n ?_
      refine R_cond f_24 (b := y_1) (by kernel_rfl) (by kernel_rfl) (fun h_4 => ?_) (fun h_4 => ?_)
      · have hF_12 := cnd_t h_4 hF_7
        refine R_seq ?_
        refine R_reg ?_
        refine W_run (L' := [(1, .int .i32 d1), (34, .slice A_1 d0.length cap_1), (36, .int .i32 (bShr .i32 d1 (12 : Int)))]) (w' := w_3) f_24 3 [1, 34, 36] (by kernel_rfl) (fun a_19 f_25 => ?_)
        refine W_run (L' := [(1, .int .i32 d1), (34, .slice A_1 d0.length cap_1), (36, .int .i32 (bShr .i32 d1 (12 : Int))), (37, .int .u8 (IntKind.wrap .u8 (bShr .i32 d1 (12 : Int))))]) (w' := w_3) f_25 1 [1, 34, 36, 37] (by kernel_rfl) (fun a_20 f_26 => ?_)
        refine W_run (L' := [(1, .int .i32 d1), (34, .slice A_1 d0.length cap_1), (38, .int .u8 (bOr .u8 (224 : Int) (IntKind.wrap .u8 (bShr .i32 d1 (12 : Int))))), (40, .int .i32 (bShr .i32 d1 (6 : Int)))]) (w' := w_3) f_26 3 [1, 34, 38, 40] (by kernel_rfl) (fun a_21 f_27 => ?_)
        refine W_run (L' := [(1, .int .i32 d1), (34, .slice A_1 d0.length cap_1), (38, .int .u8 (bOr .u8 (224 : Int) (IntKind.wrap .u8 (bShr .i32 d1 (12 : Int))))), (40, .int .i32 (bShr .i32 d1 (6 : Int))), (41, .int .u8 (IntKind.wrap .u8 (bShr .i32 d1 (6 : Int))))]) (w' := w_3) f_27 1 [1, 34, 38, 40, 41] (by kernel_rfl) (fun a_22 f_28 => ?_)
        refine W_run (L' := [(34, .slice A_1 d0.length cap_1), (38, .int .u8 (bOr .u8 (224 : Int) (IntKind.wrap .u8 (bShr .i32 d1 (12 : Int))))), (43, .int .u8 (bOr .u8 (128 : Int) (bAnd .u8 (IntKind.wrap .u8 (bShr .i32 d1 (6 : Int))) (63 : Int)))), (44, .int .i32 d1)]) (w' := w_3) f_28 3 [34, 38, 43, 44] (by kernel_rfl) (fun a_23 f_29 => ?_)
        refine W_run (L' := [(34, .slice A_1 d0.length cap_1), (38, .int .u8 (bOr .u8 (224 : Int) (IntKind.wrap .u8 (bShr .i32 d1 (12 : Int))))), (43, .int .u8 (bOr .u8 (128 : Int) (bAnd .u8 (IntKind.wrap .u8 (bShr .i32 d1 (6 : Int))) (63 : Int)))), (44, .int .i32 d1), (45, .int .u8 (IntKind.wrap .u8 (d1)))]) (w' := w_3) f_29 1 [34, 38, 43, 44, 45] (by kernel_rfl) (fun a_24 f_30 => ?_)
        refine W_run (L' := [(34, .slice A_1 d0.length cap_1), (38, .int .u8 (bOr .u8 (224 : Int) (IntKind.wrap .u8 (bShr .i32 d1 (12 : Int))))), (43, .int .u8 (bOr .u8 (128 : Int) (bAnd .u8 (IntKind.wrap .u8 (bShr .i32 d1 (6 : Int))) (63 : Int)))), (47, .int .u8 (bOr .u8 (128 : Int) (bAnd .u8 (IntKind.wrap .u8 (d1)) (63 : Int))))]) (w' := w_3) f_30 2 [34, 38, 43, 47] (by kernel_rfl) (fun a_25 f_31 => ?_)
        refine W_alloc f_31 p_6 1 [34, 38, 43, 47, 48] (.cells #[.int .u8 (bOr .u8 (224 : Int) (IntKind.wrap .u8 (bShr .i32 d1 (12 : Int)))), .int .u8 (bOr .u8 (128 : Int) (bAnd .u8 (IntKind.wrap .u8 (bShr .i32 d1 (6 : Int))) (63 : Int))), .int .u8 (bOr .u8 (128 : Int) (bAnd .u8 (IntKind.wrap .u8 (d1)) (63 : Int)))] 5 (0, 0)) (fun b_2 => [(34, .slice A_1 d0.length cap_1), (38, .int .u8 (bOr .u8 (224 : Int) (IntKind.wrap .u8 (bShr .i32 d1 (12 : Int))))), (43, .int .u8 (bOr .u8 (128 : Int) (bAnd .u8 (IntKind.wrap .u8 (bShr .i32 d1 (6 : Int))) (63 : Int)))), (47, .int .u8 (bOr .u8 (128 : Int) (bAnd .u8 (IntKind.wrap .u8 (d1)) (63 : Int)))), (48, .slice (some ⟨b_2, 0, none⟩) 3 3)]) (fun _ => by kernel_rfl) (fun b_2 w_4 p_7 a_26 f_32 => ?_)
        replace f_32 : Frm 78 [(34, .slice A_1 d0.length cap_1), (38, .int .u8 (bOr .u8 (224 : Int) (IntKind.wrap .u8 (bShr .i32 d1 (12 : Int))))), (43, .int .u8 (bOr .u8 (128 : Int) (bAnd .u8 (IntKind.wrap .u8 (bShr .i32 d1 (6 : Int))) (63 : Int)))), (47, .int .u8 (bOr .u8 (128 : Int) (bAnd .u8 (IntKind.wrap .u8 (d1)) (63 : Int)))), (48, .slice (some ⟨b_2, 0, none⟩) 3 3)] a_26 := f_32
        obtain ⟨g_5, hF_13⟩ := need_some hF_12
        obtain ⟨g_6, hF_14⟩ := need_some hF_13
        obtain ⟨g_7, hF_15⟩ := need_some hF_14
        have p_8 : Hp w0 M_1 ((Ent.row 5 1 (.slice A_1 d0.length cap_1) d0.length cs_1) :: (Ent.obj b_2 (.cells #[.int .u8 (bOr .u8 (224 : Int) (IntKind.wrap .u8 (bShr .i32 d1 (12 : Int)))), .int .u8 (bOr .u8 (128 : Int) (bAnd .u8 (IntKind.wrap .u8 (bShr .i32 d1 (6 : Int))) (63 : Int))), .int .u8 (bOr .u8 (128 : Int) (bAnd .u8 (IntKind.wrap .u8 (d1)) (63 : Int)))] 5 (0, 0))) :: H) w_4 := p_7.pull 1 rfl rfl
        obtain ⟨g_8, hF_16⟩ := need_some hF_15
        refine W_appendL (z := .int .u8 0) (f := embB) (xs := d0) (ys := [UInt8.ofNat (bOr .u8 (224 : Int) (IntKind.wrap .u8 (bShr .i32 d1 (12 : Int)))).toNat, UInt8.ofNat (bOr .u8 (128 : Int) (bAnd .u8 (IntKind.wrap .u8 (bShr .i32 d1 (6 : Int))) (63 : Int))).toNat, UInt8.ofNat (bOr .u8 (128 : Int) (bAnd .u8 (IntKind.wrap .u8 (d1)) (63 : Int))).toNat]) (news := [.int .u8 (bOr .u8 (224 : Int) (IntKind.wrap .u8 (bShr .i32 d1 (12 : Int)))), .int .u8 (bOr .u8 (128 : Int) (bAnd .u8 (IntKind.wrap .u8 (bShr .i32 d1 (6 : Int))) (63 : Int))), .int .u8 (bOr .u8 (128 : Int) (bAnd .u8 (IntKind.wrap .u8 (d1)) (63 : Int)))]) (ad := ⟨b_2, 0, none⟩) (m := 3) (c := 3) f_32 p_8 (RepSeq.mono hM_1 _ _ hr_1) (by exact ⟨_, _, rfl, (embB_of (by omega)), ⟨_, _, rfl, (embB_of (by omega)), ⟨_, _, rfl, (embB_of (by omega)), rfl⟩⟩⟩) (by kernel_rfl) (by kernel_rfl) rfl rfl rfl (by kernel_rfl) (by kernel_rfl) (by kernel_rfl) (by kernel_rfl) rfl (own_cells (p_8.ownCell 1 rfl) 0 rfl) (by exact g_8) (by have hg_ := g_8; first | omega | (simp only [List.length_cons, List.length_nil] at *; omega)) (fun A_3 cap_3 cs_3 w_5 p_9 hr_3 a_27 f_33 => ?_)
        have p_10 : Hp w0 M_1 ((Ent.obj b_2 (.cells #[.int .u8 (bOr .u8 (224 : Int) (IntKind.wrap .u8 (bShr .i32 d1 (12 : Int)))), .int .u8 (bOr .u8 (128 : Int) (bAnd .u8 (IntKind.wrap .u8 (bShr .i32 d1 (6 : Int))) (63 : Int))), .int .u8 (bOr .u8 (128 : Int) (bAnd .u8 (IntKind.wrap .u8 (d1)) (63 : Int)))] 5 (0, 0))) :: (Ent.row 5 1 (.slice A_3 (d0 ++ [UInt8.ofNat (bOr .u8 (224 : Int) (IntKind.wrap .u8 (bShr .i32 d1 (12 : Int)))).toNat, UInt8.ofNat (bOr .u8 (128 : Int) (bAnd .u8 (IntKind.wrap .u8 (bShr .i32 d1 (6 : Int))) (63 : Int))).toNat, UInt8.ofNat (bOr .u8 (128 : Int) (bAnd .u8 (IntKind.wrap .u8 (d1)) (63 : Int))).toNat]).length cap_3) (d0 ++ [UInt8.ofNat (bOr .u8 (224 : Int) (IntKind.wrap .u8 (bShr .i32 d1 (12 : Int)))).toNat, UInt8.ofNat (bOr .u8 (128 : Int) (bAnd .u8 (IntKind.wrap .u8 (bShr .i32 d1 (6 : Int))) (63 : Int))).toNat, UInt8.ofNat (bOr .u8 (128 : Int) (bAnd .u8 (IntKind.wrap .u8 (d1)) (63 : Int))).toNat]).length cs_3) :: H) w_5 := p_9.pull 1 rfl rfl
        have p_11 := p_10.drop
        refine W_run (L' := [(4, .slice A_3 (d0 ++ [UInt8.ofNat (bOr .u8 (224 : Int) (IntKind.wrap .u8 (bShr .i32 d1 (12 : Int)))).toNat, UInt8.ofNat (bOr .u8 (128 : Int) (bAnd .u8 (IntKind.wrap .u8 (bShr .i32 d1 (6 : Int))) (63 : Int))).toNat, UInt8.ofNat (bOr .u8 (128 : Int) (bAnd .u8 (IntKind.wrap .u8 (d1)) (63 : Int))).toNat]).length cap_3)]) (w' := w_5) f_33 1 [4] (by kernel_rfl) (fun a_28 f_34 => ?_)
        refine W_end rfl ?_
        refine T_n ?_
        refine wp_ret ?_
        refine B_r ?_
        refine E_ret1 f_34 rfl (by kernel_rfl : Vc.look _ 4 = some (.slice A_3 (d0 ++ [UInt8.ofNat (bOr .u8 (224 : Int) (IntKind.wrap .u8 (bShr .i32 d1 (12 : Int)))).toNat, UInt8.ofNat (bOr .u8 (128 : Int) (bAnd .u8 (IntKind.wrap .u8 (bShr .i32 d1 (6 : Int))) (63 : Int))).toNat, UInt8.ofNat (bOr .u8 (128 : Int) (bAnd .u8 (IntKind.wrap .u8 (d1)) (63 : Int))).toNat]).length cap_3)) ?_
        obtain rfl := Option.some.inj hF_16
        exact ⟨_, rfl, M_1, _, hM_1, p_11, ⟨A_3, cap_3, cs_3, rfl, rfl, hr_3⟩⟩
      · have hF_17 := cnd_f h_4 hF_7
        refine R_seq ?_
        obtain ⟨j_2, hj_2, hF_18⟩ := bind_some' hF_17
        refine R_mid (fun a_32 w_6 => ∃ y_2 : Bool, j_2 = y_2 ∧ ∃ M_2 : Mem, M_1.le M_2 ∧ Frm 78 [(0, .slice A_1 d0.length cap_1), (1, .int .i32 d1), (50, .bool y_2)] a_32 ∧ Hp w0 M_2 ((Ent.row 5 1 (.slice A_1 d0.length cap_1) d0.length cs_1) :: H) w_6) ?_ ?_
        · refine R_reg ?_
          refine W_run (L' := [(0, .slice A_1 d0.length cap_1), (1, .int .i32 d1), (5, .int .u32 d1), (53, .bool (decide ((65535 : Int) < d1)))]) (w' := w_3) f_24 3 [0, 1, 5, 53] (by kernel_rfl) (fun a_29 f_35 => ?_)
          rcases Bool.eq_false_or_eq_true (decide ((65535 : Int) < d1)) with h_5 | h_5
          · have k_9 : (65535 : Int) < d1 := decide_eq_true_iff.1 h_5
            have hF_19 := cnd_t h_5 hj_2
            have f_36 := Frm.set f_35 53 (v := .bool (decide ((65535 : Int) < d1))) (v' := .bool true) (by kernel_rfl) (congrArg Value.bool h_5)
            have f_37 : Frm 78 [(0, .slice A_1 d0.length cap_1), (1, .int .i32 d1), (5, .int .u32 d1), (53, .bool true)] a_29 := f_36.keep (ks := [0, 1, 5, 53]) (by kernel_rfl)
            refine W_run (L' := [(0, .slice A_1 d0.length cap_1), (1, .int .i32 d1), (50, .bool (decide (d1 ≤ 1114111)))]) (w' := w_3) f_37 4 [0, 1, 50] (by kernel_rfl) (fun a_30 f_38 => ?_)
            refine W_end rfl ?_
            refine T_n ?_
            exact ⟨(decide (d1 ≤ 1114111)), (Option.some.inj hF_19).symm, M_1, (Mem.le_refl _), f_38.keep (ks := [0, 1, 50]) (by kernel_rfl), p_6⟩
          · have k_10 : ¬ ((65535 : Int) < d1) := iff_f decide_eq_true_iff h_5
            have hF_20 := cnd_f h_5 hj_2
            have f_39 := Frm.set f_35 53 (v := .bool (decide ((65535 : Int) < d1))) (v' := .bool false) (by kernel_rfl) (congrArg Value.bool h_5)
            have f_40 : Frm 78 [(0, .slice A_1 d0.length cap_1), (1, .int .i32 d1), (5, .int .u32 d1), (53, .bool false)] a_29 := f_39.keep (ks := [0, 1, 5, 53]) (by kernel_rfl)
            refine W_run (L' := [(0, .slice A_1 d0.length cap_1), (1, .int .i32 d1), (50, .bool false)]) (w' := w_3) f_40 4 [0, 1, 50] (by kernel_rfl) (fun a_31 f_41 => ?_)
            refine W_end rfl ?_
            refine T_n ?_
            exact ⟨(false), (Option.some.inj hF_20).symm, M_1, (Mem.le_refl _), f_41.keep (ks := [0, 1, 50]) (by kernel_rfl), p_6⟩
        · rintro a_32 w_6 ⟨y_2, hq_2, M_2, hM_2, f_42, p_12⟩
          subst j_2
          refine T_n ?_
          refine R_cond f_42 (b := y_2) (by kernel_rfl) (by kernel_rfl) (fun h_6 => ?_) (fun h_6 => ?_)
          · have hF_21 := cnd_t h_6 hF_18
            refine R_seq ?_
            refine R_reg ?_
            refine W_run (L' := [(1, .int .i32 d1), (57, .slice A_1 d0.length cap_1), (59, .int .i32 (bShr .i32 d1 (18 : Int)))]) (w' := w_6) f_42 3 [1, 57, 59] (by kernel_rfl) (fun a_33 f_43 => ?_)
            refine W_run (L' := [(1, .int .i32 d1), (57, .slice A_1 d0.length cap_1), (59, .int .i32 (bShr .i32 d1 (18 : Int))), (60, .int .u8 (IntKind.wrap .u8 (bShr .i32 d1 (18 : Int))))]) (w' := w_6) f_43 1 [1, 57, 59, 60] (by kernel_rfl) (fun a_34 f_44 => ?_)
            refine W_run (L' := [(1, .int .i32 d1), (57, .slice A_1 d0.length cap_1), (61, .int .u8 (bOr .u8 (240 : Int) (IntKind.wrap .u8 (bShr .i32 d1 (18 : Int))))), (63, .int .i32 (bShr .i32 d1 (12 : Int)))]) (w' := w_6) f_44 3 [1, 57, 61, 63] (by kernel_rfl) (fun a_35 f_45 => ?_)
            refine W_run (L' := [(1, .int .i32 d1), (57, .slice A_1 d0.length cap_1), (61, .int .u8 (bOr .u8 (240 : Int) (IntKind.wrap .u8 (bShr .i32 d1 (18 : Int))))), (63, .int .i32 (bShr .i32 d1 (12 : Int))), (64, .int .u8 (IntKind.wrap .u8 (bShr .i32 d1 (12 : Int))))]) (w' := w_6) f_45 1 [1, 57, 61, 63, 64] (by kernel_rfl) (fun a_36 f_46 => ?_)
            refine W_run (L' := [(1, .int .i32 d1), (57, .slice A_1 d0.length cap_1), (61, .int .u8 (bOr .u8 (240 : Int) (IntKind.wrap .u8 (bShr .i32 d1 (18 : Int))))), (66, .int .u8 (bOr .u8 (128 : Int) (bAnd .u8 (IntKind.wrap .u8 (bShr .i32 d1 (12 : Int))) (63 : Int)))), (68, .int .i32 (bShr .i32 d1 (6 : Int)))]) (w' := w_6) f_46 4 [1, 57, 61, 66, 68] (by kernel_rfl) (fun a_37 f_47 => ?_)
            refine W_run (L' := [(1, .int .i32 d1), (57, .slice A_1 d0.length cap_1), (61, .int .u8 (bOr .u8 (240 : Int) (IntKind.wrap .u8 (bShr .i32 d1 (18 : Int))))), (66, .int .u8 (bOr .u8 (128 : Int) (bAnd .u8 (IntKind.wrap .u8 (bShr .i32 d1 (12 : Int))) (63 : Int)))), (68, .int .i32 (bShr .i32 d1 (6 : Int))), (69, .int .u8 (IntKind.wrap .u8 (bShr .i32 d1 (6 : Int))))]) (w' := w_6) f_47 1 [1, 57, 61, 66, 68, 69] (by kernel_rfl) (fun a_38 f_48 => ?_)
            refine W_run (L' := [(57, .slice A_1 d0.length cap_1), (61, .int .u8 (bOr .u8 (240 : Int) (IntKind.wrap .u8 (bShr .i32 d1 (18 : Int))))), (66, .int .u8 (bOr .u8 (128 : Int) (bAnd .u8 (IntKind.wrap .u8 (bShr .i32 d1 (12 : Int))) (63 : Int)))), (71, .int .u8 (bOr .u8 (128 : Int) (bAnd .u8 (IntKind.wrap .u8 (bShr .i32 d1 (6 : Int))) (63 : Int)))), (72, .int .i32 d1)]) (w' := w_6) f_48 3 [57, 61, 66, 71, 72] (by kernel_rfl) (fun a_39 f_49 => ?_)
            refine W_run (L' := [(57, .slice A_1 d0.length cap_1), (61, .int .u8 (bOr .u8 (240 : Int) (IntKind.wrap .u8 (bShr .i32 d1 (18 : Int))))), (66, .int .u8 (bOr .u8 (128 : Int) (bAnd .u8 (IntKind.wrap .u8 (bShr .i32 d1 (12 : Int))) (63 : Int)))), (71, .int .u8 (bOr .u8 (128 : Int) (bAnd .u8 (IntKind.wrap .u8 (bShr .i32 d1 (6 : Int))) (63 : Int)))), (72, .int .i32 d1), (73, .int .u8 (IntKind.wrap .u8 (d1)))]) (w' := w_6) f_49 1 [57, 61, 66, 71, 72, 73] (by kernel_rfl) (fun a_40 f_50 => ?_)
            refine W_run (L' := [(57, .slice A_1 d0.length cap_1), (61, .int .u8 (bOr .u8 (240 : Int) (IntKind.wrap .u8 (bShr .i32 d1 (18 : Int))))), (66, .int .u8 (bOr .u8 (128 : Int) (bAnd .u8 (IntKind.wrap .u8 (bShr .i32 d1 (12 : Int))) (63 : Int)))), (71, .int .u8 (bOr .u8 (128 : Int) (bAnd .u8 (IntKind.wrap .u8 (bShr .i32 d1 (6 : Int))) (63 : Int)))), (75, .int .u8 (bOr .u8 (128 : Int) (bAnd .u8 (IntKind.wrap .u8 (d1)) (63 : Int))))]) (w' := w_6) f_50 2 [57, 61, 66, 71, 75] (by kernel_rfl) (fun a_41 f_51 => ?_)
            refine W_alloc f_51 p_12 1 [57, 61, 66, 71, 75, 76] (.cells #[.int .u8 (bOr .u8 (240 : Int) (IntKind.wrap .u8 (bShr .i32 d1 (18 : Int)))), .int .u8 (bOr .u8 (128 : Int) (bAnd .u8 (IntKind.wrap .u8 (bShr .i32 d1 (12 : Int))) (63 : Int))), .int .u8 (bOr .u8 (128 : Int) (bAnd .u8 (IntKind.wrap .u8 (bShr .i32 d1 (6 : Int))) (63 : Int))), .int .u8 (bOr .u8 (128 : Int) (bAnd .u8 (IntKind.wrap .u8 (d1)) (63 : Int)))] 5 (0, 0)) (fun b_3 => [(57, .slice A_1 d0.length cap_1), (61, .int .u8 (bOr .u8 (240 : Int) (IntKind.wrap .u8 (bShr .i32 d1 (18 : Int))))), (66, .int .u8 (bOr .u8 (128 : Int) (bAnd .u8 (IntKind.wrap .u8 (bShr .i32 d1 (12 : Int))) (63 : Int)))), (71, .int .u8 (bOr .u8 (128 : Int) (bAnd .u8 (IntKind.wrap .u8 (bShr .i32 d1 (6 : Int))) (63 : Int)))), (75, .int .u8 (bOr .u8 (128 : Int) (bAnd .u8 (IntKind.wrap .u8 (d1)) (63 : Int)))), (76, .slice (some ⟨b_3, 0, none⟩) 4 4)]) (fun _ => by kernel_rfl) (fun b_3 w_7 p_13 a_42 f_52 => ?_)
            replace f_52 : Frm 78 [(57, .slice A_1 d0.length cap_1), (61, .int .u8 (bOr .u8 (240 : Int) (IntKind.wrap .u8 (bShr .i32 d1 (18 : Int))))), (66, .int .u8 (bOr .u8 (128 : Int) (bAnd .u8 (IntKind.wrap .u8 (bShr .i32 d1 (12 : Int))) (63 : Int)))), (71, .int .u8 (bOr .u8 (128 : Int) (bAnd .u8 (IntKind.wrap .u8 (bShr .i32 d1 (6 : Int))) (63 : Int)))), (75, .int .u8 (bOr .u8 (128 : Int) (bAnd .u8 (IntKind.wrap .u8 (d1)) (63 : Int)))), (76, .slice (some ⟨b_3, 0, none⟩) 4 4)] a_42 := f_52
            obtain ⟨g_9, hF_22⟩ := need_some hF_21
            obtain ⟨g_10, hF_23⟩ := need_some hF_22
            obtain ⟨g_11, hF_24⟩ := need_some hF_23
            obtain ⟨g_12, hF_25⟩ := need_some hF_24
            have p_14 : Hp w0 M_2 ((Ent.row 5 1 (.slice A_1 d0.length cap_1) d0.length cs_1) :: (Ent.obj b_3 (.cells #[.int .u8 (bOr .u8 (240 : Int) (IntKind.wrap .u8 (bShr .i32 d1 (18 : Int)))), .int .u8 (bOr .u8 (128 : Int) (bAnd .u8 (IntKind.wrap .u8 (bShr .i32 d1 (12 : Int))) (63 : Int))), .int .u8 (bOr .u8 (128 : Int) (bAnd .u8 (IntKind.wrap .u8 (bShr .i32 d1 (6 : Int))) (63 : Int))), .int .u8 (bOr .u8 (128 : Int) (bAnd .u8 (IntKind.wrap .u8 (d1)) (63 : Int)))] 5 (0, 0))) :: H) w_7 := p_13.pull 1 rfl rfl
            obtain ⟨g_13, hF_26⟩ := need_some hF_25
            refine W_appendL (z := .int .u8 0) (f := embB) (xs := d0) (ys := [UInt8.ofNat (bOr .u8 (240 : Int) (IntKind.wrap .u8 (bShr .i32 d1 (18 : Int)))).toNat, UInt8.ofNat (bOr .u8 (128 : Int) (bAnd .u8 (IntKind.wrap .u8 (bShr .i32 d1 (12 : Int))) (63 : Int))).toNat, UInt8.ofNat (bOr .u8 (128 : Int) (bAnd .u8 (IntKind.wrap .u8 (bShr .i32 d1 (6 : Int))) (63 : Int))).toNat, UInt8.ofNat (bOr .u8 (128 : Int) (bAnd .u8 (IntKind.wrap .u8 (d1)) (63 : Int))).toNat]) (news := [.int .u8 (bOr .u8 (240 : Int) (IntKind.wrap .u8 (bShr .i32 d1 (18 : Int)))), .int .u8 (bOr .u8 (128 : Int) (bAnd .u8 (IntKind.wrap .u8 (bShr .i32 d1 (12 : Int))) (63 : Int))), .int .u8 (bOr .u8 (128 : Int) (bAnd .u8 (IntKind.wrap .u8 (bShr .i32 d1 (6 : Int))) (63 : Int))), .int .u8 (bOr .u8 (128 : Int) (bAnd .u8 (IntKind.wrap .u8 (d1)) (63 : Int)))]) (ad := ⟨b_3, 0, none⟩) (m := 4) (c := 4) f_52 p_14 (RepSeq.mono (hM_1.trans hM_2) _ _ hr_1) (by exact ⟨_, _, rfl, (embB_of (by omega)), ⟨_, _, rfl, (embB_of (by omega)), ⟨_, _, rfl, (embB_of (by omega)), ⟨_, _, rfl, (embB_of (by omega)), rfl⟩⟩⟩⟩) (by kernel_rfl) (by kernel_rfl) rfl rfl rfl (by kernel_rfl) (by kernel_rfl) (by kernel_rfl) (by kernel_rfl) rfl (own_cells (p_14.ownCell 1 rfl) 0 rfl) (by exact g_13) (by have hg_ := g_13; first | omega | (simp only [List.length_cons, List.length_nil] at *; omega)) (fun A_4 cap_4 cs_4 w_8 p_15 hr_4 a_43 f_53 => ?_)
            have p_16 : Hp w0 M_2 ((Ent.obj b_3 (.cells #[.int .u8 (bOr .u8 (240 : Int) (IntKind.wrap .u8 (bShr .i32 d1 (18 : Int)))), .int .u8 (bOr .u8 (128 : Int) (bAnd .u8 (IntKind.wrap .u8 (bShr .i32 d1 (12 : Int))) (63 : Int))), .int .u8 (bOr .u8 (128 : Int) (bAnd .u8 (IntKind.wrap .u8 (bShr .i32 d1 (6 : Int))) (63 : Int))), .int .u8 (bOr .u8 (128 : Int) (bAnd .u8 (IntKind.wrap .u8 (d1)) (63 : Int)))] 5 (0, 0))) :: (Ent.row 5 1 (.slice A_4 (d0 ++ [UInt8.ofNat (bOr .u8 (240 : Int) (IntKind.wrap .u8 (bShr .i32 d1 (18 : Int)))).toNat, UInt8.ofNat (bOr .u8 (128 : Int) (bAnd .u8 (IntKind.wrap .u8 (bShr .i32 d1 (12 : Int))) (63 : Int))).toNat, UInt8.ofNat (bOr .u8 (128 : Int) (bAnd .u8 (IntKind.wrap .u8 (bShr .i32 d1 (6 : Int))) (63 : Int))).toNat, UInt8.ofNat (bOr .u8 (128 : Int) (bAnd .u8 (IntKind.wrap .u8 (d1)) (63 : Int))).toNat]).length cap_4) (d0 ++ [UInt8.ofNat (bOr .u8 (240 : Int) (IntKind.wrap .u8 (bShr .i32 d1 (18 : Int)))).toNat, UInt8.ofNat (bOr .u8 (128 : Int) (bAnd .u8 (IntKind.wrap .u8 (bShr .i32 d1 (12 : Int))) (63 : Int))).toNat, UInt8.ofNat (bOr .u8 (128 : Int) (bAnd .u8 (IntKind.wrap .u8 (bShr .i32 d1 (6 : Int))) (63 : Int))).toNat, UInt8.ofNat (bOr .u8 (128 : Int) (bAnd .u8 (IntKind.wrap .u8 (d1)) (63 : Int))).toNat]).length cs_4) :: H) w_8 := p_15.pull 1 rfl rfl
            have p_17 := p_16.drop
            refine W_run (L' := [(4, .slice A_4 (d0 ++ [UInt8.ofNat (bOr .u8 (240 : Int) (IntKind.wrap .u8 (bShr .i32 d1 (18 : Int)))).toNat, UInt8.ofNat (bOr .u8 (128 : Int) (bAnd .u8 (IntKind.wrap .u8 (bShr .i32 d1 (12 : Int))) (63 : Int))).toNat, UInt8.ofNat (bOr .u8 (128 : Int) (bAnd .u8 (IntKind.wrap .u8 (bShr .i32 d1 (6 : Int))) (63 : Int))).toNat, UInt8.ofNat (bOr .u8 (128 : Int) (bAnd .u8 (IntKind.wrap .u8 (d1)) (63 : Int))).toNat]).length cap_4)]) (w' := w_8) f_53 1 [4] (by kernel_rfl) (fun a_44 f_54 => ?_)
            refine W_end rfl ?_
            refine T_n ?_
            refine wp_ret ?_
            refine B_r ?_
            refine E_ret1 f_54 rfl (by kernel_rfl : Vc.look _ 4 = some (.slice A_4 (d0 ++ [UInt8.ofNat (bOr .u8 (240 : Int) (IntKind.wrap .u8 (bShr .i32 d1 (18 : Int)))).toNat, UInt8.ofNat (bOr .u8 (128 : Int) (bAnd .u8 (IntKind.wrap .u8 (bShr .i32 d1 (12 : Int))) (63 : Int))).toNat, UInt8.ofNat (bOr .u8 (128 : Int) (bAnd .u8 (IntKind.wrap .u8 (bShr .i32 d1 (6 : Int))) (63 : Int))).toNat, UInt8.ofNat (bOr .u8 (128 : Int) (bAnd .u8 (IntKind.wrap .u8 (d1)) (63 : Int))).toNat]).length cap_4)) ?_
            obtain rfl := Option.some.inj hF_26
            exact ⟨_, rfl, M_2, _, (hM_1.trans hM_2), p_17, ⟨A_4, cap_4, cs_4, rfl, rfl, hr_4⟩⟩
          · have hF_27 := cnd_f h_6 hF_18
            refine R_seq ?_
            refine R_reg ?_
            refine W_run (L' := [(8, .slice A_1 d0.length cap_1)]) (w' := w_6) f_42 1 [8] (by kernel_rfl) (fun a_45 f_55 => ?_)
            refine W_alloc f_55 p_12 1 [8, 9] (.cells #[.int .u8 239, .int .u8 191, .int .u8 189] 5 (0, 0)) (fun b_4 => [(8, .slice A_1 d0.length cap_1), (9, .slice (some ⟨b_4, 0, none⟩) 3 3)]) (fun _ => by kernel_rfl) (fun b_4 w_9 p_18 a_46 f_56 => ?_)
            replace f_56 : Frm 78 [(8, .slice A_1 d0.length cap_1), (9, .slice (some ⟨b_4, 0, none⟩) 3 3)] a_46 := f_56
            have p_19 : Hp w0 M_2 ((Ent.row 5 1 (.slice A_1 d0.length cap_1) d0.length cs_1) :: (Ent.obj b_4 (.cells #[.int .u8 239, .int .u8 191, .int .u8 189] 5 (0, 0))) :: H) w_9 := p_18.pull 1 rfl rfl
            obtain ⟨g_14, hF_28⟩ := need_some hF_27
            refine W_appendL (z := .int .u8 0) (f := embB) (xs := d0) (ys := [(239 : UInt8), (191 : UInt8), (189 : UInt8)]) (news := [.int .u8 239, .int .u8 191, .int .u8 189]) (ad := ⟨b_4, 0, none⟩) (m := 3) (c := 3) f_56 p_19 (RepSeq.mono (hM_1.trans hM_2) _ _ hr_1) (by exact ⟨_, _, rfl, rfl, ⟨_, _, rfl, rfl, ⟨_, _, rfl, rfl, rfl⟩⟩⟩) (by kernel_rfl) (by kernel_rfl) rfl rfl rfl (by kernel_rfl) (by kernel_rfl) (by kernel_rfl) (by kernel_rfl) rfl (own_cells (p_19.ownCell 1 rfl) 0 rfl) (by exact g_14) (by have hg_ := g_14; first | omega | (simp only [List.length_cons, List.length_nil] at *; omega)) (fun A_5 cap_5 cs_5 w_10 p_20 hr_5 a_47 f_57 => ?_)
            have p_21 : Hp w0 M_2 ((Ent.obj b_4 (.cells #[.int .u8 239, .int .u8 191, .int .u8 189] 5 (0, 0))) :: (Ent.row 5 1 (.slice A_5 (d0 ++ [(239 : UInt8), (191 : UInt8), (189 : UInt8)]).length cap_5) (d0 ++ [(239 : UInt8), (191 : UInt8), (189 : UInt8)]).length cs_5) :: H) w_10 := p_20.pull 1 rfl rfl
            have p_22 := p_21.drop
            refine W_run (L' := [(4, .slice A_5 (d0 ++ [(239 : UInt8), (191 : UInt8), (189 : UInt8)]).length cap_5)]) (w' := w_10) f_57 1 [4] (by kernel_rfl) (fun a_48 f_58 => ?_)
            refine W_end rfl ?_
            refine T_n ?_
            refine wp_ret ?_
            refine B_r ?_
            refine E_ret1 f_58 rfl (by kernel_rfl : Vc.look _ 4 = some (.slice A_5 (d0 ++ [(239 : UInt8), (191 : UInt8), (189 : UInt8)]).length cap_5)) ?_
            obtain rfl := Option.some.inj hF_28
            exact ⟨_, rfl, M_2, _, (hM_1.trans hM_2), p_22, ⟨A_5, cap_5, cs_5, rfl, rfl, hr_5⟩⟩

def unicode_utf8_AppendRune (n : Nat) (d0 : List UInt8) (d1 : Int) : Option (List UInt8) :=
  need (inR .u32 (d1)) <|
  bif (decide (d1 ≤ 127)) then
    (need (0 ≤ (IntKind.wrap .u8 (d1)) ∧ (IntKind.wrap .u8 (d1)) < 256) <|
    need ((d0.length + 1) * 1 ≤ 140737488355328) <|
    some (d0 ++ [UInt8.ofNat (IntKind.wrap .u8 (d1)).toNat]))
  else
    (unicode_utf8_appendRuneNonASCII n d0 d1).bind fun x_1 =>
    some (x_1)
theorem unicode_utf8_AppendRune_ok (n : Nat) (M : Mem) (d0 : List UInt8) (A_1 : Option Addr) (cap_1 : Nat) (cs_1 : List Value) (hr_1 : RepSeq M (d0.map embB) cs_1) (d1 : Int) (r : List UInt8) (hF : unicode_utf8_AppendRune n d0 d1 = some r) : OkH Tryd.prog M [Ent.row 5 1 (.slice A_1 d0.length cap_1) d0.length cs_1] 46 [.slice A_1 d0.length cap_1, .int .i32 d1] (fun M' E' v => ∃ (A0 : Option Addr) (k0 : Nat) (s0 : List Value), v = .slice A0 r.length k0 ∧ E' = [.row 5 1 (.slice A0 r.length k0) r.length s0] ∧ RepSeq M' (r.map embB) s0) := by
  unfold unicode_utf8_AppendRune at hF
  intro M1 hM0 w0 H w p0
  replace hr_1 := RepSeq.mono hM0 _ _ hr_1
  replace p0 : Hp w0 M1 ((Ent.row 5 1 (.slice A_1 d0.length cap_1) d0.length cs_1) :: H) w := p0
  refine R_enter 16 Tryd.func46 rfl rfl (by simp) (fun a0 f0 => ?_)
  replace f0 : Frm 16 [(0, .slice A_1 d0.length cap_1), (1, .int .i32 d1)] a0 := f0
  refine R_seq ?_
  refine R_reg ?_
  refine W_run (L' := [(0, .slice A_1 d0.length cap_1), (1, .int .i32 d1)]) (w' := w) f0 1 [0, 1] (by kernel_rfl) (fun a_1 f_1 => ?_)
  refine W_end rfl ?_
  refine T_n ?_
  refine R_seq ?_
  refine R_seq ?_
  refine R_reg ?_
  refine W_run (L' := [(0, .slice A_1 d0.length cap_1), (1, .int .i32 d1), (5, .int .i32 d1)]) (w' := w) f_1 1 [0, 1, 5] (by kernel_rfl) (fun a_2 f_2 => ?_)
  obtain ⟨g_1, hF_1⟩ := need_some hF
  refine W_run (L' := [(0, .slice A_1 d0.length cap_1), (1, .int .i32 d1), (5, .int .i32 d1), (6, .int .u32 (IntKind.wrap .u32 (d1)))]) (w' := w) f_2 1 [0, 1, 5, 6] (by kernel_rfl) (fun a_3 f_3 => ?_)
  have f_4 := Frm.set f_3 6 (v := .int .u32 (IntKind.wrap .u32 (d1))) (v' := .int .u32 d1) (by kernel_rfl) (congrArg (Value.int .u32) (inR_wrap g_1))
  have f_5 : Frm 16 [(0, .slice A_1 d0.length cap_1), (1, .int .i32 d1), (5, .int .i32 d1), (6, .int .u32 d1)] a_3 := f_4.keep (ks := [0, 1, 5, 6]) (by kernel_rfl)
  refine W_run (L' := [(0, .slice A_1 d0.length cap_1), (1, .int .i32 d1), (7, .bool (decide (d1 ≤ 127)))]) (w' := w) f_5 1 [0, 1, 7] (by kernel_rfl) (fun a_4 f_6 => ?_)
  refine W_end rfl ?_
  refine T_n ?_
  refine R_cond f_6 (b := decide (d1 ≤ 127)) (by kernel_rfl) (by kernel_rfl) (fun h_1 => ?_) (fun h_1 => ?_)
  · have k_1 : d1 ≤ 127 := decide_eq_true_iff.1 h_1
    have hF_2 := cnd_t h_1 hF_1
    refine R_seq ?_
    refine R_reg ?_
    refine W_run (L' := [(8, .slice A_1 d0.length cap_1), (9, .int .i32 d1)]) (w' := w) f_6 2 [8, 9] (by kernel_rfl) (fun a_5 f_7 => ?_)
    refine W_run (L' := [(8, .slice A_1 d0.length cap_1), (9, .int .i32 d1), (10, .int .u8 (IntKind.wrap .u8 (d1)))]) (w' := w) f_7 1 [8, 9, 10] (by kernel_rfl) (fun a_6 f_8 => ?_)
    refine W_alloc f_8 p0 1 [8, 9, 10, 11] (.cells #[.int .u8 (IntKind.wrap .u8 (d1))] 5 (0, 0)) (fun b_1 => [(8, .slice A_1 d0.length cap_1), (9, .int .i32 d1), (10, .int .u8 (IntKind.wrap .u8 (d1))), (11, .slice (some ⟨b_1, 0, none⟩) 1 1)]) (fun _ => by kernel_rfl) (fun b_1 w_1 p_1 a_7 f_9 => ?_)
    replace f_9 : Frm 16 [(8, .slice A_1 d0.length cap_1), (9, .int .i32 d1), (10, .int .u8 (IntKind.wrap .u8 (d1))), (11, .slice (some ⟨b_1, 0, none⟩) 1 1)] a_7 := f_9
    obtain ⟨g_2, hF_3⟩ := need_some hF_2
    have p_2 : Hp w0 M1 ((Ent.row 5 1 (.slice A_1 d0.length cap_1) d0.length cs_1) :: (Ent.obj b_1 (.cells #[.int .u8 (IntKind.wrap .u8 (d1))] 5 (0, 0))) :: H) w_1 := p_1.pull 1 rfl rfl
    obtain ⟨g_3, hF_4⟩ := need_some hF_3
    refine W_appendL (z := .int .u8 0) (f := embB) (xs := d0) (ys := [UInt8.ofNat (IntKind.wrap .u8 (d1)).toNat]) (news := [.int .u8 (IntKind.wrap .u8 (d1))]) (ad := ⟨b_1, 0, none⟩) (m := 1) (c := 1) f_9 p_2 hr_1 (by exact ⟨_, _, rfl, (embB_of (by omega)), rfl⟩) (by kernel_rfl) (by kernel_rfl) rfl rfl rfl (by kernel_rfl) (by kernel_rfl) (by kernel_rfl) (by kernel_rfl) rfl (own_cells (p_2.ownCell 1 rfl) 0 rfl) (by exact g_3) (by have hg_ := g_3; first | omega | (simp only [List.length_cons, List.length_nil] at *; omega)) (fun A_2 cap_2 cs_2 w_2 p_3 hr_2 a_8 f_10 => ?_)
    have p_4 : Hp w0 M1 ((Ent.obj b_1 (.cells #[.int .u8 (IntKind.wrap .u8 (d1))] 5 (0, 0))) :: (Ent.row 5 1 (.slice A_2 (d0 ++ [UInt8.ofNat (IntKind.wrap .u8 (d1)).toNat]).length cap_2) (d0 ++ [UInt8.ofNat (IntKind.wrap .u8 (d1)).toNat]).length cs_2) :: H) w_2 := p_3.pull 1 rfl rfl
    have p_5 := p_4.drop
    refine W_run (L' := [(4, .slice A_2 (d0 ++ [UInt8.ofNat (IntKind.wrap .u8 (d1)).toNat]).length cap_2)]) (w' := w_2) f_10 1 [4] (by kernel_rfl) (fun a_9 f_11 => ?_)
    refine W_end rfl ?_
    refine T_n ?_
    refine wp_ret ?_
    refine T_r ?_
    refine E_ret1 f_11 rfl (by kernel_rfl : Vc.look _ 4 = some (.slice A_2 (d0 ++ [UInt8.ofNat (IntKind.wrap .u8 (d1)).toNat]).length cap_2)) ?_
    obtain rfl := Option.some.inj hF_4
    exact ⟨_, rfl, M1, _, (Mem.le_refl _), p_5, ⟨A_2, cap_2, cs_2, rfl, rfl, hr_2⟩⟩
  · have k_2 : ¬ (d1 ≤ 127) := iff_f decide_eq_true_iff h_1
    have hF_5 := cnd_f h_1 hF_1
    refine wp_skip ?_
    refine T_n ?_
    refine R_seq ?_
    refine R_reg ?_
    refine W_run (L' := [(13, .slice A_1 d0.length cap_1), (14, .int .i32 d1)]) (w' := w) f_6 2 [13, 14] (by kernel_rfl) (fun a_10 f_12 => ?_)
    obtain ⟨x_1, hx_1, hF_6⟩ := bind_some' hF_5
    refine W_okH (E := [Ent.row 5 1 (.slice A_1 d0.length cap_1) d0.length cs_1]) (H := (H)) f_12 p0 (by kernel_rfl) (by kernel_rfl) rfl rfl (fun _ => by kernel_rfl) (unicode_utf8_appendRuneNonASCII_ok n _ d0 A_1 cap_1 cs_1 hr_1 d1 x_1 hx_1) (fun u_1 M_1 E_1 w_3 hM_1 p_6 q_1 a_11 f_13 => ?_)
    obtain ⟨A_3, cap_3, cs_3, rfl, rfl, hr_3⟩ := q_1
    replace p_6 : Hp w0 M_1 ((Ent.row 5 1 (.slice A_3 x_1.length cap_3) x_1.length cs_3) :: H) w_3 := p_6
    refine W_run (L' := [(4, .slice A_3 x_1.length cap_3)]) (w' := w_3) f_13 1 [4] (by kernel_rfl) (fun a_12 f_14 => ?_)
    refine W_end rfl ?_
    refine T_n ?_
    refine wp_ret ?_
    refine E_ret1 f_14 rfl (by kernel_rfl : Vc.look _ 4 = some (.slice A_3 x_1.length cap_3)) ?_
    obtain rfl := Option.some.inj hF_6
    exact ⟨_, rfl, M_1, _, hM_1, p_6, ⟨A_3, cap_3, cs_3, rfl, rfl, hr_3⟩⟩

def strings_Builder_WriteRune (n : Nat) (d0_1 : List UInt8) (d1 : Int) : Option (Int × Unit × List UInt8) :=
  (strings_Builder_copyCheck_3 n d0_1).bind fun x_1 =>
  (unicode_utf8_AppendRune n x_1 d1).bind fun x_2 =>
  need (inR .i64 (((x_2.length : Nat) : Int) - ((x_1.length : Nat) : Int))) <|
  some ((((x_2.length : Nat) : Int) - ((x_1.length : Nat) : Int), (), x_2))
theorem strings_Builder_WriteRune_ok (n : Nat) (M : Mem) (b0 : Nat) (A_1 : Option Addr) (hb_1 : (A_1 = none ∨ A_1 = some ⟨b0, 0, none⟩)) (d0_1 : List UInt8) (A_2 : Option Addr) (cap_1 : Nat) (cs_1 : List Value) (hr_1 : RepSeq M (d0_1.map embB) cs_1) (d1 : Int) (r : Int × Unit × List UInt8) (hF : strings_Builder_WriteRune n d0_1 d1 = some r) : OkH Tryd.prog M [Ent.obj b0 (.cells #[.pointer A_1, .slice A_2 d0_1.length cap_1] 41 (0, 0)), Ent.row 5 1 (.slice A_2 d0_1.length cap_1) d0_1.length cs_1] 28 [.pointer (some (⟨b0, 0, none⟩)), .int .i32 d1] (fun M' E' v => ∃ (A_6 : Option Addr) (A_7 : Option Addr) (cap_4 : Nat) (cs_4 : List Value), v = .tuple #[.int .i64 r.1, .nilIface] ∧ E' = [Ent.obj b0 (.cells #[.pointer A_6, .slice A_7 r.2.2.length cap_4] 41 (0, 0)), Ent.row 5 1 (.slice A_7 r.2.2.length cap_4) r.2.2.length cs_4] ∧ (A_6 = none ∨ A_6 = some ⟨b0, 0, none⟩) ∧ RepSeq M' (r.2.2.map embB) cs_4) := by
  unfold strings_Builder_WriteRune at hF
  intro M1 hM0 w0 H w p0
  replace hr_1 := RepSeq.mono hM0 _ _ hr_1
  replace p0 : Hp w0 M1 ((Ent.obj b0 (.cells #[.pointer A_1, .slice A_2 d0_1.length cap_1] 41 (0, 0))) :: (Ent.row 5 1 (.slice A_2 d0_1.length cap_1) d0_1.length cs_1) :: H) w := p0
  refine R_enter 30 Tryd.func28 rfl rfl (by simp) (fun a0 f0 => ?_)
  replace f0 : Frm 30 [(0, .pointer (some (⟨b0, 0, none⟩))), (1, .int .i32 d1)] a0 := f0
  refine R_seq ?_
  refine R_reg ?_
  refine W_run (L' := [(0, .pointer (some (⟨b0, 0, none⟩))), (1, .int .i32 d1)]) (w' := w) f0 2 [0, 1] (by kernel_rfl) (fun a_1 f_1 => ?_)
  refine W_end rfl ?_
  refine T_n ?_
  refine R_seq ?_
  refine R_reg ?_
  refine W_run (L' := [(0, .pointer (some (⟨b0, 0, none⟩))), (1, .int .i32 d1), (7, .pointer (some (⟨b0, 0, none⟩)))]) (w' := w) f_1 1 [0, 1, 7] (by kernel_rfl) (fun a_2 f_2 => ?_)
  obtain ⟨x_1, hx_1, hF_1⟩ := bind_some' hF
  refine W_okH (E := [Ent.obj b0 (.cells #[.pointer A_1, .slice A_2 d0_1.length cap_1] 41 (0, 0)), Ent.row 5 1 (.slice A_2 d0_1.length cap_1) d0_1.length cs_1]) (H := (H)) f_2 p0 (by kernel_rfl) (by kernel_rfl) rfl rfl (fun _ => by kernel_rfl) (strings_Builder_copyCheck_3_ok n _ b0 A_1 hb_1 d0_1 A_2 cap_1 cs_1 hr_1 x_1 hx_1) (fun u_1 M_1 E_1 w_1 hM_1 p_1 q_1 a_3 f_3 => ?_)
  obtain ⟨A_3, A_4, cap_2, cs_2, rfl, rfl, hb_2, hr_2⟩ := q_1
  replace p_1 : Hp w0 M_1 ((Ent.obj b0 (.cells #[.pointer A_3, .slice A_4 x_1.length cap_2] 41 (0, 0))) :: (Ent.row 5 1 (.slice A_4 x_1.length cap_2) x_1.length cs_2) :: H) w_1 := p_1
  refine W_end rfl ?_
  refine T_n ?_
  refine R_seq ?_
  refine R_reg ?_
  refine W_run (L' := [(0, .pointer (some (⟨b0, 0, none⟩))), (1, .int .i32 d1), (11, .pointer (some (⟨b0, 1, none⟩)))]) (w' := w_1) f_3 3 [0, 1, 11] (by kernel_rfl) (fun a_4 f_4 => ?_)
  refine W_eq (v := .slice A_4 x_1.length cap_2) f_4 (by kernel_rfl) (by kernel_rfl) rfl rfl (X_load1 (v := .slice A_4 x_1.length cap_2) rfl (ad := ⟨b0, 1, none⟩) (by kernel_rfl) (by kernel_rfl) (p_1.ownCell 0 rfl 1)) (fun a_5 f_5 => ?_)
  refine W_run (L' := [(0, .pointer (some (⟨b0, 0, none⟩))), (1, .int .i32 d1), (6, .int .i64 ((x_1.length : Nat) : Int))]) (w' := w_1) f_5 2 [0, 1, 6] (by kernel_rfl) (fun a_6 f_6 => ?_)
  refine W_end rfl ?_
  refine T_n ?_
  refine R_seq ?_
  refine R_reg ?_
  refine W_run (L' := [(0, .pointer (some (⟨b0, 0, none⟩))), (1, .int .i32 d1), (6, .int .i64 ((x_1.length : Nat) : Int)), (14, .pointer (some (⟨b0, 0, none⟩))), (17, .pointer (some (⟨b0, 1, none⟩)))]) (w' := w_1) f_6 4 [0, 1, 6, 14, 17] (by kernel_rfl) (fun a_7 f_7 => ?_)
  refine W_eq (v := .slice A_4 x_1.length cap_2) f_7 (by kernel_rfl) (by kernel_rfl) rfl rfl (X_load1 (v := .slice A_4 x_1.length cap_2) rfl (ad := ⟨b0, 1, none⟩) (by kernel_rfl) (by kernel_rfl) (p_1.ownCell 0 rfl 1)) (fun a_8 f_8 => ?_)
  refine W_run (L' := [(0, .pointer (some (⟨b0, 0, none⟩))), (6, .int .i64 ((x_1.length : Nat) : Int)), (14, .pointer (some (⟨b0, 0, none⟩))), (18, .slice A_4 x_1.length cap_2), (19, .int .i32 d1)]) (w' := w_1) f_8 1 [0, 6, 14, 18, 19] (by kernel_rfl) (fun a_9 f_9 => ?_)
  obtain ⟨x_2, hx_2, hF_2⟩ := bind_some' hF_1
  have p_3 : Hp w0 M_1 ((Ent.row 5 1 (.slice A_4 x_1.length cap_2) x_1.length cs_2) :: (Ent.obj b0 (.cells #[.pointer A_3, .slice A_4 x_1.length cap_2] 41 (0, 0))) :: H) w_1 := p_1.pull 1 rfl rfl
  refine W_okH (E := [Ent.row 5 1 (.slice A_4 x_1.length cap_2) x_1.length cs_2]) (H := ((Ent.obj b0 (.cells #[.pointer A_3, .slice A_4 x_1.length cap_2] 41 (0, 0))) :: H)) f_9 p_3 (by kernel_rfl) (by kernel_rfl) rfl rfl (fun _ => by kernel_rfl) (unicode_utf8_AppendRune_ok n _ x_1 A_4 cap_2 cs_2 hr_2 d1 x_2 hx_2) (fun u_2 M_2 E_2 w_2 hM_2 p_2 q_2 a_10 f_10 => ?_)
  obtain ⟨A_5, cap_3, cs_3, rfl, rfl, hr_3⟩ := q_2
  replace p_2 : Hp w0 M_2 ((Ent.row 5 1 (.slice A_5 x_2.length cap_3) x_2.length cs_3) :: (Ent.obj b0 (.cells #[.pointer A_3, .slice A_4 x_1.length cap_2] 41 (0, 0))) :: H) w_2 := p_2
  refine W_run (L' := [(0, .pointer (some (⟨b0, 0, none⟩))), (6, .int .i64 ((x_1.length : Nat) : Int)), (20, .slice A_5 x_2.length cap_3), (22, .pointer (some (⟨b0, 1, none⟩)))]) (w' := w_2) f_10 2 [0, 6, 20, 22] (by kernel_rfl) (fun a_11 f_11 => ?_)
  refine W_store1 f_11 p_2 1 (by kernel_rfl) (by kernel_rfl) rfl rfl (b := b0) (j := 1) (v := .slice A_5 x_2.length cap_3) (by kernel_rfl) (by kernel_rfl) rfl (by kernel_rfl) (by exact rfl) (by simp) (by simp) ((Ent.row 5 1 (.slice A_5 x_2.length cap_3) x_2.length cs_3) :: (Ent.obj b0 (.cells #[.pointer A_3, .slice A_5 x_2.length cap_3] 41 (0, 0))) :: H) rfl (fun w_3 p_4 a_12 f_12 => ?_)
  refine W_end rfl ?_
  refine T_n ?_
  refine R_seq ?_
  refine R_reg ?_
  refine W_run (L' := [(6, .int .i64 ((x_1.length : Nat) : Int)), (25, .pointer (some (⟨b0, 1, none⟩)))]) (w' := w_3) f_12 3 [6, 25] (by kernel_rfl) (fun a_13 f_13 => ?_)
  refine W_eq (v := .slice A_5 x_2.length cap_3) f_13 (by kernel_rfl) (by kernel_rfl) rfl rfl (X_load1 (v := .slice A_5 x_2.length cap_3) rfl (ad := ⟨b0, 1, none⟩) (by kernel_rfl) (by kernel_rfl) (p_4.ownCell 1 rfl 1)) (fun a_14 f_14 => ?_)
  refine W_run (L' := [(27, .int .i64 ((x_2.length : Nat) : Int)), (28, .int .i64 ((x_1.length : Nat) : Int))]) (w' := w_3) f_14 2 [27, 28] (by kernel_rfl) (fun a_15 f_15 => ?_)
  obtain ⟨g_1, hF_3⟩ := need_some hF_2
  refine W_run (L' := [(27, .int .i64 ((x_2.length : Nat) : Int)), (28, .int .i64 ((x_1.length : Nat) : Int)), (29, .int .i64 (IntKind.wrap .i64 (((x_2.length : Nat) : Int) - ((x_1.length : Nat) : Int))))]) (w' := w_3) f_15 1 [27, 28, 29] (by kernel_rfl) (fun a_16 f_16 => ?_)
  have f_17 := Frm.set f_16 29 (v := .int .i64 (IntKind.wrap .i64 (((x_2.length : Nat) : Int) - ((x_1.length : Nat) : Int)))) (v' := .int .i64 (((x_2.length : Nat) : Int) - ((x_1.length : Nat) : Int))) (by kernel_rfl) (congrArg (Value.int .i64) (inR_wrap g_1))
  have f_18 : Frm 30 [(27, .int .i64 ((x_2.length : Nat) : Int)), (28, .int .i64 ((x_1.length : Nat) : Int)), (29, .int .i64 (((x_2.length : Nat) : Int) - ((x_1.length : Nat) : Int)))] a_16 := f_17.keep (ks := [27, 28, 29]) (by kernel_rfl)
  refine W_run (L' := [(4, .int .i64 (((x_2.length : Nat) : Int) - ((x_1.length : Nat) : Int))), (5, .nilIface)]) (w' := w_3) f_18 2 [4, 5] (by kernel_rfl) (fun a_17 f_19 => ?_)
  refine W_end rfl ?_
  refine T_n ?_
  refine wp_ret ?_
  refine E_ret2 f_19 rfl (by kernel_rfl : Vc.look _ 4 = some (.int .i64 (((x_2.length : Nat) : Int) - ((x_1.length : Nat) : Int)))) (by kernel_rfl : Vc.look _ 5 = some (.nilIface)) ?_
  obtain rfl := Option.some.inj hF_3
  have p_5 : Hp w0 M_2 ((Ent.obj b0 (.cells #[.pointer A_3, .slice A_5 x_2.length cap_3] 41 (0, 0))) :: (Ent.row 5 1 (.slice A_5 x_2.length cap_3) x_2.length cs_3) :: H) w_3 := p_4.pull 1 rfl rfl
  exact ⟨_, rfl, M_2, _, (hM_1.trans hM_2), p_5, ⟨A_3, A_5, cap_3, cs_3, rfl, rfl, hb_2, hr_3⟩⟩
end Go.Proofs.YtdmjgmleilgbpaaDoor
