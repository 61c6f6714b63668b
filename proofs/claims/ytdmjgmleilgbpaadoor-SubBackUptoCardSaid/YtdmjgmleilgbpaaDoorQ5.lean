/-
  Printed by a program: of each function its shallow reading, and the proof that the function gives what the reading gives. No condition.
-/
import Derived.Test.YtdmjgmleilgbpaaDoorQ4
set_option linter.unusedVariables false
set_option linter.unusedSimpArgs false
namespace Go.Proofs.YtdmjgmleilgbpaaDoor
open Go Go.Vc Go.RowKit
def sub_guarded_s1 (n : Nat) (s_1 : List UInt8 × List UInt8) : Option (Lp (List UInt8 × List UInt8) (List UInt8 × Bool × List UInt8)) :=
    (h_Cut n s_1.1 [36, 123]).bind fun x_1 =>
    (strings_Builder_WriteString n s_1.2 x_1.1).bind fun x_2 =>
    bif !x_1.2.2 then
      ((strings_Builder_String n x_2.2.2).bind fun x_3 =>
      some (.br (x_3.1, (true), x_3.2)))
    else
      (h_Cut n x_1.2.1 [125]).bind fun x_4 =>
      bif !x_4.2.2 then
        (some (.br (([] : List UInt8), (false), x_2.2.2)))
      else
        need ([36, 123, 33].length + x_4.1.length ≤ 9223372036854775807) <|
        need (([36, 123, 33] ++ x_4.1).length + [125].length ≤ 9223372036854775807) <|
        (strings_Builder_WriteString n x_2.2.2 (([36, 123, 33] ++ x_4.1) ++ [125])).bind fun x_5 =>
        some (.nx (x_4.2.1, x_5.2.2))
def sub_guarded (n : Nat) (d0 : List UInt8) : Option (List UInt8 × Bool) :=
  (loopF (sub_guarded_s1 n) n (d0, ([] : List UInt8))).bind fun y_1 =>
  some ((y_1.1, (y_1.2.1)))
theorem sub_guarded_ok (n : Nat) (M : Mem) (hG : GL M) (d0 : List UInt8) (r : List UInt8 × Bool) (hF : sub_guarded n d0 = some r) : Ok Tryd.prog M 39 [S d0] (fun _ v => v = .tuple #[S r.1, .bool r.2]) := by
  unfold sub_guarded at hF
  intro M1 hM0 w0 H w p0
  replace hG := GL.mono hM0 hG
  refine R_enter 35 Tryd.func39 rfl rfl (by simp) (fun a0 f0 => ?_)
  replace f0 : Frm 35 [(0, S d0)] a0 := f0
  refine R_seq ?_
  refine R_reg ?_
  refine W_run (L' := [(0, S d0)]) (w' := w) f0 2 [0] (by kernel_rfl) (fun a_1 f_1 => ?_)
  refine W_end rfl ?_
  refine T_n ?_
  refine R_seq ?_
  refine R_reg ?_
  refine W_alloc f_1 p0 1 [0, 4] (.cells #[.pointer none, .slice none 0 0] 41 (0, 0)) (fun b_1 => [(0, S d0), (4, .pointer (some (⟨b_1, 0, none⟩)))]) (fun _ => by kernel_rfl) (fun b_1 w_1 p_1 a_2 f_2 => ?_)
  replace f_2 : Frm 35 [(0, S d0), (4, .pointer (some (⟨b_1, 0, none⟩)))] a_2 := f_2
  refine W_end rfl ?_
  refine T_n ?_
  refine wp_block ?_
  obtain ⟨A_1, cap_1, hv_1⟩ : ∃ A cap, Value.slice none 0 0 = .slice A ([] : List UInt8).length cap := ⟨none, 0, rfl⟩
  have p_2 : Hp w0 M1 ((Ent.row 5 1 (.slice A_1 ([] : List UInt8).length cap_1) ([] : List UInt8).length []) :: (Ent.obj b_1 (.cells #[.pointer none, .slice A_1 ([] : List UInt8).length cap_1] 41 (0, 0))) :: H) w_1 := by rw [← hv_1]; exact p_1.nilRow 5 1
  have hr_1 : RepSeq M1 (([] : List UInt8).map embB) [] := rfl
  obtain ⟨b_2, hL_1, hF_1⟩ := bind_some' hF
  refine wp_mono (Q := fun e a w => (e = .ret ∧ (∃ y_1 : List UInt8 × Bool × List UInt8, b_2 = y_1 ∧ ∃ M_5 : Mem, M1.le M_5 ∧ ∃ (A_10 : Option Addr), ∃ (A_11 : Option Addr), ∃ (cap_6 : Nat), (A_10 = none ∨ A_10 = some ⟨b_1, 0, none⟩) ∧ Sli M_5 1 embB A_11 cap_6 y_1.2.2 ∧ Frm 35 [(2, S y_1.1), (3, .bool y_1.2.1)] a ∧ Hp w0 M_5 ((Ent.obj b_1 (.cells #[.pointer A_10, .slice A_11 y_1.2.2.length cap_6] 41 (0, 0))) :: H) w))) (R_loop (n := 35) (w0 := w0) (M := M1) (fun (x : Nat × (List UInt8 × List UInt8) × (Option Addr) × (Option Addr) × Nat × (List Value)) => match x with | (m_1, s_1, A_2, A_3, cap_2, cs_1) => [(0, S s_1.1), (4, .pointer (some (⟨b_1, 0, none⟩)))]) (fun (x : Nat × (List UInt8 × List UInt8) × (Option Addr) × (Option Addr) × Nat × (List Value)) => match x with | (m_1, s_1, A_2, A_3, cap_2, cs_1) => ((Ent.row 5 1 (.slice A_3 s_1.2.length cap_2) s_1.2.length cs_1) :: (Ent.obj b_1 (.cells #[.pointer A_2, .slice A_3 s_1.2.length cap_2] 41 (0, 0))) :: H)) (fun (x : Nat × (List UInt8 × List UInt8) × (Option Addr) × (Option Addr) × Nat × (List Value)) (MM : Mem) => match x with | (m_1, s_1, A_2, A_3, cap_2, cs_1) => loopF (sub_guarded_s1 n) m_1 s_1 = some b_2 ∧ (A_2 = none ∨ A_2 = some ⟨b_1, 0, none⟩) ∧ RepSeq MM (s_1.2.map embB) cs_1) (fun (x : Nat × (List UInt8 × List UInt8) × (Option Addr) × (Option Addr) × Nat × (List Value)) => match x with | (m_1, s_1, A_2, A_3, cap_2, cs_1) => m_1) (n, (d0, ([] : List UInt8)), none, A_1, cap_1, []) (f_2.keep (ks := [0, 4]) (by kernel_rfl)) p_2 ⟨hL_1, (.inl rfl), hr_1⟩ ?_) ?_
  · rintro ⟨m_1, s_1, A_2, A_3, cap_2, cs_1⟩ M_1 a_3 w_2 hM_1 I_1 f_3 p_3
    replace f_3 : Frm 35 [(0, S s_1.1), (4, .pointer (some (⟨b_1, 0, none⟩)))] a_3 := f_3
    replace p_3 : Hp w0 M_1 ((Ent.row 5 1 (.slice A_3 s_1.2.length cap_2) s_1.2.length cs_1) :: (Ent.obj b_1 (.cells #[.pointer A_2, .slice A_3 s_1.2.length cap_2] 41 (0, 0))) :: H) w_2 := p_3
    obtain ⟨I_1L, hb_1, hr_2⟩ := I_1
    obtain ⟨m_2, r_1, rfl, hs_1, hn_1⟩ := loop_step I_1L
    unfold sub_guarded_s1 at hs_1
    refine wp_block ?_
    refine R_seq ?_
    refine R_reg ?_
    refine W_run (L' := [(4, .pointer (some (⟨b_1, 0, none⟩))), (12, S s_1.1)]) (w' := w_2) f_3 1 [4, 12] (by kernel_rfl) (fun a_4 f_4 => ?_)
    obtain ⟨x_1, hx_1, hF_2⟩ := bind_some' hs_1
    refine W_okv (v := .tuple #[S x_1.1, S x_1.2.1, .bool x_1.2.2]) f_4 p_3 (by kernel_rfl) (by kernel_rfl) rfl rfl (fun _ => by kernel_rfl) (h_Cut_ok n _ (GL.mono hM_1 hG) s_1.1 [36, 123] x_1 hx_1) (fun w_3 p_4 a_5 f_5 => ?_)
    refine W_run (L' := [(4, .pointer (some (⟨b_1, 0, none⟩))), (5, S x_1.1), (6, S x_1.2.1), (7, .bool x_1.2.2)]) (w' := w_3) f_5 7 [4, 5, 6, 7] (by kernel_rfl) (fun a_6 f_6 => ?_)
    refine W_end rfl ?_
    refine T_n ?_
    refine R_seq ?_
    refine R_reg ?_
    refine W_run (L' := [(4, .pointer (some (⟨b_1, 0, none⟩))), (6, S x_1.2.1), (7, .bool x_1.2.2), (17, S x_1.1)]) (w' := w_3) f_6 1 [4, 6, 7, 17] (by kernel_rfl) (fun a_7 f_7 => ?_)
    obtain ⟨x_2, hx_2, hF_3⟩ := bind_some' hF_2
    have p_6 : Hp w0 M_1 ((Ent.obj b_1 (.cells #[.pointer A_2, .slice A_3 s_1.2.length cap_2] 41 (0, 0))) :: (Ent.row 5 1 (.slice A_3 s_1.2.length cap_2) s_1.2.length cs_1) :: H) w_3 := p_4.pull 1 rfl rfl
    refine W_okH (E := [Ent.obj b_1 (.cells #[.pointer A_2, .slice A_3 s_1.2.length cap_2] 41 (0, 0)), Ent.row 5 1 (.slice A_3 s_1.2.length cap_2) s_1.2.length cs_1]) (H := (H)) f_7 p_6 (by kernel_rfl) (by kernel_rfl) rfl rfl (fun _ => by kernel_rfl) (strings_Builder_WriteString_ok n _ b_1 A_2 hb_1 s_1.2 A_3 cap_2 cs_1 hr_2 x_1.1 x_2 hx_2) (fun u_1 M_2 E_1 w_4 hM_2 p_5 q_1 a_8 f_8 => ?_)
    obtain ⟨A_4, A_5, cap_3, cs_2, rfl, rfl, hb_2, hr_3⟩ := q_1
    replace p_5 : Hp w0 M_2 ((Ent.obj b_1 (.cells #[.pointer A_4, .slice A_5 x_2.2.2.length cap_3] 41 (0, 0))) :: (Ent.row 5 1 (.slice A_5 x_2.2.2.length cap_3) x_2.2.2.length cs_2) :: H) w_4 := p_5
    refine W_end rfl ?_
    refine T_n ?_
    refine R_seq ?_
    refine R_seq ?_
    refine R_reg ?_
    refine W_run (L' := [(4, .pointer (some (⟨b_1, 0, none⟩))), (6, S x_1.2.1), (20, .bool !x_1.2.2)]) (w' := w_4) f_8 2 [4, 6, 20] (by kernel_rfl) (fun a_9 f_9 => ?_)
    refine W_end rfl ?_
    refine T_n ?_
    refine R_cond f_9 (b := !x_1.2.2) (by kernel_rfl) (by kernel_rfl) (fun h_1 => ?_) (fun h_1 => ?_)
    · have k_1 : (x_1.2.2) = false := by simpa using h_1
      have hF_4 := cnd_t h_1 hF_3
      refine R_seq ?_
      refine R_reg ?_
      obtain ⟨x_3, hx_3, hF_5⟩ := bind_some' hF_4
      refine W_okH (E := [Ent.obj b_1 (.cells #[.pointer A_4, .slice A_5 x_2.2.2.length cap_3] 41 (0, 0)), Ent.row 5 1 (.slice A_5 x_2.2.2.length cap_3) x_2.2.2.length cs_2]) (H := (H)) f_9 p_5 (by kernel_rfl) (by kernel_rfl) rfl rfl (fun _ => by kernel_rfl) (strings_Builder_String_ok n _ b_1 A_4 hb_2 x_2.2.2 A_5 cap_3 cs_2 hr_3 x_3 hx_3) (fun u_2 M_3 E_2 w_5 hM_3 p_7 q_2 a_10 f_10 => ?_)
      obtain ⟨A_6, A_7, cap_4, rfl, rfl, hb_3, h_2⟩ := q_2
      replace p_7 : Hp w0 M_3 ((Ent.obj b_1 (.cells #[.pointer A_6, .slice A_7 x_3.2.length cap_4] 41 (0, 0))) :: H) w_5 := p_7
      refine W_run (L' := [(2, S x_3.1), (3, .bool true)]) (w' := w_5) f_10 2 [2, 3] (by kernel_rfl) (fun a_11 f_11 => ?_)
      refine W_end rfl ?_
      refine T_n ?_
      refine wp_ret ?_
      refine T_r ?_
      refine B_r ?_
      refine T_r ?_
      obtain rfl := Option.some.inj hF_5
      exact ⟨rfl, (x_3.1, (true), x_3.2), (Option.some.inj hn_1).symm, M_3, ((hM_1.trans hM_2).trans hM_3), A_6, A_7, cap_4, hb_3, h_2, f_11.keep (ks := [2, 3]) (by kernel_rfl), p_7⟩
    · have k_2 : (x_1.2.2) = true := by simpa using h_1
      have hF_6 := cnd_f h_1 hF_3
      refine wp_skip ?_
      refine T_n ?_
      refine R_seq ?_
      refine R_reg ?_
      refine W_run (L' := [(4, .pointer (some (⟨b_1, 0, none⟩))), (23, S x_1.2.1)]) (w' := w_4) f_9 1 [4, 23] (by kernel_rfl) (fun a_12 f_12 => ?_)
      obtain ⟨x_4, hx_4, hF_7⟩ := bind_some' hF_6
      refine W_okv (v := .tuple #[S x_4.1, S x_4.2.1, .bool x_4.2.2]) f_12 p_5 (by kernel_rfl) (by kernel_rfl) rfl rfl (fun _ => by kernel_rfl) (h_Cut_ok n _ (GL.mono (hM_1.trans hM_2) hG) x_1.2.1 [125] x_4 hx_4) (fun w_6 p_8 a_13 f_13 => ?_)
      refine W_run (L' := [(4, .pointer (some (⟨b_1, 0, none⟩))), (8, S x_4.1), (9, S x_4.2.1), (10, .bool x_4.2.2)]) (w' := w_6) f_13 7 [4, 8, 9, 10] (by kernel_rfl) (fun a_14 f_14 => ?_)
      refine W_end rfl ?_
      refine T_n ?_
      refine R_seq ?_
      refine R_seq ?_
      refine R_reg ?_
      refine W_run (L' := [(4, .pointer (some (⟨b_1, 0, none⟩))), (8, S x_4.1), (9, S x_4.2.1), (29, .bool !x_4.2.2)]) (w' := w_6) f_14 2 [4, 8, 9, 29] (by kernel_rfl) (fun a_15 f_15 => ?_)
      refine W_end rfl ?_
      refine T_n ?_
      refine R_cond f_15 (b := !x_4.2.2) (by kernel_rfl) (by kernel_rfl) (fun h_3 => ?_) (fun h_3 => ?_)
      · have k_3 : (x_4.2.2) = false := by simpa using h_3
        have hF_8 := cnd_t h_3 hF_7
        refine R_seq ?_
        refine R_reg ?_
        refine W_run (L' := [(2, S []), (3, .bool false)]) (w' := w_6) f_15 2 [2, 3] (by kernel_rfl) (fun a_16 f_16 => ?_)
        refine W_end rfl ?_
        refine T_n ?_
        refine wp_ret ?_
        refine T_r ?_
        refine B_r ?_
        have p_11 : Hp w0 M_2 ((Ent.row 5 1 (.slice A_5 x_2.2.2.length cap_3) x_2.2.2.length cs_2) :: (Ent.obj b_1 (.cells #[.pointer A_4, .slice A_5 x_2.2.2.length cap_3] 41 (0, 0))) :: H) w_6 := p_8.pull 1 rfl rfl
        obtain ⟨A_12, cap_7, M_6, hv_2, hM_6, p_12, h_5⟩ := p_11.rowSli (f := embB) (xs := x_2.2.2) szd_byte hr_3
        have p_13 : Hp w0 M_6 ((Ent.obj b_1 (.cells #[.pointer A_4, .slice A_12 x_2.2.2.length cap_7] 41 (0, 0))) :: H) w_6 := by rw [hv_2] at p_12; exact p_12
        refine T_r ?_
        obtain rfl := Option.some.inj hF_8
        exact ⟨rfl, (([] : List UInt8), (false), x_2.2.2), (Option.some.inj hn_1).symm, M_6, ((hM_1.trans hM_2).trans hM_6), A_4, A_12, cap_7, hb_2, h_5, f_16.keep (ks := [2, 3]) (by kernel_rfl), p_13⟩
      · have k_4 : (x_4.2.2) = true := by simpa using h_3
        have hF_9 := cnd_f h_3 hF_7
        refine wp_skip ?_
        refine T_n ?_
        refine R_seq ?_
        refine R_reg ?_
        refine W_run (L' := [(4, .pointer (some (⟨b_1, 0, none⟩))), (9, S x_4.2.1), (30, S x_4.1)]) (w' := w_6) f_15 1 [4, 9, 30] (by kernel_rfl) (fun a_17 f_17 => ?_)
        obtain ⟨g_1, hF_10⟩ := need_some hF_9
        refine W_eq (v := S ([36, 123, 33] ++ x_4.1)) f_17 (by kernel_rfl) (by kernel_rfl) rfl rfl (X_concat rfl (l := [36, 123, 33]) (m := x_4.1) (by kernel_rfl) (by kernel_rfl) g_1) (fun a_18 f_18 => ?_)
        obtain ⟨g_2, hF_11⟩ := need_some hF_10
        refine W_eq (v := S (([36, 123, 33] ++ x_4.1) ++ [125])) f_18 (by kernel_rfl) (by kernel_rfl) rfl rfl (X_concat rfl (l := [36, 123, 33] ++ x_4.1) (m := [125]) (by kernel_rfl) (by kernel_rfl) g_2) (fun a_19 f_19 => ?_)
        obtain ⟨x_5, hx_5, hF_12⟩ := bind_some' hF_11
        refine W_okH (E := [Ent.obj b_1 (.cells #[.pointer A_4, .slice A_5 x_2.2.2.length cap_3] 41 (0, 0)), Ent.row 5 1 (.slice A_5 x_2.2.2.length cap_3) x_2.2.2.length cs_2]) (H := (H)) f_19 p_8 (by kernel_rfl) (by kernel_rfl) rfl rfl (fun _ => by kernel_rfl) (strings_Builder_WriteString_ok n _ b_1 A_4 hb_2 x_2.2.2 A_5 cap_3 cs_2 hr_3 (([36, 123, 33] ++ x_4.1) ++ [125]) x_5 hx_5) (fun u_3 M_4 E_3 w_7 hM_4 p_9 q_3 a_20 f_20 => ?_)
        obtain ⟨A_8, A_9, cap_5, cs_3, rfl, rfl, hb_4, hr_4⟩ := q_3
        replace p_9 : Hp w0 M_4 ((Ent.obj b_1 (.cells #[.pointer A_8, .slice A_9 x_5.2.2.length cap_5] 41 (0, 0))) :: (Ent.row 5 1 (.slice A_9 x_5.2.2.length cap_5) x_5.2.2.length cs_3) :: H) w_7 := p_9
        refine W_end rfl ?_
        refine T_n ?_
        refine R_reg ?_
        refine W_run (L' := [(0, S x_4.2.1), (4, .pointer (some (⟨b_1, 0, none⟩)))]) (w' := w_7) f_20 2 [0, 4] (by kernel_rfl) (fun a_21 f_21 => ?_)
        refine W_end rfl ?_
        refine B_n ?_
        have p_14 : Hp w0 M_4 ((Ent.row 5 1 (.slice A_9 x_5.2.2.length cap_5) x_5.2.2.length cs_3) :: (Ent.obj b_1 (.cells #[.pointer A_8, .slice A_9 x_5.2.2.length cap_5] 41 (0, 0))) :: H) w_7 := p_9.pull 1 rfl rfl
        refine T_n ?_
        obtain rfl := Option.some.inj hF_12
        exact ⟨⟨m_2, (x_4.2.1, x_5.2.2), A_8, A_9, cap_5, cs_3⟩, Nat.lt_succ_self _, M_4, ((hM_1.trans hM_2).trans hM_4), ⟨hn_1, hb_4, hr_4⟩, f_21.keep (ks := [0, 4]) (by kernel_rfl), p_14⟩
  · rintro _ a_23 w_9 ⟨rfl, y_1, hq_, M_5, hM_5, A_10, A_11, cap_6, hb_5, h_4, f_22, p_10⟩
    subst b_2
    refine B_r ?_
    refine E_ret2 f_22 rfl (by kernel_rfl : Vc.look _ 2 = some (S y_1.1)) (by kernel_rfl : Vc.look _ 3 = some (.bool y_1.2.1)) ?_
    obtain rfl := Option.some.inj hF_1
    exact ⟨_, rfl, M_5, hM_5, (p_10.dropN 1), rfl⟩

def sub_part (n : Nat) (d0 : T_api_Expr) : Option Bool :=
  ((bif (decide ((0 : Int) < ((d0.fL.length : Nat) : Int))) then
      (some ((true)))
    else
      some ((!(decide (d0.fNum = 0)))) : Option Bool)).bind fun y_1 =>
  bif y_1 then
    (some ((false)))
  else
    bif (decide (d0.fKind = 0)) then
      (need (d0.fName.length + d0.fAttr.length ≤ 9223372036854775807) <|
      bif (decide ((d0.fName ++ d0.fAttr) = [])) then
        (bif (!(decide (d0.fText = []))) then
          ((runes_Valid n d0.fText).bind fun x_1 =>
          some ((x_1)))
        else
          some ((false)))
      else
        some ((false)))
    else
      bif (decide (d0.fKind = 3)) then
        (need (d0.fText.length + d0.fAttr.length ≤ 9223372036854775807) <|
        bif (decide ((d0.fText ++ d0.fAttr) = [])) then
          ((runes_Name n d0.fName).bind fun x_2 =>
          some ((x_2)))
        else
          some ((false)))
      else
        bif (decide (d0.fKind = 4)) then
          (bif (decide (d0.fText = [])) then
            ((runes_Name n d0.fName).bind fun x_3 =>
            bif x_3 then
              ((sub_Attr n d0.fAttr).bind fun x_4 =>
              some ((x_4)))
            else
              some ((false)))
          else
            some ((false)))
        else
          some ((false))
theorem sub_part_ok (n : Nat) (M : Mem) (hG : GL M) (ad0 : Addr) (c0 : List Value) (d0 : T_api_Expr) (h0 : Rep M (emb_T_api_Expr d0) c0) (q0 : ∀ j v, c0[j]? = some v → M.cell? (ad0.add j) = some v) (r : Bool) (hF : sub_part n d0 = some r) : Ok Tryd.prog M 38 [.pointer (some ad0)] (fun _ v => v = .bool r) := by
  unfold sub_part at hF
  intro M1 hM0 w0 H w p0
  replace hG := GL.mono hM0 hG
  replace h0 := Rep.mono hM0 _ _ h0
  replace q0 := fun j v h => hM0.cell (q0 j v h)
  obtain ⟨A_1, cap_1, rfl, h_1⟩ := T_api_Expr.opn h0
  refine R_enter 86 Tryd.func38 rfl rfl (by simp) (fun a0 f0 => ?_)
  replace f0 : Frm 86 [(0, .pointer (some ad0))] a0 := f0
  refine R_seq ?_
  refine R_reg ?_
  refine W_run (L' := [(0, .pointer (some ad0))]) (w' := w) f0 1 [0] (by kernel_rfl) (fun a_1 f_1 => ?_)
  refine W_end rfl ?_
  refine T_n ?_
  refine R_seq ?_
  refine R_seq ?_
  obtain ⟨j_1, hj_1, hF_1⟩ := bind_some' hF
  refine R_mid (fun a_9 w_1 => ∃ y_1 : Bool, j_1 = y_1 ∧ ∃ M_1 : Mem, M1.le M_1 ∧ Frm 86 [(0, .pointer (some ad0)), (15, .bool y_1)] a_9 ∧ Hp w0 M_1 (H) w_1) ?_ ?_
  · refine R_reg ?_
    refine W_run (L' := [(0, .pointer (some ad0)), (5, .pointer (some (ad0.add 5)))]) (w' := w) f_1 3 [0, 5] (by kernel_rfl) (fun a_2 f_2 => ?_)
    refine W_eq (v := .slice A_1 d0.fL.length cap_1) f_2 (by kernel_rfl) (by kernel_rfl) rfl rfl (X_load1 (v := .slice A_1 d0.fL.length cap_1) rfl (ad := ad0.add 5) (by kernel_rfl) (by kernel_rfl) (p0.cell (q0 5 _ rfl))) (fun a_3 f_3 => ?_)
    refine W_run (L' := [(0, .pointer (some ad0)), (9, .bool (decide ((0 : Int) < ((d0.fL.length : Nat) : Int))))]) (w' := w) f_3 3 [0, 9] (by kernel_rfl) (fun a_4 f_4 => ?_)
    rcases Bool.eq_false_or_eq_true (decide ((0 : Int) < ((d0.fL.length : Nat) : Int))) with h_2 | h_2
    · have k_1 : (0 : Int) < ((d0.fL.length : Nat) : Int) := decide_eq_true_iff.1 h_2
      have hF_2 := cnd_t h_2 hj_1
      have f_5 := Frm.set f_4 9 (v := .bool (decide ((0 : Int) < ((d0.fL.length : Nat) : Int)))) (v' := .bool true) (by kernel_rfl) (congrArg Value.bool h_2)
      have f_6 : Frm 86 [(0, .pointer (some ad0)), (9, .bool true)] a_4 := f_5.keep (ks := [0, 9]) (by kernel_rfl)
      refine W_run (L' := [(0, .pointer (some ad0)), (15, .bool true)]) (w' := w) f_6 6 [0, 15] (by kernel_rfl) (fun a_5 f_7 => ?_)
      refine W_end rfl ?_
      refine T_n ?_
      exact ⟨(true), (Option.some.inj hF_2).symm, M1, (Mem.le_refl _), f_7.keep (ks := [0, 15]) (by kernel_rfl), p0⟩
    · have k_2 : ¬ ((0 : Int) < ((d0.fL.length : Nat) : Int)) := iff_f decide_eq_true_iff h_2
      have hF_3 := cnd_f h_2 hj_1
      have f_8 := Frm.set f_4 9 (v := .bool (decide ((0 : Int) < ((d0.fL.length : Nat) : Int)))) (v' := .bool false) (by kernel_rfl) (congrArg Value.bool h_2)
      have f_9 : Frm 86 [(0, .pointer (some ad0)), (9, .bool false)] a_4 := f_8.keep (ks := [0, 9]) (by kernel_rfl)
      refine W_run (L' := [(0, .pointer (some ad0)), (9, .bool false), (12, .pointer (some (ad0.add 2)))]) (w' := w) f_9 3 [0, 9, 12] (by kernel_rfl) (fun a_6 f_10 => ?_)
      refine W_eq (v := .int .i64 d0.fNum) f_10 (by kernel_rfl) (by kernel_rfl) rfl rfl (X_load1 (v := .int .i64 d0.fNum) rfl (ad := ad0.add 2) (by kernel_rfl) (by kernel_rfl) (p0.cell (q0 2 _ rfl))) (fun a_7 f_11 => ?_)
      refine W_run (L' := [(0, .pointer (some ad0)), (15, .bool (!(decide (d0.fNum = 0))))]) (w' := w) f_11 2 [0, 15] (by kernel_rfl) (fun a_8 f_12 => ?_)
      refine W_end rfl ?_
      refine T_n ?_
      exact ⟨(!(decide (d0.fNum = 0))), (Option.some.inj hF_3).symm, M1, (Mem.le_refl _), f_12.keep (ks := [0, 15]) (by kernel_rfl), p0⟩
  · rintro a_9 w_1 ⟨y_1, hq_1, M_1, hM_1, f_13, p_1⟩
    subst j_1
    refine T_n ?_
    refine R_cond f_13 (b := y_1) (by kernel_rfl) (by kernel_rfl) (fun h_3 => ?_) (fun h_3 => ?_)
    · have hF_4 := cnd_t h_3 hF_1
      refine R_seq ?_
      refine R_reg ?_
      refine W_run (L' := [(2, .bool false)]) (w' := w_1) f_13 1 [2] (by kernel_rfl) (fun a_10 f_14 => ?_)
      refine W_end rfl ?_
      refine T_n ?_
      refine wp_ret ?_
      refine T_r ?_
      refine E_ret1 f_14 rfl (by kernel_rfl : Vc.look _ 2 = some (.bool false)) ?_
      obtain rfl := Option.some.inj hF_4
      exact ⟨_, rfl, M_1, hM_1, p_1, rfl⟩
    · have hF_5 := cnd_f h_3 hF_1
      refine wp_skip ?_
      refine T_n ?_
      refine R_seq ?_
      refine R_seq ?_
      refine R_reg ?_
      refine W_run (L' := [(0, .pointer (some ad0)), (18, .pointer (some (ad0.add 0)))]) (w' := w_1) f_13 3 [0, 18] (by kernel_rfl) (fun a_11 f_15 => ?_)
      refine W_eq (v := .int .i8 d0.fKind) f_15 (by kernel_rfl) (by kernel_rfl) rfl rfl (X_load1 (v := .int .i8 d0.fKind) rfl (ad := ad0.add 0) (by kernel_rfl) (by kernel_rfl) (p_1.cell ((fun j v h => hM_1.cell (q0 j v h)) 0 _ rfl))) (fun a_12 f_16 => ?_)
      refine W_end rfl ?_
      refine T_n ?_
      refine wp_block ?_
      refine R_seq ?_
      refine R_reg ?_
      refine W_run (L' := [(0, .pointer (some ad0)), (19, .int .i8 d0.fKind), (20, .bool (decide (d0.fKind = 0)))]) (w' := w_1) f_16 2 [0, 19, 20] (by kernel_rfl) (fun a_13 f_17 => ?_)
      refine W_end rfl ?_
      refine T_n ?_
      refine R_cond f_17 (b := decide (d0.fKind = 0)) (by kernel_rfl) (by kernel_rfl) (fun h_4 => ?_) (fun h_4 => ?_)
      · have k_5 : d0.fKind = 0 := decide_eq_true_iff.1 h_4
        have hF_6 := cnd_t h_4 hF_5
        refine R_seq ?_
        refine R_draw p_1 (by kernel_rfl) (by kernel_rfl) ?_
        refine Q_eq (v := .pointer (some ad0)) f_17 (by kernel_rfl) (by kernel_rfl) rfl rfl (fun _ _ => by kernel_rfl) (fun a_14 f_18 => ?_)
        refine Q_eq (v := .pointer (some ad0)) f_18 (by kernel_rfl) (by kernel_rfl) rfl rfl (fun _ _ => by kernel_rfl) (fun a_15 f_19 => ?_)
        refine Q_eq (v := .pointer (some (ad0.add 3))) f_19 (by kernel_rfl) (by kernel_rfl) rfl rfl (fun _ _ => by kernel_rfl) (fun a_16 f_20 => ?_)
        have f_21 : Frm 86 [(0, .pointer (some ad0)), (24, .pointer (some (ad0.add 3)))] a_16 := f_20.keep (ks := [0, 24]) (by kernel_rfl)
        refine Q_eq (v := S d0.fName) f_21 (by kernel_rfl) (by kernel_rfl) rfl rfl (fun _ pq => X_load1 (v := S d0.fName) rfl (ad := ad0.add 3) (by kernel_rfl) (by kernel_rfl) (pq.cell ((fun j v h => hM_1.cell (q0 j v h)) 3 _ rfl))) (fun a_17 f_22 => ?_)
        refine Q_eq (v := .pointer (some ad0)) f_22 (by kernel_rfl) (by kernel_rfl) rfl rfl (fun _ _ => by kernel_rfl) (fun a_18 f_23 => ?_)
        refine Q_eq (v := .pointer (some ad0)) f_23 (by kernel_rfl) (by kernel_rfl) rfl rfl (fun _ _ => by kernel_rfl) (fun a_19 f_24 => ?_)
        refine Q_eq (v := .pointer (some (ad0.add 4))) f_24 (by kernel_rfl) (by kernel_rfl) rfl rfl (fun _ _ => by kernel_rfl) (fun a_20 f_25 => ?_)
        have f_26 : Frm 86 [(0, .pointer (some ad0)), (25, S d0.fName), (28, .pointer (some (ad0.add 4)))] a_20 := f_25.keep (ks := [0, 25, 28]) (by kernel_rfl)
        refine Q_eq (v := S d0.fAttr) f_26 (by kernel_rfl) (by kernel_rfl) rfl rfl (fun _ pq => X_load1 (v := S d0.fAttr) rfl (ad := ad0.add 4) (by kernel_rfl) (by kernel_rfl) (pq.cell ((fun j v h => hM_1.cell (q0 j v h)) 4 _ rfl))) (fun a_21 f_27 => ?_)
        obtain ⟨g_1, hF_7⟩ := need_some hF_6
        refine Q_eq (v := S (d0.fName ++ d0.fAttr)) f_27 (by kernel_rfl) (by kernel_rfl) rfl rfl (fun _ pq => X_concat rfl (l := d0.fName) (m := d0.fAttr) (by kernel_rfl) (by kernel_rfl) g_1) (fun a_22 f_28 => ?_)
        refine Q_eq (v := .bool (decide ((d0.fName ++ d0.fAttr) = []))) f_28 (by kernel_rfl) (by kernel_rfl) rfl rfl (fun _ pq => X_streq rfl (l := d0.fName ++ d0.fAttr) (m := []) (by kernel_rfl) (by kernel_rfl)) (fun a_23 f_29 => ?_)
        refine Q_eq (v := .bool (decide ((d0.fName ++ d0.fAttr) = []))) f_29 (by kernel_rfl) (by kernel_rfl) rfl rfl (fun _ _ => by kernel_rfl) (fun a_24 f_30 => ?_)
        have f_31 : Frm 86 [(0, .pointer (some ad0)), (32, .bool (decide ((d0.fName ++ d0.fAttr) = [])))] a_24 := f_30.keep (ks := [0, 32]) (by kernel_rfl)
        rcases Bool.eq_false_or_eq_true (decide ((d0.fName ++ d0.fAttr) = [])) with h_5 | h_5
        · have k_6 : (d0.fName ++ d0.fAttr) = [] := decide_eq_true_iff.1 h_5
          have hF_8 := cnd_t h_5 hF_7
          have f_32 := Frm.set f_31 32 (v := .bool (decide ((d0.fName ++ d0.fAttr) = []))) (v' := .bool true) (by kernel_rfl) (congrArg Value.bool h_5)
          have f_33 : Frm 86 [(0, .pointer (some ad0)), (32, .bool true)] a_24 := f_32.keep (ks := [0, 32]) (by kernel_rfl)
          refine Q_eq (v := .pointer (some ad0)) f_33 (by kernel_rfl) (by kernel_rfl) rfl rfl (fun _ _ => by kernel_rfl) (fun a_25 f_34 => ?_)
          refine Q_eq (v := .pointer (some ad0)) f_34 (by kernel_rfl) (by kernel_rfl) rfl rfl (fun _ _ => by kernel_rfl) (fun a_26 f_35 => ?_)
          refine Q_eq (v := .pointer (some (ad0.add 1))) f_35 (by kernel_rfl) (by kernel_rfl) rfl rfl (fun _ _ => by kernel_rfl) (fun a_27 f_36 => ?_)
          have f_37 : Frm 86 [(0, .pointer (some ad0)), (32, .bool true), (35, .pointer (some (ad0.add 1)))] a_27 := f_36.keep (ks := [0, 32, 35]) (by kernel_rfl)
          refine Q_eq (v := S d0.fText) f_37 (by kernel_rfl) (by kernel_rfl) rfl rfl (fun _ pq => X_load1 (v := S d0.fText) rfl (ad := ad0.add 1) (by kernel_rfl) (by kernel_rfl) (pq.cell ((fun j v h => hM_1.cell (q0 j v h)) 1 _ rfl))) (fun a_28 f_38 => ?_)
          refine Q_eq (v := .bool (!(decide (d0.fText = [])))) f_38 (by kernel_rfl) (by kernel_rfl) rfl rfl (fun _ pq => X_strne rfl (l := d0.fText) (m := []) (by kernel_rfl) (by kernel_rfl)) (fun a_29 f_39 => ?_)
          refine Q_eq (v := .bool (!(decide (d0.fText = [])))) f_39 (by kernel_rfl) (by kernel_rfl) rfl rfl (fun _ _ => by kernel_rfl) (fun a_30 f_40 => ?_)
          refine Q_eq (v := .bool (!(decide (d0.fText = [])))) f_40 (by kernel_rfl) (by kernel_rfl) rfl rfl (fun _ _ => by kernel_rfl) (fun a_31 f_41 => ?_)
          have f_42 : Frm 86 [(0, .pointer (some ad0)), (39, .bool (!(decide (d0.fText = []))))] a_31 := f_41.keep (ks := [0, 39]) (by kernel_rfl)
          rcases Bool.eq_false_or_eq_true (!(decide (d0.fText = []))) with h_6 | h_6
          · have k_7 : ¬ (d0.fText = []) := (not_iff decide_eq_true_iff).1 h_6
            have hF_9 := cnd_t h_6 hF_8
            have f_43 := Frm.set f_42 39 (v := .bool (!(decide (d0.fText = [])))) (v' := .bool true) (by kernel_rfl) (congrArg Value.bool h_6)
            have f_44 : Frm 86 [(0, .pointer (some ad0)), (39, .bool true)] a_31 := f_43.keep (ks := [0, 39]) (by kernel_rfl)
            refine Q_eq (v := .pointer (some ad0)) f_44 (by kernel_rfl) (by kernel_rfl) rfl rfl (fun _ _ => by kernel_rfl) (fun a_32 f_45 => ?_)
            refine Q_eq (v := .pointer (some ad0)) f_45 (by kernel_rfl) (by kernel_rfl) rfl rfl (fun _ _ => by kernel_rfl) (fun a_33 f_46 => ?_)
            refine Q_eq (v := .pointer (some (ad0.add 1))) f_46 (by kernel_rfl) (by kernel_rfl) rfl rfl (fun _ _ => by kernel_rfl) (fun a_34 f_47 => ?_)
            have f_48 : Frm 86 [(39, .bool true), (42, .pointer (some (ad0.add 1)))] a_34 := f_47.keep (ks := [39, 42]) (by kernel_rfl)
            refine Q_eq (v := S d0.fText) f_48 (by kernel_rfl) (by kernel_rfl) rfl rfl (fun _ pq => X_load1 (v := S d0.fText) rfl (ad := ad0.add 1) (by kernel_rfl) (by kernel_rfl) (pq.cell ((fun j v h => hM_1.cell (q0 j v h)) 1 _ rfl))) (fun a_35 f_49 => ?_)
            obtain ⟨x_1, hx_1, hF_10⟩ := bind_some' hF_9
            refine Q_okv (v := .bool x_1) f_49 (by kernel_rfl) (by kernel_rfl) rfl rfl (fun _ => by kernel_rfl) (runes_Valid_ok n _ (GL.mono hM_1 hG) d0.fText x_1 hx_1) (fun a_36 f_50 => ?_)
            refine Q_eq (v := .bool x_1) f_50 (by kernel_rfl) (by kernel_rfl) rfl rfl (fun _ _ => by kernel_rfl) (fun a_37 f_51 => ?_)
            refine Q_eq (v := .bool x_1) f_51 (by kernel_rfl) (by kernel_rfl) rfl rfl (fun _ _ => by kernel_rfl) (fun a_38 f_52 => ?_)
            have f_53 : Frm 86 [(2, .bool x_1)] a_38 := f_52.keep (ks := [2]) (by kernel_rfl)
            refine Q_end rfl ?_
            intro w_3 p_3
            refine T_n ?_
            refine wp_ret ?_
            refine B_r ?_
            refine T_r ?_
            refine E_ret1 f_53 rfl (by kernel_rfl : Vc.look _ 2 = some (.bool x_1)) ?_
            obtain rfl := Option.some.inj hF_10
            exact ⟨_, rfl, M_1, hM_1, p_3, rfl⟩
          · have k_8 : ¬ (¬ (d0.fText = [])) := iff_f (not_iff decide_eq_true_iff) h_6
            have hF_11 := cnd_f h_6 hF_8
            have f_54 := Frm.set f_42 39 (v := .bool (!(decide (d0.fText = [])))) (v' := .bool false) (by kernel_rfl) (congrArg Value.bool h_6)
            have f_55 : Frm 86 [(0, .pointer (some ad0)), (39, .bool false)] a_31 := f_54.keep (ks := [0, 39]) (by kernel_rfl)
            refine Q_not f_55 (by kernel_rfl) rfl rfl (fun a_39 f_56 => ?_)
            refine Q_not f_56 (by kernel_rfl) rfl rfl (fun a_40 f_57 => ?_)
            refine Q_not f_57 (by kernel_rfl) rfl rfl (fun a_41 f_58 => ?_)
            refine Q_not f_58 (by kernel_rfl) rfl rfl (fun a_42 f_59 => ?_)
            refine Q_not f_59 (by kernel_rfl) rfl rfl (fun a_43 f_60 => ?_)
            refine Q_eq (v := .bool false) f_60 (by kernel_rfl) (by kernel_rfl) rfl rfl (fun _ _ => by kernel_rfl) (fun a_44 f_61 => ?_)
            refine Q_eq (v := .bool false) f_61 (by kernel_rfl) (by kernel_rfl) rfl rfl (fun _ _ => by kernel_rfl) (fun a_45 f_62 => ?_)
            have f_63 : Frm 86 [(2, .bool false)] a_45 := f_62.keep (ks := [2]) (by kernel_rfl)
            refine Q_end rfl ?_
            intro w_4 p_4
            refine T_n ?_
            refine wp_ret ?_
            refine B_r ?_
            refine T_r ?_
            refine E_ret1 f_63 rfl (by kernel_rfl : Vc.look _ 2 = some (.bool false)) ?_
            obtain rfl := Option.some.inj hF_11
            exact ⟨_, rfl, M_1, hM_1, p_4, rfl⟩
        · have k_9 : ¬ ((d0.fName ++ d0.fAttr) = []) := iff_f decide_eq_true_iff h_5
          have hF_12 := cnd_f h_5 hF_7
          have f_64 := Frm.set f_31 32 (v := .bool (decide ((d0.fName ++ d0.fAttr) = []))) (v' := .bool false) (by kernel_rfl) (congrArg Value.bool h_5)
          have f_65 : Frm 86 [(0, .pointer (some ad0)), (32, .bool false)] a_24 := f_64.keep (ks := [0, 32]) (by kernel_rfl)
          refine Q_not f_65 (by kernel_rfl) rfl rfl (fun a_46 f_66 => ?_)
          refine Q_not f_66 (by kernel_rfl) rfl rfl (fun a_47 f_67 => ?_)
          refine Q_not f_67 (by kernel_rfl) rfl rfl (fun a_48 f_68 => ?_)
          refine Q_not f_68 (by kernel_rfl) rfl rfl (fun a_49 f_69 => ?_)
          refine Q_not f_69 (by kernel_rfl) rfl rfl (fun a_50 f_70 => ?_)
          refine Q_eq (v := .bool false) f_70 (by kernel_rfl) (by kernel_rfl) rfl rfl (fun _ _ => by kernel_rfl) (fun a_51 f_71 => ?_)
          refine Q_eq (v := .bool false) f_71 (by kernel_rfl) (by kernel_rfl) rfl rfl (fun _ _ => by kernel_rfl) (fun a_52 f_72 => ?_)
          refine Q_not f_72 (by kernel_rfl) rfl rfl (fun a_53 f_73 => ?_)
          refine Q_not f_73 (by kernel_rfl) rfl rfl (fun a_54 f_74 => ?_)
          refine Q_not f_74 (by kernel_rfl) rfl rfl (fun a_55 f_75 => ?_)
          refine Q_not f_75 (by kernel_rfl) rfl rfl (fun a_56 f_76 => ?_)
          refine Q_not f_76 (by kernel_rfl) rfl rfl (fun a_57 f_77 => ?_)
          refine Q_eq (v := .bool false) f_77 (by kernel_rfl) (by kernel_rfl) rfl rfl (fun _ _ => by kernel_rfl) (fun a_58 f_78 => ?_)
          refine Q_eq (v := .bool false) f_78 (by kernel_rfl) (by kernel_rfl) rfl rfl (fun _ _ => by kernel_rfl) (fun a_59 f_79 => ?_)
          have f_80 : Frm 86 [(2, .bool false)] a_59 := f_79.keep (ks := [2]) (by kernel_rfl)
          refine Q_end rfl ?_
          intro w_5 p_5
          refine T_n ?_
          refine wp_ret ?_
          refine B_r ?_
          refine T_r ?_
          refine E_ret1 f_80 rfl (by kernel_rfl : Vc.look _ 2 = some (.bool false)) ?_
          obtain rfl := Option.some.inj hF_12
          exact ⟨_, rfl, M_1, hM_1, p_5, rfl⟩
      · have k_10 : ¬ (d0.fKind = 0) := iff_f decide_eq_true_iff h_4
        have hF_13 := cnd_f h_4 hF_5
        refine R_seq ?_
        refine R_reg ?_
        refine W_run (L' := [(0, .pointer (some ad0)), (19, .int .i8 d0.fKind), (46, .bool (decide (d0.fKind = 3)))]) (w' := w_1) f_17 2 [0, 19, 46] (by kernel_rfl) (fun a_60 f_81 => ?_)
        refine W_end rfl ?_
        refine T_n ?_
        refine R_cond f_81 (b := decide (d0.fKind = 3)) (by kernel_rfl) (by kernel_rfl) (fun h_7 => ?_) (fun h_7 => ?_)
        · have k_11 : d0.fKind = 3 := decide_eq_true_iff.1 h_7
          have hF_14 := cnd_t h_7 hF_13
          refine R_seq ?_
          refine R_draw p_1 (by kernel_rfl) (by kernel_rfl) ?_
          refine Q_eq (v := .pointer (some ad0)) f_81 (by kernel_rfl) (by kernel_rfl) rfl rfl (fun _ _ => by kernel_rfl) (fun a_61 f_82 => ?_)
          refine Q_eq (v := .pointer (some ad0)) f_82 (by kernel_rfl) (by kernel_rfl) rfl rfl (fun _ _ => by kernel_rfl) (fun a_62 f_83 => ?_)
          refine Q_eq (v := .pointer (some (ad0.add 1))) f_83 (by kernel_rfl) (by kernel_rfl) rfl rfl (fun _ _ => by kernel_rfl) (fun a_63 f_84 => ?_)
          have f_85 : Frm 86 [(0, .pointer (some ad0)), (50, .pointer (some (ad0.add 1)))] a_63 := f_84.keep (ks := [0, 50]) (by kernel_rfl)
          refine Q_eq (v := S d0.fText) f_85 (by kernel_rfl) (by kernel_rfl) rfl rfl (fun _ pq => X_load1 (v := S d0.fText) rfl (ad := ad0.add 1) (by kernel_rfl) (by kernel_rfl) (pq.cell ((fun j v h => hM_1.cell (q0 j v h)) 1 _ rfl))) (fun a_64 f_86 => ?_)
          refine Q_eq (v := .pointer (some ad0)) f_86 (by kernel_rfl) (by kernel_rfl) rfl rfl (fun _ _ => by kernel_rfl) (fun a_65 f_87 => ?_)
          refine Q_eq (v := .pointer (some ad0)) f_87 (by kernel_rfl) (by kernel_rfl) rfl rfl (fun _ _ => by kernel_rfl) (fun a_66 f_88 => ?_)
          refine Q_eq (v := .pointer (some (ad0.add 4))) f_88 (by kernel_rfl) (by kernel_rfl) rfl rfl (fun _ _ => by kernel_rfl) (fun a_67 f_89 => ?_)
          have f_90 : Frm 86 [(0, .pointer (some ad0)), (51, S d0.fText), (54, .pointer (some (ad0.add 4)))] a_67 := f_89.keep (ks := [0, 51, 54]) (by kernel_rfl)
          refine Q_eq (v := S d0.fAttr) f_90 (by kernel_rfl) (by kernel_rfl) rfl rfl (fun _ pq => X_load1 (v := S d0.fAttr) rfl (ad := ad0.add 4) (by kernel_rfl) (by kernel_rfl) (pq.cell ((fun j v h => hM_1.cell (q0 j v h)) 4 _ rfl))) (fun a_68 f_91 => ?_)
          obtain ⟨g_2, hF_15⟩ := need_some hF_14
          refine Q_eq (v := S (d0.fText ++ d0.fAttr)) f_91 (by kernel_rfl) (by kernel_rfl) rfl rfl (fun _ pq => X_concat rfl (l := d0.fText) (m := d0.fAttr) (by kernel_rfl) (by kernel_rfl) g_2) (fun a_69 f_92 => ?_)
          refine Q_eq (v := .bool (decide ((d0.fText ++ d0.fAttr) = []))) f_92 (by kernel_rfl) (by kernel_rfl) rfl rfl (fun _ pq => X_streq rfl (l := d0.fText ++ d0.fAttr) (m := []) (by kernel_rfl) (by kernel_rfl)) (fun a_70 f_93 => ?_)
          refine Q_eq (v := .bool (decide ((d0.fText ++ d0.fAttr) = []))) f_93 (by kernel_rfl) (by kernel_rfl) rfl rfl (fun _ _ => by kernel_rfl) (fun a_71 f_94 => ?_)
          have f_95 : Frm 86 [(0, .pointer (some ad0)), (58, .bool (decide ((d0.fText ++ d0.fAttr) = [])))] a_71 := f_94.keep (ks := [0, 58]) (by kernel_rfl)
          rcases Bool.eq_false_or_eq_true (decide ((d0.fText ++ d0.fAttr) = [])) with h_8 | h_8
          · have k_12 : (d0.fText ++ d0.fAttr) = [] := decide_eq_true_iff.1 h_8
            have hF_16 := cnd_t h_8 hF_15
            have f_96 := Frm.set f_95 58 (v := .bool (decide ((d0.fText ++ d0.fAttr) = []))) (v' := .bool true) (by kernel_rfl) (congrArg Value.bool h_8)
            have f_97 : Frm 86 [(0, .pointer (some ad0)), (58, .bool true)] a_71 := f_96.keep (ks := [0, 58]) (by kernel_rfl)
            refine Q_eq (v := .pointer (some ad0)) f_97 (by kernel_rfl) (by kernel_rfl) rfl rfl (fun _ _ => by kernel_rfl) (fun a_72 f_98 => ?_)
            refine Q_eq (v := .pointer (some ad0)) f_98 (by kernel_rfl) (by kernel_rfl) rfl rfl (fun _ _ => by kernel_rfl) (fun a_73 f_99 => ?_)
            refine Q_eq (v := .pointer (some (ad0.add 3))) f_99 (by kernel_rfl) (by kernel_rfl) rfl rfl (fun _ _ => by kernel_rfl) (fun a_74 f_100 => ?_)
            have f_101 : Frm 86 [(58, .bool true), (61, .pointer (some (ad0.add 3)))] a_74 := f_100.keep (ks := [58, 61]) (by kernel_rfl)
            refine Q_eq (v := S d0.fName) f_101 (by kernel_rfl) (by kernel_rfl) rfl rfl (fun _ pq => X_load1 (v := S d0.fName) rfl (ad := ad0.add 3) (by kernel_rfl) (by kernel_rfl) (pq.cell ((fun j v h => hM_1.cell (q0 j v h)) 3 _ rfl))) (fun a_75 f_102 => ?_)
            obtain ⟨x_2, hx_2, hF_17⟩ := bind_some' hF_16
            refine Q_okv (v := .bool x_2) f_102 (by kernel_rfl) (by kernel_rfl) rfl rfl (fun _ => by kernel_rfl) (runes_Name_ok n _ d0.fName x_2 hx_2) (fun a_76 f_103 => ?_)
            refine Q_eq (v := .bool x_2) f_103 (by kernel_rfl) (by kernel_rfl) rfl rfl (fun _ _ => by kernel_rfl) (fun a_77 f_104 => ?_)
            refine Q_eq (v := .bool x_2) f_104 (by kernel_rfl) (by kernel_rfl) rfl rfl (fun _ _ => by kernel_rfl) (fun a_78 f_105 => ?_)
            have f_106 : Frm 86 [(2, .bool x_2)] a_78 := f_105.keep (ks := [2]) (by kernel_rfl)
            refine Q_end rfl ?_
            intro w_7 p_7
            refine T_n ?_
            refine wp_ret ?_
            refine B_r ?_
            refine T_r ?_
            refine E_ret1 f_106 rfl (by kernel_rfl : Vc.look _ 2 = some (.bool x_2)) ?_
            obtain rfl := Option.some.inj hF_17
            exact ⟨_, rfl, M_1, hM_1, p_7, rfl⟩
          · have k_13 : ¬ ((d0.fText ++ d0.fAttr) = []) := iff_f decide_eq_true_iff h_8
            have hF_18 := cnd_f h_8 hF_15
            have f_107 := Frm.set f_95 58 (v := .bool (decide ((d0.fText ++ d0.fAttr) = []))) (v' := .bool false) (by kernel_rfl) (congrArg Value.bool h_8)
            have f_108 : Frm 86 [(0, .pointer (some ad0)), (58, .bool false)] a_71 := f_107.keep (ks := [0, 58]) (by kernel_rfl)
            refine Q_not f_108 (by kernel_rfl) rfl rfl (fun a_79 f_109 => ?_)
            refine Q_not f_109 (by kernel_rfl) rfl rfl (fun a_80 f_110 => ?_)
            refine Q_not f_110 (by kernel_rfl) rfl rfl (fun a_81 f_111 => ?_)
            refine Q_not f_111 (by kernel_rfl) rfl rfl (fun a_82 f_112 => ?_)
            refine Q_not f_112 (by kernel_rfl) rfl rfl (fun a_83 f_113 => ?_)
            refine Q_eq (v := .bool false) f_113 (by kernel_rfl) (by kernel_rfl) rfl rfl (fun _ _ => by kernel_rfl) (fun a_84 f_114 => ?_)
            refine Q_eq (v := .bool false) f_114 (by kernel_rfl) (by kernel_rfl) rfl rfl (fun _ _ => by kernel_rfl) (fun a_85 f_115 => ?_)
            have f_116 : Frm 86 [(2, .bool false)] a_85 := f_115.keep (ks := [2]) (by kernel_rfl)
            refine Q_end rfl ?_
            intro w_8 p_8
            refine T_n ?_
            refine wp_ret ?_
            refine B_r ?_
            refine T_r ?_
            refine E_ret1 f_116 rfl (by kernel_rfl : Vc.look _ 2 = some (.bool false)) ?_
            obtain rfl := Option.some.inj hF_18
            exact ⟨_, rfl, M_1, hM_1, p_8, rfl⟩
        · have k_14 : ¬ (d0.fKind = 3) := iff_f decide_eq_true_iff h_7
          have hF_19 := cnd_f h_7 hF_13
          refine R_seq ?_
          refine R_reg ?_
          refine W_run (L' := [(0, .pointer (some ad0)), (65, .bool (decide (d0.fKind = 4)))]) (w' := w_1) f_81 2 [0, 65] (by kernel_rfl) (fun a_86 f_117 => ?_)
          refine W_end rfl ?_
          refine T_n ?_
          refine R_cond f_117 (b := decide (d0.fKind = 4)) (by kernel_rfl) (by kernel_rfl) (fun h_9 => ?_) (fun h_9 => ?_)
          · have k_15 : d0.fKind = 4 := decide_eq_true_iff.1 h_9
            have hF_20 := cnd_t h_9 hF_19
            refine R_seq ?_
            refine R_reg ?_
            refine W_run (L' := [(0, .pointer (some ad0)), (69, .pointer (some (ad0.add 1)))]) (w' := w_1) f_117 3 [0, 69] (by kernel_rfl) (fun a_87 f_118 => ?_)
            refine W_eq (v := S d0.fText) f_118 (by kernel_rfl) (by kernel_rfl) rfl rfl (X_load1 (v := S d0.fText) rfl (ad := ad0.add 1) (by kernel_rfl) (by kernel_rfl) (p_1.cell ((fun j v h => hM_1.cell (q0 j v h)) 1 _ rfl))) (fun a_88 f_119 => ?_)
            refine W_eq (v := .bool (decide (d0.fText = []))) f_119 (by kernel_rfl) (by kernel_rfl) rfl rfl (X_streq rfl (l := d0.fText) (m := []) (by kernel_rfl) (by kernel_rfl)) (fun a_89 f_120 => ?_)
            refine W_run (L' := [(0, .pointer (some ad0)), (72, .bool (decide (d0.fText = [])))]) (w' := w_1) f_120 1 [0, 72] (by kernel_rfl) (fun a_90 f_121 => ?_)
            rcases Bool.eq_false_or_eq_true (decide (d0.fText = [])) with h_10 | h_10
            · have k_16 : d0.fText = [] := decide_eq_true_iff.1 h_10
              have hF_21 := cnd_t h_10 hF_20
              have f_122 := Frm.set f_121 72 (v := .bool (decide (d0.fText = []))) (v' := .bool true) (by kernel_rfl) (congrArg Value.bool h_10)
              have f_123 : Frm 86 [(0, .pointer (some ad0)), (72, .bool true)] a_90 := f_122.keep (ks := [0, 72]) (by kernel_rfl)
              refine W_run (L' := [(0, .pointer (some ad0)), (72, .bool true), (75, .pointer (some (ad0.add 3)))]) (w' := w_1) f_123 3 [0, 72, 75] (by kernel_rfl) (fun a_91 f_124 => ?_)
              refine W_eq (v := S d0.fName) f_124 (by kernel_rfl) (by kernel_rfl) rfl rfl (X_load1 (v := S d0.fName) rfl (ad := ad0.add 3) (by kernel_rfl) (by kernel_rfl) (p_1.cell ((fun j v h => hM_1.cell (q0 j v h)) 3 _ rfl))) (fun a_92 f_125 => ?_)
              obtain ⟨x_3, hx_3, hF_22⟩ := bind_some' hF_21
              refine W_okv (v := .bool x_3) f_125 p_1 (by kernel_rfl) (by kernel_rfl) rfl rfl (fun _ => by kernel_rfl) (runes_Name_ok n _ d0.fName x_3 hx_3) (fun w_9 p_9 a_93 f_126 => ?_)
              refine W_run (L' := [(0, .pointer (some ad0)), (79, .bool x_3)]) (w' := w_9) f_126 2 [0, 79] (by kernel_rfl) (fun a_94 f_127 => ?_)
              rcases Bool.eq_false_or_eq_true (x_3) with h_11 | h_11
              · have hF_23 := cnd_t h_11 hF_22
                have f_128 := Frm.set f_127 79 (v := .bool x_3) (v' := .bool true) (by kernel_rfl) (congrArg Value.bool h_11)
                have f_129 : Frm 86 [(0, .pointer (some ad0)), (79, .bool true)] a_94 := f_128.keep (ks := [0, 79]) (by kernel_rfl)
                refine W_run (L' := [(79, .bool true), (82, .pointer (some (ad0.add 4)))]) (w' := w_9) f_129 3 [79, 82] (by kernel_rfl) (fun a_95 f_130 => ?_)
                refine W_eq (v := S d0.fAttr) f_130 (by kernel_rfl) (by kernel_rfl) rfl rfl (X_load1 (v := S d0.fAttr) rfl (ad := ad0.add 4) (by kernel_rfl) (by kernel_rfl) (p_9.cell ((fun j v h => hM_1.cell (q0 j v h)) 4 _ rfl))) (fun a_96 f_131 => ?_)
                obtain ⟨x_4, hx_4, hF_24⟩ := bind_some' hF_23
                refine W_okv (v := .bool x_4) f_131 p_9 (by kernel_rfl) (by kernel_rfl) rfl rfl (fun _ => by kernel_rfl) (sub_Attr_ok n _ (GL.mono hM_1 hG) d0.fAttr x_4 hx_4) (fun w_10 p_10 a_97 f_132 => ?_)
                refine W_run (L' := [(2, .bool x_4)]) (w' := w_10) f_132 2 [2] (by kernel_rfl) (fun a_98 f_133 => ?_)
                refine W_end rfl ?_
                refine T_n ?_
                refine wp_ret ?_
                refine B_r ?_
                refine T_r ?_
                refine E_ret1 f_133 rfl (by kernel_rfl : Vc.look _ 2 = some (.bool x_4)) ?_
                obtain rfl := Option.some.inj hF_24
                exact ⟨_, rfl, M_1, hM_1, p_10, rfl⟩
              · have hF_25 := cnd_f h_11 hF_22
                have f_134 := Frm.set f_127 79 (v := .bool x_3) (v' := .bool false) (by kernel_rfl) (congrArg Value.bool h_11)
                have f_135 : Frm 86 [(0, .pointer (some ad0)), (79, .bool false)] a_94 := f_134.keep (ks := [0, 79]) (by kernel_rfl)
                refine W_run (L' := [(2, .bool false)]) (w' := w_9) f_135 7 [2] (by kernel_rfl) (fun a_99 f_136 => ?_)
                refine W_end rfl ?_
                refine T_n ?_
                refine wp_ret ?_
                refine B_r ?_
                refine T_r ?_
                refine E_ret1 f_136 rfl (by kernel_rfl : Vc.look _ 2 = some (.bool false)) ?_
                obtain rfl := Option.some.inj hF_25
                exact ⟨_, rfl, M_1, hM_1, p_9, rfl⟩
            · have k_19 : ¬ (d0.fText = []) := iff_f decide_eq_true_iff h_10
              have hF_26 := cnd_f h_10 hF_20
              have f_137 := Frm.set f_121 72 (v := .bool (decide (d0.fText = []))) (v' := .bool false) (by kernel_rfl) (congrArg Value.bool h_10)
              have f_138 : Frm 86 [(0, .pointer (some ad0)), (72, .bool false)] a_90 := f_137.keep (ks := [0, 72]) (by kernel_rfl)
              refine W_run (L' := [(2, .bool false)]) (w' := w_1) f_138 14 [2] (by kernel_rfl) (fun a_100 f_139 => ?_)
              refine W_end rfl ?_
              refine T_n ?_
              refine wp_ret ?_
              refine B_r ?_
              refine T_r ?_
              refine E_ret1 f_139 rfl (by kernel_rfl : Vc.look _ 2 = some (.bool false)) ?_
              obtain rfl := Option.some.inj hF_26
              exact ⟨_, rfl, M_1, hM_1, p_1, rfl⟩
          · have k_20 : ¬ (d0.fKind = 4) := iff_f decide_eq_true_iff h_9
            have hF_27 := cnd_f h_9 hF_19
            refine wp_skip ?_
            refine B_n ?_
            refine T_n ?_
            refine R_seq ?_
            refine R_reg ?_
            refine W_run (L' := [(2, .bool false)]) (w' := w_1) f_117 1 [2] (by kernel_rfl) (fun a_101 f_140 => ?_)
            refine W_end rfl ?_
            refine T_n ?_
            refine wp_ret ?_
            refine E_ret1 f_140 rfl (by kernel_rfl : Vc.look _ 2 = some (.bool false)) ?_
            obtain rfl := Option.some.inj hF_27
            exact ⟨_, rfl, M_1, hM_1, p_1, rfl⟩

def sub_Write_s1 (n : Nat) (d0 : List T_api_Expr) (s_1 : Int) : Option (Lp Int (Sum Unit Unit)) :=
    bif (decide (s_1 < ((d0.length : Nat) : Int))) then
      ((getI d0 s_1).bind fun x_1 =>
      (sub_part n x_1).bind fun x_2 =>
      bif !x_2 then
        (some (.br (.inl ())))
      else
        bif (decide ((0 : Int) < s_1)) then
          ((getI d0 s_1).bind fun x_3 =>
          bif (decide (x_3.fKind = 0)) then
            (need (inR .i64 (s_1 - 1)) <|
            (getI d0 (s_1 - 1)).bind fun x_4 =>
            bif (decide (x_4.fKind = 0)) then
              (some (.br (.inl ())))
            else
              need (inR .i64 (s_1 + 1)) <|
              some (.nx (s_1 + 1)))
          else
            need (inR .i64 (s_1 + 1)) <|
            some (.nx (s_1 + 1)))
        else
          need (inR .i64 (s_1 + 1)) <|
          some (.nx (s_1 + 1)))
    else
      some (.br (.inr ()))
def sub_Write_s2 (n : Nat) (d0 : List T_api_Expr) (s_2 : Int × List UInt8) : Option (Lp (Int × List UInt8) (Sum (List UInt8) (List UInt8))) :=
    bif (decide (s_2.1 < ((d0.length : Nat) : Int))) then
      ((getI d0 s_2.1).bind fun x_5 =>
      bif (decide (x_5.fKind = 0)) then
        ((sub_guarded n x_5.fText).bind fun x_6 =>
        bif !x_6.2 then
          (some (.br (.inl s_2.2)))
        else
          (strings_Builder_WriteString n s_2.2 x_6.1).bind fun x_7 =>
          need (inR .i64 (s_2.1 + 1)) <|
          some (.nx (s_2.1 + 1, x_7.2.2)))
      else
        bif (decide (x_5.fKind = 3)) then
          (need ([36, 123].length + x_5.fName.length ≤ 9223372036854775807) <|
          need (([36, 123] ++ x_5.fName).length + [125].length ≤ 9223372036854775807) <|
          (strings_Builder_WriteString n s_2.2 (([36, 123] ++ x_5.fName) ++ [125])).bind fun x_8 =>
          need (inR .i64 (s_2.1 + 1)) <|
          some (.nx (s_2.1 + 1, x_8.2.2)))
        else
          need ([36, 123].length + x_5.fName.length ≤ 9223372036854775807) <|
          need (([36, 123] ++ x_5.fName).length + [46].length ≤ 9223372036854775807) <|
          need ((([36, 123] ++ x_5.fName) ++ [46]).length + x_5.fAttr.length ≤ 9223372036854775807) <|
          need (((([36, 123] ++ x_5.fName) ++ [46]) ++ x_5.fAttr).length + [125].length ≤ 9223372036854775807) <|
          (strings_Builder_WriteString n s_2.2 (((([36, 123] ++ x_5.fName) ++ [46]) ++ x_5.fAttr) ++ [125])).bind fun x_9 =>
          need (inR .i64 (s_2.1 + 1)) <|
          some (.nx (s_2.1 + 1, x_9.2.2)))
    else
      some (.br (.inr s_2.2))
def sub_Write (n : Nat) (d0 : List T_api_Expr) : Option (List UInt8 × Int) :=
  (loopF (sub_Write_s1 n d0) n (0 : Int)).bind fun b_1 =>
  (match b_1 with 
  | .inl y_1 => some ((([] : List UInt8), (2 : Int))) 
  | .inr y_2 => (loopF (sub_Write_s2 n d0) n ((0 : Int), ([] : List UInt8))).bind fun b_3 =>
    (match b_3 with 
    | .inl y_3 => some ((([] : List UInt8), (130 : Int))) 
    | .inr y_4 => (strings_Builder_String n y_4).bind fun x_10 =>
      some ((x_10.1, (0 : Int)))))
theorem sub_Write_ok (n : Nat) (M : Mem) (hG : GL M) (A0 : Option Addr) (cap0 : Nat) (d0 : List T_api_Expr) (h0 : Sli M 6 emb_T_api_Expr A0 cap0 d0) (r : List UInt8 × Int) (hF : sub_Write n d0 = some r) : Ok Tryd.prog M 17 [.slice A0 d0.length cap0] (fun _ v => v = .tuple #[S r.1, .int .i64 r.2]) := by
  unfold sub_Write at hF
  intro M1 hM0 w0 H w p0
  replace hG := GL.mono hM0 hG
  replace h0 := h0.mono hM0
  refine R_enter 80 Tryd.func17 rfl rfl (by simp) (fun a0 f0 => ?_)
  replace f0 : Frm 80 [(0, .slice A0 d0.length cap0)] a0 := f0
  refine R_seq ?_
  refine R_reg ?_
  refine W_run (L' := [(0, .slice A0 d0.length cap0)]) (w' := w) f0 2 [0] (by kernel_rfl) (fun a_1 f_1 => ?_)
  refine W_end rfl ?_
  refine T_n ?_
  refine R_seq ?_
  refine R_seq ?_
  refine R_reg ?_
  refine W_run (L' := [(0, .slice A0 d0.length cap0), (11, .int .i64 ((d0.length : Nat) : Int)), (12, .int .i64 0)]) (w' := w) f_1 3 [0, 11, 12] (by kernel_rfl) (fun a_2 f_2 => ?_)
  refine W_end rfl ?_
  refine T_n ?_
  refine wp_block ?_
  obtain ⟨b_1, hL_1, hF_1⟩ := bind_some' hF
  refine wp_mono (Q := fun e a w => (e = .ret ∧ (∃ y_1 : Unit, b_1 = .inl y_1 ∧ ∃ M_2 : Mem, M1.le M_2 ∧ Frm 80 [(2, S []), (3, .int .i64 2)] a ∧ Hp w0 M_2 (H) w)) ∨ (e = .exit 0 ∧ (∃ y_2 : Unit, b_1 = .inr y_2 ∧ ∃ M_3 : Mem, M1.le M_3 ∧ Frm 80 [(0, .slice A0 d0.length cap0)] a ∧ Hp w0 M_3 (H) w))) (R_loop (n := 80) (w0 := w0) (M := M1) (fun (x : Nat × Int) => match x with | (m_1, s_1) => [(0, .slice A0 d0.length cap0), (11, .int .i64 ((d0.length : Nat) : Int)), (12, .int .i64 s_1)]) (fun (x : Nat × Int) => match x with | (m_1, s_1) => (H)) (fun (x : Nat × Int) (MM : Mem) => match x with | (m_1, s_1) => loopF (sub_Write_s1 n d0) m_1 s_1 = some b_1) (fun (x : Nat × Int) => match x with | (m_1, s_1) => m_1) (n, (0 : Int)) (f_2.keep (ks := [0, 11, 12]) (by kernel_rfl)) p0 hL_1 ?_) ?_
  · rintro ⟨m_1, s_1⟩ M_1 a_3 w_1 hM_1 I_1 f_3 p_1
    replace f_3 : Frm 80 [(0, .slice A0 d0.length cap0), (11, .int .i64 ((d0.length : Nat) : Int)), (12, .int .i64 s_1)] a_3 := f_3
    replace p_1 : Hp w0 M_1 (H) w_1 := p_1
    have I_1L := I_1
    obtain ⟨m_2, r_1, rfl, hs_1, hn_1⟩ := loop_step I_1L
    unfold sub_Write_s1 at hs_1
    refine R_seq ?_
    refine R_reg ?_
    refine W_run (L' := [(0, .slice A0 d0.length cap0), (11, .int .i64 ((d0.length : Nat) : Int)), (12, .int .i64 s_1), (13, .bool (decide (s_1 < ((d0.length : Nat) : Int))))]) (w' := w_1) f_3 1 [0, 11, 12, 13] (by kernel_rfl) (fun a_4 f_4 => ?_)
    refine W_end rfl ?_
    refine T_n ?_
    refine R_seq ?_
    refine R_cond f_4 (b := decide (s_1 < ((d0.length : Nat) : Int))) (by kernel_rfl) (by kernel_rfl) (fun h_1 => ?_) (fun h_1 => ?_)
    · have k_1 : s_1 < ((d0.length : Nat) : Int) := decide_eq_true_iff.1 h_1
      have hF_2 := cnd_t h_1 hs_1
      refine wp_skip ?_
      refine T_n ?_
      refine R_seq ?_
      refine wp_block ?_
      refine R_seq ?_
      refine R_reg ?_
      refine W_run (L' := [(0, .slice A0 d0.length cap0), (4, .int .i64 s_1), (11, .int .i64 ((d0.length : Nat) : Int)), (12, .int .i64 s_1)]) (w' := w_1) f_4 2 [0, 4, 11, 12] (by kernel_rfl) (fun a_5 f_5 => ?_)
      refine W_end rfl ?_
      refine T_n ?_
      refine R_seq ?_
      refine R_reg ?_
      refine W_run (L' := [(0, .slice A0 d0.length cap0), (4, .int .i64 s_1), (11, .int .i64 ((d0.length : Nat) : Int)), (12, .int .i64 s_1), (15, .slice A0 d0.length cap0), (16, .int .i64 s_1)]) (w' := w_1) f_5 2 [0, 4, 11, 12, 15, 16] (by kernel_rfl) (fun a_6 f_6 => ?_)
      obtain ⟨x_1, hx_1, hF_3⟩ := bind_some' hF_2
      obtain ⟨ad_1, c_1, e_1, hl_1, hr_1, hc_1⟩ := Sli.at_ (h0.mono hM_1) hx_1
      clear hl_1
      obtain ⟨A_1, cap_1, rfl, h_2⟩ := T_api_Expr.opn hr_1
      refine W_eq (v := .pointer (some (ad_1.add (s_1.toNat * 6)))) f_6 (by kernel_rfl) (by kernel_rfl) rfl rfl (X_indexAddrA e_1 rfl (len := d0.length) (cap := cap0) (k := .i64) (i := s_1) (by kernel_rfl) (by kernel_rfl) (e := 29) (by kernel_rfl) (sz := 6) (by kernel_rfl) (getI_nn hx_1) (getI_lt hx_1)) (fun a_7 f_7 => ?_)
      obtain ⟨x_2, hx_2, hF_4⟩ := bind_some' hF_3
      refine W_okv (v := .bool x_2) f_7 p_1 (by kernel_rfl) (by kernel_rfl) rfl rfl (fun _ => by kernel_rfl) (sub_part_ok n _ (GL.mono hM_1 hG) (ad_1.add (s_1.toNat * 6)) [.int .i8 x_1.fKind, S x_1.fText, .int .i64 x_1.fNum, S x_1.fName, S x_1.fAttr, .slice A_1 x_1.fL.length cap_1] x_1 (T_api_Expr.shutx (x := x_1) h_2) (fz_at (hc_1) 0 rfl) x_2 hx_2) (fun w_2 p_2 a_8 f_8 => ?_)
      refine W_run (L' := [(0, .slice A0 d0.length cap0), (4, .int .i64 s_1), (11, .int .i64 ((d0.length : Nat) : Int)), (12, .int .i64 s_1), (20, .bool !x_2)]) (w' := w_2) f_8 2 [0, 4, 11, 12, 20] (by kernel_rfl) (fun a_9 f_9 => ?_)
      rcases Bool.eq_false_or_eq_true (!x_2) with h_3 | h_3
      · have k_2 : (x_2) = false := by simpa using h_3
        have hF_5 := cnd_t h_3 hF_4
        have f_10 := Frm.set f_9 20 (v := .bool !x_2) (v' := .bool true) (by kernel_rfl) (congrArg Value.bool h_3)
        have f_11 : Frm 80 [(0, .slice A0 d0.length cap0), (4, .int .i64 s_1), (11, .int .i64 ((d0.length : Nat) : Int)), (12, .int .i64 s_1), (20, .bool true)] a_9 := f_10.keep (ks := [0, 4, 11, 12, 20]) (by kernel_rfl)
        refine W_run (L' := [(0, .slice A0 d0.length cap0), (11, .int .i64 ((d0.length : Nat) : Int)), (12, .int .i64 s_1), (40, .bool true)]) (w' := w_2) f_11 20 [0, 11, 12, 40] (by kernel_rfl) (fun a_10 f_12 => ?_)
        refine W_end rfl ?_
        refine T_n ?_
        refine R_cond_t f_12 (by kernel_rfl) (by kernel_rfl) ?_
        refine R_seq ?_
        refine R_reg ?_
        refine W_run (L' := [(2, S []), (3, .int .i64 2)]) (w' := w_2) f_12 2 [2, 3] (by kernel_rfl) (fun a_11 f_13 => ?_)
        refine W_end rfl ?_
        refine T_n ?_
        refine wp_ret ?_
        refine B_r ?_
        refine T_r ?_
        refine T_r ?_
        obtain rfl := Option.some.inj hF_5
        exact .inl ⟨rfl, (), (Option.some.inj hn_1).symm, M_1, hM_1, f_13.keep (ks := [2, 3]) (by kernel_rfl), p_2⟩
      · have k_3 : (x_2) = true := by simpa using h_3
        have hF_6 := cnd_f h_3 hF_4
        have f_14 := Frm.set f_9 20 (v := .bool !x_2) (v' := .bool false) (by kernel_rfl) (congrArg Value.bool h_3)
        have f_15 : Frm 80 [(0, .slice A0 d0.length cap0), (4, .int .i64 s_1), (11, .int .i64 ((d0.length : Nat) : Int)), (12, .int .i64 s_1), (20, .bool false)] a_9 := f_14.keep (ks := [0, 4, 11, 12, 20]) (by kernel_rfl)
        refine W_run (L' := [(0, .slice A0 d0.length cap0), (4, .int .i64 s_1), (11, .int .i64 ((d0.length : Nat) : Int)), (12, .int .i64 s_1), (20, .bool false), (23, .bool (decide ((0 : Int) < s_1)))]) (w' := w_2) f_15 3 [0, 4, 11, 12, 20, 23] (by kernel_rfl) (fun a_12 f_16 => ?_)
        rcases Bool.eq_false_or_eq_true (decide ((0 : Int) < s_1)) with h_4 | h_4
        · have k_4 : (0 : Int) < s_1 := decide_eq_true_iff.1 h_4
          have hF_7 := cnd_t h_4 hF_6
          have f_17 := Frm.set f_16 23 (v := .bool (decide ((0 : Int) < s_1))) (v' := .bool true) (by kernel_rfl) (congrArg Value.bool h_4)
          have f_18 : Frm 80 [(0, .slice A0 d0.length cap0), (4, .int .i64 s_1), (11, .int .i64 ((d0.length : Nat) : Int)), (12, .int .i64 s_1), (20, .bool false), (23, .bool true)] a_12 := f_17.keep (ks := [0, 4, 11, 12, 20, 23]) (by kernel_rfl)
          refine W_run (L' := [(0, .slice A0 d0.length cap0), (4, .int .i64 s_1), (11, .int .i64 ((d0.length : Nat) : Int)), (12, .int .i64 s_1), (20, .bool false), (23, .bool true), (24, .slice A0 d0.length cap0), (25, .int .i64 s_1)]) (w' := w_2) f_18 2 [0, 4, 11, 12, 20, 23, 24, 25] (by kernel_rfl) (fun a_13 f_19 => ?_)
          obtain ⟨x_3, hx_3, hF_8⟩ := bind_some' hF_7
          obtain ⟨ad_2, c_2, e_2, hl_2, hr_2, hc_2⟩ := Sli.at_ (h0.mono hM_1) hx_3
          clear hl_2
          obtain ⟨A_2, cap_2, rfl, h_5⟩ := T_api_Expr.opn hr_2
          refine W_eq (v := .pointer (some (ad_2.add (s_1.toNat * 6)))) f_19 (by kernel_rfl) (by kernel_rfl) rfl rfl (X_indexAddrA e_2 rfl (len := d0.length) (cap := cap0) (k := .i64) (i := s_1) (by kernel_rfl) (by kernel_rfl) (e := 29) (by kernel_rfl) (sz := 6) (by kernel_rfl) (getI_nn hx_3) (getI_lt hx_3)) (fun a_14 f_20 => ?_)
          refine W_run (L' := [(0, .slice A0 d0.length cap0), (4, .int .i64 s_1), (11, .int .i64 ((d0.length : Nat) : Int)), (12, .int .i64 s_1), (20, .bool false), (23, .bool true), (27, .pointer (some ((ad_2.add (s_1.toNat * 6)).add 0)))]) (w' := w_2) f_20 1 [0, 4, 11, 12, 20, 23, 27] (by kernel_rfl) (fun a_15 f_21 => ?_)
          refine W_eq (v := .int .i8 x_3.fKind) f_21 (by kernel_rfl) (by kernel_rfl) rfl rfl (X_load1 (v := .int .i8 x_3.fKind) rfl (ad := (ad_2.add (s_1.toNat * 6)).add 0) (by kernel_rfl) (by kernel_rfl) (p_2.cell (hc_2 0 _ rfl))) (fun a_16 f_22 => ?_)
          refine W_run (L' := [(0, .slice A0 d0.length cap0), (4, .int .i64 s_1), (11, .int .i64 ((d0.length : Nat) : Int)), (12, .int .i64 s_1), (20, .bool false), (31, .bool (decide (x_3.fKind = 0)))]) (w' := w_2) f_22 3 [0, 4, 11, 12, 20, 31] (by kernel_rfl) (fun a_17 f_23 => ?_)
          rcases Bool.eq_false_or_eq_true (decide (x_3.fKind = 0)) with h_6 | h_6
          · have k_5 : x_3.fKind = 0 := decide_eq_true_iff.1 h_6
            have hF_9 := cnd_t h_6 hF_8
            have f_24 := Frm.set f_23 31 (v := .bool (decide (x_3.fKind = 0))) (v' := .bool true) (by kernel_rfl) (congrArg Value.bool h_6)
            have f_25 : Frm 80 [(0, .slice A0 d0.length cap0), (4, .int .i64 s_1), (11, .int .i64 ((d0.length : Nat) : Int)), (12, .int .i64 s_1), (20, .bool false), (31, .bool true)] a_17 := f_24.keep (ks := [0, 4, 11, 12, 20, 31]) (by kernel_rfl)
            refine W_run (L' := [(0, .slice A0 d0.length cap0), (11, .int .i64 ((d0.length : Nat) : Int)), (12, .int .i64 s_1), (20, .bool false), (31, .bool true), (32, .slice A0 d0.length cap0), (33, .int .i64 s_1)]) (w' := w_2) f_25 2 [0, 11, 12, 20, 31, 32, 33] (by kernel_rfl) (fun a_18 f_26 => ?_)
            obtain ⟨g_1, hF_10⟩ := need_some hF_9
            refine W_run (L' := [(0, .slice A0 d0.length cap0), (11, .int .i64 ((d0.length : Nat) : Int)), (12, .int .i64 s_1), (20, .bool false), (31, .bool true), (32, .slice A0 d0.length cap0), (33, .int .i64 s_1), (34, .int .i64 (IntKind.wrap .i64 (s_1 - 1)))]) (w' := w_2) f_26 1 [0, 11, 12, 20, 31, 32, 33, 34] (by kernel_rfl) (fun a_19 f_27 => ?_)
            have f_28 := Frm.set f_27 34 (v := .int .i64 (IntKind.wrap .i64 (s_1 - 1))) (v' := .int .i64 (s_1 - 1)) (by kernel_rfl) (congrArg (Value.int .i64) (inR_wrap g_1))
            have f_29 : Frm 80 [(0, .slice A0 d0.length cap0), (11, .int .i64 ((d0.length : Nat) : Int)), (12, .int .i64 s_1), (20, .bool false), (31, .bool true), (32, .slice A0 d0.length cap0), (33, .int .i64 s_1), (34, .int .i64 (s_1 - 1))] a_19 := f_28.keep (ks := [0, 11, 12, 20, 31, 32, 33, 34]) (by kernel_rfl)
            obtain ⟨x_4, hx_4, hF_11⟩ := bind_some' hF_10
            obtain ⟨ad_3, c_3, e_3, hl_3, hr_3, hc_3⟩ := Sli.at_ (h0.mono hM_1) hx_4
            clear hl_3
            obtain ⟨A_3, cap_3, rfl, h_7⟩ := T_api_Expr.opn hr_3
            refine W_eq (v := .pointer (some (ad_3.add ((s_1 - 1).toNat * 6)))) f_29 (by kernel_rfl) (by kernel_rfl) rfl rfl (X_indexAddrA e_3 rfl (len := d0.length) (cap := cap0) (k := .i64) (i := s_1 - 1) (by kernel_rfl) (by kernel_rfl) (e := 29) (by kernel_rfl) (sz := 6) (by kernel_rfl) (getI_nn hx_4) (getI_lt hx_4)) (fun a_20 f_30 => ?_)
            refine W_run (L' := [(0, .slice A0 d0.length cap0), (11, .int .i64 ((d0.length : Nat) : Int)), (12, .int .i64 s_1), (20, .bool false), (31, .bool true), (36, .pointer (some ((ad_3.add ((s_1 - 1).toNat * 6)).add 0)))]) (w' := w_2) f_30 1 [0, 11, 12, 20, 31, 36] (by kernel_rfl) (fun a_21 f_31 => ?_)
            refine W_eq (v := .int .i8 x_4.fKind) f_31 (by kernel_rfl) (by kernel_rfl) rfl rfl (X_load1 (v := .int .i8 x_4.fKind) rfl (ad := (ad_3.add ((s_1 - 1).toNat * 6)).add 0) (by kernel_rfl) (by kernel_rfl) (p_2.cell (hc_3 0 _ rfl))) (fun a_22 f_32 => ?_)
            refine W_run (L' := [(0, .slice A0 d0.length cap0), (11, .int .i64 ((d0.length : Nat) : Int)), (12, .int .i64 s_1), (40, .bool (decide (x_4.fKind = 0)))]) (w' := w_2) f_32 3 [0, 11, 12, 40] (by kernel_rfl) (fun a_23 f_33 => ?_)
            refine W_end rfl ?_
            refine T_n ?_
            refine R_cond f_33 (b := decide (x_4.fKind = 0)) (by kernel_rfl) (by kernel_rfl) (fun h_8 => ?_) (fun h_8 => ?_)
            · have k_6 : x_4.fKind = 0 := decide_eq_true_iff.1 h_8
              have hF_12 := cnd_t h_8 hF_11
              refine R_seq ?_
              refine R_reg ?_
              refine W_run (L' := [(2, S []), (3, .int .i64 2)]) (w' := w_2) f_33 2 [2, 3] (by kernel_rfl) (fun a_24 f_34 => ?_)
              refine W_end rfl ?_
              refine T_n ?_
              refine wp_ret ?_
              refine B_r ?_
              refine T_r ?_
              refine T_r ?_
              obtain rfl := Option.some.inj hF_12
              exact .inl ⟨rfl, (), (Option.some.inj hn_1).symm, M_1, hM_1, f_34.keep (ks := [2, 3]) (by kernel_rfl), p_2⟩
            · have k_7 : ¬ (x_4.fKind = 0) := iff_f decide_eq_true_iff h_8
              have hF_13 := cnd_f h_8 hF_11
              refine wp_skip ?_
              refine B_n ?_
              refine T_n ?_
              refine R_reg ?_
              obtain ⟨g_2, hF_14⟩ := need_some hF_13
              refine W_run (L' := [(0, .slice A0 d0.length cap0), (11, .int .i64 ((d0.length : Nat) : Int)), (12, .int .i64 s_1), (40, .bool (decide (x_4.fKind = 0))), (41, .int .i64 (IntKind.wrap .i64 (s_1 + 1)))]) (w' := w_2) f_33 1 [0, 11, 12, 40, 41] (by kernel_rfl) (fun a_25 f_35 => ?_)
              have f_36 := Frm.set f_35 41 (v := .int .i64 (IntKind.wrap .i64 (s_1 + 1))) (v' := .int .i64 (s_1 + 1)) (by kernel_rfl) (congrArg (Value.int .i64) (inR_wrap g_2))
              have f_37 : Frm 80 [(0, .slice A0 d0.length cap0), (11, .int .i64 ((d0.length : Nat) : Int)), (12, .int .i64 s_1), (40, .bool (decide (x_4.fKind = 0))), (41, .int .i64 (s_1 + 1))] a_25 := f_36.keep (ks := [0, 11, 12, 40, 41]) (by kernel_rfl)
              refine W_run (L' := [(0, .slice A0 d0.length cap0), (11, .int .i64 ((d0.length : Nat) : Int)), (12, .int .i64 (s_1 + 1))]) (w' := w_2) f_37 1 [0, 11, 12] (by kernel_rfl) (fun a_26 f_38 => ?_)
              refine W_end rfl ?_
              refine T_n ?_
              obtain rfl := Option.some.inj hF_14
              exact ⟨⟨m_2, s_1 + 1⟩, Nat.lt_succ_self _, M_1, hM_1, hn_1, f_38.keep (ks := [0, 11, 12]) (by kernel_rfl), p_2⟩
          · have k_8 : ¬ (x_3.fKind = 0) := iff_f decide_eq_true_iff h_6
            have hF_15 := cnd_f h_6 hF_8
            have f_39 := Frm.set f_23 31 (v := .bool (decide (x_3.fKind = 0))) (v' := .bool false) (by kernel_rfl) (congrArg Value.bool h_6)
            have f_40 : Frm 80 [(0, .slice A0 d0.length cap0), (4, .int .i64 s_1), (11, .int .i64 ((d0.length : Nat) : Int)), (12, .int .i64 s_1), (20, .bool false), (31, .bool false)] a_17 := f_39.keep (ks := [0, 4, 11, 12, 20, 31]) (by kernel_rfl)
            refine W_run (L' := [(0, .slice A0 d0.length cap0), (11, .int .i64 ((d0.length : Nat) : Int)), (12, .int .i64 s_1), (40, .bool false)]) (w' := w_2) f_40 9 [0, 11, 12, 40] (by kernel_rfl) (fun a_27 f_41 => ?_)
            refine W_end rfl ?_
            refine T_n ?_
            refine R_cond_f f_41 (by kernel_rfl) (by kernel_rfl) ?_
            refine wp_skip ?_
            refine B_n ?_
            refine T_n ?_
            refine R_reg ?_
            obtain ⟨g_3, hF_16⟩ := need_some hF_15
            refine W_run (L' := [(0, .slice A0 d0.length cap0), (11, .int .i64 ((d0.length : Nat) : Int)), (12, .int .i64 s_1), (40, .bool false), (41, .int .i64 (IntKind.wrap .i64 (s_1 + 1)))]) (w' := w_2) f_41 1 [0, 11, 12, 40, 41] (by kernel_rfl) (fun a_28 f_42 => ?_)
            have f_43 := Frm.set f_42 41 (v := .int .i64 (IntKind.wrap .i64 (s_1 + 1))) (v' := .int .i64 (s_1 + 1)) (by kernel_rfl) (congrArg (Value.int .i64) (inR_wrap g_3))
            have f_44 : Frm 80 [(0, .slice A0 d0.length cap0), (11, .int .i64 ((d0.length : Nat) : Int)), (12, .int .i64 s_1), (40, .bool false), (41, .int .i64 (s_1 + 1))] a_28 := f_43.keep (ks := [0, 11, 12, 40, 41]) (by kernel_rfl)
            refine W_run (L' := [(0, .slice A0 d0.length cap0), (11, .int .i64 ((d0.length : Nat) : Int)), (12, .int .i64 (s_1 + 1))]) (w' := w_2) f_44 1 [0, 11, 12] (by kernel_rfl) (fun a_29 f_45 => ?_)
            refine W_end rfl ?_
            refine T_n ?_
            obtain rfl := Option.some.inj hF_16
            exact ⟨⟨m_2, s_1 + 1⟩, Nat.lt_succ_self _, M_1, hM_1, hn_1, f_45.keep (ks := [0, 11, 12]) (by kernel_rfl), p_2⟩
        · have k_9 : ¬ ((0 : Int) < s_1) := iff_f decide_eq_true_iff h_4
          have hF_17 := cnd_f h_4 hF_6
          have f_46 := Frm.set f_16 23 (v := .bool (decide ((0 : Int) < s_1))) (v' := .bool false) (by kernel_rfl) (congrArg Value.bool h_4)
          have f_47 : Frm 80 [(0, .slice A0 d0.length cap0), (4, .int .i64 s_1), (11, .int .i64 ((d0.length : Nat) : Int)), (12, .int .i64 s_1), (20, .bool false), (23, .bool false)] a_12 := f_46.keep (ks := [0, 4, 11, 12, 20, 23]) (by kernel_rfl)
          refine W_run (L' := [(0, .slice A0 d0.length cap0), (11, .int .i64 ((d0.length : Nat) : Int)), (12, .int .i64 s_1), (40, .bool false)]) (w' := w_2) f_47 17 [0, 11, 12, 40] (by kernel_rfl) (fun a_30 f_48 => ?_)
          refine W_end rfl ?_
          refine T_n ?_
          refine R_cond_f f_48 (by kernel_rfl) (by kernel_rfl) ?_
          refine wp_skip ?_
          refine B_n ?_
          refine T_n ?_
          refine R_reg ?_
          obtain ⟨g_4, hF_18⟩ := need_some hF_17
          refine W_run (L' := [(0, .slice A0 d0.length cap0), (11, .int .i64 ((d0.length : Nat) : Int)), (12, .int .i64 s_1), (40, .bool false), (41, .int .i64 (IntKind.wrap .i64 (s_1 + 1)))]) (w' := w_2) f_48 1 [0, 11, 12, 40, 41] (by kernel_rfl) (fun a_31 f_49 => ?_)
          have f_50 := Frm.set f_49 41 (v := .int .i64 (IntKind.wrap .i64 (s_1 + 1))) (v' := .int .i64 (s_1 + 1)) (by kernel_rfl) (congrArg (Value.int .i64) (inR_wrap g_4))
          have f_51 : Frm 80 [(0, .slice A0 d0.length cap0), (11, .int .i64 ((d0.length : Nat) : Int)), (12, .int .i64 s_1), (40, .bool false), (41, .int .i64 (s_1 + 1))] a_31 := f_50.keep (ks := [0, 11, 12, 40, 41]) (by kernel_rfl)
          refine W_run (L' := [(0, .slice A0 d0.length cap0), (11, .int .i64 ((d0.length : Nat) : Int)), (12, .int .i64 (s_1 + 1))]) (w' := w_2) f_51 1 [0, 11, 12] (by kernel_rfl) (fun a_32 f_52 => ?_)
          refine W_end rfl ?_
          refine T_n ?_
          obtain rfl := Option.some.inj hF_18
          exact ⟨⟨m_2, s_1 + 1⟩, Nat.lt_succ_self _, M_1, hM_1, hn_1, f_52.keep (ks := [0, 11, 12]) (by kernel_rfl), p_2⟩
    · have k_10 : ¬ (s_1 < ((d0.length : Nat) : Int)) := iff_f decide_eq_true_iff h_1
      have hF_19 := cnd_f h_1 hs_1
      refine wp_exit ?_
      refine T_x ?_
      refine T_x ?_
      obtain rfl := Option.some.inj hF_19
      exact .inr ⟨rfl, (), (Option.some.inj hn_1).symm, M_1, hM_1, f_4.keep (ks := [0]) (by kernel_rfl), p_1⟩
  · rintro _ a_35 w_5 (⟨rfl, y_1, rfl, M_2, hM_2, f_53, p_3⟩ | ⟨rfl, y_2, rfl, M_3, hM_3, f_54, p_4⟩)
    · refine B_r ?_
      refine T_r ?_
      refine E_ret2 f_53 rfl (by kernel_rfl : Vc.look _ 2 = some (S [])) (by kernel_rfl : Vc.look _ 3 = some (.int .i64 2)) ?_
      obtain rfl := Option.some.inj hF_1
      exact ⟨_, rfl, M_2, hM_2, p_3, rfl⟩
    · refine B_x ?_
      refine T_n ?_
      refine R_seq ?_
      refine R_reg ?_
      refine W_alloc f_54 p_4 1 [0, 5] (.cells #[.pointer none, .slice none 0 0] 41 (0, 0)) (fun b_2 => [(0, .slice A0 d0.length cap0), (5, .pointer (some (⟨b_2, 0, none⟩)))]) (fun _ => by kernel_rfl) (fun b_2 w_6 p_5 a_36 f_55 => ?_)
      replace f_55 : Frm 80 [(0, .slice A0 d0.length cap0), (5, .pointer (some (⟨b_2, 0, none⟩)))] a_36 := f_55
      refine W_end rfl ?_
      refine T_n ?_
      refine R_seq ?_
      refine R_seq ?_
      refine R_reg ?_
      refine W_run (L' := [(5, .pointer (some (⟨b_2, 0, none⟩))), (42, .slice A0 d0.length cap0), (43, .int .i64 ((d0.length : Nat) : Int)), (44, .int .i64 0)]) (w' := w_6) f_55 3 [5, 42, 43, 44] (by kernel_rfl) (fun a_37 f_56 => ?_)
      refine W_end rfl ?_
      refine T_n ?_
      refine wp_block ?_
      obtain ⟨A_4, cap_4, hv_1⟩ : ∃ A cap, Value.slice none 0 0 = .slice A ([] : List UInt8).length cap := ⟨none, 0, rfl⟩
      have p_6 : Hp w0 M_3 ((Ent.row 5 1 (.slice A_4 ([] : List UInt8).length cap_4) ([] : List UInt8).length []) :: (Ent.obj b_2 (.cells #[.pointer none, .slice A_4 ([] : List UInt8).length cap_4] 41 (0, 0))) :: H) w_6 := by rw [← hv_1]; exact p_5.nilRow 5 1
      have hr_4 : RepSeq M_3 (([] : List UInt8).map embB) [] := rfl
      obtain ⟨b_3, hL_2, hF_20⟩ := bind_some' hF_1
      refine wp_mono (Q := fun e a w => (e = .ret ∧ (∃ y_3 : List UInt8, b_3 = .inl y_3 ∧ ∃ M_8 : Mem, M_3.le M_8 ∧ ∃ (A_14 : Option Addr), ∃ (A_15 : Option Addr), ∃ (cap_10 : Nat), ∃ (cs_5 : List Value), (A_14 = none ∨ A_14 = some ⟨b_2, 0, none⟩) ∧ RepSeq M_8 (y_3.map embB) cs_5 ∧ Frm 80 [(2, S []), (3, .int .i64 130)] a ∧ Hp w0 M_8 ((Ent.row 5 1 (.slice A_15 y_3.length cap_10) y_3.length cs_5) :: (Ent.obj b_2 (.cells #[.pointer A_14, .slice A_15 y_3.length cap_10] 41 (0, 0))) :: H) w)) ∨ (e = .exit 2 ∧ (∃ y_4 : List UInt8, b_3 = .inr y_4 ∧ ∃ M_9 : Mem, M_3.le M_9 ∧ ∃ (A_16 : Option Addr), ∃ (A_17 : Option Addr), ∃ (cap_11 : Nat), ∃ (cs_6 : List Value), (A_16 = none ∨ A_16 = some ⟨b_2, 0, none⟩) ∧ RepSeq M_9 (y_4.map embB) cs_6 ∧ Frm 80 [(5, .pointer (some (⟨b_2, 0, none⟩)))] a ∧ Hp w0 M_9 ((Ent.row 5 1 (.slice A_17 y_4.length cap_11) y_4.length cs_6) :: (Ent.obj b_2 (.cells #[.pointer A_16, .slice A_17 y_4.length cap_11] 41 (0, 0))) :: H) w))) (R_loop (n := 80) (w0 := w0) (M := M_3) (fun (x : Nat × (Int × List UInt8) × (Option Addr) × (Option Addr) × Nat × (List Value)) => match x with | (m_3, s_2, A_5, A_6, cap_5, cs_1) => [(5, .pointer (some (⟨b_2, 0, none⟩))), (42, .slice A0 d0.length cap0), (43, .int .i64 ((d0.length : Nat) : Int)), (44, .int .i64 s_2.1)]) (fun (x : Nat × (Int × List UInt8) × (Option Addr) × (Option Addr) × Nat × (List Value)) => match x with | (m_3, s_2, A_5, A_6, cap_5, cs_1) => ((Ent.row 5 1 (.slice A_6 s_2.2.length cap_5) s_2.2.length cs_1) :: (Ent.obj b_2 (.cells #[.pointer A_5, .slice A_6 s_2.2.length cap_5] 41 (0, 0))) :: H)) (fun (x : Nat × (Int × List UInt8) × (Option Addr) × (Option Addr) × Nat × (List Value)) (MM : Mem) => match x with | (m_3, s_2, A_5, A_6, cap_5, cs_1) => loopF (sub_Write_s2 n d0) m_3 s_2 = some b_3 ∧ (A_5 = none ∨ A_5 = some ⟨b_2, 0, none⟩) ∧ RepSeq MM (s_2.2.map embB) cs_1) (fun (x : Nat × (Int × List UInt8) × (Option Addr) × (Option Addr) × Nat × (List Value)) => match x with | (m_3, s_2, A_5, A_6, cap_5, cs_1) => m_3) (n, ((0 : Int), ([] : List UInt8)), none, A_4, cap_4, []) (f_56.keep (ks := [5, 42, 43, 44]) (by kernel_rfl)) p_6 ⟨hL_2, (.inl rfl), hr_4⟩ ?_) ?_
      · rintro ⟨m_3, s_2, A_5, A_6, cap_5, cs_1⟩ M_4 a_38 w_7 hM_4 I_2 f_57 p_7
        replace f_57 : Frm 80 [(5, .pointer (some (⟨b_2, 0, none⟩))), (42, .slice A0 d0.length cap0), (43, .int .i64 ((d0.length : Nat) : Int)), (44, .int .i64 s_2.1)] a_38 := f_57
        replace p_7 : Hp w0 M_4 ((Ent.row 5 1 (.slice A_6 s_2.2.length cap_5) s_2.2.length cs_1) :: (Ent.obj b_2 (.cells #[.pointer A_5, .slice A_6 s_2.2.length cap_5] 41 (0, 0))) :: H) w_7 := p_7
        obtain ⟨I_2L, hb_1, hr_5⟩ := I_2
        obtain ⟨m_4, r_2, rfl, hs_2, hn_2⟩ := loop_step I_2L
        unfold sub_Write_s2 at hs_2
        refine R_seq ?_
        refine R_reg ?_
        refine W_run (L' := [(5, .pointer (some (⟨b_2, 0, none⟩))), (42, .slice A0 d0.length cap0), (43, .int .i64 ((d0.length : Nat) : Int)), (44, .int .i64 s_2.1), (45, .bool (decide (s_2.1 < ((d0.length : Nat) : Int))))]) (w' := w_7) f_57 1 [5, 42, 43, 44, 45] (by kernel_rfl) (fun a_39 f_58 => ?_)
        refine W_end rfl ?_
        refine T_n ?_
        refine R_seq ?_
        refine R_cond f_58 (b := decide (s_2.1 < ((d0.length : Nat) : Int))) (by kernel_rfl) (by kernel_rfl) (fun h_9 => ?_) (fun h_9 => ?_)
        · have k_11 : s_2.1 < ((d0.length : Nat) : Int) := decide_eq_true_iff.1 h_9
          have hF_21 := cnd_t h_9 hs_2
          refine wp_skip ?_
          refine T_n ?_
          refine R_seq ?_
          refine wp_block ?_
          refine R_seq ?_
          refine R_reg ?_
          obtain ⟨x_5, hx_5, hF_22⟩ := bind_some' hF_21
          obtain ⟨ad_4, c_4, e_4, hl_4, hr_6, hc_4⟩ := Sli.at_ (h0.mono (hM_3.trans hM_4)) hx_5
          clear hl_4
          obtain ⟨A_7, cap_6, rfl, h_10⟩ := T_api_Expr.opn hr_6
          refine W_eq (v := .pointer (some (ad_4.add (s_2.1.toNat * 6)))) f_58 (by kernel_rfl) (by kernel_rfl) rfl rfl (X_indexAddrA e_4 rfl (len := d0.length) (cap := cap0) (k := .i64) (i := s_2.1) (by kernel_rfl) (by kernel_rfl) (e := 29) (by kernel_rfl) (sz := 6) (by kernel_rfl) (getI_nn hx_5) (getI_lt hx_5)) (fun a_40 f_59 => ?_)
          refine W_eq (v := .agg #[.int .i8 x_5.fKind, S x_5.fText, .int .i64 x_5.fNum, S x_5.fName, S x_5.fAttr, .slice A_7 x_5.fL.length cap_6]) f_59 (by kernel_rfl) (by kernel_rfl) rfl rfl (X_loadN (cs := [.int .i8 x_5.fKind, S x_5.fText, .int .i64 x_5.fNum, S x_5.fName, S x_5.fAttr, .slice A_7 x_5.fL.length cap_6]) rfl (ad := ad_4.add (s_2.1.toNat * 6)) (by kernel_rfl) (by kernel_rfl) (fun j v h => p_7.cell (hc_4 j v h))) (fun a_41 f_60 => ?_)
          refine W_alloc f_60 p_7 1 [5, 7, 42, 43, 44, 45, 46, 47] (.cells #[.int .i8 0, S [], .int .i64 0, S [], S [], .slice none 0 0] 29 (0, 0)) (fun b_4 => [(5, .pointer (some (⟨b_2, 0, none⟩))), (7, .pointer (some (⟨b_4, 0, none⟩))), (42, .slice A0 d0.length cap0), (43, .int .i64 ((d0.length : Nat) : Int)), (44, .int .i64 s_2.1), (45, .bool (decide (s_2.1 < ((d0.length : Nat) : Int)))), (46, .pointer (some (ad_4.add (s_2.1.toNat * 6)))), (47, .agg #[.int .i8 x_5.fKind, S x_5.fText, .int .i64 x_5.fNum, S x_5.fName, S x_5.fAttr, .slice A_7 x_5.fL.length cap_6])]) (fun _ => by kernel_rfl) (fun b_4 w_8 p_8 a_42 f_61 => ?_)
          replace f_61 : Frm 80 [(5, .pointer (some (⟨b_2, 0, none⟩))), (7, .pointer (some (⟨b_4, 0, none⟩))), (42, .slice A0 d0.length cap0), (43, .int .i64 ((d0.length : Nat) : Int)), (44, .int .i64 s_2.1), (45, .bool (decide (s_2.1 < ((d0.length : Nat) : Int)))), (46, .pointer (some (ad_4.add (s_2.1.toNat * 6)))), (47, .agg #[.int .i8 x_5.fKind, S x_5.fText, .int .i64 x_5.fNum, S x_5.fName, S x_5.fAttr, .slice A_7 x_5.fL.length cap_6])] a_42 := f_61
          refine W_storeN (vs := [.int .i8 x_5.fKind, S x_5.fText, .int .i64 x_5.fNum, S x_5.fName, S x_5.fAttr, .slice A_7 x_5.fL.length cap_6]) (j := 0) f_61 p_8 (by kernel_rfl) (by kernel_rfl) rfl rfl (by kernel_rfl) (by kernel_rfl) (by simp [Value.oneCell', S]) (by kernel_rfl) (by simp) (by decide) (cs' := #[.int .i8 x_5.fKind, S x_5.fText, .int .i64 x_5.fNum, S x_5.fName, S x_5.fAttr, .slice A_7 x_5.fL.length cap_6]) rfl (fun w_9 p_9 a_43 f_62 => ?_)
          refine W_end rfl ?_
          refine T_n ?_
          refine R_seq ?_
          refine R_reg ?_
          refine W_run (L' := [(5, .pointer (some (⟨b_2, 0, none⟩))), (7, .pointer (some (⟨b_4, 0, none⟩))), (42, .slice A0 d0.length cap0), (43, .int .i64 ((d0.length : Nat) : Int)), (44, .int .i64 s_2.1), (48, .pointer (some (⟨b_4, 0, none⟩)))]) (w' := w_9) f_62 1 [5, 7, 42, 43, 44, 48] (by kernel_rfl) (fun a_44 f_63 => ?_)
          refine W_eq (v := .int .i8 x_5.fKind) f_63 (by kernel_rfl) (by kernel_rfl) rfl rfl (X_load1 (v := .int .i8 x_5.fKind) rfl (ad := ⟨b_4, 0, none⟩) (by kernel_rfl) (by kernel_rfl) (p_9.ownCell 0 rfl 0)) (fun a_45 f_64 => ?_)
          refine W_end rfl ?_
          refine T_n ?_
          refine wp_block ?_
          refine R_seq ?_
          refine R_reg ?_
          refine W_run (L' := [(5, .pointer (some (⟨b_2, 0, none⟩))), (7, .pointer (some (⟨b_4, 0, none⟩))), (42, .slice A0 d0.length cap0), (43, .int .i64 ((d0.length : Nat) : Int)), (44, .int .i64 s_2.1), (49, .int .i8 x_5.fKind), (59, .bool (decide (x_5.fKind = 0)))]) (w' := w_9) f_64 2 [5, 7, 42, 43, 44, 49, 59] (by kernel_rfl) (fun a_46 f_65 => ?_)
          refine W_end rfl ?_
          refine T_n ?_
          refine R_cond f_65 (b := decide (x_5.fKind = 0)) (by kernel_rfl) (by kernel_rfl) (fun h_11 => ?_) (fun h_11 => ?_)
          · have k_12 : x_5.fKind = 0 := decide_eq_true_iff.1 h_11
            have hF_23 := cnd_t h_11 hF_22
            refine R_seq ?_
            refine R_reg ?_
            refine W_run (L' := [(5, .pointer (some (⟨b_2, 0, none⟩))), (42, .slice A0 d0.length cap0), (43, .int .i64 ((d0.length : Nat) : Int)), (44, .int .i64 s_2.1), (62, .pointer (some (⟨b_4, 1, none⟩)))]) (w' := w_9) f_65 1 [5, 42, 43, 44, 62] (by kernel_rfl) (fun a_47 f_66 => ?_)
            refine W_eq (v := S x_5.fText) f_66 (by kernel_rfl) (by kernel_rfl) rfl rfl (X_load1 (v := S x_5.fText) rfl (ad := ⟨b_4, 1, none⟩) (by kernel_rfl) (by kernel_rfl) (p_9.ownCell 0 rfl 1)) (fun a_48 f_67 => ?_)
            obtain ⟨x_6, hx_6, hF_24⟩ := bind_some' hF_23
            refine W_okv (v := .tuple #[S x_6.1, .bool x_6.2]) f_67 p_9 (by kernel_rfl) (by kernel_rfl) rfl rfl (fun _ => by kernel_rfl) (sub_guarded_ok n _ (GL.mono (hM_3.trans hM_4) hG) x_5.fText x_6 hx_6) (fun w_10 p_10 a_49 f_68 => ?_)
            refine W_run (L' := [(5, .pointer (some (⟨b_2, 0, none⟩))), (8, S x_6.1), (9, .bool x_6.2), (42, .slice A0 d0.length cap0), (43, .int .i64 ((d0.length : Nat) : Int)), (44, .int .i64 s_2.1)]) (w' := w_10) f_68 5 [5, 8, 9, 42, 43, 44] (by kernel_rfl) (fun a_50 f_69 => ?_)
            refine W_end rfl ?_
            refine T_n ?_
            refine R_seq ?_
            refine R_seq ?_
            refine R_reg ?_
            refine W_run (L' := [(5, .pointer (some (⟨b_2, 0, none⟩))), (8, S x_6.1), (42, .slice A0 d0.length cap0), (43, .int .i64 ((d0.length : Nat) : Int)), (44, .int .i64 s_2.1), (68, .bool !x_6.2)]) (w' := w_10) f_69 2 [5, 8, 42, 43, 44, 68] (by kernel_rfl) (fun a_51 f_70 => ?_)
            refine W_end rfl ?_
            refine T_n ?_
            refine R_cond f_70 (b := !x_6.2) (by kernel_rfl) (by kernel_rfl) (fun h_12 => ?_) (fun h_12 => ?_)
            · have k_13 : (x_6.2) = false := by simpa using h_12
              have hF_25 := cnd_t h_12 hF_24
              refine R_seq ?_
              refine R_reg ?_
              refine W_run (L' := [(2, S []), (3, .int .i64 130)]) (w' := w_10) f_70 2 [2, 3] (by kernel_rfl) (fun a_52 f_71 => ?_)
              refine W_end rfl ?_
              refine T_n ?_
              refine wp_ret ?_
              refine T_r ?_
              refine B_r ?_
              refine B_r ?_
              refine T_r ?_
              refine T_r ?_
              obtain rfl := Option.some.inj hF_25
              exact .inl ⟨rfl, s_2.2, (Option.some.inj hn_2).symm, M_4, hM_4, A_5, A_6, cap_5, cs_1, hb_1, hr_5, f_71.keep (ks := [2, 3]) (by kernel_rfl), (p_10.dropN 1)⟩
            · have k_14 : (x_6.2) = true := by simpa using h_12
              have hF_26 := cnd_f h_12 hF_24
              refine wp_skip ?_
              refine T_n ?_
              refine R_reg ?_
              refine W_run (L' := [(5, .pointer (some (⟨b_2, 0, none⟩))), (42, .slice A0 d0.length cap0), (43, .int .i64 ((d0.length : Nat) : Int)), (44, .int .i64 s_2.1), (69, S x_6.1)]) (w' := w_10) f_70 1 [5, 42, 43, 44, 69] (by kernel_rfl) (fun a_53 f_72 => ?_)
              obtain ⟨x_7, hx_7, hF_27⟩ := bind_some' hF_26
              have p_12 : Hp w0 M_4 ((Ent.row 5 1 (.slice A_6 s_2.2.length cap_5) s_2.2.length cs_1) :: (Ent.obj b_4 (.cells #[.int .i8 x_5.fKind, S x_5.fText, .int .i64 x_5.fNum, S x_5.fName, S x_5.fAttr, .slice A_7 x_5.fL.length cap_6] 29 (0, 0))) :: (Ent.obj b_2 (.cells #[.pointer A_5, .slice A_6 s_2.2.length cap_5] 41 (0, 0))) :: H) w_10 := p_10.pull 1 rfl rfl
              have p_13 : Hp w0 M_4 ((Ent.obj b_2 (.cells #[.pointer A_5, .slice A_6 s_2.2.length cap_5] 41 (0, 0))) :: (Ent.row 5 1 (.slice A_6 s_2.2.length cap_5) s_2.2.length cs_1) :: (Ent.obj b_4 (.cells #[.int .i8 x_5.fKind, S x_5.fText, .int .i64 x_5.fNum, S x_5.fName, S x_5.fAttr, .slice A_7 x_5.fL.length cap_6] 29 (0, 0))) :: H) w_10 := p_12.pull 2 rfl rfl
              refine W_okH (E := [Ent.obj b_2 (.cells #[.pointer A_5, .slice A_6 s_2.2.length cap_5] 41 (0, 0)), Ent.row 5 1 (.slice A_6 s_2.2.length cap_5) s_2.2.length cs_1]) (H := ((Ent.obj b_4 (.cells #[.int .i8 x_5.fKind, S x_5.fText, .int .i64 x_5.fNum, S x_5.fName, S x_5.fAttr, .slice A_7 x_5.fL.length cap_6] 29 (0, 0))) :: H)) f_72 p_13 (by kernel_rfl) (by kernel_rfl) rfl rfl (fun _ => by kernel_rfl) (strings_Builder_WriteString_ok n _ b_2 A_5 hb_1 s_2.2 A_6 cap_5 cs_1 hr_5 x_6.1 x_7 hx_7) (fun u_1 M_5 E_1 w_11 hM_5 p_11 q_1 a_54 f_73 => ?_)
              obtain ⟨A_8, A_9, cap_7, cs_2, rfl, rfl, hb_2, hr_7⟩ := q_1
              replace p_11 : Hp w0 M_5 ((Ent.obj b_2 (.cells #[.pointer A_8, .slice A_9 x_7.2.2.length cap_7] 41 (0, 0))) :: (Ent.row 5 1 (.slice A_9 x_7.2.2.length cap_7) x_7.2.2.length cs_2) :: (Ent.obj b_4 (.cells #[.int .i8 x_5.fKind, S x_5.fText, .int .i64 x_5.fNum, S x_5.fName, S x_5.fAttr, .slice A_7 x_5.fL.length cap_6] 29 (0, 0))) :: H) w_11 := p_11
              refine W_end rfl ?_
              refine B_n ?_
              refine B_n ?_
              refine T_n ?_
              refine R_reg ?_
              obtain ⟨g_5, hF_28⟩ := need_some hF_27
              refine W_run (L' := [(5, .pointer (some (⟨b_2, 0, none⟩))), (42, .slice A0 d0.length cap0), (43, .int .i64 ((d0.length : Nat) : Int)), (44, .int .i64 s_2.1), (69, S x_6.1), (70, .tuple #[.int .i64 x_7.1, .nilIface]), (78, .int .i64 (IntKind.wrap .i64 (s_2.1 + 1)))]) (w' := w_11) f_73 1 [5, 42, 43, 44, 69, 70, 78] (by kernel_rfl) (fun a_55 f_74 => ?_)
              have f_75 := Frm.set f_74 78 (v := .int .i64 (IntKind.wrap .i64 (s_2.1 + 1))) (v' := .int .i64 (s_2.1 + 1)) (by kernel_rfl) (congrArg (Value.int .i64) (inR_wrap g_5))
              have f_76 : Frm 80 [(5, .pointer (some (⟨b_2, 0, none⟩))), (42, .slice A0 d0.length cap0), (43, .int .i64 ((d0.length : Nat) : Int)), (44, .int .i64 s_2.1), (69, S x_6.1), (70, .tuple #[.int .i64 x_7.1, .nilIface]), (78, .int .i64 (s_2.1 + 1))] a_55 := f_75.keep (ks := [5, 42, 43, 44, 69, 70, 78]) (by kernel_rfl)
              refine W_run (L' := [(5, .pointer (some (⟨b_2, 0, none⟩))), (42, .slice A0 d0.length cap0), (43, .int .i64 ((d0.length : Nat) : Int)), (44, .int .i64 (s_2.1 + 1))]) (w' := w_11) f_76 1 [5, 42, 43, 44] (by kernel_rfl) (fun a_56 f_77 => ?_)
              refine W_end rfl ?_
              have p_22 : Hp w0 M_5 ((Ent.row 5 1 (.slice A_9 x_7.2.2.length cap_7) x_7.2.2.length cs_2) :: (Ent.obj b_2 (.cells #[.pointer A_8, .slice A_9 x_7.2.2.length cap_7] 41 (0, 0))) :: (Ent.obj b_4 (.cells #[.int .i8 x_5.fKind, S x_5.fText, .int .i64 x_5.fNum, S x_5.fName, S x_5.fAttr, .slice A_7 x_5.fL.length cap_6] 29 (0, 0))) :: H) w_11 := p_11.pull 1 rfl rfl
              have p_23 : Hp w0 M_5 ((Ent.obj b_4 (.cells #[.int .i8 x_5.fKind, S x_5.fText, .int .i64 x_5.fNum, S x_5.fName, S x_5.fAttr, .slice A_7 x_5.fL.length cap_6] 29 (0, 0))) :: (Ent.row 5 1 (.slice A_9 x_7.2.2.length cap_7) x_7.2.2.length cs_2) :: (Ent.obj b_2 (.cells #[.pointer A_8, .slice A_9 x_7.2.2.length cap_7] 41 (0, 0))) :: H) w_11 := p_22.pull 2 rfl rfl
              refine T_n ?_
              obtain rfl := Option.some.inj hF_28
              exact ⟨⟨m_4, (s_2.1 + 1, x_7.2.2), A_8, A_9, cap_7, cs_2⟩, Nat.lt_succ_self _, M_5, (hM_4.trans hM_5), ⟨hn_2, hb_2, hr_7⟩, f_77.keep (ks := [5, 42, 43, 44]) (by kernel_rfl), (p_23.dropN 1)⟩
          · have k_15 : ¬ (x_5.fKind = 0) := iff_f decide_eq_true_iff h_11
            have hF_29 := cnd_f h_11 hF_22
            refine R_seq ?_
            refine R_reg ?_
            refine W_run (L' := [(5, .pointer (some (⟨b_2, 0, none⟩))), (7, .pointer (some (⟨b_4, 0, none⟩))), (42, .slice A0 d0.length cap0), (43, .int .i64 ((d0.length : Nat) : Int)), (44, .int .i64 s_2.1), (71, .bool (decide (x_5.fKind = 3)))]) (w' := w_9) f_65 2 [5, 7, 42, 43, 44, 71] (by kernel_rfl) (fun a_57 f_78 => ?_)
            refine W_end rfl ?_
            refine T_n ?_
            refine R_cond f_78 (b := decide (x_5.fKind = 3)) (by kernel_rfl) (by kernel_rfl) (fun h_13 => ?_) (fun h_13 => ?_)
            · have k_16 : x_5.fKind = 3 := decide_eq_true_iff.1 h_13
              have hF_30 := cnd_t h_13 hF_29
              refine R_reg ?_
              refine W_run (L' := [(5, .pointer (some (⟨b_2, 0, none⟩))), (42, .slice A0 d0.length cap0), (43, .int .i64 ((d0.length : Nat) : Int)), (44, .int .i64 s_2.1), (73, .pointer (some (⟨b_4, 3, none⟩)))]) (w' := w_9) f_78 1 [5, 42, 43, 44, 73] (by kernel_rfl) (fun a_58 f_79 => ?_)
              refine W_eq (v := S x_5.fName) f_79 (by kernel_rfl) (by kernel_rfl) rfl rfl (X_load1 (v := S x_5.fName) rfl (ad := ⟨b_4, 3, none⟩) (by kernel_rfl) (by kernel_rfl) (p_9.ownCell 0 rfl 3)) (fun a_59 f_80 => ?_)
              obtain ⟨g_6, hF_31⟩ := need_some hF_30
              refine W_eq (v := S ([36, 123] ++ x_5.fName)) f_80 (by kernel_rfl) (by kernel_rfl) rfl rfl (X_concat rfl (l := [36, 123]) (m := x_5.fName) (by kernel_rfl) (by kernel_rfl) g_6) (fun a_60 f_81 => ?_)
              obtain ⟨g_7, hF_32⟩ := need_some hF_31
              refine W_eq (v := S (([36, 123] ++ x_5.fName) ++ [125])) f_81 (by kernel_rfl) (by kernel_rfl) rfl rfl (X_concat rfl (l := [36, 123] ++ x_5.fName) (m := [125]) (by kernel_rfl) (by kernel_rfl) g_7) (fun a_61 f_82 => ?_)
              obtain ⟨x_8, hx_8, hF_33⟩ := bind_some' hF_32
              have p_15 : Hp w0 M_4 ((Ent.row 5 1 (.slice A_6 s_2.2.length cap_5) s_2.2.length cs_1) :: (Ent.obj b_4 (.cells #[.int .i8 x_5.fKind, S x_5.fText, .int .i64 x_5.fNum, S x_5.fName, S x_5.fAttr, .slice A_7 x_5.fL.length cap_6] 29 (0, 0))) :: (Ent.obj b_2 (.cells #[.pointer A_5, .slice A_6 s_2.2.length cap_5] 41 (0, 0))) :: H) w_9 := p_9.pull 1 rfl rfl
              have p_16 : Hp w0 M_4 ((Ent.obj b_2 (.cells #[.pointer A_5, .slice A_6 s_2.2.length cap_5] 41 (0, 0))) :: (Ent.row 5 1 (.slice A_6 s_2.2.length cap_5) s_2.2.length cs_1) :: (Ent.obj b_4 (.cells #[.int .i8 x_5.fKind, S x_5.fText, .int .i64 x_5.fNum, S x_5.fName, S x_5.fAttr, .slice A_7 x_5.fL.length cap_6] 29 (0, 0))) :: H) w_9 := p_15.pull 2 rfl rfl
              refine W_okH (E := [Ent.obj b_2 (.cells #[.pointer A_5, .slice A_6 s_2.2.length cap_5] 41 (0, 0)), Ent.row 5 1 (.slice A_6 s_2.2.length cap_5) s_2.2.length cs_1]) (H := ((Ent.obj b_4 (.cells #[.int .i8 x_5.fKind, S x_5.fText, .int .i64 x_5.fNum, S x_5.fName, S x_5.fAttr, .slice A_7 x_5.fL.length cap_6] 29 (0, 0))) :: H)) f_82 p_16 (by kernel_rfl) (by kernel_rfl) rfl rfl (fun _ => by kernel_rfl) (strings_Builder_WriteString_ok n _ b_2 A_5 hb_1 s_2.2 A_6 cap_5 cs_1 hr_5 (([36, 123] ++ x_5.fName) ++ [125]) x_8 hx_8) (fun u_2 M_6 E_2 w_12 hM_6 p_14 q_2 a_62 f_83 => ?_)
              obtain ⟨A_10, A_11, cap_8, cs_3, rfl, rfl, hb_3, hr_8⟩ := q_2
              replace p_14 : Hp w0 M_6 ((Ent.obj b_2 (.cells #[.pointer A_10, .slice A_11 x_8.2.2.length cap_8] 41 (0, 0))) :: (Ent.row 5 1 (.slice A_11 x_8.2.2.length cap_8) x_8.2.2.length cs_3) :: (Ent.obj b_4 (.cells #[.int .i8 x_5.fKind, S x_5.fText, .int .i64 x_5.fNum, S x_5.fName, S x_5.fAttr, .slice A_7 x_5.fL.length cap_6] 29 (0, 0))) :: H) w_12 := p_14
              refine W_end rfl ?_
              refine B_n ?_
              refine B_n ?_
              refine T_n ?_
              refine R_reg ?_
              obtain ⟨g_8, hF_34⟩ := need_some hF_33
              refine W_run (L' := [(5, .pointer (some (⟨b_2, 0, none⟩))), (42, .slice A0 d0.length cap0), (43, .int .i64 ((d0.length : Nat) : Int)), (44, .int .i64 s_2.1), (73, .pointer (some (⟨b_4, 3, none⟩))), (74, S x_5.fName), (75, S ([36, 123] ++ x_5.fName)), (76, S (([36, 123] ++ x_5.fName) ++ [125])), (77, .tuple #[.int .i64 x_8.1, .nilIface]), (78, .int .i64 (IntKind.wrap .i64 (s_2.1 + 1)))]) (w' := w_12) f_83 1 [5, 42, 43, 44, 73, 74, 75, 76, 77, 78] (by kernel_rfl) (fun a_63 f_84 => ?_)
              have f_85 := Frm.set f_84 78 (v := .int .i64 (IntKind.wrap .i64 (s_2.1 + 1))) (v' := .int .i64 (s_2.1 + 1)) (by kernel_rfl) (congrArg (Value.int .i64) (inR_wrap g_8))
              have f_86 : Frm 80 [(5, .pointer (some (⟨b_2, 0, none⟩))), (42, .slice A0 d0.length cap0), (43, .int .i64 ((d0.length : Nat) : Int)), (44, .int .i64 s_2.1), (73, .pointer (some (⟨b_4, 3, none⟩))), (74, S x_5.fName), (75, S ([36, 123] ++ x_5.fName)), (76, S (([36, 123] ++ x_5.fName) ++ [125])), (77, .tuple #[.int .i64 x_8.1, .nilIface]), (78, .int .i64 (s_2.1 + 1))] a_63 := f_85.keep (ks := [5, 42, 43, 44, 73, 74, 75, 76, 77, 78]) (by kernel_rfl)
              refine W_run (L' := [(5, .pointer (some (⟨b_2, 0, none⟩))), (42, .slice A0 d0.length cap0), (43, .int .i64 ((d0.length : Nat) : Int)), (44, .int .i64 (s_2.1 + 1))]) (w' := w_12) f_86 1 [5, 42, 43, 44] (by kernel_rfl) (fun a_64 f_87 => ?_)
              refine W_end rfl ?_
              have p_24 : Hp w0 M_6 ((Ent.row 5 1 (.slice A_11 x_8.2.2.length cap_8) x_8.2.2.length cs_3) :: (Ent.obj b_2 (.cells #[.pointer A_10, .slice A_11 x_8.2.2.length cap_8] 41 (0, 0))) :: (Ent.obj b_4 (.cells #[.int .i8 x_5.fKind, S x_5.fText, .int .i64 x_5.fNum, S x_5.fName, S x_5.fAttr, .slice A_7 x_5.fL.length cap_6] 29 (0, 0))) :: H) w_12 := p_14.pull 1 rfl rfl
              have p_25 : Hp w0 M_6 ((Ent.obj b_4 (.cells #[.int .i8 x_5.fKind, S x_5.fText, .int .i64 x_5.fNum, S x_5.fName, S x_5.fAttr, .slice A_7 x_5.fL.length cap_6] 29 (0, 0))) :: (Ent.row 5 1 (.slice A_11 x_8.2.2.length cap_8) x_8.2.2.length cs_3) :: (Ent.obj b_2 (.cells #[.pointer A_10, .slice A_11 x_8.2.2.length cap_8] 41 (0, 0))) :: H) w_12 := p_24.pull 2 rfl rfl
              refine T_n ?_
              obtain rfl := Option.some.inj hF_34
              exact ⟨⟨m_4, (s_2.1 + 1, x_8.2.2), A_10, A_11, cap_8, cs_3⟩, Nat.lt_succ_self _, M_6, (hM_4.trans hM_6), ⟨hn_2, hb_3, hr_8⟩, f_87.keep (ks := [5, 42, 43, 44]) (by kernel_rfl), (p_25.dropN 1)⟩
            · have k_17 : ¬ (x_5.fKind = 3) := iff_f decide_eq_true_iff h_13
              have hF_35 := cnd_f h_13 hF_29
              refine R_reg ?_
              refine W_run (L' := [(5, .pointer (some (⟨b_2, 0, none⟩))), (7, .pointer (some (⟨b_4, 0, none⟩))), (42, .slice A0 d0.length cap0), (43, .int .i64 ((d0.length : Nat) : Int)), (44, .int .i64 s_2.1), (50, .pointer (some (⟨b_4, 3, none⟩)))]) (w' := w_9) f_78 1 [5, 7, 42, 43, 44, 50] (by kernel_rfl) (fun a_65 f_88 => ?_)
              refine W_eq (v := S x_5.fName) f_88 (by kernel_rfl) (by kernel_rfl) rfl rfl (X_load1 (v := S x_5.fName) rfl (ad := ⟨b_4, 3, none⟩) (by kernel_rfl) (by kernel_rfl) (p_9.ownCell 0 rfl 3)) (fun a_66 f_89 => ?_)
              obtain ⟨g_9, hF_36⟩ := need_some hF_35
              refine W_eq (v := S ([36, 123] ++ x_5.fName)) f_89 (by kernel_rfl) (by kernel_rfl) rfl rfl (X_concat rfl (l := [36, 123]) (m := x_5.fName) (by kernel_rfl) (by kernel_rfl) g_9) (fun a_67 f_90 => ?_)
              obtain ⟨g_10, hF_37⟩ := need_some hF_36
              refine W_eq (v := S (([36, 123] ++ x_5.fName) ++ [46])) f_90 (by kernel_rfl) (by kernel_rfl) rfl rfl (X_concat rfl (l := [36, 123] ++ x_5.fName) (m := [46]) (by kernel_rfl) (by kernel_rfl) g_10) (fun a_68 f_91 => ?_)
              refine W_run (L' := [(5, .pointer (some (⟨b_2, 0, none⟩))), (42, .slice A0 d0.length cap0), (43, .int .i64 ((d0.length : Nat) : Int)), (44, .int .i64 s_2.1), (53, S (([36, 123] ++ x_5.fName) ++ [46])), (54, .pointer (some (⟨b_4, 4, none⟩)))]) (w' := w_9) f_91 1 [5, 42, 43, 44, 53, 54] (by kernel_rfl) (fun a_69 f_92 => ?_)
              refine W_eq (v := S x_5.fAttr) f_92 (by kernel_rfl) (by kernel_rfl) rfl rfl (X_load1 (v := S x_5.fAttr) rfl (ad := ⟨b_4, 4, none⟩) (by kernel_rfl) (by kernel_rfl) (p_9.ownCell 0 rfl 4)) (fun a_70 f_93 => ?_)
              obtain ⟨g_11, hF_38⟩ := need_some hF_37
              refine W_eq (v := S ((([36, 123] ++ x_5.fName) ++ [46]) ++ x_5.fAttr)) f_93 (by kernel_rfl) (by kernel_rfl) rfl rfl (X_concat rfl (l := ([36, 123] ++ x_5.fName) ++ [46]) (m := x_5.fAttr) (by kernel_rfl) (by kernel_rfl) g_11) (fun a_71 f_94 => ?_)
              obtain ⟨g_12, hF_39⟩ := need_some hF_38
              refine W_eq (v := S (((([36, 123] ++ x_5.fName) ++ [46]) ++ x_5.fAttr) ++ [125])) f_94 (by kernel_rfl) (by kernel_rfl) rfl rfl (X_concat rfl (l := (([36, 123] ++ x_5.fName) ++ [46]) ++ x_5.fAttr) (m := [125]) (by kernel_rfl) (by kernel_rfl) g_12) (fun a_72 f_95 => ?_)
              obtain ⟨x_9, hx_9, hF_40⟩ := bind_some' hF_39
              have p_18 : Hp w0 M_4 ((Ent.row 5 1 (.slice A_6 s_2.2.length cap_5) s_2.2.length cs_1) :: (Ent.obj b_4 (.cells #[.int .i8 x_5.fKind, S x_5.fText, .int .i64 x_5.fNum, S x_5.fName, S x_5.fAttr, .slice A_7 x_5.fL.length cap_6] 29 (0, 0))) :: (Ent.obj b_2 (.cells #[.pointer A_5, .slice A_6 s_2.2.length cap_5] 41 (0, 0))) :: H) w_9 := p_9.pull 1 rfl rfl
              have p_19 : Hp w0 M_4 ((Ent.obj b_2 (.cells #[.pointer A_5, .slice A_6 s_2.2.length cap_5] 41 (0, 0))) :: (Ent.row 5 1 (.slice A_6 s_2.2.length cap_5) s_2.2.length cs_1) :: (Ent.obj b_4 (.cells #[.int .i8 x_5.fKind, S x_5.fText, .int .i64 x_5.fNum, S x_5.fName, S x_5.fAttr, .slice A_7 x_5.fL.length cap_6] 29 (0, 0))) :: H) w_9 := p_18.pull 2 rfl rfl
              refine W_okH (E := [Ent.obj b_2 (.cells #[.pointer A_5, .slice A_6 s_2.2.length cap_5] 41 (0, 0)), Ent.row 5 1 (.slice A_6 s_2.2.length cap_5) s_2.2.length cs_1]) (H := ((Ent.obj b_4 (.cells #[.int .i8 x_5.fKind, S x_5.fText, .int .i64 x_5.fNum, S x_5.fName, S x_5.fAttr, .slice A_7 x_5.fL.length cap_6] 29 (0, 0))) :: H)) f_95 p_19 (by kernel_rfl) (by kernel_rfl) rfl rfl (fun _ => by kernel_rfl) (strings_Builder_WriteString_ok n _ b_2 A_5 hb_1 s_2.2 A_6 cap_5 cs_1 hr_5 (((([36, 123] ++ x_5.fName) ++ [46]) ++ x_5.fAttr) ++ [125]) x_9 hx_9) (fun u_3 M_7 E_3 w_13 hM_7 p_17 q_3 a_73 f_96 => ?_)
              obtain ⟨A_12, A_13, cap_9, cs_4, rfl, rfl, hb_4, hr_9⟩ := q_3
              replace p_17 : Hp w0 M_7 ((Ent.obj b_2 (.cells #[.pointer A_12, .slice A_13 x_9.2.2.length cap_9] 41 (0, 0))) :: (Ent.row 5 1 (.slice A_13 x_9.2.2.length cap_9) x_9.2.2.length cs_4) :: (Ent.obj b_4 (.cells #[.int .i8 x_5.fKind, S x_5.fText, .int .i64 x_5.fNum, S x_5.fName, S x_5.fAttr, .slice A_7 x_5.fL.length cap_6] 29 (0, 0))) :: H) w_13 := p_17
              refine W_end rfl ?_
              refine B_n ?_
              refine B_n ?_
              refine T_n ?_
              refine R_reg ?_
              obtain ⟨g_13, hF_41⟩ := need_some hF_40
              refine W_run (L' := [(5, .pointer (some (⟨b_2, 0, none⟩))), (42, .slice A0 d0.length cap0), (43, .int .i64 ((d0.length : Nat) : Int)), (44, .int .i64 s_2.1), (53, S (([36, 123] ++ x_5.fName) ++ [46])), (54, .pointer (some (⟨b_4, 4, none⟩))), (55, S x_5.fAttr), (56, S ((([36, 123] ++ x_5.fName) ++ [46]) ++ x_5.fAttr)), (57, S (((([36, 123] ++ x_5.fName) ++ [46]) ++ x_5.fAttr) ++ [125])), (58, .tuple #[.int .i64 x_9.1, .nilIface]), (78, .int .i64 (IntKind.wrap .i64 (s_2.1 + 1)))]) (w' := w_13) f_96 1 [5, 42, 43, 44, 53, 54, 55, 56, 57, 58, 78] (by kernel_rfl) (fun a_74 f_97 => ?_)
              have f_98 := Frm.set f_97 78 (v := .int .i64 (IntKind.wrap .i64 (s_2.1 + 1))) (v' := .int .i64 (s_2.1 + 1)) (by kernel_rfl) (congrArg (Value.int .i64) (inR_wrap g_13))
              have f_99 : Frm 80 [(5, .pointer (some (⟨b_2, 0, none⟩))), (42, .slice A0 d0.length cap0), (43, .int .i64 ((d0.length : Nat) : Int)), (44, .int .i64 s_2.1), (53, S (([36, 123] ++ x_5.fName) ++ [46])), (54, .pointer (some (⟨b_4, 4, none⟩))), (55, S x_5.fAttr), (56, S ((([36, 123] ++ x_5.fName) ++ [46]) ++ x_5.fAttr)), (57, S (((([36, 123] ++ x_5.fName) ++ [46]) ++ x_5.fAttr) ++ [125])), (58, .tuple #[.int .i64 x_9.1, .nilIface]), (78, .int .i64 (s_2.1 + 1))] a_74 := f_98.keep (ks := [5, 42, 43, 44, 53, 54, 55, 56, 57, 58, 78]) (by kernel_rfl)
              refine W_run (L' := [(5, .pointer (some (⟨b_2, 0, none⟩))), (42, .slice A0 d0.length cap0), (43, .int .i64 ((d0.length : Nat) : Int)), (44, .int .i64 (s_2.1 + 1))]) (w' := w_13) f_99 1 [5, 42, 43, 44] (by kernel_rfl) (fun a_75 f_100 => ?_)
              refine W_end rfl ?_
              have p_26 : Hp w0 M_7 ((Ent.row 5 1 (.slice A_13 x_9.2.2.length cap_9) x_9.2.2.length cs_4) :: (Ent.obj b_2 (.cells #[.pointer A_12, .slice A_13 x_9.2.2.length cap_9] 41 (0, 0))) :: (Ent.obj b_4 (.cells #[.int .i8 x_5.fKind, S x_5.fText, .int .i64 x_5.fNum, S x_5.fName, S x_5.fAttr, .slice A_7 x_5.fL.length cap_6] 29 (0, 0))) :: H) w_13 := p_17.pull 1 rfl rfl
              have p_27 : Hp w0 M_7 ((Ent.obj b_4 (.cells #[.int .i8 x_5.fKind, S x_5.fText, .int .i64 x_5.fNum, S x_5.fName, S x_5.fAttr, .slice A_7 x_5.fL.length cap_6] 29 (0, 0))) :: (Ent.row 5 1 (.slice A_13 x_9.2.2.length cap_9) x_9.2.2.length cs_4) :: (Ent.obj b_2 (.cells #[.pointer A_12, .slice A_13 x_9.2.2.length cap_9] 41 (0, 0))) :: H) w_13 := p_26.pull 2 rfl rfl
              refine T_n ?_
              obtain rfl := Option.some.inj hF_41
              exact ⟨⟨m_4, (s_2.1 + 1, x_9.2.2), A_12, A_13, cap_9, cs_4⟩, Nat.lt_succ_self _, M_7, (hM_4.trans hM_7), ⟨hn_2, hb_4, hr_9⟩, f_100.keep (ks := [5, 42, 43, 44]) (by kernel_rfl), (p_27.dropN 1)⟩
        · have k_18 : ¬ (s_2.1 < ((d0.length : Nat) : Int)) := iff_f decide_eq_true_iff h_9
          have hF_42 := cnd_f h_9 hs_2
          refine wp_exit ?_
          refine T_x ?_
          refine T_x ?_
          obtain rfl := Option.some.inj hF_42
          exact .inr ⟨rfl, s_2.2, (Option.some.inj hn_2).symm, M_4, hM_4, A_5, A_6, cap_5, cs_1, hb_1, hr_5, f_58.keep (ks := [5]) (by kernel_rfl), p_7⟩
      · rintro _ a_78 w_16 (⟨rfl, y_3, rfl, M_8, hM_8, A_14, A_15, cap_10, cs_5, hb_5, hr_10, f_101, p_20⟩ | ⟨rfl, y_4, rfl, M_9, hM_9, A_16, A_17, cap_11, cs_6, hb_6, hr_11, f_102, p_21⟩)
        · refine B_r ?_
          refine T_r ?_
          refine E_ret2 f_101 rfl (by kernel_rfl : Vc.look _ 2 = some (S [])) (by kernel_rfl : Vc.look _ 3 = some (.int .i64 130)) ?_
          obtain rfl := Option.some.inj hF_20
          exact ⟨_, rfl, M_8, (hM_3.trans hM_8), (p_20.dropN 2), rfl⟩
        · refine B_x ?_
          refine T_n ?_
          refine R_seq ?_
          refine R_reg ?_
          obtain ⟨x_10, hx_10, hF_43⟩ := bind_some' hF_20
          have p_29 : Hp w0 M_9 ((Ent.obj b_2 (.cells #[.pointer A_16, .slice A_17 y_4.length cap_11] 41 (0, 0))) :: (Ent.row 5 1 (.slice A_17 y_4.length cap_11) y_4.length cs_6) :: H) w_16 := p_21.pull 1 rfl rfl
          refine W_okH (E := [Ent.obj b_2 (.cells #[.pointer A_16, .slice A_17 y_4.length cap_11] 41 (0, 0)), Ent.row 5 1 (.slice A_17 y_4.length cap_11) y_4.length cs_6]) (H := (H)) f_102 p_29 (by kernel_rfl) (by kernel_rfl) rfl rfl (fun _ => by kernel_rfl) (strings_Builder_String_ok n _ b_2 A_16 hb_6 y_4 A_17 cap_11 cs_6 hr_11 x_10 hx_10) (fun u_4 M_10 E_4 w_17 hM_10 p_28 q_4 a_79 f_103 => ?_)
          obtain ⟨A_18, A_19, cap_12, rfl, rfl, hb_7, h_14⟩ := q_4
          replace p_28 : Hp w0 M_10 ((Ent.obj b_2 (.cells #[.pointer A_18, .slice A_19 x_10.2.length cap_12] 41 (0, 0))) :: H) w_17 := p_28
          refine W_run (L' := [(2, S x_10.1), (3, .int .i64 0)]) (w' := w_17) f_103 2 [2, 3] (by kernel_rfl) (fun a_80 f_104 => ?_)
          refine W_end rfl ?_
          refine T_n ?_
          refine wp_ret ?_
          refine E_ret2 f_104 rfl (by kernel_rfl : Vc.look _ 2 = some (S x_10.1)) (by kernel_rfl : Vc.look _ 3 = some (.int .i64 0)) ?_
          obtain rfl := Option.some.inj hF_43
          exact ⟨_, rfl, M_10, ((hM_3.trans hM_9).trans hM_10), (p_28.dropN 1), rfl⟩
end Go.Proofs.YtdmjgmleilgbpaaDoor
