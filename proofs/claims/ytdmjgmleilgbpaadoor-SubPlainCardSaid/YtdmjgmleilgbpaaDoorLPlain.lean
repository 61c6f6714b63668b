/-
  Printed by a program: of each function its shallow reading, and the proof that the function gives what the reading gives. No condition.
-/
import Derived.Test.YtdmjgmleilgbpaaDoorQ7
import Derived.Test.YtdmjgmleilgbpaaDoorQ6h
set_option linter.unusedVariables false
set_option linter.unusedSimpArgs false
namespace Go.Proofs.YtdmjgmleilgbpaaDoor
open Go Go.Vc Go.RowKit
def law12_SubPlain_s2 (n : Nat) (x_2 : List T_api_Expr × Int × Int) (s_2 : Int × Int) : Option (Lp (Int × Int) (Sum Unit Int)) :=
    bif (decide (s_2.2 < ((x_2.1.length : Nat) : Int))) then
      ((getI x_2.1 s_2.2).bind fun x_3 =>
      ((bif (!(decide (x_3.fKind = 0))) then
          (need (inR .i64 (s_2.1 + 1)) <|
          some (s_2.1 + 1))
        else
          some (s_2.1) : Option Int)).bind fun y_1 =>
      bif (decide ((0 : Int) < s_2.2)) then
        (bif (decide (x_3.fKind = 0)) then
          (need (inR .i64 (s_2.2 - 1)) <|
          (getI x_2.1 (s_2.2 - 1)).bind fun x_4 =>
          bif (decide (x_4.fKind = 0)) then
            (some (.br (.inl ())))
          else
            need (inR .i64 (s_2.2 + 1)) <|
            some (.nx (y_1, s_2.2 + 1)))
        else
          need (inR .i64 (s_2.2 + 1)) <|
          some (.nx (y_1, s_2.2 + 1)))
      else
        need (inR .i64 (s_2.2 + 1)) <|
        some (.nx (y_1, s_2.2 + 1)))
    else
      some (.br (.inr s_2.1))
def law12_SubPlain_s1 (n : Nat) (d0 : List UInt8) (x_2 : List T_api_Expr × Int × Int) (s_1 : Int) : Option (Lp Int (Sum Bool Unit)) :=
    bif (decide (s_1 < (d0.length : Int))) then
      ((getI d0 s_1).bind fun c_1 =>
      bif (decide (((c_1).toNat : Int) = 36)) then
        ((loopF (law12_SubPlain_s2 n x_2) n ((0 : Int), (0 : Int))).bind fun b_2 =>
        (match b_2 with 
        | .inl y_2 => some (.br (.inl (false))) 
        | .inr y_3 => (sub_Holes n d0).bind fun x_5 =>
          bif (decide (y_3 = x_5)) then
            ((law12_wakes n).bind fun x_6 =>
            some (.br (.inl (x_6))))
          else
            some (.br (.inl (false)))))
      else
        need (inR .i64 (s_1 + 1)) <|
        some (.nx (s_1 + 1)))
    else
      some (.br (.inr ()))
def law12_SubPlain (n : Nat) (d0 : List UInt8) : Option Bool :=
  bif (decide ((1500 : Int) < (d0.length : Int))) then
    ((law12_wakes n).bind fun x_1 =>
    some ((x_1)))
  else
    (sub_Lex n d0).bind fun x_2 =>
    (loopF (law12_SubPlain_s1 n d0 x_2) n (0 : Int)).bind fun b_1 =>
    (match b_1 with 
    | .inl y_4 => some ((y_4)) 
    | .inr y_5 => bif (!(decide (x_2.2.2 = 0))) then
        (((bif (decide (x_2.2.2 = 10)) then
            ((law12_wakes n).bind fun x_7 =>
            some ((x_7)))
          else
            some ((false)) : Option Bool)).bind fun y_6 =>
        some ((y_6)))
      else
        bif (decide (d0 = [])) then
          (bif (decide (((x_2.1.length : Nat) : Int) = 0)) then
            ((sub_Holes n d0).bind fun x_8 =>
            bif (decide (x_8 = 0)) then
              ((law12_wakes n).bind fun x_9 =>
              some ((x_9)))
            else
              some ((false)))
          else
            bif (decide (((x_2.1.length : Nat) : Int) = 1)) then
              ((getI x_2.1 (0 : Int)).bind fun x_10 =>
              bif (decide (x_10.fKind = 0)) then
                ((getI x_2.1 (0 : Int)).bind fun x_11 =>
                bif (decide (x_11.fText = d0)) then
                  ((sub_Holes n d0).bind fun x_12 =>
                  bif (decide (x_12 = 0)) then
                    ((law12_wakes n).bind fun x_13 =>
                    some ((x_13)))
                  else
                    some ((false)))
                else
                  some ((false)))
              else
                some ((false)))
            else
              some ((false)))
        else
          bif (decide (((x_2.1.length : Nat) : Int) = 1)) then
            ((getI x_2.1 (0 : Int)).bind fun x_14 =>
            bif (decide (x_14.fKind = 0)) then
              ((getI x_2.1 (0 : Int)).bind fun x_15 =>
              bif (decide (x_15.fText = d0)) then
                ((sub_Holes n d0).bind fun x_16 =>
                bif (decide (x_16 = 0)) then
                  ((law12_wakes n).bind fun x_17 =>
                  some ((x_17)))
                else
                  some ((false)))
              else
                some ((false)))
            else
              some ((false)))
          else
            some ((false)))
theorem law12_SubPlain_ok (n : Nat) (M : Mem) (hG : GL M) (d0 : List UInt8) (r : Bool) (hF : law12_SubPlain n d0 = some r) : Ok Tryd.prog M 5 [S d0] (fun _ v => v = .bool r) := by
  unfold law12_SubPlain at hF
  intro M1 hM0 w0 H w p0
  replace hG := GL.mono hM0 hG
  refine R_enter 108 Tryd.func5 rfl rfl (by simp) (fun a0 f0 => ?_)
  replace f0 : Frm 108 [(0, S d0)] a0 := f0
  refine R_seq ?_
  refine R_reg ?_
  refine W_run (L' := [(0, S d0)]) (w' := w) f0 1 [0] (by kernel_rfl) (fun a_1 f_1 => ?_)
  refine W_end rfl ?_
  refine T_n ?_
  refine R_seq ?_
  refine R_seq ?_
  refine R_reg ?_
  refine W_run (L' := [(0, S d0), (12, .bool (decide ((1500 : Int) < (d0.length : Int))))]) (w' := w) f_1 3 [0, 12] (by kernel_rfl) (fun a_2 f_2 => ?_)
  refine W_end rfl ?_
  refine T_n ?_
  refine R_cond f_2 (b := decide ((1500 : Int) < (d0.length : Int))) (by kernel_rfl) (by kernel_rfl) (fun h_1 => ?_) (fun h_1 => ?_)
  · have k_1 : (1500 : Int) < (d0.length : Int) := decide_eq_true_iff.1 h_1
    have hF_1 := cnd_t h_1 hF
    refine R_seq ?_
    refine R_reg ?_
    obtain ⟨x_1, hx_1, hF_2⟩ := bind_some' hF_1
    refine W_okv (v := .bool x_1) f_2 p0 (by kernel_rfl) (by kernel_rfl) rfl rfl (fun _ => by kernel_rfl) (law12_wakes_ok n _ hG x_1 hx_1) (fun w_1 p_1 a_3 f_3 => ?_)
    refine W_run (L' := [(2, .bool x_1)]) (w' := w_1) f_3 1 [2] (by kernel_rfl) (fun a_4 f_4 => ?_)
    refine W_end rfl ?_
    refine T_n ?_
    refine wp_ret ?_
    refine T_r ?_
    refine E_ret1 f_4 rfl (by kernel_rfl : Vc.look _ 2 = some (.bool x_1)) ?_
    obtain rfl := Option.some.inj hF_2
    exact ⟨_, rfl, M1, (Mem.le_refl _), p_1, rfl⟩
  · have k_2 : ¬ ((1500 : Int) < (d0.length : Int)) := iff_f decide_eq_true_iff h_1
    have hF_3 := cnd_f h_1 hF
    refine wp_skip ?_
    refine T_n ?_
    refine R_seq ?_
    refine R_reg ?_
    refine W_run (L' := [(0, S d0), (15, S d0)]) (w' := w) f_2 1 [0, 15] (by kernel_rfl) (fun a_5 f_5 => ?_)
    obtain ⟨x_2, hx_2, hF_4⟩ := bind_some' hF_3
    refine W_okH (E := []) (H := (H)) f_5 p0 (by kernel_rfl) (by kernel_rfl) rfl rfl (fun _ => by kernel_rfl) (sub_Lex_ok n _ hG d0 x_2 hx_2) (fun u_1 M_1 E_1 w_2 hM_1 p_2 q_1 a_6 f_6 => ?_)
    obtain ⟨A_1, cap_1, cs_1, rfl, rfl, hr_1⟩ := q_1
    replace p_2 : Hp w0 M_1 ((Ent.row 29 6 (.slice A_1 x_2.1.length cap_1) x_2.1.length cs_1) :: H) w_2 := p_2
    refine W_run (L' := [(0, S d0), (3, .slice A_1 x_2.1.length cap_1), (5, .int .i64 x_2.2.2)]) (w' := w_2) f_6 7 [0, 3, 5] (by kernel_rfl) (fun a_7 f_7 => ?_)
    refine W_end rfl ?_
    refine T_n ?_
    refine R_seq ?_
    refine R_seq ?_
    refine R_reg ?_
    refine W_run (L' := [(0, S d0), (3, .slice A_1 x_2.1.length cap_1), (5, .int .i64 x_2.2.2), (6, .int .i64 0)]) (w' := w_2) f_7 1 [0, 3, 5, 6] (by kernel_rfl) (fun a_8 f_8 => ?_)
    refine W_end rfl ?_
    refine T_n ?_
    refine wp_block ?_
    obtain ⟨b_1, hL_1, hF_5⟩ := bind_some' hF_4
    refine wp_mono (Q := fun e a w => (e = .ret ∧ (∃ y_4 : Bool, b_1 = .inl y_4 ∧ ∃ M_7 : Mem, M_1.le M_7 ∧ Frm 108 [(2, .bool y_4)] a ∧ Hp w0 M_7 ((Ent.row 29 6 (.slice A_1 x_2.1.length cap_1) x_2.1.length cs_1) :: H) w)) ∨ (e = .exit 0 ∧ (∃ y_5 : Unit, b_1 = .inr y_5 ∧ ∃ M_8 : Mem, M_1.le M_8 ∧ Frm 108 [(0, S d0), (3, .slice A_1 x_2.1.length cap_1), (5, .int .i64 x_2.2.2)] a ∧ Hp w0 M_8 ((Ent.row 29 6 (.slice A_1 x_2.1.length cap_1) x_2.1.length cs_1) :: H) w))) (R_loop (n := 108) (w0 := w0) (M := M_1) (fun (x : Nat × Int) => match x with | (m_1, s_1) => [(0, S d0), (3, .slice A_1 x_2.1.length cap_1), (5, .int .i64 x_2.2.2), (6, .int .i64 s_1)]) (fun (x : Nat × Int) => match x with | (m_1, s_1) => ((Ent.row 29 6 (.slice A_1 x_2.1.length cap_1) x_2.1.length cs_1) :: H)) (fun (x : Nat × Int) (MM : Mem) => match x with | (m_1, s_1) => loopF (law12_SubPlain_s1 n d0 x_2) m_1 s_1 = some b_1) (fun (x : Nat × Int) => match x with | (m_1, s_1) => m_1) (n, (0 : Int)) (f_8.keep (ks := [0, 3, 5, 6]) (by kernel_rfl)) p_2 hL_1 ?_) ?_
    · rintro ⟨m_1, s_1⟩ M_2 a_9 w_3 hM_2 I_1 f_9 p_3
      replace f_9 : Frm 108 [(0, S d0), (3, .slice A_1 x_2.1.length cap_1), (5, .int .i64 x_2.2.2), (6, .int .i64 s_1)] a_9 := f_9
      replace p_3 : Hp w0 M_2 ((Ent.row 29 6 (.slice A_1 x_2.1.length cap_1) x_2.1.length cs_1) :: H) w_3 := p_3
      have I_1L := I_1
      obtain ⟨m_2, r_1, rfl, hs_1, hn_1⟩ := loop_step I_1L
      unfold law12_SubPlain_s1 at hs_1
      refine R_seq ?_
      refine R_seq ?_
      refine R_reg ?_
      refine W_run (L' := [(0, S d0), (3, .slice A_1 x_2.1.length cap_1), (5, .int .i64 x_2.2.2), (6, .int .i64 s_1), (23, .bool (decide (s_1 < (d0.length : Int))))]) (w' := w_3) f_9 4 [0, 3, 5, 6, 23] (by kernel_rfl) (fun a_10 f_10 => ?_)
      refine W_end rfl ?_
      refine T_n ?_
      refine R_cond f_10 (b := decide (s_1 < (d0.length : Int))) (by kernel_rfl) (by kernel_rfl) (fun h_2 => ?_) (fun h_2 => ?_)
      · have k_3 : s_1 < (d0.length : Int) := decide_eq_true_iff.1 h_2
        have hF_6 := cnd_t h_2 hs_1
        refine wp_skip ?_
        refine T_n ?_
        refine R_seq ?_
        refine wp_block ?_
        refine R_seq ?_
        refine R_reg ?_
        refine W_run (L' := [(0, S d0), (3, .slice A_1 x_2.1.length cap_1), (5, .int .i64 x_2.2.2), (6, .int .i64 s_1), (26, S d0), (27, .int .i64 s_1)]) (w' := w_3) f_10 2 [0, 3, 5, 6, 26, 27] (by kernel_rfl) (fun a_11 f_11 => ?_)
        obtain ⟨c_1, hx_3, hF_7⟩ := bind_some' hF_6
        refine W_eq (v := .int .u8 ((d0.getD s_1.toNat 0).toNat : Int)) f_11 (by kernel_rfl) (by kernel_rfl) rfl rfl (X_strIndex rfl (l := d0) (k := .i64) (i := s_1) (by kernel_rfl) (by kernel_rfl) (by kernel_rfl) (getI_nn hx_3) (getI_lt hx_3)) (fun a_12 f_12 => ?_)
        have f_13 := Frm.set f_12 28 (v := .int .u8 ((d0.getD s_1.toNat 0).toNat : Int)) (v' := .int .u8 ((c_1).toNat : Int)) (by kernel_rfl) (congrArg (fun c : UInt8 => Value.int .u8 ((c.toNat : Nat) : Int)) (getI_getD hx_3))
        have f_14 : Frm 108 [(0, S d0), (3, .slice A_1 x_2.1.length cap_1), (5, .int .i64 x_2.2.2), (6, .int .i64 s_1), (26, S d0), (27, .int .i64 s_1), (28, .int .u8 ((c_1).toNat : Int))] a_12 := f_13.keep (ks := [0, 3, 5, 6, 26, 27, 28]) (by kernel_rfl)
        refine W_run (L' := [(0, S d0), (3, .slice A_1 x_2.1.length cap_1), (5, .int .i64 x_2.2.2), (6, .int .i64 s_1), (29, .bool (decide (((c_1).toNat : Int) = 36)))]) (w' := w_3) f_14 1 [0, 3, 5, 6, 29] (by kernel_rfl) (fun a_13 f_15 => ?_)
        refine W_end rfl ?_
        refine T_n ?_
        refine R_cond f_15 (b := decide (((c_1).toNat : Int) = 36)) (by kernel_rfl) (by kernel_rfl) (fun h_3 => ?_) (fun h_3 => ?_)
        · have k_4 : ((c_1).toNat : Int) = 36 := decide_eq_true_iff.1 h_3
          have hF_8 := cnd_t h_3 hF_7
          refine R_seq ?_
          refine R_reg ?_
          refine W_run (L' := [(0, S d0), (3, .slice A_1 x_2.1.length cap_1), (7, .int .i64 0)]) (w' := w_3) f_15 1 [0, 3, 7] (by kernel_rfl) (fun a_14 f_16 => ?_)
          refine W_end rfl ?_
          refine T_n ?_
          refine R_seq ?_
          refine R_seq ?_
          refine R_reg ?_
          refine W_run (L' := [(0, S d0), (3, .slice A_1 x_2.1.length cap_1), (7, .int .i64 0), (30, .slice A_1 x_2.1.length cap_1), (31, .int .i64 ((x_2.1.length : Nat) : Int)), (32, .int .i64 0)]) (w' := w_3) f_16 3 [0, 3, 7, 30, 31, 32] (by kernel_rfl) (fun a_15 f_17 => ?_)
          refine W_end rfl ?_
          refine T_n ?_
          refine wp_block ?_
          obtain ⟨b_2, hL_2, hF_9⟩ := bind_some' hF_8
          refine wp_mono (Q := fun e a w => (e = .ret ∧ (∃ y_2 : Unit, b_2 = .inl y_2 ∧ ∃ M_5 : Mem, M_2.le M_5 ∧ Frm 108 [(2, .bool false)] a ∧ Hp w0 M_5 ((Ent.row 29 6 (.slice A_1 x_2.1.length cap_1) x_2.1.length cs_1) :: H) w)) ∨ (e = .exit 2 ∧ (∃ y_3 : Int, b_2 = .inr y_3 ∧ ∃ M_6 : Mem, M_2.le M_6 ∧ Frm 108 [(0, S d0), (7, .int .i64 y_3)] a ∧ Hp w0 M_6 ((Ent.row 29 6 (.slice A_1 x_2.1.length cap_1) x_2.1.length cs_1) :: H) w))) (R_loop (n := 108) (w0 := w0) (M := M_2) (fun (x : Nat × (Int × Int)) => match x with | (m_3, s_2) => [(0, S d0), (3, .slice A_1 x_2.1.length cap_1), (7, .int .i64 s_2.1), (30, .slice A_1 x_2.1.length cap_1), (31, .int .i64 ((x_2.1.length : Nat) : Int)), (32, .int .i64 s_2.2)]) (fun (x : Nat × (Int × Int)) => match x with | (m_3, s_2) => ((Ent.row 29 6 (.slice A_1 x_2.1.length cap_1) x_2.1.length cs_1) :: H)) (fun (x : Nat × (Int × Int)) (MM : Mem) => match x with | (m_3, s_2) => loopF (law12_SubPlain_s2 n x_2) m_3 s_2 = some b_2) (fun (x : Nat × (Int × Int)) => match x with | (m_3, s_2) => m_3) (n, ((0 : Int), (0 : Int))) (f_17.keep (ks := [0, 3, 7, 30, 31, 32]) (by kernel_rfl)) p_3 hL_2 ?_) ?_
          · rintro ⟨m_3, s_2⟩ M_3 a_16 w_4 hM_3 I_2 f_18 p_4
            replace f_18 : Frm 108 [(0, S d0), (3, .slice A_1 x_2.1.length cap_1), (7, .int .i64 s_2.1), (30, .slice A_1 x_2.1.length cap_1), (31, .int .i64 ((x_2.1.length : Nat) : Int)), (32, .int .i64 s_2.2)] a_16 := f_18
            replace p_4 : Hp w0 M_3 ((Ent.row 29 6 (.slice A_1 x_2.1.length cap_1) x_2.1.length cs_1) :: H) w_4 := p_4
            have I_2L := I_2
            obtain ⟨m_4, r_2, rfl, hs_2, hn_2⟩ := loop_step I_2L
            unfold law12_SubPlain_s2 at hs_2
            refine R_seq ?_
            refine R_reg ?_
            refine W_run (L' := [(0, S d0), (3, .slice A_1 x_2.1.length cap_1), (7, .int .i64 s_2.1), (30, .slice A_1 x_2.1.length cap_1), (31, .int .i64 ((x_2.1.length : Nat) : Int)), (32, .int .i64 s_2.2), (33, .bool (decide (s_2.2 < ((x_2.1.length : Nat) : Int))))]) (w' := w_4) f_18 1 [0, 3, 7, 30, 31, 32, 33] (by kernel_rfl) (fun a_17 f_19 => ?_)
            refine W_end rfl ?_
            refine T_n ?_
            refine R_seq ?_
            refine R_cond f_19 (b := decide (s_2.2 < ((x_2.1.length : Nat) : Int))) (by kernel_rfl) (by kernel_rfl) (fun h_4 => ?_) (fun h_4 => ?_)
            · have k_5 : s_2.2 < ((x_2.1.length : Nat) : Int) := decide_eq_true_iff.1 h_4
              have hF_10 := cnd_t h_4 hs_2
              refine wp_skip ?_
              refine T_n ?_
              refine R_seq ?_
              refine wp_block ?_
              refine R_seq ?_
              refine R_reg ?_
              refine W_run (L' := [(0, S d0), (3, .slice A_1 x_2.1.length cap_1), (7, .int .i64 s_2.1), (30, .slice A_1 x_2.1.length cap_1), (31, .int .i64 ((x_2.1.length : Nat) : Int)), (32, .int .i64 s_2.2), (34, .int .i64 s_2.2)]) (w' := w_4) f_19 1 [0, 3, 7, 30, 31, 32, 34] (by kernel_rfl) (fun a_18 f_20 => ?_)
              obtain ⟨x_3, hx_4, hF_11⟩ := bind_some' hF_10
              obtain ⟨b_3, cap_2, hv_1, hcap_1⟩ := p_4.rowAddr 0 rfl (getI_pos hx_4)
              have f_21 := Frm.set f_20 30 (v := .slice A_1 x_2.1.length cap_1) (v' := .slice (some ⟨b_3, 0, none⟩) x_2.1.length cap_2) (by kernel_rfl) (hv_1)
              have f_22 : Frm 108 [(0, S d0), (3, .slice A_1 x_2.1.length cap_1), (7, .int .i64 s_2.1), (30, .slice (some ⟨b_3, 0, none⟩) x_2.1.length cap_2), (31, .int .i64 ((x_2.1.length : Nat) : Int)), (32, .int .i64 s_2.2), (34, .int .i64 s_2.2)] a_18 := f_21.keep (ks := [0, 3, 7, 30, 31, 32, 34]) (by kernel_rfl)
              refine W_eq (v := .pointer (some ((⟨b_3, 0, none⟩ : Addr).add (s_2.2.toNat * 6)))) f_22 (by kernel_rfl) (by kernel_rfl) rfl rfl (X_indexAddr rfl (ad := ⟨b_3, 0, none⟩) (len := x_2.1.length) (cap := cap_2) (k := .i64) (i := s_2.2) (by kernel_rfl) (by kernel_rfl) (e := 29) (by kernel_rfl) (sz := 6) (by kernel_rfl) (getI_nn hx_4) (getI_lt hx_4)) (fun a_19 f_23 => ?_)
              have f_24 := Frm.set f_23 30 (v := .slice (some ⟨b_3, 0, none⟩) x_2.1.length cap_2) (v' := .slice A_1 x_2.1.length cap_1) (by kernel_rfl) (hv_1.symm)
              have f_25 : Frm 108 [(0, S d0), (3, .slice A_1 x_2.1.length cap_1), (7, .int .i64 s_2.1), (30, .slice A_1 x_2.1.length cap_1), (31, .int .i64 ((x_2.1.length : Nat) : Int)), (32, .int .i64 s_2.2), (34, .int .i64 s_2.2), (35, .pointer (some ((⟨b_3, 0, none⟩ : Addr).add (s_2.2.toNat * 6))))] a_19 := f_24.keep (ks := [0, 3, 7, 30, 31, 32, 34, 35]) (by kernel_rfl)
              obtain ⟨c_2, hl_1, hr_2, hc_1⟩ := RepSeq.get s_2.2.toNat (szd_all szd_T_api_Expr) (RepSeq.mono (hM_2.trans hM_3) _ _ hr_1) (getI_map hx_4)
              clear hl_1
              obtain ⟨A_2, cap_3, rfl, h_5⟩ := T_api_Expr.opn hr_2
              refine W_eq (v := .agg #[.int .i8 x_3.fKind, S x_3.fText, .int .i64 x_3.fNum, S x_3.fName, S x_3.fAttr, .slice A_2 x_3.fL.length cap_3]) f_25 (by kernel_rfl) (by kernel_rfl) rfl rfl (X_loadN (cs := [.int .i8 x_3.fKind, S x_3.fText, .int .i64 x_3.fNum, S x_3.fName, S x_3.fAttr, .slice A_2 x_3.fL.length cap_3]) rfl (ad := (⟨b_3, 0, none⟩ : Addr).add (s_2.2.toNat * 6)) (by kernel_rfl) (by kernel_rfl) (fun j v h => row_at (p_4.rowCell 0 rfl hv_1) hc_1 j v h)) (fun a_20 f_26 => ?_)
              refine W_alloc f_26 p_4 1 [0, 3, 7, 9, 30, 31, 32, 34, 35, 36] (.cells #[.int .i8 0, S [], .int .i64 0, S [], S [], .slice none 0 0] 29 (0, 0)) (fun b_4 => [(0, S d0), (3, .slice A_1 x_2.1.length cap_1), (7, .int .i64 s_2.1), (9, .pointer (some (⟨b_4, 0, none⟩))), (30, .slice A_1 x_2.1.length cap_1), (31, .int .i64 ((x_2.1.length : Nat) : Int)), (32, .int .i64 s_2.2), (34, .int .i64 s_2.2), (35, .pointer (some ((⟨b_3, 0, none⟩ : Addr).add (s_2.2.toNat * 6)))), (36, .agg #[.int .i8 x_3.fKind, S x_3.fText, .int .i64 x_3.fNum, S x_3.fName, S x_3.fAttr, .slice A_2 x_3.fL.length cap_3])]) (fun _ => by kernel_rfl) (fun b_4 w_5 p_5 a_21 f_27 => ?_)
              replace f_27 : Frm 108 [(0, S d0), (3, .slice A_1 x_2.1.length cap_1), (7, .int .i64 s_2.1), (9, .pointer (some (⟨b_4, 0, none⟩))), (30, .slice A_1 x_2.1.length cap_1), (31, .int .i64 ((x_2.1.length : Nat) : Int)), (32, .int .i64 s_2.2), (34, .int .i64 s_2.2), (35, .pointer (some ((⟨b_3, 0, none⟩ : Addr).add (s_2.2.toNat * 6)))), (36, .agg #[.int .i8 x_3.fKind, S x_3.fText, .int .i64 x_3.fNum, S x_3.fName, S x_3.fAttr, .slice A_2 x_3.fL.length cap_3])] a_21 := f_27
              refine W_run (L' := [(0, S d0), (3, .slice A_1 x_2.1.length cap_1), (7, .int .i64 s_2.1), (8, .int .i64 s_2.2), (9, .pointer (some (⟨b_4, 0, none⟩))), (30, .slice A_1 x_2.1.length cap_1), (31, .int .i64 ((x_2.1.length : Nat) : Int)), (32, .int .i64 s_2.2), (36, .agg #[.int .i8 x_3.fKind, S x_3.fText, .int .i64 x_3.fNum, S x_3.fName, S x_3.fAttr, .slice A_2 x_3.fL.length cap_3])]) (w' := w_5) f_27 1 [0, 3, 7, 8, 9, 30, 31, 32, 36] (by kernel_rfl) (fun a_22 f_28 => ?_)
              refine W_storeN (vs := [.int .i8 x_3.fKind, S x_3.fText, .int .i64 x_3.fNum, S x_3.fName, S x_3.fAttr, .slice A_2 x_3.fL.length cap_3]) (j := 0) f_28 p_5 (by kernel_rfl) (by kernel_rfl) rfl rfl (by kernel_rfl) (by kernel_rfl) (by simp [Value.oneCell', S]) (by kernel_rfl) (by simp) (by decide) (cs' := #[.int .i8 x_3.fKind, S x_3.fText, .int .i64 x_3.fNum, S x_3.fName, S x_3.fAttr, .slice A_2 x_3.fL.length cap_3]) rfl (fun w_6 p_6 a_23 f_29 => ?_)
              refine W_end rfl ?_
              refine T_n ?_
              refine R_seq ?_
              refine R_seq ?_
              refine R_reg ?_
              refine W_run (L' := [(0, S d0), (3, .slice A_1 x_2.1.length cap_1), (7, .int .i64 s_2.1), (8, .int .i64 s_2.2), (9, .pointer (some (⟨b_4, 0, none⟩))), (30, .slice A_1 x_2.1.length cap_1), (31, .int .i64 ((x_2.1.length : Nat) : Int)), (32, .int .i64 s_2.2), (37, .pointer (some (⟨b_4, 0, none⟩)))]) (w' := w_6) f_29 1 [0, 3, 7, 8, 9, 30, 31, 32, 37] (by kernel_rfl) (fun a_24 f_30 => ?_)
              refine W_eq (v := .int .i8 x_3.fKind) f_30 (by kernel_rfl) (by kernel_rfl) rfl rfl (X_load1 (v := .int .i8 x_3.fKind) rfl (ad := ⟨b_4, 0, none⟩) (by kernel_rfl) (by kernel_rfl) (p_6.ownCell 0 rfl 0)) (fun a_25 f_31 => ?_)
              refine W_run (L' := [(0, S d0), (3, .slice A_1 x_2.1.length cap_1), (7, .int .i64 s_2.1), (8, .int .i64 s_2.2), (9, .pointer (some (⟨b_4, 0, none⟩))), (30, .slice A_1 x_2.1.length cap_1), (31, .int .i64 ((x_2.1.length : Nat) : Int)), (32, .int .i64 s_2.2), (39, .bool (!(decide (x_3.fKind = 0))))]) (w' := w_6) f_31 1 [0, 3, 7, 8, 9, 30, 31, 32, 39] (by kernel_rfl) (fun a_26 f_32 => ?_)
              refine W_end rfl ?_
              refine T_n ?_
              obtain ⟨j_1, hj_1, hF_12⟩ := bind_some' hF_11
              refine R_mid (fun a_30 w_7 => ∃ y_1 : Int, j_1 = y_1 ∧ ∃ M_4 : Mem, M_3.le M_4 ∧ Frm 108 [(0, S d0), (3, .slice A_1 x_2.1.length cap_1), (7, .int .i64 y_1), (8, .int .i64 s_2.2), (9, .pointer (some (⟨b_4, 0, none⟩))), (30, .slice A_1 x_2.1.length cap_1), (31, .int .i64 ((x_2.1.length : Nat) : Int)), (32, .int .i64 s_2.2)] a_30 ∧ Hp w0 M_4 ((Ent.obj b_4 (.cells #[.int .i8 x_3.fKind, S x_3.fText, .int .i64 x_3.fNum, S x_3.fName, S x_3.fAttr, .slice A_2 x_3.fL.length cap_3] 29 (0, 0))) :: (Ent.row 29 6 (.slice A_1 x_2.1.length cap_1) x_2.1.length cs_1) :: H) w_7) ?_ ?_
              · refine R_cond f_32 (b := !(decide (x_3.fKind = 0))) (by kernel_rfl) (by kernel_rfl) (fun h_6 => ?_) (fun h_6 => ?_)
                · have k_6 : ¬ (x_3.fKind = 0) := (not_iff decide_eq_true_iff).1 h_6
                  have hF_13 := cnd_t h_6 hj_1
                  refine R_reg ?_
                  refine W_run (L' := [(0, S d0), (3, .slice A_1 x_2.1.length cap_1), (8, .int .i64 s_2.2), (9, .pointer (some (⟨b_4, 0, none⟩))), (30, .slice A_1 x_2.1.length cap_1), (31, .int .i64 ((x_2.1.length : Nat) : Int)), (32, .int .i64 s_2.2), (40, .int .i64 s_2.1)]) (w' := w_6) f_32 1 [0, 3, 8, 9, 30, 31, 32, 40] (by kernel_rfl) (fun a_27 f_33 => ?_)
                  obtain ⟨g_1, hF_14⟩ := need_some hF_13
                  refine W_run (L' := [(0, S d0), (3, .slice A_1 x_2.1.length cap_1), (8, .int .i64 s_2.2), (9, .pointer (some (⟨b_4, 0, none⟩))), (30, .slice A_1 x_2.1.length cap_1), (31, .int .i64 ((x_2.1.length : Nat) : Int)), (32, .int .i64 s_2.2), (40, .int .i64 s_2.1), (41, .int .i64 (IntKind.wrap .i64 (s_2.1 + 1)))]) (w' := w_6) f_33 1 [0, 3, 8, 9, 30, 31, 32, 40, 41] (by kernel_rfl) (fun a_28 f_34 => ?_)
                  have f_35 := Frm.set f_34 41 (v := .int .i64 (IntKind.wrap .i64 (s_2.1 + 1))) (v' := .int .i64 (s_2.1 + 1)) (by kernel_rfl) (congrArg (Value.int .i64) (inR_wrap g_1))
                  have f_36 : Frm 108 [(0, S d0), (3, .slice A_1 x_2.1.length cap_1), (8, .int .i64 s_2.2), (9, .pointer (some (⟨b_4, 0, none⟩))), (30, .slice A_1 x_2.1.length cap_1), (31, .int .i64 ((x_2.1.length : Nat) : Int)), (32, .int .i64 s_2.2), (40, .int .i64 s_2.1), (41, .int .i64 (s_2.1 + 1))] a_28 := f_35.keep (ks := [0, 3, 8, 9, 30, 31, 32, 40, 41]) (by kernel_rfl)
                  refine W_run (L' := [(0, S d0), (3, .slice A_1 x_2.1.length cap_1), (7, .int .i64 (s_2.1 + 1)), (8, .int .i64 s_2.2), (9, .pointer (some (⟨b_4, 0, none⟩))), (30, .slice A_1 x_2.1.length cap_1), (31, .int .i64 ((x_2.1.length : Nat) : Int)), (32, .int .i64 s_2.2)]) (w' := w_6) f_36 1 [0, 3, 7, 8, 9, 30, 31, 32] (by kernel_rfl) (fun a_29 f_37 => ?_)
                  refine W_end rfl ?_
                  refine T_n ?_
                  exact ⟨s_2.1 + 1, (Option.some.inj hF_14).symm, M_3, (Mem.le_refl _), f_37.keep (ks := [0, 3, 7, 8, 9, 30, 31, 32]) (by kernel_rfl), p_6⟩
                · have k_7 : ¬ (¬ (x_3.fKind = 0)) := iff_f (not_iff decide_eq_true_iff) h_6
                  have hF_15 := cnd_f h_6 hj_1
                  refine wp_skip ?_
                  refine T_n ?_
                  exact ⟨s_2.1, (Option.some.inj hF_15).symm, M_3, (Mem.le_refl _), f_32.keep (ks := [0, 3, 7, 8, 9, 30, 31, 32]) (by kernel_rfl), p_6⟩
              · rintro a_30 w_7 ⟨y_1, hq_1, M_4, hM_4, f_38, p_7⟩
                subst j_1
                refine T_n ?_
                refine R_seq ?_
                refine R_reg ?_
                refine W_run (L' := [(0, S d0), (3, .slice A_1 x_2.1.length cap_1), (7, .int .i64 y_1), (8, .int .i64 s_2.2), (9, .pointer (some (⟨b_4, 0, none⟩))), (30, .slice A_1 x_2.1.length cap_1), (31, .int .i64 ((x_2.1.length : Nat) : Int)), (32, .int .i64 s_2.2), (44, .bool (decide ((0 : Int) < s_2.2)))]) (w' := w_7) f_38 3 [0, 3, 7, 8, 9, 30, 31, 32, 44] (by kernel_rfl) (fun a_31 f_39 => ?_)
                rcases Bool.eq_false_or_eq_true (decide ((0 : Int) < s_2.2)) with h_7 | h_7
                · have k_8 : (0 : Int) < s_2.2 := decide_eq_true_iff.1 h_7
                  have hF_16 := cnd_t h_7 hF_12
                  have f_40 := Frm.set f_39 44 (v := .bool (decide ((0 : Int) < s_2.2))) (v' := .bool true) (by kernel_rfl) (congrArg Value.bool h_7)
                  have f_41 : Frm 108 [(0, S d0), (3, .slice A_1 x_2.1.length cap_1), (7, .int .i64 y_1), (8, .int .i64 s_2.2), (9, .pointer (some (⟨b_4, 0, none⟩))), (30, .slice A_1 x_2.1.length cap_1), (31, .int .i64 ((x_2.1.length : Nat) : Int)), (32, .int .i64 s_2.2), (44, .bool true)] a_31 := f_40.keep (ks := [0, 3, 7, 8, 9, 30, 31, 32, 44]) (by kernel_rfl)
                  refine W_run (L' := [(0, S d0), (3, .slice A_1 x_2.1.length cap_1), (7, .int .i64 y_1), (8, .int .i64 s_2.2), (30, .slice A_1 x_2.1.length cap_1), (31, .int .i64 ((x_2.1.length : Nat) : Int)), (32, .int .i64 s_2.2), (44, .bool true), (45, .pointer (some (⟨b_4, 0, none⟩)))]) (w' := w_7) f_41 1 [0, 3, 7, 8, 30, 31, 32, 44, 45] (by kernel_rfl) (fun a_32 f_42 => ?_)
                  refine W_eq (v := .int .i8 x_3.fKind) f_42 (by kernel_rfl) (by kernel_rfl) rfl rfl (X_load1 (v := .int .i8 x_3.fKind) rfl (ad := ⟨b_4, 0, none⟩) (by kernel_rfl) (by kernel_rfl) (p_7.ownCell 0 rfl 0)) (fun a_33 f_43 => ?_)
                  refine W_run (L' := [(0, S d0), (3, .slice A_1 x_2.1.length cap_1), (7, .int .i64 y_1), (8, .int .i64 s_2.2), (30, .slice A_1 x_2.1.length cap_1), (31, .int .i64 ((x_2.1.length : Nat) : Int)), (32, .int .i64 s_2.2), (49, .bool (decide (x_3.fKind = 0)))]) (w' := w_7) f_43 3 [0, 3, 7, 8, 30, 31, 32, 49] (by kernel_rfl) (fun a_34 f_44 => ?_)
                  rcases Bool.eq_false_or_eq_true (decide (x_3.fKind = 0)) with h_8 | h_8
                  · have k_9 : x_3.fKind = 0 := decide_eq_true_iff.1 h_8
                    have hF_17 := cnd_t h_8 hF_16
                    have f_45 := Frm.set f_44 49 (v := .bool (decide (x_3.fKind = 0))) (v' := .bool true) (by kernel_rfl) (congrArg Value.bool h_8)
                    have f_46 : Frm 108 [(0, S d0), (3, .slice A_1 x_2.1.length cap_1), (7, .int .i64 y_1), (8, .int .i64 s_2.2), (30, .slice A_1 x_2.1.length cap_1), (31, .int .i64 ((x_2.1.length : Nat) : Int)), (32, .int .i64 s_2.2), (49, .bool true)] a_34 := f_45.keep (ks := [0, 3, 7, 8, 30, 31, 32, 49]) (by kernel_rfl)
                    refine W_run (L' := [(0, S d0), (3, .slice A_1 x_2.1.length cap_1), (7, .int .i64 y_1), (30, .slice A_1 x_2.1.length cap_1), (31, .int .i64 ((x_2.1.length : Nat) : Int)), (32, .int .i64 s_2.2), (49, .bool true), (50, .slice A_1 x_2.1.length cap_1), (51, .int .i64 s_2.2)]) (w' := w_7) f_46 2 [0, 3, 7, 30, 31, 32, 49, 50, 51] (by kernel_rfl) (fun a_35 f_47 => ?_)
                    obtain ⟨g_2, hF_18⟩ := need_some hF_17
                    refine W_run (L' := [(0, S d0), (3, .slice A_1 x_2.1.length cap_1), (7, .int .i64 y_1), (30, .slice A_1 x_2.1.length cap_1), (31, .int .i64 ((x_2.1.length : Nat) : Int)), (32, .int .i64 s_2.2), (49, .bool true), (50, .slice A_1 x_2.1.length cap_1), (51, .int .i64 s_2.2), (52, .int .i64 (IntKind.wrap .i64 (s_2.2 - 1)))]) (w' := w_7) f_47 1 [0, 3, 7, 30, 31, 32, 49, 50, 51, 52] (by kernel_rfl) (fun a_36 f_48 => ?_)
                    have f_49 := Frm.set f_48 52 (v := .int .i64 (IntKind.wrap .i64 (s_2.2 - 1))) (v' := .int .i64 (s_2.2 - 1)) (by kernel_rfl) (congrArg (Value.int .i64) (inR_wrap g_2))
                    have f_50 : Frm 108 [(0, S d0), (3, .slice A_1 x_2.1.length cap_1), (7, .int .i64 y_1), (30, .slice A_1 x_2.1.length cap_1), (31, .int .i64 ((x_2.1.length : Nat) : Int)), (32, .int .i64 s_2.2), (49, .bool true), (50, .slice A_1 x_2.1.length cap_1), (51, .int .i64 s_2.2), (52, .int .i64 (s_2.2 - 1))] a_36 := f_49.keep (ks := [0, 3, 7, 30, 31, 32, 49, 50, 51, 52]) (by kernel_rfl)
                    obtain ⟨x_4, hx_5, hF_19⟩ := bind_some' hF_18
                    obtain ⟨b_5, cap_4, hv_2, hcap_2⟩ := p_7.rowAddr 1 rfl (getI_pos hx_5)
                    have f_51 := Frm.set f_50 50 (v := .slice A_1 x_2.1.length cap_1) (v' := .slice (some ⟨b_5, 0, none⟩) x_2.1.length cap_4) (by kernel_rfl) (hv_2)
                    have f_52 : Frm 108 [(0, S d0), (3, .slice A_1 x_2.1.length cap_1), (7, .int .i64 y_1), (30, .slice A_1 x_2.1.length cap_1), (31, .int .i64 ((x_2.1.length : Nat) : Int)), (32, .int .i64 s_2.2), (49, .bool true), (50, .slice (some ⟨b_5, 0, none⟩) x_2.1.length cap_4), (51, .int .i64 s_2.2), (52, .int .i64 (s_2.2 - 1))] a_36 := f_51.keep (ks := [0, 3, 7, 30, 31, 32, 49, 50, 51, 52]) (by kernel_rfl)
                    refine W_eq (v := .pointer (some ((⟨b_5, 0, none⟩ : Addr).add ((s_2.2 - 1).toNat * 6)))) f_52 (by kernel_rfl) (by kernel_rfl) rfl rfl (X_indexAddr rfl (ad := ⟨b_5, 0, none⟩) (len := x_2.1.length) (cap := cap_4) (k := .i64) (i := s_2.2 - 1) (by kernel_rfl) (by kernel_rfl) (e := 29) (by kernel_rfl) (sz := 6) (by kernel_rfl) (getI_nn hx_5) (getI_lt hx_5)) (fun a_37 f_53 => ?_)
                    have f_54 := Frm.set f_53 50 (v := .slice (some ⟨b_5, 0, none⟩) x_2.1.length cap_4) (v' := .slice A_1 x_2.1.length cap_1) (by kernel_rfl) (hv_2.symm)
                    have f_55 : Frm 108 [(0, S d0), (3, .slice A_1 x_2.1.length cap_1), (7, .int .i64 y_1), (30, .slice A_1 x_2.1.length cap_1), (31, .int .i64 ((x_2.1.length : Nat) : Int)), (32, .int .i64 s_2.2), (49, .bool true), (50, .slice A_1 x_2.1.length cap_1), (51, .int .i64 s_2.2), (52, .int .i64 (s_2.2 - 1)), (53, .pointer (some ((⟨b_5, 0, none⟩ : Addr).add ((s_2.2 - 1).toNat * 6))))] a_37 := f_54.keep (ks := [0, 3, 7, 30, 31, 32, 49, 50, 51, 52, 53]) (by kernel_rfl)
                    refine W_run (L' := [(0, S d0), (3, .slice A_1 x_2.1.length cap_1), (7, .int .i64 y_1), (30, .slice A_1 x_2.1.length cap_1), (31, .int .i64 ((x_2.1.length : Nat) : Int)), (32, .int .i64 s_2.2), (49, .bool true), (54, .pointer (some (((⟨b_5, 0, none⟩ : Addr).add ((s_2.2 - 1).toNat * 6)).add 0)))]) (w' := w_7) f_55 1 [0, 3, 7, 30, 31, 32, 49, 54] (by kernel_rfl) (fun a_38 f_56 => ?_)
                    obtain ⟨c_3, hl_2, hr_3, hc_2⟩ := RepSeq.get (s_2.2 - 1).toNat (szd_all szd_T_api_Expr) (RepSeq.mono ((hM_2.trans hM_3).trans hM_4) _ _ hr_1) (getI_map hx_5)
                    clear hl_2
                    obtain ⟨A_3, cap_5, rfl, h_9⟩ := T_api_Expr.opn hr_3
                    refine W_eq (v := .int .i8 x_4.fKind) f_56 (by kernel_rfl) (by kernel_rfl) rfl rfl (X_load1 (v := .int .i8 x_4.fKind) rfl (ad := ((⟨b_5, 0, none⟩ : Addr).add ((s_2.2 - 1).toNat * 6)).add 0) (by kernel_rfl) (by kernel_rfl) ((fun j v h => row_at (p_7.rowCell 1 rfl hv_2) hc_2 j v h) 0 _ rfl)) (fun a_39 f_57 => ?_)
                    refine W_run (L' := [(0, S d0), (3, .slice A_1 x_2.1.length cap_1), (7, .int .i64 y_1), (30, .slice A_1 x_2.1.length cap_1), (31, .int .i64 ((x_2.1.length : Nat) : Int)), (32, .int .i64 s_2.2), (57, .bool (decide (x_4.fKind = 0)))]) (w' := w_7) f_57 2 [0, 3, 7, 30, 31, 32, 57] (by kernel_rfl) (fun a_40 f_58 => ?_)
                    refine W_end rfl ?_
                    refine T_n ?_
                    refine R_cond f_58 (b := decide (x_4.fKind = 0)) (by kernel_rfl) (by kernel_rfl) (fun h_10 => ?_) (fun h_10 => ?_)
                    · have k_10 : x_4.fKind = 0 := decide_eq_true_iff.1 h_10
                      have hF_20 := cnd_t h_10 hF_19
                      refine R_seq ?_
                      refine R_reg ?_
                      refine W_run (L' := [(2, .bool false)]) (w' := w_7) f_58 1 [2] (by kernel_rfl) (fun a_41 f_59 => ?_)
                      refine W_end rfl ?_
                      refine T_n ?_
                      refine wp_ret ?_
                      refine B_r ?_
                      refine T_r ?_
                      refine T_r ?_
                      obtain rfl := Option.some.inj hF_20
                      exact .inl ⟨rfl, (), (Option.some.inj hn_2).symm, M_4, (hM_3.trans hM_4), f_59.keep (ks := [2]) (by kernel_rfl), (p_7.dropN 1)⟩
                    · have k_11 : ¬ (x_4.fKind = 0) := iff_f decide_eq_true_iff h_10
                      have hF_21 := cnd_f h_10 hF_19
                      refine wp_skip ?_
                      refine B_n ?_
                      refine T_n ?_
                      refine R_reg ?_
                      obtain ⟨g_3, hF_22⟩ := need_some hF_21
                      refine W_run (L' := [(0, S d0), (3, .slice A_1 x_2.1.length cap_1), (7, .int .i64 y_1), (30, .slice A_1 x_2.1.length cap_1), (31, .int .i64 ((x_2.1.length : Nat) : Int)), (32, .int .i64 s_2.2), (57, .bool (decide (x_4.fKind = 0))), (58, .int .i64 (IntKind.wrap .i64 (s_2.2 + 1)))]) (w' := w_7) f_58 1 [0, 3, 7, 30, 31, 32, 57, 58] (by kernel_rfl) (fun a_42 f_60 => ?_)
                      have f_61 := Frm.set f_60 58 (v := .int .i64 (IntKind.wrap .i64 (s_2.2 + 1))) (v' := .int .i64 (s_2.2 + 1)) (by kernel_rfl) (congrArg (Value.int .i64) (inR_wrap g_3))
                      have f_62 : Frm 108 [(0, S d0), (3, .slice A_1 x_2.1.length cap_1), (7, .int .i64 y_1), (30, .slice A_1 x_2.1.length cap_1), (31, .int .i64 ((x_2.1.length : Nat) : Int)), (32, .int .i64 s_2.2), (57, .bool (decide (x_4.fKind = 0))), (58, .int .i64 (s_2.2 + 1))] a_42 := f_61.keep (ks := [0, 3, 7, 30, 31, 32, 57, 58]) (by kernel_rfl)
                      refine W_run (L' := [(0, S d0), (3, .slice A_1 x_2.1.length cap_1), (7, .int .i64 y_1), (30, .slice A_1 x_2.1.length cap_1), (31, .int .i64 ((x_2.1.length : Nat) : Int)), (32, .int .i64 (s_2.2 + 1))]) (w' := w_7) f_62 1 [0, 3, 7, 30, 31, 32] (by kernel_rfl) (fun a_43 f_63 => ?_)
                      refine W_end rfl ?_
                      refine T_n ?_
                      obtain rfl := Option.some.inj hF_22
                      exact ⟨⟨m_4, (y_1, s_2.2 + 1)⟩, Nat.lt_succ_self _, M_4, (hM_3.trans hM_4), hn_2, f_63.keep (ks := [0, 3, 7, 30, 31, 32]) (by kernel_rfl), (p_7.dropN 1)⟩
                  · have k_12 : ¬ (x_3.fKind = 0) := iff_f decide_eq_true_iff h_8
                    have hF_23 := cnd_f h_8 hF_16
                    have f_64 := Frm.set f_44 49 (v := .bool (decide (x_3.fKind = 0))) (v' := .bool false) (by kernel_rfl) (congrArg Value.bool h_8)
                    have f_65 : Frm 108 [(0, S d0), (3, .slice A_1 x_2.1.length cap_1), (7, .int .i64 y_1), (8, .int .i64 s_2.2), (30, .slice A_1 x_2.1.length cap_1), (31, .int .i64 ((x_2.1.length : Nat) : Int)), (32, .int .i64 s_2.2), (49, .bool false)] a_34 := f_64.keep (ks := [0, 3, 7, 8, 30, 31, 32, 49]) (by kernel_rfl)
                    refine W_run (L' := [(0, S d0), (3, .slice A_1 x_2.1.length cap_1), (7, .int .i64 y_1), (30, .slice A_1 x_2.1.length cap_1), (31, .int .i64 ((x_2.1.length : Nat) : Int)), (32, .int .i64 s_2.2), (57, .bool false)]) (w' := w_7) f_65 8 [0, 3, 7, 30, 31, 32, 57] (by kernel_rfl) (fun a_44 f_66 => ?_)
                    refine W_end rfl ?_
                    refine T_n ?_
                    refine R_cond_f f_66 (by kernel_rfl) (by kernel_rfl) ?_
                    refine wp_skip ?_
                    refine B_n ?_
                    refine T_n ?_
                    refine R_reg ?_
                    obtain ⟨g_4, hF_24⟩ := need_some hF_23
                    refine W_run (L' := [(0, S d0), (3, .slice A_1 x_2.1.length cap_1), (7, .int .i64 y_1), (30, .slice A_1 x_2.1.length cap_1), (31, .int .i64 ((x_2.1.length : Nat) : Int)), (32, .int .i64 s_2.2), (57, .bool false), (58, .int .i64 (IntKind.wrap .i64 (s_2.2 + 1)))]) (w' := w_7) f_66 1 [0, 3, 7, 30, 31, 32, 57, 58] (by kernel_rfl) (fun a_45 f_67 => ?_)
                    have f_68 := Frm.set f_67 58 (v := .int .i64 (IntKind.wrap .i64 (s_2.2 + 1))) (v' := .int .i64 (s_2.2 + 1)) (by kernel_rfl) (congrArg (Value.int .i64) (inR_wrap g_4))
                    have f_69 : Frm 108 [(0, S d0), (3, .slice A_1 x_2.1.length cap_1), (7, .int .i64 y_1), (30, .slice A_1 x_2.1.length cap_1), (31, .int .i64 ((x_2.1.length : Nat) : Int)), (32, .int .i64 s_2.2), (57, .bool false), (58, .int .i64 (s_2.2 + 1))] a_45 := f_68.keep (ks := [0, 3, 7, 30, 31, 32, 57, 58]) (by kernel_rfl)
                    refine W_run (L' := [(0, S d0), (3, .slice A_1 x_2.1.length cap_1), (7, .int .i64 y_1), (30, .slice A_1 x_2.1.length cap_1), (31, .int .i64 ((x_2.1.length : Nat) : Int)), (32, .int .i64 (s_2.2 + 1))]) (w' := w_7) f_69 1 [0, 3, 7, 30, 31, 32] (by kernel_rfl) (fun a_46 f_70 => ?_)
                    refine W_end rfl ?_
                    refine T_n ?_
                    obtain rfl := Option.some.inj hF_24
                    exact ⟨⟨m_4, (y_1, s_2.2 + 1)⟩, Nat.lt_succ_self _, M_4, (hM_3.trans hM_4), hn_2, f_70.keep (ks := [0, 3, 7, 30, 31, 32]) (by kernel_rfl), (p_7.dropN 1)⟩
                · have k_13 : ¬ ((0 : Int) < s_2.2) := iff_f decide_eq_true_iff h_7
                  have hF_25 := cnd_f h_7 hF_12
                  have f_71 := Frm.set f_39 44 (v := .bool (decide ((0 : Int) < s_2.2))) (v' := .bool false) (by kernel_rfl) (congrArg Value.bool h_7)
                  have f_72 : Frm 108 [(0, S d0), (3, .slice A_1 x_2.1.length cap_1), (7, .int .i64 y_1), (8, .int .i64 s_2.2), (9, .pointer (some (⟨b_4, 0, none⟩))), (30, .slice A_1 x_2.1.length cap_1), (31, .int .i64 ((x_2.1.length : Nat) : Int)), (32, .int .i64 s_2.2), (44, .bool false)] a_31 := f_71.keep (ks := [0, 3, 7, 8, 9, 30, 31, 32, 44]) (by kernel_rfl)
                  refine W_run (L' := [(0, S d0), (3, .slice A_1 x_2.1.length cap_1), (7, .int .i64 y_1), (30, .slice A_1 x_2.1.length cap_1), (31, .int .i64 ((x_2.1.length : Nat) : Int)), (32, .int .i64 s_2.2), (57, .bool false)]) (w' := w_7) f_72 13 [0, 3, 7, 30, 31, 32, 57] (by kernel_rfl) (fun a_47 f_73 => ?_)
                  refine W_end rfl ?_
                  refine T_n ?_
                  refine R_cond_f f_73 (by kernel_rfl) (by kernel_rfl) ?_
                  refine wp_skip ?_
                  refine B_n ?_
                  refine T_n ?_
                  refine R_reg ?_
                  obtain ⟨g_5, hF_26⟩ := need_some hF_25
                  refine W_run (L' := [(0, S d0), (3, .slice A_1 x_2.1.length cap_1), (7, .int .i64 y_1), (30, .slice A_1 x_2.1.length cap_1), (31, .int .i64 ((x_2.1.length : Nat) : Int)), (32, .int .i64 s_2.2), (57, .bool false), (58, .int .i64 (IntKind.wrap .i64 (s_2.2 + 1)))]) (w' := w_7) f_73 1 [0, 3, 7, 30, 31, 32, 57, 58] (by kernel_rfl) (fun a_48 f_74 => ?_)
                  have f_75 := Frm.set f_74 58 (v := .int .i64 (IntKind.wrap .i64 (s_2.2 + 1))) (v' := .int .i64 (s_2.2 + 1)) (by kernel_rfl) (congrArg (Value.int .i64) (inR_wrap g_5))
                  have f_76 : Frm 108 [(0, S d0), (3, .slice A_1 x_2.1.length cap_1), (7, .int .i64 y_1), (30, .slice A_1 x_2.1.length cap_1), (31, .int .i64 ((x_2.1.length : Nat) : Int)), (32, .int .i64 s_2.2), (57, .bool false), (58, .int .i64 (s_2.2 + 1))] a_48 := f_75.keep (ks := [0, 3, 7, 30, 31, 32, 57, 58]) (by kernel_rfl)
                  refine W_run (L' := [(0, S d0), (3, .slice A_1 x_2.1.length cap_1), (7, .int .i64 y_1), (30, .slice A_1 x_2.1.length cap_1), (31, .int .i64 ((x_2.1.length : Nat) : Int)), (32, .int .i64 (s_2.2 + 1))]) (w' := w_7) f_76 1 [0, 3, 7, 30, 31, 32] (by kernel_rfl) (fun a_49 f_77 => ?_)
                  refine W_end rfl ?_
                  refine T_n ?_
                  obtain rfl := Option.some.inj hF_26
                  exact ⟨⟨m_4, (y_1, s_2.2 + 1)⟩, Nat.lt_succ_self _, M_4, (hM_3.trans hM_4), hn_2, f_77.keep (ks := [0, 3, 7, 30, 31, 32]) (by kernel_rfl), (p_7.dropN 1)⟩
            · have k_14 : ¬ (s_2.2 < ((x_2.1.length : Nat) : Int)) := iff_f decide_eq_true_iff h_4
              have hF_27 := cnd_f h_4 hs_2
              refine wp_exit ?_
              refine T_x ?_
              refine T_x ?_
              obtain rfl := Option.some.inj hF_27
              exact .inr ⟨rfl, s_2.1, (Option.some.inj hn_2).symm, M_3, hM_3, f_19.keep (ks := [0, 7]) (by kernel_rfl), p_4⟩
          · rintro _ a_52 w_10 (⟨rfl, y_2, rfl, M_5, hM_5, f_78, p_8⟩ | ⟨rfl, y_3, rfl, M_6, hM_6, f_79, p_9⟩)
            · refine B_r ?_
              refine T_r ?_
              refine B_r ?_
              refine T_r ?_
              refine T_r ?_
              obtain rfl := Option.some.inj hF_9
              exact .inl ⟨rfl, (false), (Option.some.inj hn_1).symm, M_5, (hM_2.trans hM_5), f_78.keep (ks := [2]) (by kernel_rfl), p_8⟩
            · refine B_x ?_
              refine T_n ?_
              refine R_seq ?_
              refine R_reg ?_
              refine W_run (L' := [(59, .int .i64 y_3), (60, S d0)]) (w' := w_10) f_79 2 [59, 60] (by kernel_rfl) (fun a_53 f_80 => ?_)
              obtain ⟨x_5, hx_6, hF_28⟩ := bind_some' hF_9
              refine W_okv (v := .int .i64 x_5) f_80 p_9 (by kernel_rfl) (by kernel_rfl) rfl rfl (fun _ => by kernel_rfl) (sub_Holes_ok n _ (GL.mono ((hM_1.trans hM_2).trans hM_6) hG) d0 x_5 hx_6) (fun w_11 p_10 a_54 f_81 => ?_)
              refine W_run (L' := [(63, .bool (decide (y_3 = x_5)))]) (w' := w_11) f_81 2 [63] (by kernel_rfl) (fun a_55 f_82 => ?_)
              rcases Bool.eq_false_or_eq_true (decide (y_3 = x_5)) with h_11 | h_11
              · have k_15 : y_3 = x_5 := decide_eq_true_iff.1 h_11
                have hF_29 := cnd_t h_11 hF_28
                have f_83 := Frm.set f_82 63 (v := .bool (decide (y_3 = x_5))) (v' := .bool true) (by kernel_rfl) (congrArg Value.bool h_11)
                have f_84 : Frm 108 [(63, .bool true)] a_55 := f_83.keep (ks := [63]) (by kernel_rfl)
                obtain ⟨x_6, hx_7, hF_30⟩ := bind_some' hF_29
                refine W_okv (v := .bool x_6) f_84 p_10 (by kernel_rfl) (by kernel_rfl) rfl rfl (fun _ => by kernel_rfl) (law12_wakes_ok n _ (GL.mono ((hM_1.trans hM_2).trans hM_6) hG) x_6 hx_7) (fun w_12 p_11 a_56 f_85 => ?_)
                refine W_run (L' := [(2, .bool x_6)]) (w' := w_12) f_85 2 [2] (by kernel_rfl) (fun a_57 f_86 => ?_)
                refine W_end rfl ?_
                refine T_n ?_
                refine wp_ret ?_
                refine B_r ?_
                refine T_r ?_
                refine T_r ?_
                obtain rfl := Option.some.inj hF_30
                exact .inl ⟨rfl, (x_6), (Option.some.inj hn_1).symm, M_6, (hM_2.trans hM_6), f_86.keep (ks := [2]) (by kernel_rfl), p_11⟩
              · have k_16 : ¬ (y_3 = x_5) := iff_f decide_eq_true_iff h_11
                have hF_31 := cnd_f h_11 hF_28
                have f_87 := Frm.set f_82 63 (v := .bool (decide (y_3 = x_5))) (v' := .bool false) (by kernel_rfl) (congrArg Value.bool h_11)
                have f_88 : Frm 108 [(63, .bool false)] a_55 := f_87.keep (ks := [63]) (by kernel_rfl)
                refine W_run (L' := [(2, .bool false)]) (w' := w_11) f_88 3 [2] (by kernel_rfl) (fun a_58 f_89 => ?_)
                refine W_end rfl ?_
                refine T_n ?_
                refine wp_ret ?_
                refine B_r ?_
                refine T_r ?_
                refine T_r ?_
                obtain rfl := Option.some.inj hF_31
                exact .inl ⟨rfl, (false), (Option.some.inj hn_1).symm, M_6, (hM_2.trans hM_6), f_89.keep (ks := [2]) (by kernel_rfl), p_10⟩
        · have k_17 : ¬ (((c_1).toNat : Int) = 36) := iff_f decide_eq_true_iff h_3
          have hF_32 := cnd_f h_3 hF_7
          refine wp_skip ?_
          refine B_n ?_
          refine T_n ?_
          refine R_reg ?_
          refine W_run (L' := [(0, S d0), (3, .slice A_1 x_2.1.length cap_1), (5, .int .i64 x_2.2.2), (24, .int .i64 s_1)]) (w' := w_3) f_15 1 [0, 3, 5, 24] (by kernel_rfl) (fun a_59 f_90 => ?_)
          obtain ⟨g_6, hF_33⟩ := need_some hF_32
          refine W_run (L' := [(0, S d0), (3, .slice A_1 x_2.1.length cap_1), (5, .int .i64 x_2.2.2), (24, .int .i64 s_1), (25, .int .i64 (IntKind.wrap .i64 (s_1 + 1)))]) (w' := w_3) f_90 1 [0, 3, 5, 24, 25] (by kernel_rfl) (fun a_60 f_91 => ?_)
          have f_92 := Frm.set f_91 25 (v := .int .i64 (IntKind.wrap .i64 (s_1 + 1))) (v' := .int .i64 (s_1 + 1)) (by kernel_rfl) (congrArg (Value.int .i64) (inR_wrap g_6))
          have f_93 : Frm 108 [(0, S d0), (3, .slice A_1 x_2.1.length cap_1), (5, .int .i64 x_2.2.2), (24, .int .i64 s_1), (25, .int .i64 (s_1 + 1))] a_60 := f_92.keep (ks := [0, 3, 5, 24, 25]) (by kernel_rfl)
          refine W_run (L' := [(0, S d0), (3, .slice A_1 x_2.1.length cap_1), (5, .int .i64 x_2.2.2), (6, .int .i64 (s_1 + 1))]) (w' := w_3) f_93 1 [0, 3, 5, 6] (by kernel_rfl) (fun a_61 f_94 => ?_)
          refine W_end rfl ?_
          refine T_n ?_
          obtain rfl := Option.some.inj hF_33
          exact ⟨⟨m_2, s_1 + 1⟩, Nat.lt_succ_self _, M_2, hM_2, hn_1, f_94.keep (ks := [0, 3, 5, 6]) (by kernel_rfl), p_3⟩
      · have k_18 : ¬ (s_1 < (d0.length : Int)) := iff_f decide_eq_true_iff h_2
        have hF_34 := cnd_f h_2 hs_1
        refine wp_exit ?_
        refine T_x ?_
        refine T_x ?_
        obtain rfl := Option.some.inj hF_34
        exact .inr ⟨rfl, (), (Option.some.inj hn_1).symm, M_2, hM_2, f_10.keep (ks := [0, 3, 5]) (by kernel_rfl), p_3⟩
    · rintro _ a_64 w_15 (⟨rfl, y_4, rfl, M_7, hM_7, f_95, p_12⟩ | ⟨rfl, y_5, rfl, M_8, hM_8, f_96, p_13⟩)
      · refine B_r ?_
        refine T_r ?_
        refine E_ret1 f_95 rfl (by kernel_rfl : Vc.look _ 2 = some (.bool y_4)) ?_
        obtain rfl := Option.some.inj hF_5
        exact ⟨_, rfl, M_7, (hM_1.trans hM_7), (p_12.dropN 1), rfl⟩
      · refine B_x ?_
        refine T_n ?_
        refine R_seq ?_
        refine R_seq ?_
        refine R_reg ?_
        refine W_run (L' := [(0, S d0), (3, .slice A_1 x_2.1.length cap_1), (5, .int .i64 x_2.2.2), (67, .bool (!(decide (x_2.2.2 = 0))))]) (w' := w_15) f_96 2 [0, 3, 5, 67] (by kernel_rfl) (fun a_65 f_97 => ?_)
        refine W_end rfl ?_
        refine T_n ?_
        refine R_cond f_97 (b := !(decide (x_2.2.2 = 0))) (by kernel_rfl) (by kernel_rfl) (fun h_12 => ?_) (fun h_12 => ?_)
        · have k_19 : ¬ (x_2.2.2 = 0) := (not_iff decide_eq_true_iff).1 h_12
          have hF_35 := cnd_t h_12 hF_5
          refine R_seq ?_
          obtain ⟨j_2, hj_2, hF_36⟩ := bind_some' hF_35
          refine R_mid (fun a_70 w_17 => ∃ y_6 : Bool, j_2 = y_6 ∧ ∃ M_9 : Mem, M_8.le M_9 ∧ Frm 108 [(2, .bool y_6)] a_70 ∧ Hp w0 M_9 ((Ent.row 29 6 (.slice A_1 x_2.1.length cap_1) x_2.1.length cs_1) :: H) w_17) ?_ ?_
          · refine R_reg ?_
            refine W_run (L' := [(70, .bool (decide (x_2.2.2 = 10)))]) (w' := w_15) f_97 3 [70] (by kernel_rfl) (fun a_66 f_98 => ?_)
            rcases Bool.eq_false_or_eq_true (decide (x_2.2.2 = 10)) with h_13 | h_13
            · have k_20 : x_2.2.2 = 10 := decide_eq_true_iff.1 h_13
              have hF_37 := cnd_t h_13 hj_2
              have f_99 := Frm.set f_98 70 (v := .bool (decide (x_2.2.2 = 10))) (v' := .bool true) (by kernel_rfl) (congrArg Value.bool h_13)
              have f_100 : Frm 108 [(70, .bool true)] a_66 := f_99.keep (ks := [70]) (by kernel_rfl)
              obtain ⟨x_7, hx_8, hF_38⟩ := bind_some' hF_37
              refine W_okv (v := .bool x_7) f_100 p_13 (by kernel_rfl) (by kernel_rfl) rfl rfl (fun _ => by kernel_rfl) (law12_wakes_ok n _ (GL.mono (hM_1.trans hM_8) hG) x_7 hx_8) (fun w_16 p_14 a_67 f_101 => ?_)
              refine W_run (L' := [(2, .bool x_7)]) (w' := w_16) f_101 2 [2] (by kernel_rfl) (fun a_68 f_102 => ?_)
              refine W_end rfl ?_
              refine T_n ?_
              exact ⟨(x_7), (Option.some.inj hF_38).symm, M_8, (Mem.le_refl _), f_102.keep (ks := [2]) (by kernel_rfl), p_14⟩
            · have k_21 : ¬ (x_2.2.2 = 10) := iff_f decide_eq_true_iff h_13
              have hF_39 := cnd_f h_13 hj_2
              have f_103 := Frm.set f_98 70 (v := .bool (decide (x_2.2.2 = 10))) (v' := .bool false) (by kernel_rfl) (congrArg Value.bool h_13)
              have f_104 : Frm 108 [(70, .bool false)] a_66 := f_103.keep (ks := [70]) (by kernel_rfl)
              refine W_run (L' := [(2, .bool false)]) (w' := w_15) f_104 3 [2] (by kernel_rfl) (fun a_69 f_105 => ?_)
              refine W_end rfl ?_
              refine T_n ?_
              exact ⟨(false), (Option.some.inj hF_39).symm, M_8, (Mem.le_refl _), f_105.keep (ks := [2]) (by kernel_rfl), p_13⟩
          · rintro a_70 w_17 ⟨y_6, hq_2, M_9, hM_9, f_106, p_15⟩
            subst j_2
            refine T_n ?_
            refine wp_ret ?_
            refine T_r ?_
            refine E_ret1 f_106 rfl (by kernel_rfl : Vc.look _ 2 = some (.bool y_6)) ?_
            obtain rfl := Option.some.inj hF_36
            exact ⟨_, rfl, M_9, ((hM_1.trans hM_8).trans hM_9), (p_15.dropN 1), rfl⟩
        · have k_22 : ¬ (¬ (x_2.2.2 = 0)) := iff_f (not_iff decide_eq_true_iff) h_12
          have hF_40 := cnd_f h_12 hF_5
          refine wp_skip ?_
          refine T_n ?_
          refine R_seq ?_
          refine R_reg ?_
          refine W_run (L' := [(0, S d0), (3, .slice A_1 x_2.1.length cap_1), (73, S d0)]) (w' := w_15) f_97 1 [0, 3, 73] (by kernel_rfl) (fun a_71 f_107 => ?_)
          refine W_eq (v := .bool (decide (d0 = []))) f_107 (by kernel_rfl) (by kernel_rfl) rfl rfl (X_streq rfl (l := d0) (m := []) (by kernel_rfl) (by kernel_rfl)) (fun a_72 f_108 => ?_)
          refine W_run (L' := [(0, S d0), (3, .slice A_1 x_2.1.length cap_1), (75, .bool (decide (d0 = [])))]) (w' := w_15) f_108 1 [0, 3, 75] (by kernel_rfl) (fun a_73 f_109 => ?_)
          rcases Bool.eq_false_or_eq_true (decide (d0 = [])) with h_14 | h_14
          · have k_23 : d0 = [] := decide_eq_true_iff.1 h_14
            have hF_41 := cnd_t h_14 hF_40
            have f_110 := Frm.set f_109 75 (v := .bool (decide (d0 = []))) (v' := .bool true) (by kernel_rfl) (congrArg Value.bool h_14)
            have f_111 : Frm 108 [(0, S d0), (3, .slice A_1 x_2.1.length cap_1), (75, .bool true)] a_73 := f_110.keep (ks := [0, 3, 75]) (by kernel_rfl)
            refine W_run (L' := [(0, S d0), (3, .slice A_1 x_2.1.length cap_1), (80, .bool (decide (((x_2.1.length : Nat) : Int) = 0)))]) (w' := w_15) f_111 5 [0, 3, 80] (by kernel_rfl) (fun a_74 f_112 => ?_)
            rcases Bool.eq_false_or_eq_true (decide (((x_2.1.length : Nat) : Int) = 0)) with h_15 | h_15
            · have k_24 : ((x_2.1.length : Nat) : Int) = 0 := decide_eq_true_iff.1 h_15
              have hF_42 := cnd_t h_15 hF_41
              have f_113 := Frm.set f_112 80 (v := .bool (decide (((x_2.1.length : Nat) : Int) = 0))) (v' := .bool true) (by kernel_rfl) (congrArg Value.bool h_15)
              have f_114 : Frm 108 [(0, S d0), (3, .slice A_1 x_2.1.length cap_1), (80, .bool true)] a_74 := f_113.keep (ks := [0, 3, 80]) (by kernel_rfl)
              refine W_run (L' := [(100, .bool true), (101, S d0)]) (w' := w_15) f_114 21 [100, 101] (by kernel_rfl) (fun a_75 f_115 => ?_)
              obtain ⟨x_8, hx_9, hF_43⟩ := bind_some' hF_42
              refine W_okv (v := .int .i64 x_8) f_115 p_13 (by kernel_rfl) (by kernel_rfl) rfl rfl (fun _ => by kernel_rfl) (sub_Holes_ok n _ (GL.mono (hM_1.trans hM_8) hG) d0 x_8 hx_9) (fun w_18 p_16 a_76 f_116 => ?_)
              refine W_run (L' := [(105, .bool (decide (x_8 = 0)))]) (w' := w_18) f_116 3 [105] (by kernel_rfl) (fun a_77 f_117 => ?_)
              rcases Bool.eq_false_or_eq_true (decide (x_8 = 0)) with h_16 | h_16
              · have k_25 : x_8 = 0 := decide_eq_true_iff.1 h_16
                have hF_44 := cnd_t h_16 hF_43
                have f_118 := Frm.set f_117 105 (v := .bool (decide (x_8 = 0))) (v' := .bool true) (by kernel_rfl) (congrArg Value.bool h_16)
                have f_119 : Frm 108 [(105, .bool true)] a_77 := f_118.keep (ks := [105]) (by kernel_rfl)
                obtain ⟨x_9, hx_10, hF_45⟩ := bind_some' hF_44
                refine W_okv (v := .bool x_9) f_119 p_16 (by kernel_rfl) (by kernel_rfl) rfl rfl (fun _ => by kernel_rfl) (law12_wakes_ok n _ (GL.mono (hM_1.trans hM_8) hG) x_9 hx_10) (fun w_19 p_17 a_78 f_120 => ?_)
                refine W_run (L' := [(2, .bool x_9)]) (w' := w_19) f_120 2 [2] (by kernel_rfl) (fun a_79 f_121 => ?_)
                refine W_end rfl ?_
                refine T_n ?_
                refine wp_ret ?_
                refine E_ret1 f_121 rfl (by kernel_rfl : Vc.look _ 2 = some (.bool x_9)) ?_
                obtain rfl := Option.some.inj hF_45
                exact ⟨_, rfl, M_8, (hM_1.trans hM_8), (p_17.dropN 1), rfl⟩
              · have k_26 : ¬ (x_8 = 0) := iff_f decide_eq_true_iff h_16
                have hF_46 := cnd_f h_16 hF_43
                have f_122 := Frm.set f_117 105 (v := .bool (decide (x_8 = 0))) (v' := .bool false) (by kernel_rfl) (congrArg Value.bool h_16)
                have f_123 : Frm 108 [(105, .bool false)] a_77 := f_122.keep (ks := [105]) (by kernel_rfl)
                refine W_run (L' := [(2, .bool false)]) (w' := w_18) f_123 3 [2] (by kernel_rfl) (fun a_80 f_124 => ?_)
                refine W_end rfl ?_
                refine T_n ?_
                refine wp_ret ?_
                refine E_ret1 f_124 rfl (by kernel_rfl : Vc.look _ 2 = some (.bool false)) ?_
                obtain rfl := Option.some.inj hF_46
                exact ⟨_, rfl, M_8, (hM_1.trans hM_8), (p_16.dropN 1), rfl⟩
            · have k_27 : ¬ (((x_2.1.length : Nat) : Int) = 0) := iff_f decide_eq_true_iff h_15
              have hF_47 := cnd_f h_15 hF_41
              have f_125 := Frm.set f_112 80 (v := .bool (decide (((x_2.1.length : Nat) : Int) = 0))) (v' := .bool false) (by kernel_rfl) (congrArg Value.bool h_15)
              have f_126 : Frm 108 [(0, S d0), (3, .slice A_1 x_2.1.length cap_1), (80, .bool false)] a_74 := f_125.keep (ks := [0, 3, 80]) (by kernel_rfl)
              refine W_run (L' := [(0, S d0), (3, .slice A_1 x_2.1.length cap_1), (80, .bool false), (84, .bool (decide (((x_2.1.length : Nat) : Int) = 1)))]) (w' := w_15) f_126 4 [0, 3, 80, 84] (by kernel_rfl) (fun a_81 f_127 => ?_)
              rcases Bool.eq_false_or_eq_true (decide (((x_2.1.length : Nat) : Int) = 1)) with h_17 | h_17
              · have k_28 : ((x_2.1.length : Nat) : Int) = 1 := decide_eq_true_iff.1 h_17
                have hF_48 := cnd_t h_17 hF_47
                have f_128 := Frm.set f_127 84 (v := .bool (decide (((x_2.1.length : Nat) : Int) = 1))) (v' := .bool true) (by kernel_rfl) (congrArg Value.bool h_17)
                have f_129 : Frm 108 [(0, S d0), (3, .slice A_1 x_2.1.length cap_1), (80, .bool false), (84, .bool true)] a_81 := f_128.keep (ks := [0, 3, 80, 84]) (by kernel_rfl)
                refine W_run (L' := [(0, S d0), (3, .slice A_1 x_2.1.length cap_1), (80, .bool false), (84, .bool true), (85, .slice A_1 x_2.1.length cap_1)]) (w' := w_15) f_129 1 [0, 3, 80, 84, 85] (by kernel_rfl) (fun a_82 f_130 => ?_)
                obtain ⟨x_10, hx_11, hF_49⟩ := bind_some' hF_48
                obtain ⟨b_6, cap_6, hv_3, hcap_3⟩ := p_13.rowAddr 0 rfl (getI_pos hx_11)
                have f_131 := Frm.set f_130 85 (v := .slice A_1 x_2.1.length cap_1) (v' := .slice (some ⟨b_6, 0, none⟩) x_2.1.length cap_6) (by kernel_rfl) (hv_3)
                have f_132 : Frm 108 [(0, S d0), (3, .slice A_1 x_2.1.length cap_1), (80, .bool false), (84, .bool true), (85, .slice (some ⟨b_6, 0, none⟩) x_2.1.length cap_6)] a_82 := f_131.keep (ks := [0, 3, 80, 84, 85]) (by kernel_rfl)
                refine W_eq (v := .pointer (some ((⟨b_6, 0, none⟩ : Addr).add ((0 : Int).toNat * 6)))) f_132 (by kernel_rfl) (by kernel_rfl) rfl rfl (X_indexAddr rfl (ad := ⟨b_6, 0, none⟩) (len := x_2.1.length) (cap := cap_6) (k := .i64) (i := (0 : Int)) (by kernel_rfl) (by kernel_rfl) (e := 29) (by kernel_rfl) (sz := 6) (by kernel_rfl) (getI_nn hx_11) (getI_lt hx_11)) (fun a_83 f_133 => ?_)
                have f_134 := Frm.set f_133 85 (v := .slice (some ⟨b_6, 0, none⟩) x_2.1.length cap_6) (v' := .slice A_1 x_2.1.length cap_1) (by kernel_rfl) (hv_3.symm)
                have f_135 : Frm 108 [(0, S d0), (3, .slice A_1 x_2.1.length cap_1), (80, .bool false), (84, .bool true), (85, .slice A_1 x_2.1.length cap_1), (86, .pointer (some ((⟨b_6, 0, none⟩ : Addr).add ((0 : Int).toNat * 6))))] a_83 := f_134.keep (ks := [0, 3, 80, 84, 85, 86]) (by kernel_rfl)
                refine W_run (L' := [(0, S d0), (3, .slice A_1 x_2.1.length cap_1), (80, .bool false), (84, .bool true), (87, .pointer (some (((⟨b_6, 0, none⟩ : Addr).add ((0 : Int).toNat * 6)).add 0)))]) (w' := w_15) f_135 1 [0, 3, 80, 84, 87] (by kernel_rfl) (fun a_84 f_136 => ?_)
                obtain ⟨c_4, hl_3, hr_4, hc_3⟩ := RepSeq.get (0 : Int).toNat (szd_all szd_T_api_Expr) (RepSeq.mono hM_8 _ _ hr_1) (getI_map hx_11)
                clear hl_3
                obtain ⟨A_4, cap_7, rfl, h_18⟩ := T_api_Expr.opn hr_4
                refine W_eq (v := .int .i8 x_10.fKind) f_136 (by kernel_rfl) (by kernel_rfl) rfl rfl (X_load1 (v := .int .i8 x_10.fKind) rfl (ad := ((⟨b_6, 0, none⟩ : Addr).add ((0 : Int).toNat * 6)).add 0) (by kernel_rfl) (by kernel_rfl) ((fun j v h => row_at (p_13.rowCell 0 rfl hv_3) hc_3 j v h) 0 _ rfl)) (fun a_85 f_137 => ?_)
                refine W_run (L' := [(0, S d0), (3, .slice A_1 x_2.1.length cap_1), (80, .bool false), (91, .bool (decide (x_10.fKind = 0)))]) (w' := w_15) f_137 3 [0, 3, 80, 91] (by kernel_rfl) (fun a_86 f_138 => ?_)
                rcases Bool.eq_false_or_eq_true (decide (x_10.fKind = 0)) with h_19 | h_19
                · have k_29 : x_10.fKind = 0 := decide_eq_true_iff.1 h_19
                  have hF_50 := cnd_t h_19 hF_49
                  have f_139 := Frm.set f_138 91 (v := .bool (decide (x_10.fKind = 0))) (v' := .bool true) (by kernel_rfl) (congrArg Value.bool h_19)
                  have f_140 : Frm 108 [(0, S d0), (3, .slice A_1 x_2.1.length cap_1), (80, .bool false), (91, .bool true)] a_86 := f_139.keep (ks := [0, 3, 80, 91]) (by kernel_rfl)
                  refine W_run (L' := [(0, S d0), (80, .bool false), (91, .bool true), (92, .slice A_1 x_2.1.length cap_1)]) (w' := w_15) f_140 1 [0, 80, 91, 92] (by kernel_rfl) (fun a_87 f_141 => ?_)
                  obtain ⟨x_11, hx_12, hF_51⟩ := bind_some' hF_50
                  obtain ⟨b_7, cap_8, hv_4, hcap_4⟩ := p_13.rowAddr 0 rfl (getI_pos hx_12)
                  have f_142 := Frm.set f_141 92 (v := .slice A_1 x_2.1.length cap_1) (v' := .slice (some ⟨b_7, 0, none⟩) x_2.1.length cap_8) (by kernel_rfl) (hv_4)
                  have f_143 : Frm 108 [(0, S d0), (80, .bool false), (91, .bool true), (92, .slice (some ⟨b_7, 0, none⟩) x_2.1.length cap_8)] a_87 := f_142.keep (ks := [0, 80, 91, 92]) (by kernel_rfl)
                  refine W_eq (v := .pointer (some ((⟨b_7, 0, none⟩ : Addr).add ((0 : Int).toNat * 6)))) f_143 (by kernel_rfl) (by kernel_rfl) rfl rfl (X_indexAddr rfl (ad := ⟨b_7, 0, none⟩) (len := x_2.1.length) (cap := cap_8) (k := .i64) (i := (0 : Int)) (by kernel_rfl) (by kernel_rfl) (e := 29) (by kernel_rfl) (sz := 6) (by kernel_rfl) (getI_nn hx_12) (getI_lt hx_12)) (fun a_88 f_144 => ?_)
                  have f_145 := Frm.set f_144 92 (v := .slice (some ⟨b_7, 0, none⟩) x_2.1.length cap_8) (v' := .slice A_1 x_2.1.length cap_1) (by kernel_rfl) (hv_4.symm)
                  have f_146 : Frm 108 [(0, S d0), (80, .bool false), (91, .bool true), (92, .slice A_1 x_2.1.length cap_1), (93, .pointer (some ((⟨b_7, 0, none⟩ : Addr).add ((0 : Int).toNat * 6))))] a_88 := f_145.keep (ks := [0, 80, 91, 92, 93]) (by kernel_rfl)
                  refine W_run (L' := [(0, S d0), (80, .bool false), (91, .bool true), (94, .pointer (some (((⟨b_7, 0, none⟩ : Addr).add ((0 : Int).toNat * 6)).add 1)))]) (w' := w_15) f_146 1 [0, 80, 91, 94] (by kernel_rfl) (fun a_89 f_147 => ?_)
                  obtain ⟨c_5, hl_4, hr_5, hc_4⟩ := RepSeq.get (0 : Int).toNat (szd_all szd_T_api_Expr) (RepSeq.mono hM_8 _ _ hr_1) (getI_map hx_12)
                  clear hl_4
                  obtain ⟨A_5, cap_9, rfl, h_20⟩ := T_api_Expr.opn hr_5
                  refine W_eq (v := S x_11.fText) f_147 (by kernel_rfl) (by kernel_rfl) rfl rfl (X_load1 (v := S x_11.fText) rfl (ad := ((⟨b_7, 0, none⟩ : Addr).add ((0 : Int).toNat * 6)).add 1) (by kernel_rfl) (by kernel_rfl) ((fun j v h => row_at (p_13.rowCell 0 rfl hv_4) hc_4 j v h) 1 _ rfl)) (fun a_90 f_148 => ?_)
                  refine W_run (L' := [(0, S d0), (80, .bool false), (91, .bool true), (95, S x_11.fText), (96, S d0)]) (w' := w_15) f_148 1 [0, 80, 91, 95, 96] (by kernel_rfl) (fun a_91 f_149 => ?_)
                  refine W_eq (v := .bool (decide (x_11.fText = d0))) f_149 (by kernel_rfl) (by kernel_rfl) rfl rfl (X_streq rfl (l := x_11.fText) (m := d0) (by kernel_rfl) (by kernel_rfl)) (fun a_92 f_150 => ?_)
                  refine W_run (L' := [(0, S d0), (100, .bool (decide (x_11.fText = d0)))]) (w' := w_15) f_150 3 [0, 100] (by kernel_rfl) (fun a_93 f_151 => ?_)
                  rcases Bool.eq_false_or_eq_true (decide (x_11.fText = d0)) with h_21 | h_21
                  · have k_30 : x_11.fText = d0 := decide_eq_true_iff.1 h_21
                    have hF_52 := cnd_t h_21 hF_51
                    have f_152 := Frm.set f_151 100 (v := .bool (decide (x_11.fText = d0))) (v' := .bool true) (by kernel_rfl) (congrArg Value.bool h_21)
                    have f_153 : Frm 108 [(0, S d0), (100, .bool true)] a_93 := f_152.keep (ks := [0, 100]) (by kernel_rfl)
                    refine W_run (L' := [(100, .bool true), (101, S d0)]) (w' := w_15) f_153 1 [100, 101] (by kernel_rfl) (fun a_94 f_154 => ?_)
                    obtain ⟨x_12, hx_13, hF_53⟩ := bind_some' hF_52
                    refine W_okv (v := .int .i64 x_12) f_154 p_13 (by kernel_rfl) (by kernel_rfl) rfl rfl (fun _ => by kernel_rfl) (sub_Holes_ok n _ (GL.mono (hM_1.trans hM_8) hG) d0 x_12 hx_13) (fun w_20 p_18 a_95 f_155 => ?_)
                    refine W_run (L' := [(105, .bool (decide (x_12 = 0)))]) (w' := w_20) f_155 3 [105] (by kernel_rfl) (fun a_96 f_156 => ?_)
                    rcases Bool.eq_false_or_eq_true (decide (x_12 = 0)) with h_22 | h_22
                    · have k_31 : x_12 = 0 := decide_eq_true_iff.1 h_22
                      have hF_54 := cnd_t h_22 hF_53
                      have f_157 := Frm.set f_156 105 (v := .bool (decide (x_12 = 0))) (v' := .bool true) (by kernel_rfl) (congrArg Value.bool h_22)
                      have f_158 : Frm 108 [(105, .bool true)] a_96 := f_157.keep (ks := [105]) (by kernel_rfl)
                      obtain ⟨x_13, hx_14, hF_55⟩ := bind_some' hF_54
                      refine W_okv (v := .bool x_13) f_158 p_18 (by kernel_rfl) (by kernel_rfl) rfl rfl (fun _ => by kernel_rfl) (law12_wakes_ok n _ (GL.mono (hM_1.trans hM_8) hG) x_13 hx_14) (fun w_21 p_19 a_97 f_159 => ?_)
                      refine W_run (L' := [(2, .bool x_13)]) (w' := w_21) f_159 2 [2] (by kernel_rfl) (fun a_98 f_160 => ?_)
                      refine W_end rfl ?_
                      refine T_n ?_
                      refine wp_ret ?_
                      refine E_ret1 f_160 rfl (by kernel_rfl : Vc.look _ 2 = some (.bool x_13)) ?_
                      obtain rfl := Option.some.inj hF_55
                      exact ⟨_, rfl, M_8, (hM_1.trans hM_8), (p_19.dropN 1), rfl⟩
                    · have k_32 : ¬ (x_12 = 0) := iff_f decide_eq_true_iff h_22
                      have hF_56 := cnd_f h_22 hF_53
                      have f_161 := Frm.set f_156 105 (v := .bool (decide (x_12 = 0))) (v' := .bool false) (by kernel_rfl) (congrArg Value.bool h_22)
                      have f_162 : Frm 108 [(105, .bool false)] a_96 := f_161.keep (ks := [105]) (by kernel_rfl)
                      refine W_run (L' := [(2, .bool false)]) (w' := w_20) f_162 3 [2] (by kernel_rfl) (fun a_99 f_163 => ?_)
                      refine W_end rfl ?_
                      refine T_n ?_
                      refine wp_ret ?_
                      refine E_ret1 f_163 rfl (by kernel_rfl : Vc.look _ 2 = some (.bool false)) ?_
                      obtain rfl := Option.some.inj hF_56
                      exact ⟨_, rfl, M_8, (hM_1.trans hM_8), (p_18.dropN 1), rfl⟩
                  · have k_33 : ¬ (x_11.fText = d0) := iff_f decide_eq_true_iff h_21
                    have hF_57 := cnd_f h_21 hF_51
                    have f_164 := Frm.set f_151 100 (v := .bool (decide (x_11.fText = d0))) (v' := .bool false) (by kernel_rfl) (congrArg Value.bool h_21)
                    have f_165 : Frm 108 [(0, S d0), (100, .bool false)] a_93 := f_164.keep (ks := [0, 100]) (by kernel_rfl)
                    refine W_run (L' := [(2, .bool false)]) (w' := w_15) f_165 8 [2] (by kernel_rfl) (fun a_100 f_166 => ?_)
                    refine W_end rfl ?_
                    refine T_n ?_
                    refine wp_ret ?_
                    refine E_ret1 f_166 rfl (by kernel_rfl : Vc.look _ 2 = some (.bool false)) ?_
                    obtain rfl := Option.some.inj hF_57
                    exact ⟨_, rfl, M_8, (hM_1.trans hM_8), (p_13.dropN 1), rfl⟩
                · have k_34 : ¬ (x_10.fKind = 0) := iff_f decide_eq_true_iff h_19
                  have hF_58 := cnd_f h_19 hF_49
                  have f_167 := Frm.set f_138 91 (v := .bool (decide (x_10.fKind = 0))) (v' := .bool false) (by kernel_rfl) (congrArg Value.bool h_19)
                  have f_168 : Frm 108 [(0, S d0), (3, .slice A_1 x_2.1.length cap_1), (80, .bool false), (91, .bool false)] a_86 := f_167.keep (ks := [0, 3, 80, 91]) (by kernel_rfl)
                  refine W_run (L' := [(2, .bool false)]) (w' := w_15) f_168 17 [2] (by kernel_rfl) (fun a_101 f_169 => ?_)
                  refine W_end rfl ?_
                  refine T_n ?_
                  refine wp_ret ?_
                  refine E_ret1 f_169 rfl (by kernel_rfl : Vc.look _ 2 = some (.bool false)) ?_
                  obtain rfl := Option.some.inj hF_58
                  exact ⟨_, rfl, M_8, (hM_1.trans hM_8), (p_13.dropN 1), rfl⟩
              · have k_35 : ¬ (((x_2.1.length : Nat) : Int) = 1) := iff_f decide_eq_true_iff h_17
                have hF_59 := cnd_f h_17 hF_47
                have f_170 := Frm.set f_127 84 (v := .bool (decide (((x_2.1.length : Nat) : Int) = 1))) (v' := .bool false) (by kernel_rfl) (congrArg Value.bool h_17)
                have f_171 : Frm 108 [(0, S d0), (3, .slice A_1 x_2.1.length cap_1), (80, .bool false), (84, .bool false)] a_81 := f_170.keep (ks := [0, 3, 80, 84]) (by kernel_rfl)
                refine W_run (L' := [(2, .bool false)]) (w' := w_15) f_171 24 [2] (by kernel_rfl) (fun a_102 f_172 => ?_)
                refine W_end rfl ?_
                refine T_n ?_
                refine wp_ret ?_
                refine E_ret1 f_172 rfl (by kernel_rfl : Vc.look _ 2 = some (.bool false)) ?_
                obtain rfl := Option.some.inj hF_59
                exact ⟨_, rfl, M_8, (hM_1.trans hM_8), (p_13.dropN 1), rfl⟩
          · have k_36 : ¬ (d0 = []) := iff_f decide_eq_true_iff h_14
            have hF_60 := cnd_f h_14 hF_40
            have f_173 := Frm.set f_109 75 (v := .bool (decide (d0 = []))) (v' := .bool false) (by kernel_rfl) (congrArg Value.bool h_14)
            have f_174 : Frm 108 [(0, S d0), (3, .slice A_1 x_2.1.length cap_1), (75, .bool false)] a_73 := f_173.keep (ks := [0, 3, 75]) (by kernel_rfl)
            refine W_run (L' := [(0, S d0), (3, .slice A_1 x_2.1.length cap_1), (80, .bool false), (84, .bool (decide (((x_2.1.length : Nat) : Int) = 1)))]) (w' := w_15) f_174 9 [0, 3, 80, 84] (by kernel_rfl) (fun a_103 f_175 => ?_)
            rcases Bool.eq_false_or_eq_true (decide (((x_2.1.length : Nat) : Int) = 1)) with h_23 | h_23
            · have k_37 : ((x_2.1.length : Nat) : Int) = 1 := decide_eq_true_iff.1 h_23
              have hF_61 := cnd_t h_23 hF_60
              have f_176 := Frm.set f_175 84 (v := .bool (decide (((x_2.1.length : Nat) : Int) = 1))) (v' := .bool true) (by kernel_rfl) (congrArg Value.bool h_23)
              have f_177 : Frm 108 [(0, S d0), (3, .slice A_1 x_2.1.length cap_1), (80, .bool false), (84, .bool true)] a_103 := f_176.keep (ks := [0, 3, 80, 84]) (by kernel_rfl)
              refine W_run (L' := [(0, S d0), (3, .slice A_1 x_2.1.length cap_1), (80, .bool false), (84, .bool true), (85, .slice A_1 x_2.1.length cap_1)]) (w' := w_15) f_177 1 [0, 3, 80, 84, 85] (by kernel_rfl) (fun a_104 f_178 => ?_)
              obtain ⟨x_14, hx_15, hF_62⟩ := bind_some' hF_61
              obtain ⟨b_8, cap_10, hv_5, hcap_5⟩ := p_13.rowAddr 0 rfl (getI_pos hx_15)
              have f_179 := Frm.set f_178 85 (v := .slice A_1 x_2.1.length cap_1) (v' := .slice (some ⟨b_8, 0, none⟩) x_2.1.length cap_10) (by kernel_rfl) (hv_5)
              have f_180 : Frm 108 [(0, S d0), (3, .slice A_1 x_2.1.length cap_1), (80, .bool false), (84, .bool true), (85, .slice (some ⟨b_8, 0, none⟩) x_2.1.length cap_10)] a_104 := f_179.keep (ks := [0, 3, 80, 84, 85]) (by kernel_rfl)
              refine W_eq (v := .pointer (some ((⟨b_8, 0, none⟩ : Addr).add ((0 : Int).toNat * 6)))) f_180 (by kernel_rfl) (by kernel_rfl) rfl rfl (X_indexAddr rfl (ad := ⟨b_8, 0, none⟩) (len := x_2.1.length) (cap := cap_10) (k := .i64) (i := (0 : Int)) (by kernel_rfl) (by kernel_rfl) (e := 29) (by kernel_rfl) (sz := 6) (by kernel_rfl) (getI_nn hx_15) (getI_lt hx_15)) (fun a_105 f_181 => ?_)
              have f_182 := Frm.set f_181 85 (v := .slice (some ⟨b_8, 0, none⟩) x_2.1.length cap_10) (v' := .slice A_1 x_2.1.length cap_1) (by kernel_rfl) (hv_5.symm)
              have f_183 : Frm 108 [(0, S d0), (3, .slice A_1 x_2.1.length cap_1), (80, .bool false), (84, .bool true), (85, .slice A_1 x_2.1.length cap_1), (86, .pointer (some ((⟨b_8, 0, none⟩ : Addr).add ((0 : Int).toNat * 6))))] a_105 := f_182.keep (ks := [0, 3, 80, 84, 85, 86]) (by kernel_rfl)
              refine W_run (L' := [(0, S d0), (3, .slice A_1 x_2.1.length cap_1), (80, .bool false), (84, .bool true), (87, .pointer (some (((⟨b_8, 0, none⟩ : Addr).add ((0 : Int).toNat * 6)).add 0)))]) (w' := w_15) f_183 1 [0, 3, 80, 84, 87] (by kernel_rfl) (fun a_106 f_184 => ?_)
              obtain ⟨c_6, hl_5, hr_6, hc_5⟩ := RepSeq.get (0 : Int).toNat (szd_all szd_T_api_Expr) (RepSeq.mono hM_8 _ _ hr_1) (getI_map hx_15)
              clear hl_5
              obtain ⟨A_6, cap_11, rfl, h_24⟩ := T_api_Expr.opn hr_6
              refine W_eq (v := .int .i8 x_14.fKind) f_184 (by kernel_rfl) (by kernel_rfl) rfl rfl (X_load1 (v := .int .i8 x_14.fKind) rfl (ad := ((⟨b_8, 0, none⟩ : Addr).add ((0 : Int).toNat * 6)).add 0) (by kernel_rfl) (by kernel_rfl) ((fun j v h => row_at (p_13.rowCell 0 rfl hv_5) hc_5 j v h) 0 _ rfl)) (fun a_107 f_185 => ?_)
              refine W_run (L' := [(0, S d0), (3, .slice A_1 x_2.1.length cap_1), (80, .bool false), (91, .bool (decide (x_14.fKind = 0)))]) (w' := w_15) f_185 3 [0, 3, 80, 91] (by kernel_rfl) (fun a_108 f_186 => ?_)
              rcases Bool.eq_false_or_eq_true (decide (x_14.fKind = 0)) with h_25 | h_25
              · have k_38 : x_14.fKind = 0 := decide_eq_true_iff.1 h_25
                have hF_63 := cnd_t h_25 hF_62
                have f_187 := Frm.set f_186 91 (v := .bool (decide (x_14.fKind = 0))) (v' := .bool true) (by kernel_rfl) (congrArg Value.bool h_25)
                have f_188 : Frm 108 [(0, S d0), (3, .slice A_1 x_2.1.length cap_1), (80, .bool false), (91, .bool true)] a_108 := f_187.keep (ks := [0, 3, 80, 91]) (by kernel_rfl)
                refine W_run (L' := [(0, S d0), (80, .bool false), (91, .bool true), (92, .slice A_1 x_2.1.length cap_1)]) (w' := w_15) f_188 1 [0, 80, 91, 92] (by kernel_rfl) (fun a_109 f_189 => ?_)
                obtain ⟨x_15, hx_16, hF_64⟩ := bind_some' hF_63
                obtain ⟨b_9, cap_12, hv_6, hcap_6⟩ := p_13.rowAddr 0 rfl (getI_pos hx_16)
                have f_190 := Frm.set f_189 92 (v := .slice A_1 x_2.1.length cap_1) (v' := .slice (some ⟨b_9, 0, none⟩) x_2.1.length cap_12) (by kernel_rfl) (hv_6)
                have f_191 : Frm 108 [(0, S d0), (80, .bool false), (91, .bool true), (92, .slice (some ⟨b_9, 0, none⟩) x_2.1.length cap_12)] a_109 := f_190.keep (ks := [0, 80, 91, 92]) (by kernel_rfl)
                refine W_eq (v := .pointer (some ((⟨b_9, 0, none⟩ : Addr).add ((0 : Int).toNat * 6)))) f_191 (by kernel_rfl) (by kernel_rfl) rfl rfl (X_indexAddr rfl (ad := ⟨b_9, 0, none⟩) (len := x_2.1.length) (cap := cap_12) (k := .i64) (i := (0 : Int)) (by kernel_rfl) (by kernel_rfl) (e := 29) (by kernel_rfl) (sz := 6) (by kernel_rfl) (getI_nn hx_16) (getI_lt hx_16)) (fun a_110 f_192 => ?_)
                have f_193 := Frm.set f_192 92 (v := .slice (some ⟨b_9, 0, none⟩) x_2.1.length cap_12) (v' := .slice A_1 x_2.1.length cap_1) (by kernel_rfl) (hv_6.symm)
                have f_194 : Frm 108 [(0, S d0), (80, .bool false), (91, .bool true), (92, .slice A_1 x_2.1.length cap_1), (93, .pointer (some ((⟨b_9, 0, none⟩ : Addr).add ((0 : Int).toNat * 6))))] a_110 := f_193.keep (ks := [0, 80, 91, 92, 93]) (by kernel_rfl)
                refine W_run (L' := [(0, S d0), (80, .bool false), (91, .bool true), (94, .pointer (some (((⟨b_9, 0, none⟩ : Addr).add ((0 : Int).toNat * 6)).add 1)))]) (w' := w_15) f_194 1 [0, 80, 91, 94] (by kernel_rfl) (fun a_111 f_195 => ?_)
                obtain ⟨c_7, hl_6, hr_7, hc_6⟩ := RepSeq.get (0 : Int).toNat (szd_all szd_T_api_Expr) (RepSeq.mono hM_8 _ _ hr_1) (getI_map hx_16)
                clear hl_6
                obtain ⟨A_7, cap_13, rfl, h_26⟩ := T_api_Expr.opn hr_7
                refine W_eq (v := S x_15.fText) f_195 (by kernel_rfl) (by kernel_rfl) rfl rfl (X_load1 (v := S x_15.fText) rfl (ad := ((⟨b_9, 0, none⟩ : Addr).add ((0 : Int).toNat * 6)).add 1) (by kernel_rfl) (by kernel_rfl) ((fun j v h => row_at (p_13.rowCell 0 rfl hv_6) hc_6 j v h) 1 _ rfl)) (fun a_112 f_196 => ?_)
                refine W_run (L' := [(0, S d0), (80, .bool false), (91, .bool true), (95, S x_15.fText), (96, S d0)]) (w' := w_15) f_196 1 [0, 80, 91, 95, 96] (by kernel_rfl) (fun a_113 f_197 => ?_)
                refine W_eq (v := .bool (decide (x_15.fText = d0))) f_197 (by kernel_rfl) (by kernel_rfl) rfl rfl (X_streq rfl (l := x_15.fText) (m := d0) (by kernel_rfl) (by kernel_rfl)) (fun a_114 f_198 => ?_)
                refine W_run (L' := [(0, S d0), (100, .bool (decide (x_15.fText = d0)))]) (w' := w_15) f_198 3 [0, 100] (by kernel_rfl) (fun a_115 f_199 => ?_)
                rcases Bool.eq_false_or_eq_true (decide (x_15.fText = d0)) with h_27 | h_27
                · have k_39 : x_15.fText = d0 := decide_eq_true_iff.1 h_27
                  have hF_65 := cnd_t h_27 hF_64
                  have f_200 := Frm.set f_199 100 (v := .bool (decide (x_15.fText = d0))) (v' := .bool true) (by kernel_rfl) (congrArg Value.bool h_27)
                  have f_201 : Frm 108 [(0, S d0), (100, .bool true)] a_115 := f_200.keep (ks := [0, 100]) (by kernel_rfl)
                  refine W_run (L' := [(100, .bool true), (101, S d0)]) (w' := w_15) f_201 1 [100, 101] (by kernel_rfl) (fun a_116 f_202 => ?_)
                  obtain ⟨x_16, hx_17, hF_66⟩ := bind_some' hF_65
                  refine W_okv (v := .int .i64 x_16) f_202 p_13 (by kernel_rfl) (by kernel_rfl) rfl rfl (fun _ => by kernel_rfl) (sub_Holes_ok n _ (GL.mono (hM_1.trans hM_8) hG) d0 x_16 hx_17) (fun w_22 p_20 a_117 f_203 => ?_)
                  refine W_run (L' := [(105, .bool (decide (x_16 = 0)))]) (w' := w_22) f_203 3 [105] (by kernel_rfl) (fun a_118 f_204 => ?_)
                  rcases Bool.eq_false_or_eq_true (decide (x_16 = 0)) with h_28 | h_28
                  · have k_40 : x_16 = 0 := decide_eq_true_iff.1 h_28
                    have hF_67 := cnd_t h_28 hF_66
                    have f_205 := Frm.set f_204 105 (v := .bool (decide (x_16 = 0))) (v' := .bool true) (by kernel_rfl) (congrArg Value.bool h_28)
                    have f_206 : Frm 108 [(105, .bool true)] a_118 := f_205.keep (ks := [105]) (by kernel_rfl)
                    obtain ⟨x_17, hx_18, hF_68⟩ := bind_some' hF_67
                    refine W_okv (v := .bool x_17) f_206 p_20 (by kernel_rfl) (by kernel_rfl) rfl rfl (fun _ => by kernel_rfl) (law12_wakes_ok n _ (GL.mono (hM_1.trans hM_8) hG) x_17 hx_18) (fun w_23 p_21 a_119 f_207 => ?_)
                    refine W_run (L' := [(2, .bool x_17)]) (w' := w_23) f_207 2 [2] (by kernel_rfl) (fun a_120 f_208 => ?_)
                    refine W_end rfl ?_
                    refine T_n ?_
                    refine wp_ret ?_
                    refine E_ret1 f_208 rfl (by kernel_rfl : Vc.look _ 2 = some (.bool x_17)) ?_
                    obtain rfl := Option.some.inj hF_68
                    exact ⟨_, rfl, M_8, (hM_1.trans hM_8), (p_21.dropN 1), rfl⟩
                  · have k_41 : ¬ (x_16 = 0) := iff_f decide_eq_true_iff h_28
                    have hF_69 := cnd_f h_28 hF_66
                    have f_209 := Frm.set f_204 105 (v := .bool (decide (x_16 = 0))) (v' := .bool false) (by kernel_rfl) (congrArg Value.bool h_28)
                    have f_210 : Frm 108 [(105, .bool false)] a_118 := f_209.keep (ks := [105]) (by kernel_rfl)
                    refine W_run (L' := [(2, .bool false)]) (w' := w_22) f_210 3 [2] (by kernel_rfl) (fun a_121 f_211 => ?_)
                    refine W_end rfl ?_
                    refine T_n ?_
                    refine wp_ret ?_
                    refine E_ret1 f_211 rfl (by kernel_rfl : Vc.look _ 2 = some (.bool false)) ?_
                    obtain rfl := Option.some.inj hF_69
                    exact ⟨_, rfl, M_8, (hM_1.trans hM_8), (p_20.dropN 1), rfl⟩
                · have k_42 : ¬ (x_15.fText = d0) := iff_f decide_eq_true_iff h_27
                  have hF_70 := cnd_f h_27 hF_64
                  have f_212 := Frm.set f_199 100 (v := .bool (decide (x_15.fText = d0))) (v' := .bool false) (by kernel_rfl) (congrArg Value.bool h_27)
                  have f_213 : Frm 108 [(0, S d0), (100, .bool false)] a_115 := f_212.keep (ks := [0, 100]) (by kernel_rfl)
                  refine W_run (L' := [(2, .bool false)]) (w' := w_15) f_213 8 [2] (by kernel_rfl) (fun a_122 f_214 => ?_)
                  refine W_end rfl ?_
                  refine T_n ?_
                  refine wp_ret ?_
                  refine E_ret1 f_214 rfl (by kernel_rfl : Vc.look _ 2 = some (.bool false)) ?_
                  obtain rfl := Option.some.inj hF_70
                  exact ⟨_, rfl, M_8, (hM_1.trans hM_8), (p_13.dropN 1), rfl⟩
              · have k_43 : ¬ (x_14.fKind = 0) := iff_f decide_eq_true_iff h_25
                have hF_71 := cnd_f h_25 hF_62
                have f_215 := Frm.set f_186 91 (v := .bool (decide (x_14.fKind = 0))) (v' := .bool false) (by kernel_rfl) (congrArg Value.bool h_25)
                have f_216 : Frm 108 [(0, S d0), (3, .slice A_1 x_2.1.length cap_1), (80, .bool false), (91, .bool false)] a_108 := f_215.keep (ks := [0, 3, 80, 91]) (by kernel_rfl)
                refine W_run (L' := [(2, .bool false)]) (w' := w_15) f_216 17 [2] (by kernel_rfl) (fun a_123 f_217 => ?_)
                refine W_end rfl ?_
                refine T_n ?_
                refine wp_ret ?_
                refine E_ret1 f_217 rfl (by kernel_rfl : Vc.look _ 2 = some (.bool false)) ?_
                obtain rfl := Option.some.inj hF_71
                exact ⟨_, rfl, M_8, (hM_1.trans hM_8), (p_13.dropN 1), rfl⟩
            · have k_44 : ¬ (((x_2.1.length : Nat) : Int) = 1) := iff_f decide_eq_true_iff h_23
              have hF_72 := cnd_f h_23 hF_60
              have f_218 := Frm.set f_175 84 (v := .bool (decide (((x_2.1.length : Nat) : Int) = 1))) (v' := .bool false) (by kernel_rfl) (congrArg Value.bool h_23)
              have f_219 : Frm 108 [(0, S d0), (3, .slice A_1 x_2.1.length cap_1), (80, .bool false), (84, .bool false)] a_103 := f_218.keep (ks := [0, 3, 80, 84]) (by kernel_rfl)
              refine W_run (L' := [(2, .bool false)]) (w' := w_15) f_219 24 [2] (by kernel_rfl) (fun a_124 f_220 => ?_)
              refine W_end rfl ?_
              refine T_n ?_
              refine wp_ret ?_
              refine E_ret1 f_220 rfl (by kernel_rfl : Vc.look _ 2 = some (.bool false)) ?_
              obtain rfl := Option.some.inj hF_72
              exact ⟨_, rfl, M_8, (hM_1.trans hM_8), (p_13.dropN 1), rfl⟩
end Go.Proofs.YtdmjgmleilgbpaaDoor
