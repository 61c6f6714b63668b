/-
  Printed by a program: of each function its shallow reading, and the proof that the function gives what the reading gives. No condition.
-/
import Derived.Test.YtekkifakjkhjiaaDoorQ4a
import Derived.Test.YtekkifakjkhjiaaDoorQ3a
import Derived.Test.YtekkifakjkhjiaaDoorHd
set_option linter.unusedVariables false
set_option linter.unusedSimpArgs false
namespace Go.Proofs.YtekkifakjkhjiaaDoor
open Go Go.Vc Go.RowKit
def runes_Valid (n : Nat) (d0 : List UInt8) : Option Bool :=
  (h_ValidString n d0).bind fun x_1 =>
  some ((x_1))
theorem runes_Valid_ok (n : Nat) (M : Mem) (hG : GL M) (d0 : List UInt8) (r : Bool) (hF : runes_Valid n d0 = some r) : Ok Tryd.prog M 54 [S d0] (fun _ v => v = .bool r) := by
  unfold runes_Valid at hF
  intro M1 hM0 w0 H w p0
  replace hG := GL.mono hM0 hG
  refine R_enter 5 Tryd.func54 rfl rfl (by simp) (fun a0 f0 => ?_)
  replace f0 : Frm 5 [(0, S d0)] a0 := f0
  refine R_seq ?_
  refine R_reg ?_
  refine W_run (L' := [(0, S d0)]) (w' := w) f0 1 [0] (by kernel_rfl) (fun a_1 f_1 => ?_)
  refine W_end rfl ?_
  refine T_n ?_
  refine R_seq ?_
  refine R_reg ?_
  refine W_run (L' := [(3, S d0)]) (w' := w) f_1 1 [3] (by kernel_rfl) (fun a_2 f_2 => ?_)
  obtain ⟨x_1, hx_1, hF_1⟩ := bind_some' hF
  refine W_okv (v := .bool x_1) f_2 p0 (by kernel_rfl) (by kernel_rfl) rfl rfl (fun _ => by kernel_rfl) (h_ValidString_ok n _ hG d0 x_1 hx_1) (fun w_1 p_1 a_3 f_3 => ?_)
  refine W_run (L' := [(2, .bool x_1)]) (w' := w_1) f_3 1 [2] (by kernel_rfl) (fun a_4 f_4 => ?_)
  refine W_end rfl ?_
  refine T_n ?_
  refine wp_ret ?_
  refine E_ret1 f_4 rfl (by kernel_rfl : Vc.look _ 2 = some (.bool x_1)) ?_
  obtain rfl := Option.some.inj hF_1
  exact ⟨_, rfl, M1, (Mem.le_refl _), p_1, rfl⟩

def tree_alone_1 (n : Nat) (d0 : List UInt8) : Option Bool :=
  (runes_Valid n d0).bind fun x_1 =>
  some ((!x_1))
theorem tree_alone_1_ok (n : Nat) (M : Mem) (hG : GL M) (d0 : List UInt8) (r : Bool) (hF : tree_alone_1 n d0 = some r) : Ok Tryd.prog M 56 [S d0] (fun _ v => v = .bool r) := by
  unfold tree_alone_1 at hF
  intro M1 hM0 w0 H w p0
  replace hG := GL.mono hM0 hG
  refine R_enter 6 Tryd.func56 rfl rfl (by simp) (fun a0 f0 => ?_)
  replace f0 : Frm 6 [(0, S d0)] a0 := f0
  refine R_seq ?_
  refine R_reg ?_
  refine W_run (L' := [(0, S d0)]) (w' := w) f0 1 [0] (by kernel_rfl) (fun a_1 f_1 => ?_)
  refine W_end rfl ?_
  refine T_n ?_
  refine R_seq ?_
  refine R_reg ?_
  refine W_run (L' := [(3, S d0)]) (w' := w) f_1 1 [3] (by kernel_rfl) (fun a_2 f_2 => ?_)
  obtain ⟨x_1, hx_1, hF_1⟩ := bind_some' hF
  refine W_okv (v := .bool x_1) f_2 p0 (by kernel_rfl) (by kernel_rfl) rfl rfl (fun _ => by kernel_rfl) (runes_Valid_ok n _ hG d0 x_1 hx_1) (fun w_1 p_1 a_3 f_3 => ?_)
  refine W_run (L' := [(2, .bool !x_1)]) (w' := w_1) f_3 2 [2] (by kernel_rfl) (fun a_4 f_4 => ?_)
  refine W_end rfl ?_
  refine T_n ?_
  refine wp_ret ?_
  refine E_ret1 f_4 rfl (by kernel_rfl : Vc.look _ 2 = some (.bool !x_1)) ?_
  obtain rfl := Option.some.inj hF_1
  exact ⟨_, rfl, M1, (Mem.le_refl _), p_1, rfl⟩

def slices_IndexFuncstring_string_s1 (n : Nat) (d0 : List (List UInt8)) (s_1 : Int) : Option (Lp Int (Sum Int Unit)) :=
    bif (decide (s_1 < ((d0.length : Nat) : Int))) then
      ((getI d0 s_1).bind fun x_1 =>
      (tree_alone_1 n x_1).bind fun x_2 =>
      bif x_2 then
        (some (.br (.inl s_1)))
      else
        need (inR .i64 (s_1 + 1)) <|
        some (.nx (s_1 + 1)))
    else
      some (.br (.inr ()))
def slices_IndexFuncstring_string (n : Nat) (d0 : List (List UInt8)) : Option Int :=
  (loopF (slices_IndexFuncstring_string_s1 n d0) n (0 : Int)).bind fun b_1 =>
  (match b_1 with 
  | .inl y_1 => some (y_1) 
  | .inr y_2 => some ((-1 : Int)))
theorem slices_IndexFuncstring_string_ok (n : Nat) (M : Mem) (hG : GL M) (A0 : Option Addr) (cap0 : Nat) (d0 : List (List UInt8)) (h0 : Sli M 1 Dat.str A0 cap0 d0) (r : Int) (hF : slices_IndexFuncstring_string n d0 = some r) : Ok Tryd.prog M 65 [.slice A0 d0.length cap0, .func (.func 56) #[] #[]] (fun _ v => v = .int .i64 r) := by
  unfold slices_IndexFuncstring_string at hF
  intro M1 hM0 w0 H w p0
  replace hG := GL.mono hM0 hG
  replace h0 := h0.mono hM0
  refine R_enter 19 Tryd.func65 rfl rfl (by simp) (fun a0 f0 => ?_)
  replace f0 : Frm 19 [(0, .slice A0 d0.length cap0), (1, .func (.func 56) #[] #[])] a0 := f0
  refine R_seq ?_
  refine R_reg ?_
  refine W_run (L' := [(0, .slice A0 d0.length cap0), (1, .func (.func 56) #[] #[])]) (w' := w) f0 1 [0, 1] (by kernel_rfl) (fun a_1 f_1 => ?_)
  refine W_end rfl ?_
  refine T_n ?_
  refine R_seq ?_
  refine R_seq ?_
  refine R_reg ?_
  refine W_run (L' := [(0, .slice A0 d0.length cap0), (1, .func (.func 56) #[] #[]), (7, .int .i64 ((d0.length : Nat) : Int)), (8, .int .i64 0)]) (w' := w) f_1 3 [0, 1, 7, 8] (by kernel_rfl) (fun a_2 f_2 => ?_)
  refine W_end rfl ?_
  refine T_n ?_
  refine wp_block ?_
  obtain ⟨b_1, hL_1, hF_1⟩ := bind_some' hF
  refine wp_mono (Q := fun e a w => (e = .ret ∧ (∃ y_1 : Int, b_1 = .inl y_1 ∧ ∃ M_2 : Mem, M1.le M_2 ∧ Frm 19 [(4, .int .i64 y_1)] a ∧ Hp w0 M_2 (H) w)) ∨ (e = .exit 0 ∧ (∃ y_2 : Unit, b_1 = .inr y_2 ∧ ∃ M_3 : Mem, M1.le M_3 ∧ Frm 19 [] a ∧ Hp w0 M_3 (H) w))) (R_loop (n := 19) (w0 := w0) (M := M1) (fun (x : Nat × Int) => match x with | (m_1, s_1) => [(0, .slice A0 d0.length cap0), (1, .func (.func 56) #[] #[]), (7, .int .i64 ((d0.length : Nat) : Int)), (8, .int .i64 s_1)]) (fun (x : Nat × Int) => match x with | (m_1, s_1) => (H)) (fun (x : Nat × Int) (MM : Mem) => match x with | (m_1, s_1) => loopF (slices_IndexFuncstring_string_s1 n d0) m_1 s_1 = some b_1) (fun (x : Nat × Int) => match x with | (m_1, s_1) => m_1) (n, (0 : Int)) (f_2.keep (ks := [0, 1, 7, 8]) (by kernel_rfl)) p0 hL_1 ?_) ?_
  · rintro ⟨m_1, s_1⟩ M_1 a_3 w_1 hM_1 I_1 f_3 p_1
    replace f_3 : Frm 19 [(0, .slice A0 d0.length cap0), (1, .func (.func 56) #[] #[]), (7, .int .i64 ((d0.length : Nat) : Int)), (8, .int .i64 s_1)] a_3 := f_3
    replace p_1 : Hp w0 M_1 (H) w_1 := p_1
    have I_1L := I_1
    obtain ⟨m_2, r_1, rfl, hs_1, hn_1⟩ := loop_step I_1L
    unfold slices_IndexFuncstring_string_s1 at hs_1
    refine R_seq ?_
    refine R_reg ?_
    refine W_run (L' := [(0, .slice A0 d0.length cap0), (1, .func (.func 56) #[] #[]), (7, .int .i64 ((d0.length : Nat) : Int)), (8, .int .i64 s_1), (9, .bool (decide (s_1 < ((d0.length : Nat) : Int))))]) (w' := w_1) f_3 1 [0, 1, 7, 8, 9] (by kernel_rfl) (fun a_4 f_4 => ?_)
    refine W_end rfl ?_
    refine T_n ?_
    refine R_seq ?_
    refine R_cond f_4 (b := decide (s_1 < ((d0.length : Nat) : Int))) (by kernel_rfl) (by kernel_rfl) (fun h_1 => ?_) (fun h_1 => ?_)
    · have k_1 : s_1 < ((d0.length : Nat) : Int) := decide_eq_true_iff.1 h_1
      have hF_2 := cnd_t h_1 hs_1
      refine wp_skip ?_
      refine T_n ?_
      refine R_seq ?_
      refine wp_block ?_
      refine R_seq ?_
      refine R_reg ?_
      refine W_run (L' := [(0, .slice A0 d0.length cap0), (1, .func (.func 56) #[] #[]), (5, .int .i64 s_1), (7, .int .i64 ((d0.length : Nat) : Int)), (8, .int .i64 s_1)]) (w' := w_1) f_4 2 [0, 1, 5, 7, 8] (by kernel_rfl) (fun a_5 f_5 => ?_)
      refine W_end rfl ?_
      refine T_n ?_
      refine R_seq ?_
      refine R_reg ?_
      refine W_run (L' := [(0, .slice A0 d0.length cap0), (1, .func (.func 56) #[] #[]), (5, .int .i64 s_1), (7, .int .i64 ((d0.length : Nat) : Int)), (8, .int .i64 s_1), (11, .func (.func 56) #[] #[]), (12, .slice A0 d0.length cap0), (13, .int .i64 s_1)]) (w' := w_1) f_5 3 [0, 1, 5, 7, 8, 11, 12, 13] (by kernel_rfl) (fun a_6 f_6 => ?_)
      obtain ⟨x_1, hx_1, hF_3⟩ := bind_some' hF_2
      obtain ⟨ad_1, c_1, e_1, hl_1, hr_1, hc_1⟩ := Sli.at_ (h0.mono hM_1) hx_1
      clear hl_1
      obtain rfl : c_1 = [S x_1] := hr_1
      refine W_eq (v := .pointer (some (ad_1.add (s_1.toNat * 1)))) f_6 (by kernel_rfl) (by kernel_rfl) rfl rfl (X_indexAddrA e_1 rfl (len := d0.length) (cap := cap0) (k := .i64) (i := s_1) (by kernel_rfl) (by kernel_rfl) (e := 9) (by kernel_rfl) (sz := 1) (by kernel_rfl) (getI_nn hx_1) (getI_lt hx_1)) (fun a_7 f_7 => ?_)
      refine W_eq (v := S x_1) f_7 (by kernel_rfl) (by kernel_rfl) rfl rfl (X_load1 (v := S x_1) rfl (ad := ad_1.add (s_1.toNat * 1)) (by kernel_rfl) (by kernel_rfl) (p_1.cell (hc_1 0 _ rfl))) (fun a_8 f_8 => ?_)
      obtain ⟨x_2, hx_2, hF_4⟩ := bind_some' hF_3
      refine W_okv (v := .bool x_2) f_8 p_1 (by kernel_rfl) (by kernel_rfl) rfl rfl (fun _ => by kernel_rfl) (tree_alone_1_ok n _ (GL.mono hM_1 hG) x_1 x_2 hx_2) (fun w_2 p_2 a_9 f_9 => ?_)
      refine W_end rfl ?_
      refine T_n ?_
      refine R_cond f_9 (b := x_2) (by kernel_rfl) (by kernel_rfl) (fun h_2 => ?_) (fun h_2 => ?_)
      · have hF_5 := cnd_t h_2 hF_4
        refine R_seq ?_
        refine R_reg ?_
        refine W_run (L' := [(4, .int .i64 s_1)]) (w' := w_2) f_9 2 [4] (by kernel_rfl) (fun a_10 f_10 => ?_)
        refine W_end rfl ?_
        refine T_n ?_
        refine wp_ret ?_
        refine B_r ?_
        refine T_r ?_
        refine T_r ?_
        obtain rfl := Option.some.inj hF_5
        exact .inl ⟨rfl, s_1, (Option.some.inj hn_1).symm, M_1, hM_1, f_10.keep (ks := [4]) (by kernel_rfl), p_2⟩
      · have hF_6 := cnd_f h_2 hF_4
        refine wp_skip ?_
        refine B_n ?_
        refine T_n ?_
        refine R_reg ?_
        obtain ⟨g_1, hF_7⟩ := need_some hF_6
        refine W_run (L' := [(0, .slice A0 d0.length cap0), (1, .func (.func 56) #[] #[]), (5, .int .i64 s_1), (7, .int .i64 ((d0.length : Nat) : Int)), (8, .int .i64 s_1), (11, .func (.func 56) #[] #[]), (12, .slice A0 d0.length cap0), (13, .int .i64 s_1), (14, .pointer (some (ad_1.add (s_1.toNat * 1)))), (15, S x_1), (16, .bool x_2), (18, .int .i64 (IntKind.wrap .i64 (s_1 + 1)))]) (w' := w_2) f_9 1 [0, 1, 5, 7, 8, 11, 12, 13, 14, 15, 16, 18] (by kernel_rfl) (fun a_11 f_11 => ?_)
        have f_12 := Frm.set f_11 18 (v := .int .i64 (IntKind.wrap .i64 (s_1 + 1))) (v' := .int .i64 (s_1 + 1)) (by kernel_rfl) (congrArg (Value.int .i64) (inR_wrap g_1))
        have f_13 : Frm 19 [(0, .slice A0 d0.length cap0), (1, .func (.func 56) #[] #[]), (5, .int .i64 s_1), (7, .int .i64 ((d0.length : Nat) : Int)), (8, .int .i64 s_1), (11, .func (.func 56) #[] #[]), (12, .slice A0 d0.length cap0), (13, .int .i64 s_1), (14, .pointer (some (ad_1.add (s_1.toNat * 1)))), (15, S x_1), (16, .bool x_2), (18, .int .i64 (s_1 + 1))] a_11 := f_12.keep (ks := [0, 1, 5, 7, 8, 11, 12, 13, 14, 15, 16, 18]) (by kernel_rfl)
        refine W_run (L' := [(0, .slice A0 d0.length cap0), (1, .func (.func 56) #[] #[]), (7, .int .i64 ((d0.length : Nat) : Int)), (8, .int .i64 (s_1 + 1))]) (w' := w_2) f_13 1 [0, 1, 7, 8] (by kernel_rfl) (fun a_12 f_14 => ?_)
        refine W_end rfl ?_
        refine T_n ?_
        obtain rfl := Option.some.inj hF_7
        exact ⟨⟨m_2, s_1 + 1⟩, Nat.lt_succ_self _, M_1, hM_1, hn_1, f_14.keep (ks := [0, 1, 7, 8]) (by kernel_rfl), p_2⟩
    · have k_4 : ¬ (s_1 < ((d0.length : Nat) : Int)) := iff_f decide_eq_true_iff h_1
      have hF_8 := cnd_f h_1 hs_1
      refine wp_exit ?_
      refine T_x ?_
      refine T_x ?_
      obtain rfl := Option.some.inj hF_8
      exact .inr ⟨rfl, (), (Option.some.inj hn_1).symm, M_1, hM_1, f_4.keep (ks := []) (by kernel_rfl), p_1⟩
  · rintro _ a_15 w_5 (⟨rfl, y_1, rfl, M_2, hM_2, f_15, p_3⟩ | ⟨rfl, y_2, rfl, M_3, hM_3, f_16, p_4⟩)
    · refine B_r ?_
      refine T_r ?_
      refine E_ret1 f_15 rfl (by kernel_rfl : Vc.look _ 4 = some (.int .i64 y_1)) ?_
      obtain rfl := Option.some.inj hF_1
      exact ⟨_, rfl, M_2, hM_2, p_3, rfl⟩
    · refine B_x ?_
      refine T_n ?_
      refine R_seq ?_
      refine R_reg ?_
      refine W_run (L' := [(4, .int .i64 (-1))]) (w' := w_5) f_16 1 [4] (by kernel_rfl) (fun a_16 f_17 => ?_)
      refine W_end rfl ?_
      refine T_n ?_
      refine wp_ret ?_
      refine E_ret1 f_17 rfl (by kernel_rfl : Vc.look _ 4 = some (.int .i64 (-1))) ?_
      obtain rfl := Option.some.inj hF_1
      exact ⟨_, rfl, M_3, hM_3, p_4, rfl⟩

def slices_ContainsFuncstring_string (n : Nat) (d0 : List (List UInt8)) : Option Bool :=
  (slices_IndexFuncstring_string n d0).bind fun x_1 =>
  some ((decide ((0 : Int) ≤ x_1)))
theorem slices_ContainsFuncstring_string_ok (n : Nat) (M : Mem) (hG : GL M) (A0 : Option Addr) (cap0 : Nat) (d0 : List (List UInt8)) (h0 : Sli M 1 Dat.str A0 cap0 d0) (r : Bool) (hF : slices_ContainsFuncstring_string n d0 = some r) : Ok Tryd.prog M 55 [.slice A0 d0.length cap0, .func (.func 56) #[] #[]] (fun _ v => v = .bool r) := by
  unfold slices_ContainsFuncstring_string at hF
  intro M1 hM0 w0 H w p0
  replace hG := GL.mono hM0 hG
  replace h0 := h0.mono hM0
  refine R_enter 9 Tryd.func55 rfl rfl (by simp) (fun a0 f0 => ?_)
  replace f0 : Frm 9 [(0, .slice A0 d0.length cap0), (1, .func (.func 56) #[] #[])] a0 := f0
  refine R_seq ?_
  refine R_reg ?_
  refine W_run (L' := [(0, .slice A0 d0.length cap0), (1, .func (.func 56) #[] #[])]) (w' := w) f0 1 [0, 1] (by kernel_rfl) (fun a_1 f_1 => ?_)
  refine W_end rfl ?_
  refine T_n ?_
  refine R_seq ?_
  refine R_reg ?_
  refine W_run (L' := [(5, .slice A0 d0.length cap0), (6, .func (.func 56) #[] #[])]) (w' := w) f_1 2 [5, 6] (by kernel_rfl) (fun a_2 f_2 => ?_)
  obtain ⟨x_1, hx_1, hF_1⟩ := bind_some' hF
  refine W_okv (v := .int .i64 x_1) f_2 p0 (by kernel_rfl) (by kernel_rfl) rfl rfl (fun _ => by kernel_rfl) (slices_IndexFuncstring_string_ok n _ hG A0 cap0 d0 h0 x_1 hx_1) (fun w_1 p_1 a_3 f_3 => ?_)
  refine W_run (L' := [(4, .bool (decide ((0 : Int) ≤ x_1)))]) (w' := w_1) f_3 2 [4] (by kernel_rfl) (fun a_4 f_4 => ?_)
  refine W_end rfl ?_
  refine T_n ?_
  refine wp_ret ?_
  refine E_ret1 f_4 rfl (by kernel_rfl : Vc.look _ 4 = some (.bool (decide ((0 : Int) ≤ x_1)))) ?_
  obtain rfl := Option.some.inj hF_1
  exact ⟨_, rfl, M1, (Mem.le_refl _), p_1, rfl⟩

def tree_alone_s1 (n : Nat) (d0 : T_api_Value) (s_1 : Int × (List ((List UInt8) × Bool))) : Option (Lp (Int × (List ((List UInt8) × Bool))) (Sum (List ((List UInt8) × Bool)) (List ((List UInt8) × Bool)))) :=
    bif (decide (s_1.1 < ((d0.fKeys.length : Nat) : Int))) then
      ((getI d0.fKeys s_1.1).bind fun x_3 =>
      bif ((mget s_1.2 x_3).getD false) then
        (some (.br (.inl s_1.2)))
      else
        need (inR .i64 (s_1.1 + 1)) <|
        some (.nx (s_1.1 + 1, mput s_1.2 x_3 (true))))
    else
      some (.br (.inr s_1.2))
def tree_alone (n : Nat) (d0 : T_api_Value) : Option Int :=
  ((bif (decide (d0.fKind = 0)) then
      (some (.nx ((d0.fBool), d0.fNum, d0.fText, d0.fList, d0.fKeys)))
    else
      bif (decide (d0.fKind = 1)) then
        (some (.nx ((false), d0.fNum, d0.fText, d0.fList, d0.fKeys)))
      else
        bif (decide (d0.fKind = 2)) then
          (some (.nx ((d0.fBool), (0 : Int), d0.fText, d0.fList, d0.fKeys)))
        else
          bif (decide (d0.fKind = 3)) then
            (some (.nx ((d0.fBool), d0.fNum, ([] : List UInt8), d0.fList, d0.fKeys)))
          else
            bif (decide (d0.fKind = 4)) then
              (some (.nx ((d0.fBool), d0.fNum, d0.fText, ([] : List T_api_Value), d0.fKeys)))
            else
              bif (decide (d0.fKind = 5)) then
                (bif (!(decide (((d0.fKeys.length : Nat) : Int) = ((d0.fList.length : Nat) : Int)))) then
                  (((some ((2 : Int)) : Option Int)).map Lp.br)
                else
                  some (.nx ((d0.fBool), d0.fNum, d0.fText, ([] : List T_api_Value), ([] : List (List UInt8)))))
              else
                ((some ((2 : Int)) : Option Int)).map Lp.br : Option (Lp (Bool × Int × List UInt8 × List T_api_Value × List (List UInt8)) Int))).bind fun j => joinF j fun y_1 =>
  ((((bif y_1.1 then
        (some ((true)))
      else
        bif (!(decide (y_1.2.1 = 0))) then
          (some ((true)))
        else
          bif (!(decide (y_1.2.2.1 = []))) then
            (some ((true)))
          else
            need (inR .i64 (((y_1.2.2.2.1.length : Nat) : Int) + ((y_1.2.2.2.2.length : Nat) : Int))) <|
            some ((decide ((0 : Int) < (((y_1.2.2.2.1.length : Nat) : Int) + ((y_1.2.2.2.2.length : Nat) : Int))))) : Option Bool)).bind fun y_2 =>
    bif y_2 then
      (((some ((2 : Int)) : Option Int)).map Lp.br)
    else
      ((bif (decide (d0.fNum < (-9007199254740992))) then
          (some ((true)))
        else
          some ((decide ((9007199254740992 : Int) < d0.fNum))) : Option Bool)).bind fun y_3 =>
      bif y_3 then
        (((some ((20 : Int)) : Option Int)).map Lp.br)
      else
        (runes_Valid n d0.fText).bind fun x_1 =>
        bif !x_1 then
          (((some ((10 : Int)) : Option Int)).map Lp.br)
        else
          (slices_ContainsFuncstring_string n d0.fKeys).bind fun x_2 =>
          bif x_2 then
            (((some ((10 : Int)) : Option Int)).map Lp.br)
          else
            some (.nx ()) : Option (Lp Unit Int))).bind fun j => joinF j fun y_4 =>
  (loopF (tree_alone_s1 n d0) n ((0 : Int), ([] : List ((List UInt8) × Bool)))).bind fun b_2 =>
  (match b_2 with 
  | .inl y_5 => some ((41 : Int)) 
  | .inr y_6 => some ((0 : Int)))
theorem tree_alone_ok (n : Nat) (M : Mem) (hG : GL M) (ad0 : Addr) (c0 : List Value) (d0 : T_api_Value) (h0 : Rep M (emb_T_api_Value d0) c0) (q0 : ∀ j v, c0[j]? = some v → M.cell? (ad0.add j) = some v) (r : Int) (hF : tree_alone n d0 = some r) : Ok Tryd.prog M 43 [.pointer (some ad0)] (fun _ v => v = .int .i64 r) := by
  unfold tree_alone at hF
  intro M1 hM0 w0 H w p0
  replace hG := GL.mono hM0 hG
  replace h0 := Rep.mono hM0 _ _ h0
  replace q0 := fun j v h => hM0.cell (q0 j v h)
  obtain ⟨A_1, cap_1, A_2, cap_2, rfl, h_1, h_2⟩ := T_api_Value.opn h0
  refine R_enter 109 Tryd.func43 rfl rfl (by simp) (fun a0 f0 => ?_)
  replace f0 : Frm 109 [(0, .pointer (some ad0))] a0 := f0
  refine R_seq ?_
  refine R_reg ?_
  refine W_run (L' := [(0, .pointer (some ad0))]) (w' := w) f0 1 [0] (by kernel_rfl) (fun a_1 f_1 => ?_)
  refine W_end rfl ?_
  refine T_n ?_
  refine R_seq ?_
  refine R_reg ?_
  refine W_run (L' := [(0, .pointer (some ad0)), (8, .pointer (some ad0))]) (w' := w) f_1 2 [0, 8] (by kernel_rfl) (fun a_2 f_2 => ?_)
  refine W_eq (v := .agg #[.int .i8 d0.fKind, .bool d0.fBool, .int .i64 d0.fNum, S d0.fText, .slice A_1 d0.fList.length cap_1, .slice A_2 d0.fKeys.length cap_2]) f_2 (by kernel_rfl) (by kernel_rfl) rfl rfl (X_loadN (cs := [.int .i8 d0.fKind, .bool d0.fBool, .int .i64 d0.fNum, S d0.fText, .slice A_1 d0.fList.length cap_1, .slice A_2 d0.fKeys.length cap_2]) rfl (ad := ad0) (by kernel_rfl) (by kernel_rfl) (fun j v h => p0.cell (q0 j v h))) (fun a_3 f_3 => ?_)
  refine W_alloc f_3 p0 1 [0, 3, 8, 9] (.cells #[.int .i8 0, .bool false, .int .i64 0, S [], .slice none 0 0, .slice none 0 0] 26 (0, 0)) (fun b_1 => [(0, .pointer (some ad0)), (3, .pointer (some (⟨b_1, 0, none⟩))), (8, .pointer (some ad0)), (9, .agg #[.int .i8 d0.fKind, .bool d0.fBool, .int .i64 d0.fNum, S d0.fText, .slice A_1 d0.fList.length cap_1, .slice A_2 d0.fKeys.length cap_2])]) (fun _ => by kernel_rfl) (fun b_1 w_1 p_1 a_4 f_4 => ?_)
  replace f_4 : Frm 109 [(0, .pointer (some ad0)), (3, .pointer (some (⟨b_1, 0, none⟩))), (8, .pointer (some ad0)), (9, .agg #[.int .i8 d0.fKind, .bool d0.fBool, .int .i64 d0.fNum, S d0.fText, .slice A_1 d0.fList.length cap_1, .slice A_2 d0.fKeys.length cap_2])] a_4 := f_4
  refine W_storeN (vs := [.int .i8 d0.fKind, .bool d0.fBool, .int .i64 d0.fNum, S d0.fText, .slice A_1 d0.fList.length cap_1, .slice A_2 d0.fKeys.length cap_2]) (j := 0) f_4 p_1 (by kernel_rfl) (by kernel_rfl) rfl rfl (by kernel_rfl) (by kernel_rfl) (by simp [Value.oneCell', S]) (by kernel_rfl) (by simp) (by decide) (cs' := #[.int .i8 d0.fKind, .bool d0.fBool, .int .i64 d0.fNum, S d0.fText, .slice A_1 d0.fList.length cap_1, .slice A_2 d0.fKeys.length cap_2]) rfl (fun w_2 p_2 a_5 f_5 => ?_)
  refine W_end rfl ?_
  refine T_n ?_
  refine R_seq ?_
  refine R_seq ?_
  refine R_reg ?_
  refine W_run (L' := [(0, .pointer (some ad0)), (3, .pointer (some (⟨b_1, 0, none⟩))), (12, .pointer (some (ad0.add 0)))]) (w' := w_2) f_5 3 [0, 3, 12] (by kernel_rfl) (fun a_6 f_6 => ?_)
  refine W_eq (v := .int .i8 d0.fKind) f_6 (by kernel_rfl) (by kernel_rfl) rfl rfl (X_load1 (v := .int .i8 d0.fKind) rfl (ad := ad0.add 0) (by kernel_rfl) (by kernel_rfl) (p_2.cell (q0 0 _ rfl))) (fun a_7 f_7 => ?_)
  refine W_end rfl ?_
  refine T_n ?_
  obtain ⟨j_1, hj_1, hF_1⟩ := bind_some' hF
  refine R_mid (fun a_39 w_10 => ∃ y_1 : Bool × Int × List UInt8 × List T_api_Value × List (List UInt8), j_1 = .nx y_1 ∧ ∃ M_1 : Mem, M1.le M_1 ∧ ∃ (A_3 : Option Addr), ∃ (cap_3 : Nat), ∃ (A_4 : Option Addr), ∃ (cap_4 : Nat), Sli M_1 6 emb_T_api_Value A_3 cap_3 y_1.2.2.2.1 ∧ Sli M_1 1 Dat.str A_4 cap_4 y_1.2.2.2.2 ∧ Frm 109 [(0, .pointer (some ad0)), (3, .pointer (some (⟨b_1, 0, none⟩)))] a_39 ∧ Hp w0 M_1 ((Ent.obj b_1 (.cells #[.int .i8 d0.fKind, .bool y_1.1, .int .i64 y_1.2.1, S y_1.2.2.1, .slice A_3 y_1.2.2.2.1.length cap_3, .slice A_4 y_1.2.2.2.2.length cap_4] 26 (0, 0))) :: H) w_10) ?_ ?_
  · refine wp_block ?_
    refine R_seq ?_
    refine R_reg ?_
    refine W_run (L' := [(0, .pointer (some ad0)), (3, .pointer (some (⟨b_1, 0, none⟩))), (13, .int .i8 d0.fKind), (14, .bool (decide (d0.fKind = 0)))]) (w' := w_2) f_7 2 [0, 3, 13, 14] (by kernel_rfl) (fun a_8 f_8 => ?_)
    refine W_end rfl ?_
    refine T_n ?_
    refine R_cond f_8 (b := decide (d0.fKind = 0)) (by kernel_rfl) (by kernel_rfl) (fun h_3 => ?_) (fun h_3 => ?_)
    · have k_1 : d0.fKind = 0 := decide_eq_true_iff.1 h_3
      have hF_2 := cnd_t h_3 hj_1
      refine wp_skip ?_
      refine B_n ?_
      refine T_n ?_
      exact ⟨((d0.fBool), d0.fNum, d0.fText, d0.fList, d0.fKeys), (Option.some.inj hF_2).symm, M1, (Mem.le_refl _), A_1, cap_1, A_2, cap_2, h_1, h_2, f_8.keep (ks := [0, 3]) (by kernel_rfl), p_2⟩
    · have k_2 : ¬ (d0.fKind = 0) := iff_f decide_eq_true_iff h_3
      have hF_3 := cnd_f h_3 hj_1
      refine R_seq ?_
      refine R_reg ?_
      refine W_run (L' := [(0, .pointer (some ad0)), (3, .pointer (some (⟨b_1, 0, none⟩))), (13, .int .i8 d0.fKind), (16, .bool (decide (d0.fKind = 1)))]) (w' := w_2) f_8 2 [0, 3, 13, 16] (by kernel_rfl) (fun a_9 f_9 => ?_)
      refine W_end rfl ?_
      refine T_n ?_
      refine R_cond f_9 (b := decide (d0.fKind = 1)) (by kernel_rfl) (by kernel_rfl) (fun h_4 => ?_) (fun h_4 => ?_)
      · have k_3 : d0.fKind = 1 := decide_eq_true_iff.1 h_4
        have hF_4 := cnd_t h_4 hF_3
        refine R_reg ?_
        refine W_run (L' := [(0, .pointer (some ad0)), (3, .pointer (some (⟨b_1, 0, none⟩))), (18, .pointer (some (⟨b_1, 1, none⟩)))]) (w' := w_2) f_9 1 [0, 3, 18] (by kernel_rfl) (fun a_10 f_10 => ?_)
        refine W_store1 f_10 p_2 0 (by kernel_rfl) (by kernel_rfl) rfl rfl (b := b_1) (j := 1) (v := .bool false) (by kernel_rfl) (by kernel_rfl) rfl (by kernel_rfl) (by exact rfl) (by simp) (by simp) ((Ent.obj b_1 (.cells #[.int .i8 d0.fKind, .bool false, .int .i64 d0.fNum, S d0.fText, .slice A_1 d0.fList.length cap_1, .slice A_2 d0.fKeys.length cap_2] 26 (0, 0))) :: H) rfl (fun w_3 p_3 a_11 f_11 => ?_)
        refine W_end rfl ?_
        refine B_n ?_
        refine T_n ?_
        exact ⟨((false), d0.fNum, d0.fText, d0.fList, d0.fKeys), (Option.some.inj hF_4).symm, M1, (Mem.le_refl _), A_1, cap_1, A_2, cap_2, h_1, h_2, f_11.keep (ks := [0, 3]) (by kernel_rfl), p_3⟩
      · have k_4 : ¬ (d0.fKind = 1) := iff_f decide_eq_true_iff h_4
        have hF_5 := cnd_f h_4 hF_3
        refine R_seq ?_
        refine R_reg ?_
        refine W_run (L' := [(0, .pointer (some ad0)), (3, .pointer (some (⟨b_1, 0, none⟩))), (13, .int .i8 d0.fKind), (19, .bool (decide (d0.fKind = 2)))]) (w' := w_2) f_9 2 [0, 3, 13, 19] (by kernel_rfl) (fun a_12 f_12 => ?_)
        refine W_end rfl ?_
        refine T_n ?_
        refine R_cond f_12 (b := decide (d0.fKind = 2)) (by kernel_rfl) (by kernel_rfl) (fun h_5 => ?_) (fun h_5 => ?_)
        · have k_5 : d0.fKind = 2 := decide_eq_true_iff.1 h_5
          have hF_6 := cnd_t h_5 hF_5
          refine R_reg ?_
          refine W_run (L' := [(0, .pointer (some ad0)), (3, .pointer (some (⟨b_1, 0, none⟩))), (21, .pointer (some (⟨b_1, 2, none⟩)))]) (w' := w_2) f_12 1 [0, 3, 21] (by kernel_rfl) (fun a_13 f_13 => ?_)
          refine W_store1 f_13 p_2 0 (by kernel_rfl) (by kernel_rfl) rfl rfl (b := b_1) (j := 2) (v := .int .i64 0) (by kernel_rfl) (by kernel_rfl) rfl (by kernel_rfl) (by exact rfl) (by simp) (by simp) ((Ent.obj b_1 (.cells #[.int .i8 d0.fKind, .bool d0.fBool, .int .i64 0, S d0.fText, .slice A_1 d0.fList.length cap_1, .slice A_2 d0.fKeys.length cap_2] 26 (0, 0))) :: H) rfl (fun w_4 p_4 a_14 f_14 => ?_)
          refine W_end rfl ?_
          refine B_n ?_
          refine T_n ?_
          exact ⟨((d0.fBool), (0 : Int), d0.fText, d0.fList, d0.fKeys), (Option.some.inj hF_6).symm, M1, (Mem.le_refl _), A_1, cap_1, A_2, cap_2, h_1, h_2, f_14.keep (ks := [0, 3]) (by kernel_rfl), p_4⟩
        · have k_6 : ¬ (d0.fKind = 2) := iff_f decide_eq_true_iff h_5
          have hF_7 := cnd_f h_5 hF_5
          refine R_seq ?_
          refine R_reg ?_
          refine W_run (L' := [(0, .pointer (some ad0)), (3, .pointer (some (⟨b_1, 0, none⟩))), (13, .int .i8 d0.fKind), (22, .bool (decide (d0.fKind = 3)))]) (w' := w_2) f_12 2 [0, 3, 13, 22] (by kernel_rfl) (fun a_15 f_15 => ?_)
          refine W_end rfl ?_
          refine T_n ?_
          refine R_cond f_15 (b := decide (d0.fKind = 3)) (by kernel_rfl) (by kernel_rfl) (fun h_6 => ?_) (fun h_6 => ?_)
          · have k_7 : d0.fKind = 3 := decide_eq_true_iff.1 h_6
            have hF_8 := cnd_t h_6 hF_7
            refine R_reg ?_
            refine W_run (L' := [(0, .pointer (some ad0)), (3, .pointer (some (⟨b_1, 0, none⟩))), (24, .pointer (some (⟨b_1, 3, none⟩)))]) (w' := w_2) f_15 1 [0, 3, 24] (by kernel_rfl) (fun a_16 f_16 => ?_)
            refine W_store1 f_16 p_2 0 (by kernel_rfl) (by kernel_rfl) rfl rfl (b := b_1) (j := 3) (v := S []) (by kernel_rfl) (by kernel_rfl) rfl (by kernel_rfl) (by exact rfl) (by simp) (by simp) ((Ent.obj b_1 (.cells #[.int .i8 d0.fKind, .bool d0.fBool, .int .i64 d0.fNum, S [], .slice A_1 d0.fList.length cap_1, .slice A_2 d0.fKeys.length cap_2] 26 (0, 0))) :: H) rfl (fun w_5 p_5 a_17 f_17 => ?_)
            refine W_end rfl ?_
            refine B_n ?_
            refine T_n ?_
            exact ⟨((d0.fBool), d0.fNum, ([] : List UInt8), d0.fList, d0.fKeys), (Option.some.inj hF_8).symm, M1, (Mem.le_refl _), A_1, cap_1, A_2, cap_2, h_1, h_2, f_17.keep (ks := [0, 3]) (by kernel_rfl), p_5⟩
          · have k_8 : ¬ (d0.fKind = 3) := iff_f decide_eq_true_iff h_6
            have hF_9 := cnd_f h_6 hF_7
            refine R_seq ?_
            refine R_reg ?_
            refine W_run (L' := [(0, .pointer (some ad0)), (3, .pointer (some (⟨b_1, 0, none⟩))), (13, .int .i8 d0.fKind), (25, .bool (decide (d0.fKind = 4)))]) (w' := w_2) f_15 2 [0, 3, 13, 25] (by kernel_rfl) (fun a_18 f_18 => ?_)
            refine W_end rfl ?_
            refine T_n ?_
            refine R_cond f_18 (b := decide (d0.fKind = 4)) (by kernel_rfl) (by kernel_rfl) (fun h_7 => ?_) (fun h_7 => ?_)
            · have k_9 : d0.fKind = 4 := decide_eq_true_iff.1 h_7
              have hF_10 := cnd_t h_7 hF_9
              refine R_reg ?_
              refine W_run (L' := [(0, .pointer (some ad0)), (3, .pointer (some (⟨b_1, 0, none⟩))), (27, .pointer (some (⟨b_1, 4, none⟩)))]) (w' := w_2) f_18 1 [0, 3, 27] (by kernel_rfl) (fun a_19 f_19 => ?_)
              refine W_store1 f_19 p_2 0 (by kernel_rfl) (by kernel_rfl) rfl rfl (b := b_1) (j := 4) (v := .slice none 0 0) (by kernel_rfl) (by kernel_rfl) rfl (by kernel_rfl) (by exact rfl) (by simp) (by simp) ((Ent.obj b_1 (.cells #[.int .i8 d0.fKind, .bool d0.fBool, .int .i64 d0.fNum, S d0.fText, .slice none 0 0, .slice A_2 d0.fKeys.length cap_2] 26 (0, 0))) :: H) rfl (fun w_6 p_6 a_20 f_20 => ?_)
              refine W_end rfl ?_
              refine B_n ?_
              refine T_n ?_
              exact ⟨((d0.fBool), d0.fNum, d0.fText, ([] : List T_api_Value), d0.fKeys), (Option.some.inj hF_10).symm, M1, (Mem.le_refl _), none, 0, A_2, cap_2, Sli.nil, h_2, f_20.keep (ks := [0, 3]) (by kernel_rfl), p_6⟩
            · have k_10 : ¬ (d0.fKind = 4) := iff_f decide_eq_true_iff h_7
              have hF_11 := cnd_f h_7 hF_9
              refine R_seq ?_
              refine R_reg ?_
              refine W_run (L' := [(0, .pointer (some ad0)), (3, .pointer (some (⟨b_1, 0, none⟩))), (28, .bool (decide (d0.fKind = 5)))]) (w' := w_2) f_18 2 [0, 3, 28] (by kernel_rfl) (fun a_21 f_21 => ?_)
              refine W_end rfl ?_
              refine T_n ?_
              refine R_cond f_21 (b := decide (d0.fKind = 5)) (by kernel_rfl) (by kernel_rfl) (fun h_8 => ?_) (fun h_8 => ?_)
              · have k_11 : d0.fKind = 5 := decide_eq_true_iff.1 h_8
                have hF_12 := cnd_t h_8 hF_11
                refine R_seq ?_
                refine R_seq ?_
                refine R_draw p_2 (by kernel_rfl) (by kernel_rfl) ?_
                refine Q_eq (v := .pointer (some ad0)) f_21 (by kernel_rfl) (by kernel_rfl) rfl rfl (fun _ _ => by kernel_rfl) (fun a_22 f_22 => ?_)
                refine Q_eq (v := .pointer (some ad0)) f_22 (by kernel_rfl) (by kernel_rfl) rfl rfl (fun _ _ => by kernel_rfl) (fun a_23 f_23 => ?_)
                refine Q_eq (v := .pointer (some (ad0.add 5))) f_23 (by kernel_rfl) (by kernel_rfl) rfl rfl (fun _ _ => by kernel_rfl) (fun a_24 f_24 => ?_)
                have f_25 : Frm 109 [(0, .pointer (some ad0)), (3, .pointer (some (⟨b_1, 0, none⟩))), (32, .pointer (some (ad0.add 5)))] a_24 := f_24.keep (ks := [0, 3, 32]) (by kernel_rfl)
                refine Q_eq (v := .slice A_2 d0.fKeys.length cap_2) f_25 (by kernel_rfl) (by kernel_rfl) rfl rfl (fun _ pq => X_load1 (v := .slice A_2 d0.fKeys.length cap_2) rfl (ad := ad0.add 5) (by kernel_rfl) (by kernel_rfl) (pq.cell (q0 5 _ rfl))) (fun a_25 f_26 => ?_)
                refine Q_eq (v := .int .i64 ((d0.fKeys.length : Nat) : Int)) f_26 (by kernel_rfl) (by kernel_rfl) rfl rfl (fun _ _ => by kernel_rfl) (fun a_26 f_27 => ?_)
                refine Q_eq (v := .pointer (some ad0)) f_27 (by kernel_rfl) (by kernel_rfl) rfl rfl (fun _ _ => by kernel_rfl) (fun a_27 f_28 => ?_)
                refine Q_eq (v := .pointer (some ad0)) f_28 (by kernel_rfl) (by kernel_rfl) rfl rfl (fun _ _ => by kernel_rfl) (fun a_28 f_29 => ?_)
                refine Q_eq (v := .pointer (some (ad0.add 4))) f_29 (by kernel_rfl) (by kernel_rfl) rfl rfl (fun _ _ => by kernel_rfl) (fun a_29 f_30 => ?_)
                have f_31 : Frm 109 [(0, .pointer (some ad0)), (3, .pointer (some (⟨b_1, 0, none⟩))), (34, .int .i64 ((d0.fKeys.length : Nat) : Int)), (37, .pointer (some (ad0.add 4)))] a_29 := f_30.keep (ks := [0, 3, 34, 37]) (by kernel_rfl)
                refine Q_eq (v := .slice A_1 d0.fList.length cap_1) f_31 (by kernel_rfl) (by kernel_rfl) rfl rfl (fun _ pq => X_load1 (v := .slice A_1 d0.fList.length cap_1) rfl (ad := ad0.add 4) (by kernel_rfl) (by kernel_rfl) (pq.cell (q0 4 _ rfl))) (fun a_30 f_32 => ?_)
                refine Q_eq (v := .int .i64 ((d0.fList.length : Nat) : Int)) f_32 (by kernel_rfl) (by kernel_rfl) rfl rfl (fun _ _ => by kernel_rfl) (fun a_31 f_33 => ?_)
                refine Q_eq (v := .bool (!(decide (((d0.fKeys.length : Nat) : Int) = ((d0.fList.length : Nat) : Int))))) f_33 (by kernel_rfl) (by kernel_rfl) rfl rfl (fun _ _ => by kernel_rfl) (fun a_32 f_34 => ?_)
                have f_35 : Frm 109 [(0, .pointer (some ad0)), (3, .pointer (some (⟨b_1, 0, none⟩))), (40, .bool (!(decide (((d0.fKeys.length : Nat) : Int) = ((d0.fList.length : Nat) : Int)))))] a_32 := f_34.keep (ks := [0, 3, 40]) (by kernel_rfl)
                refine Q_end rfl ?_
                intro w_7 p_7
                refine T_n ?_
                refine R_cond f_35 (b := !(decide (((d0.fKeys.length : Nat) : Int) = ((d0.fList.length : Nat) : Int)))) (by kernel_rfl) (by kernel_rfl) (fun h_9 => ?_) (fun h_9 => ?_)
                · have k_12 : ¬ (((d0.fKeys.length : Nat) : Int) = ((d0.fList.length : Nat) : Int)) := (not_iff decide_eq_true_iff).1 h_9
                  have hF_13 := cnd_t h_9 hF_12
                  refine R_seq ?_
                  refine R_reg ?_
                  refine W_run (L' := [(2, .int .i64 2)]) (w' := w_7) f_35 1 [2] (by kernel_rfl) (fun a_33 f_36 => ?_)
                  refine W_end rfl ?_
                  refine T_n ?_
                  refine wp_ret ?_
                  refine T_r ?_
                  refine B_r ?_
                  have hF_14 := br_elim hF_13 hF_1
                  refine T_r ?_
                  refine T_r ?_
                  refine E_ret1 f_36 rfl (by kernel_rfl : Vc.look _ 2 = some (.int .i64 2)) ?_
                  obtain rfl := Option.some.inj hF_14
                  exact ⟨_, rfl, M1, (Mem.le_refl _), (p_7.dropN 1), rfl⟩
                · have k_13 : ¬ (¬ (((d0.fKeys.length : Nat) : Int) = ((d0.fList.length : Nat) : Int))) := iff_f (not_iff decide_eq_true_iff) h_9
                  have hF_15 := cnd_f h_9 hF_12
                  refine wp_skip ?_
                  refine T_n ?_
                  refine R_reg ?_
                  refine W_run (L' := [(0, .pointer (some ad0)), (3, .pointer (some (⟨b_1, 0, none⟩))), (41, .pointer (some (⟨b_1, 4, none⟩)))]) (w' := w_7) f_35 1 [0, 3, 41] (by kernel_rfl) (fun a_34 f_37 => ?_)
                  refine W_store1 f_37 p_7 0 (by kernel_rfl) (by kernel_rfl) rfl rfl (b := b_1) (j := 4) (v := .slice none 0 0) (by kernel_rfl) (by kernel_rfl) rfl (by kernel_rfl) (by exact rfl) (by simp) (by simp) ((Ent.obj b_1 (.cells #[.int .i8 d0.fKind, .bool d0.fBool, .int .i64 d0.fNum, S d0.fText, .slice none 0 0, .slice A_2 d0.fKeys.length cap_2] 26 (0, 0))) :: H) rfl (fun w_8 p_8 a_35 f_38 => ?_)
                  refine W_run (L' := [(0, .pointer (some ad0)), (3, .pointer (some (⟨b_1, 0, none⟩))), (42, .pointer (some (⟨b_1, 5, none⟩)))]) (w' := w_8) f_38 1 [0, 3, 42] (by kernel_rfl) (fun a_36 f_39 => ?_)
                  refine W_store1 f_39 p_8 0 (by kernel_rfl) (by kernel_rfl) rfl rfl (b := b_1) (j := 5) (v := .slice none 0 0) (by kernel_rfl) (by kernel_rfl) rfl (by kernel_rfl) (by exact rfl) (by simp) (by simp) ((Ent.obj b_1 (.cells #[.int .i8 d0.fKind, .bool d0.fBool, .int .i64 d0.fNum, S d0.fText, .slice none 0 0, .slice none 0 0] 26 (0, 0))) :: H) rfl (fun w_9 p_9 a_37 f_40 => ?_)
                  refine W_end rfl ?_
                  refine B_n ?_
                  refine T_n ?_
                  exact ⟨((d0.fBool), d0.fNum, d0.fText, ([] : List T_api_Value), ([] : List (List UInt8))), (Option.some.inj hF_15).symm, M1, (Mem.le_refl _), none, 0, none, 0, Sli.nil, Sli.nil, f_40.keep (ks := [0, 3]) (by kernel_rfl), p_9⟩
              · have k_14 : ¬ (d0.fKind = 5) := iff_f decide_eq_true_iff h_8
                have hF_16 := cnd_f h_8 hF_11
                refine R_seq ?_
                refine R_reg ?_
                refine W_run (L' := [(2, .int .i64 2)]) (w' := w_2) f_21 1 [2] (by kernel_rfl) (fun a_38 f_41 => ?_)
                refine W_end rfl ?_
                refine T_n ?_
                refine wp_ret ?_
                refine B_r ?_
                have hF_17 := br_elim hF_16 hF_1
                refine T_r ?_
                refine T_r ?_
                refine E_ret1 f_41 rfl (by kernel_rfl : Vc.look _ 2 = some (.int .i64 2)) ?_
                obtain rfl := Option.some.inj hF_17
                exact ⟨_, rfl, M1, (Mem.le_refl _), (p_2.dropN 1), rfl⟩
  · rintro a_39 w_10 ⟨y_1, rfl, M_1, hM_1, A_3, cap_3, A_4, cap_4, h_10, h_11, f_42, p_10⟩
    refine T_n ?_
    refine R_seq ?_
    refine R_reg ?_
    refine W_newmap S Value.bool f_42 p_10 (by kernel_rfl) (by kernel_rfl) rfl rfl rfl (fun bm_1 w_11 p_11 a_40 f_43 => ?_)
    refine W_run (L' := [(0, .pointer (some ad0)), (3, .pointer (some (⟨b_1, 0, none⟩))), (4, .map (some bm_1))]) (w' := w_11) f_43 1 [0, 3, 4] (by kernel_rfl) (fun a_41 f_44 => ?_)
    refine W_end rfl ?_
    refine T_n ?_
    refine R_seq ?_
    obtain ⟨j_2, hj_2, hF_18⟩ := bind_some' hF_1
    refine R_mid (fun a_84 w_16 => ∃ y_4 : Unit, j_2 = .nx y_4 ∧ ∃ M_4 : Mem, M_1.le M_4 ∧ Frm 109 [(0, .pointer (some ad0)), (4, .map (some bm_1))] a_84 ∧ Hp w0 M_4 ((Ent.obj bm_1 (mapO S Value.bool ([] : List ((List UInt8) × Bool)))) :: (Ent.obj b_1 (.cells #[.int .i8 d0.fKind, .bool y_1.1, .int .i64 y_1.2.1, S y_1.2.2.1, .slice A_3 y_1.2.2.2.1.length cap_3, .slice A_4 y_1.2.2.2.2.length cap_4] 26 (0, 0))) :: H) w_16) ?_ ?_
    · refine wp_block ?_
      refine R_seq ?_
      obtain ⟨j_3, hj_3, hF_19⟩ := bind_some' hj_2
      refine R_mid (fun a_62 w_12 => ∃ y_2 : Bool, j_3 = y_2 ∧ ∃ M_2 : Mem, M_1.le M_2 ∧ Frm 109 [(0, .pointer (some ad0)), (4, .map (some bm_1)), (44, .bool y_2)] a_62 ∧ Hp w0 M_2 ((Ent.obj bm_1 (mapO S Value.bool ([] : List ((List UInt8) × Bool)))) :: (Ent.obj b_1 (.cells #[.int .i8 d0.fKind, .bool y_1.1, .int .i64 y_1.2.1, S y_1.2.2.1, .slice A_3 y_1.2.2.2.1.length cap_3, .slice A_4 y_1.2.2.2.2.length cap_4] 26 (0, 0))) :: H) w_12) ?_ ?_
      · refine R_reg ?_
        refine W_run (L' := [(0, .pointer (some ad0)), (3, .pointer (some (⟨b_1, 0, none⟩))), (4, .map (some bm_1)), (45, .pointer (some (⟨b_1, 1, none⟩)))]) (w' := w_11) f_44 1 [0, 3, 4, 45] (by kernel_rfl) (fun a_42 f_45 => ?_)
        refine W_eq (v := .bool y_1.1) f_45 (by kernel_rfl) (by kernel_rfl) rfl rfl (X_load1 (v := .bool y_1.1) rfl (ad := ⟨b_1, 1, none⟩) (by kernel_rfl) (by kernel_rfl) (p_11.ownCell 1 rfl 1)) (fun a_43 f_46 => ?_)
        refine W_run (L' := [(0, .pointer (some ad0)), (3, .pointer (some (⟨b_1, 0, none⟩))), (4, .map (some bm_1)), (47, .bool y_1.1)]) (w' := w_11) f_46 1 [0, 3, 4, 47] (by kernel_rfl) (fun a_44 f_47 => ?_)
        rcases Bool.eq_false_or_eq_true (y_1.1) with h_12 | h_12
        · have hF_20 := cnd_t h_12 hj_3
          have f_48 := Frm.set f_47 47 (v := .bool y_1.1) (v' := .bool true) (by kernel_rfl) (congrArg Value.bool h_12)
          have f_49 : Frm 109 [(0, .pointer (some ad0)), (3, .pointer (some (⟨b_1, 0, none⟩))), (4, .map (some bm_1)), (47, .bool true)] a_44 := f_48.keep (ks := [0, 3, 4, 47]) (by kernel_rfl)
          refine W_run (L' := [(0, .pointer (some ad0)), (4, .map (some bm_1)), (44, .bool true)]) (w' := w_11) f_49 20 [0, 4, 44] (by kernel_rfl) (fun a_45 f_50 => ?_)
          refine W_end rfl ?_
          refine T_n ?_
          exact ⟨(true), (Option.some.inj hF_20).symm, M_1, (Mem.le_refl _), f_50.keep (ks := [0, 4, 44]) (by kernel_rfl), p_11⟩
        · have hF_21 := cnd_f h_12 hj_3
          have f_51 := Frm.set f_47 47 (v := .bool y_1.1) (v' := .bool false) (by kernel_rfl) (congrArg Value.bool h_12)
          have f_52 : Frm 109 [(0, .pointer (some ad0)), (3, .pointer (some (⟨b_1, 0, none⟩))), (4, .map (some bm_1)), (47, .bool false)] a_44 := f_51.keep (ks := [0, 3, 4, 47]) (by kernel_rfl)
          refine W_run (L' := [(0, .pointer (some ad0)), (3, .pointer (some (⟨b_1, 0, none⟩))), (4, .map (some bm_1)), (47, .bool false), (48, .pointer (some (⟨b_1, 2, none⟩)))]) (w' := w_11) f_52 1 [0, 3, 4, 47, 48] (by kernel_rfl) (fun a_46 f_53 => ?_)
          refine W_eq (v := .int .i64 y_1.2.1) f_53 (by kernel_rfl) (by kernel_rfl) rfl rfl (X_load1 (v := .int .i64 y_1.2.1) rfl (ad := ⟨b_1, 2, none⟩) (by kernel_rfl) (by kernel_rfl) (p_11.ownCell 1 rfl 2)) (fun a_47 f_54 => ?_)
          refine W_run (L' := [(0, .pointer (some ad0)), (3, .pointer (some (⟨b_1, 0, none⟩))), (4, .map (some bm_1)), (52, .bool (!(decide (y_1.2.1 = 0))))]) (w' := w_11) f_54 3 [0, 3, 4, 52] (by kernel_rfl) (fun a_48 f_55 => ?_)
          rcases Bool.eq_false_or_eq_true (!(decide (y_1.2.1 = 0))) with h_13 | h_13
          · have k_17 : ¬ (y_1.2.1 = 0) := (not_iff decide_eq_true_iff).1 h_13
            have hF_22 := cnd_t h_13 hF_21
            have f_56 := Frm.set f_55 52 (v := .bool (!(decide (y_1.2.1 = 0)))) (v' := .bool true) (by kernel_rfl) (congrArg Value.bool h_13)
            have f_57 : Frm 109 [(0, .pointer (some ad0)), (3, .pointer (some (⟨b_1, 0, none⟩))), (4, .map (some bm_1)), (52, .bool true)] a_48 := f_56.keep (ks := [0, 3, 4, 52]) (by kernel_rfl)
            refine W_run (L' := [(0, .pointer (some ad0)), (4, .map (some bm_1)), (44, .bool true)]) (w' := w_11) f_57 15 [0, 4, 44] (by kernel_rfl) (fun a_49 f_58 => ?_)
            refine W_end rfl ?_
            refine T_n ?_
            exact ⟨(true), (Option.some.inj hF_22).symm, M_1, (Mem.le_refl _), f_58.keep (ks := [0, 4, 44]) (by kernel_rfl), p_11⟩
          · have k_18 : ¬ (¬ (y_1.2.1 = 0)) := iff_f (not_iff decide_eq_true_iff) h_13
            have hF_23 := cnd_f h_13 hF_21
            have f_59 := Frm.set f_55 52 (v := .bool (!(decide (y_1.2.1 = 0)))) (v' := .bool false) (by kernel_rfl) (congrArg Value.bool h_13)
            have f_60 : Frm 109 [(0, .pointer (some ad0)), (3, .pointer (some (⟨b_1, 0, none⟩))), (4, .map (some bm_1)), (52, .bool false)] a_48 := f_59.keep (ks := [0, 3, 4, 52]) (by kernel_rfl)
            refine W_run (L' := [(0, .pointer (some ad0)), (3, .pointer (some (⟨b_1, 0, none⟩))), (4, .map (some bm_1)), (52, .bool false), (53, .pointer (some (⟨b_1, 3, none⟩)))]) (w' := w_11) f_60 1 [0, 3, 4, 52, 53] (by kernel_rfl) (fun a_50 f_61 => ?_)
            refine W_eq (v := S y_1.2.2.1) f_61 (by kernel_rfl) (by kernel_rfl) rfl rfl (X_load1 (v := S y_1.2.2.1) rfl (ad := ⟨b_1, 3, none⟩) (by kernel_rfl) (by kernel_rfl) (p_11.ownCell 1 rfl 3)) (fun a_51 f_62 => ?_)
            refine W_eq (v := .bool (!(decide (y_1.2.2.1 = [])))) f_62 (by kernel_rfl) (by kernel_rfl) rfl rfl (X_strne rfl (l := y_1.2.2.1) (m := []) (by kernel_rfl) (by kernel_rfl)) (fun a_52 f_63 => ?_)
            refine W_run (L' := [(0, .pointer (some ad0)), (3, .pointer (some (⟨b_1, 0, none⟩))), (4, .map (some bm_1)), (57, .bool (!(decide (y_1.2.2.1 = []))))]) (w' := w_11) f_63 2 [0, 3, 4, 57] (by kernel_rfl) (fun a_53 f_64 => ?_)
            rcases Bool.eq_false_or_eq_true (!(decide (y_1.2.2.1 = []))) with h_14 | h_14
            · have k_19 : ¬ (y_1.2.2.1 = []) := (not_iff decide_eq_true_iff).1 h_14
              have hF_24 := cnd_t h_14 hF_23
              have f_65 := Frm.set f_64 57 (v := .bool (!(decide (y_1.2.2.1 = [])))) (v' := .bool true) (by kernel_rfl) (congrArg Value.bool h_14)
              have f_66 : Frm 109 [(0, .pointer (some ad0)), (3, .pointer (some (⟨b_1, 0, none⟩))), (4, .map (some bm_1)), (57, .bool true)] a_53 := f_65.keep (ks := [0, 3, 4, 57]) (by kernel_rfl)
              refine W_run (L' := [(0, .pointer (some ad0)), (4, .map (some bm_1)), (44, .bool true)]) (w' := w_11) f_66 10 [0, 4, 44] (by kernel_rfl) (fun a_54 f_67 => ?_)
              refine W_end rfl ?_
              refine T_n ?_
              exact ⟨(true), (Option.some.inj hF_24).symm, M_1, (Mem.le_refl _), f_67.keep (ks := [0, 4, 44]) (by kernel_rfl), p_11⟩
            · have k_20 : ¬ (¬ (y_1.2.2.1 = [])) := iff_f (not_iff decide_eq_true_iff) h_14
              have hF_25 := cnd_f h_14 hF_23
              have f_68 := Frm.set f_64 57 (v := .bool (!(decide (y_1.2.2.1 = [])))) (v' := .bool false) (by kernel_rfl) (congrArg Value.bool h_14)
              have f_69 : Frm 109 [(0, .pointer (some ad0)), (3, .pointer (some (⟨b_1, 0, none⟩))), (4, .map (some bm_1)), (57, .bool false)] a_53 := f_68.keep (ks := [0, 3, 4, 57]) (by kernel_rfl)
              refine W_run (L' := [(0, .pointer (some ad0)), (3, .pointer (some (⟨b_1, 0, none⟩))), (4, .map (some bm_1)), (57, .bool false), (58, .pointer (some (⟨b_1, 4, none⟩)))]) (w' := w_11) f_69 1 [0, 3, 4, 57, 58] (by kernel_rfl) (fun a_55 f_70 => ?_)
              refine W_eq (v := .slice A_3 y_1.2.2.2.1.length cap_3) f_70 (by kernel_rfl) (by kernel_rfl) rfl rfl (X_load1 (v := .slice A_3 y_1.2.2.2.1.length cap_3) rfl (ad := ⟨b_1, 4, none⟩) (by kernel_rfl) (by kernel_rfl) (p_11.ownCell 1 rfl 4)) (fun a_56 f_71 => ?_)
              refine W_run (L' := [(0, .pointer (some ad0)), (4, .map (some bm_1)), (57, .bool false), (60, .int .i64 ((y_1.2.2.2.1.length : Nat) : Int)), (61, .pointer (some (⟨b_1, 5, none⟩)))]) (w' := w_11) f_71 2 [0, 4, 57, 60, 61] (by kernel_rfl) (fun a_57 f_72 => ?_)
              refine W_eq (v := .slice A_4 y_1.2.2.2.2.length cap_4) f_72 (by kernel_rfl) (by kernel_rfl) rfl rfl (X_load1 (v := .slice A_4 y_1.2.2.2.2.length cap_4) rfl (ad := ⟨b_1, 5, none⟩) (by kernel_rfl) (by kernel_rfl) (p_11.ownCell 1 rfl 5)) (fun a_58 f_73 => ?_)
              refine W_run (L' := [(0, .pointer (some ad0)), (4, .map (some bm_1)), (57, .bool false), (60, .int .i64 ((y_1.2.2.2.1.length : Nat) : Int)), (63, .int .i64 ((y_1.2.2.2.2.length : Nat) : Int))]) (w' := w_11) f_73 1 [0, 4, 57, 60, 63] (by kernel_rfl) (fun a_59 f_74 => ?_)
              obtain ⟨g_1, hF_26⟩ := need_some hF_25
              refine W_run (L' := [(0, .pointer (some ad0)), (4, .map (some bm_1)), (57, .bool false), (60, .int .i64 ((y_1.2.2.2.1.length : Nat) : Int)), (63, .int .i64 ((y_1.2.2.2.2.length : Nat) : Int)), (64, .int .i64 (IntKind.wrap .i64 (((y_1.2.2.2.1.length : Nat) : Int) + ((y_1.2.2.2.2.length : Nat) : Int))))]) (w' := w_11) f_74 1 [0, 4, 57, 60, 63, 64] (by kernel_rfl) (fun a_60 f_75 => ?_)
              have f_76 := Frm.set f_75 64 (v := .int .i64 (IntKind.wrap .i64 (((y_1.2.2.2.1.length : Nat) : Int) + ((y_1.2.2.2.2.length : Nat) : Int)))) (v' := .int .i64 (((y_1.2.2.2.1.length : Nat) : Int) + ((y_1.2.2.2.2.length : Nat) : Int))) (by kernel_rfl) (congrArg (Value.int .i64) (inR_wrap g_1))
              have f_77 : Frm 109 [(0, .pointer (some ad0)), (4, .map (some bm_1)), (57, .bool false), (60, .int .i64 ((y_1.2.2.2.1.length : Nat) : Int)), (63, .int .i64 ((y_1.2.2.2.2.length : Nat) : Int)), (64, .int .i64 (((y_1.2.2.2.1.length : Nat) : Int) + ((y_1.2.2.2.2.length : Nat) : Int)))] a_60 := f_76.keep (ks := [0, 4, 57, 60, 63, 64]) (by kernel_rfl)
              refine W_run (L' := [(0, .pointer (some ad0)), (4, .map (some bm_1)), (44, .bool (decide ((0 : Int) < (((y_1.2.2.2.1.length : Nat) : Int) + ((y_1.2.2.2.2.length : Nat) : Int)))))]) (w' := w_11) f_77 3 [0, 4, 44] (by kernel_rfl) (fun a_61 f_78 => ?_)
              refine W_end rfl ?_
              refine T_n ?_
              exact ⟨(decide ((0 : Int) < (((y_1.2.2.2.1.length : Nat) : Int) + ((y_1.2.2.2.2.length : Nat) : Int)))), (Option.some.inj hF_26).symm, M_1, (Mem.le_refl _), f_78.keep (ks := [0, 4, 44]) (by kernel_rfl), p_11⟩
      · rintro a_62 w_12 ⟨y_2, hq_2, M_2, hM_2, f_79, p_12⟩
        subst j_3
        refine T_n ?_
        refine R_cond f_79 (b := y_2) (by kernel_rfl) (by kernel_rfl) (fun h_15 => ?_) (fun h_15 => ?_)
        · have hF_27 := cnd_t h_15 hF_19
          refine R_seq ?_
          refine R_reg ?_
          refine W_run (L' := [(2, .int .i64 2)]) (w' := w_12) f_79 1 [2] (by kernel_rfl) (fun a_63 f_80 => ?_)
          refine W_end rfl ?_
          refine T_n ?_
          refine wp_ret ?_
          refine B_r ?_
          have hF_28 := br_elim hF_27 hF_18
          refine T_r ?_
          refine T_r ?_
          refine E_ret1 f_80 rfl (by kernel_rfl : Vc.look _ 2 = some (.int .i64 2)) ?_
          obtain rfl := Option.some.inj hF_28
          exact ⟨_, rfl, M_2, (hM_1.trans hM_2), (p_12.dropN 2), rfl⟩
        · have hF_29 := cnd_f h_15 hF_19
          refine R_seq ?_
          obtain ⟨j_4, hj_4, hF_30⟩ := bind_some' hF_29
          refine R_mid (fun a_71 w_13 => ∃ y_3 : Bool, j_4 = y_3 ∧ ∃ M_3 : Mem, M_2.le M_3 ∧ Frm 109 [(0, .pointer (some ad0)), (4, .map (some bm_1)), (67, .bool y_3)] a_71 ∧ Hp w0 M_3 ((Ent.obj bm_1 (mapO S Value.bool ([] : List ((List UInt8) × Bool)))) :: (Ent.obj b_1 (.cells #[.int .i8 d0.fKind, .bool y_1.1, .int .i64 y_1.2.1, S y_1.2.2.1, .slice A_3 y_1.2.2.2.1.length cap_3, .slice A_4 y_1.2.2.2.2.length cap_4] 26 (0, 0))) :: H) w_13) ?_ ?_
          · refine R_reg ?_
            refine W_run (L' := [(0, .pointer (some ad0)), (4, .map (some bm_1)), (70, .pointer (some (ad0.add 2)))]) (w' := w_12) f_79 3 [0, 4, 70] (by kernel_rfl) (fun a_64 f_81 => ?_)
            refine W_eq (v := .int .i64 d0.fNum) f_81 (by kernel_rfl) (by kernel_rfl) rfl rfl (X_load1 (v := .int .i64 d0.fNum) rfl (ad := ad0.add 2) (by kernel_rfl) (by kernel_rfl) (p_12.cell ((fun j v h => (hM_1.trans hM_2).cell (q0 j v h)) 2 _ rfl))) (fun a_65 f_82 => ?_)
            refine W_run (L' := [(0, .pointer (some ad0)), (4, .map (some bm_1)), (73, .bool (decide (d0.fNum < (-9007199254740992))))]) (w' := w_12) f_82 2 [0, 4, 73] (by kernel_rfl) (fun a_66 f_83 => ?_)
            rcases Bool.eq_false_or_eq_true (decide (d0.fNum < (-9007199254740992))) with h_16 | h_16
            · have k_23 : d0.fNum < (-9007199254740992) := decide_eq_true_iff.1 h_16
              have hF_31 := cnd_t h_16 hj_4
              have f_84 := Frm.set f_83 73 (v := .bool (decide (d0.fNum < (-9007199254740992)))) (v' := .bool true) (by kernel_rfl) (congrArg Value.bool h_16)
              have f_85 : Frm 109 [(0, .pointer (some ad0)), (4, .map (some bm_1)), (73, .bool true)] a_66 := f_84.keep (ks := [0, 4, 73]) (by kernel_rfl)
              refine W_run (L' := [(0, .pointer (some ad0)), (4, .map (some bm_1)), (67, .bool true)]) (w' := w_12) f_85 7 [0, 4, 67] (by kernel_rfl) (fun a_67 f_86 => ?_)
              refine W_end rfl ?_
              refine T_n ?_
              exact ⟨(true), (Option.some.inj hF_31).symm, M_2, (Mem.le_refl _), f_86.keep (ks := [0, 4, 67]) (by kernel_rfl), p_12⟩
            · have k_24 : ¬ (d0.fNum < (-9007199254740992)) := iff_f decide_eq_true_iff h_16
              have hF_32 := cnd_f h_16 hj_4
              have f_87 := Frm.set f_83 73 (v := .bool (decide (d0.fNum < (-9007199254740992)))) (v' := .bool false) (by kernel_rfl) (congrArg Value.bool h_16)
              have f_88 : Frm 109 [(0, .pointer (some ad0)), (4, .map (some bm_1)), (73, .bool false)] a_66 := f_87.keep (ks := [0, 4, 73]) (by kernel_rfl)
              refine W_run (L' := [(0, .pointer (some ad0)), (4, .map (some bm_1)), (73, .bool false), (76, .pointer (some (ad0.add 2)))]) (w' := w_12) f_88 3 [0, 4, 73, 76] (by kernel_rfl) (fun a_68 f_89 => ?_)
              refine W_eq (v := .int .i64 d0.fNum) f_89 (by kernel_rfl) (by kernel_rfl) rfl rfl (X_load1 (v := .int .i64 d0.fNum) rfl (ad := ad0.add 2) (by kernel_rfl) (by kernel_rfl) (p_12.cell ((fun j v h => (hM_1.trans hM_2).cell (q0 j v h)) 2 _ rfl))) (fun a_69 f_90 => ?_)
              refine W_run (L' := [(0, .pointer (some ad0)), (4, .map (some bm_1)), (67, .bool (decide ((9007199254740992 : Int) < d0.fNum)))]) (w' := w_12) f_90 3 [0, 4, 67] (by kernel_rfl) (fun a_70 f_91 => ?_)
              refine W_end rfl ?_
              refine T_n ?_
              exact ⟨(decide ((9007199254740992 : Int) < d0.fNum)), (Option.some.inj hF_32).symm, M_2, (Mem.le_refl _), f_91.keep (ks := [0, 4, 67]) (by kernel_rfl), p_12⟩
          · rintro a_71 w_13 ⟨y_3, hq_3, M_3, hM_3, f_92, p_13⟩
            subst j_4
            refine T_n ?_
            refine R_cond f_92 (b := y_3) (by kernel_rfl) (by kernel_rfl) (fun h_17 => ?_) (fun h_17 => ?_)
            · have hF_33 := cnd_t h_17 hF_30
              refine R_seq ?_
              refine R_reg ?_
              refine W_run (L' := [(2, .int .i64 20)]) (w' := w_13) f_92 1 [2] (by kernel_rfl) (fun a_72 f_93 => ?_)
              refine W_end rfl ?_
              refine T_n ?_
              refine wp_ret ?_
              refine B_r ?_
              have hF_34 := br_elim hF_33 hF_18
              refine T_r ?_
              refine T_r ?_
              refine E_ret1 f_93 rfl (by kernel_rfl : Vc.look _ 2 = some (.int .i64 20)) ?_
              obtain rfl := Option.some.inj hF_34
              exact ⟨_, rfl, M_3, ((hM_1.trans hM_2).trans hM_3), (p_13.dropN 2), rfl⟩
            · have hF_35 := cnd_f h_17 hF_30
              refine R_seq ?_
              refine R_reg ?_
              refine W_run (L' := [(0, .pointer (some ad0)), (4, .map (some bm_1)), (83, .pointer (some (ad0.add 3)))]) (w' := w_13) f_92 3 [0, 4, 83] (by kernel_rfl) (fun a_73 f_94 => ?_)
              refine W_eq (v := S d0.fText) f_94 (by kernel_rfl) (by kernel_rfl) rfl rfl (X_load1 (v := S d0.fText) rfl (ad := ad0.add 3) (by kernel_rfl) (by kernel_rfl) (p_13.cell ((fun j v h => ((hM_1.trans hM_2).trans hM_3).cell (q0 j v h)) 3 _ rfl))) (fun a_74 f_95 => ?_)
              obtain ⟨x_1, hx_1, hF_36⟩ := bind_some' hF_35
              refine W_okv (v := .bool x_1) f_95 p_13 (by kernel_rfl) (by kernel_rfl) rfl rfl (fun _ => by kernel_rfl) (runes_Valid_ok n _ (GL.mono ((hM_1.trans hM_2).trans hM_3) hG) d0.fText x_1 hx_1) (fun w_14 p_14 a_75 f_96 => ?_)
              refine W_run (L' := [(0, .pointer (some ad0)), (4, .map (some bm_1)), (87, .bool !x_1)]) (w' := w_14) f_96 2 [0, 4, 87] (by kernel_rfl) (fun a_76 f_97 => ?_)
              rcases Bool.eq_false_or_eq_true (!x_1) with h_18 | h_18
              · have k_27 : (x_1) = false := by simpa using h_18
                have hF_37 := cnd_t h_18 hF_36
                have f_98 := Frm.set f_97 87 (v := .bool !x_1) (v' := .bool true) (by kernel_rfl) (congrArg Value.bool h_18)
                have f_99 : Frm 109 [(0, .pointer (some ad0)), (4, .map (some bm_1)), (87, .bool true)] a_76 := f_98.keep (ks := [0, 4, 87]) (by kernel_rfl)
                refine W_run (L' := [(0, .pointer (some ad0)), (4, .map (some bm_1)), (80, .bool true)]) (w' := w_14) f_99 7 [0, 4, 80] (by kernel_rfl) (fun a_77 f_100 => ?_)
                refine W_end rfl ?_
                refine T_n ?_
                refine R_cond_t f_100 (by kernel_rfl) (by kernel_rfl) ?_
                refine R_seq ?_
                refine R_reg ?_
                refine W_run (L' := [(2, .int .i64 10)]) (w' := w_14) f_100 1 [2] (by kernel_rfl) (fun a_78 f_101 => ?_)
                refine W_end rfl ?_
                refine T_n ?_
                refine wp_ret ?_
                refine B_r ?_
                have hF_38 := br_elim hF_37 hF_18
                refine T_r ?_
                refine T_r ?_
                refine E_ret1 f_101 rfl (by kernel_rfl : Vc.look _ 2 = some (.int .i64 10)) ?_
                obtain rfl := Option.some.inj hF_38
                exact ⟨_, rfl, M_3, ((hM_1.trans hM_2).trans hM_3), (p_14.dropN 2), rfl⟩
              · have k_28 : (x_1) = true := by simpa using h_18
                have hF_39 := cnd_f h_18 hF_36
                have f_102 := Frm.set f_97 87 (v := .bool !x_1) (v' := .bool false) (by kernel_rfl) (congrArg Value.bool h_18)
                have f_103 : Frm 109 [(0, .pointer (some ad0)), (4, .map (some bm_1)), (87, .bool false)] a_76 := f_102.keep (ks := [0, 4, 87]) (by kernel_rfl)
                refine W_run (L' := [(0, .pointer (some ad0)), (4, .map (some bm_1)), (87, .bool false), (90, .pointer (some (ad0.add 5)))]) (w' := w_14) f_103 3 [0, 4, 87, 90] (by kernel_rfl) (fun a_79 f_104 => ?_)
                refine W_eq (v := .slice A_2 d0.fKeys.length cap_2) f_104 (by kernel_rfl) (by kernel_rfl) rfl rfl (X_load1 (v := .slice A_2 d0.fKeys.length cap_2) rfl (ad := ad0.add 5) (by kernel_rfl) (by kernel_rfl) (p_14.cell ((fun j v h => ((hM_1.trans hM_2).trans hM_3).cell (q0 j v h)) 5 _ rfl))) (fun a_80 f_105 => ?_)
                obtain ⟨x_2, hx_2, hF_40⟩ := bind_some' hF_39
                refine W_okv (v := .bool x_2) f_105 p_14 (by kernel_rfl) (by kernel_rfl) rfl rfl (fun _ => by kernel_rfl) (slices_ContainsFuncstring_string_ok n _ (GL.mono ((hM_1.trans hM_2).trans hM_3) hG) A_2 cap_2 d0.fKeys (h_2.mono ((hM_1.trans hM_2).trans hM_3)) x_2 hx_2) (fun w_15 p_15 a_81 f_106 => ?_)
                refine W_run (L' := [(0, .pointer (some ad0)), (4, .map (some bm_1)), (80, .bool x_2)]) (w' := w_15) f_106 2 [0, 4, 80] (by kernel_rfl) (fun a_82 f_107 => ?_)
                refine W_end rfl ?_
                refine T_n ?_
                refine R_cond f_107 (b := x_2) (by kernel_rfl) (by kernel_rfl) (fun h_19 => ?_) (fun h_19 => ?_)
                · have hF_41 := cnd_t h_19 hF_40
                  refine R_seq ?_
                  refine R_reg ?_
                  refine W_run (L' := [(2, .int .i64 10)]) (w' := w_15) f_107 1 [2] (by kernel_rfl) (fun a_83 f_108 => ?_)
                  refine W_end rfl ?_
                  refine T_n ?_
                  refine wp_ret ?_
                  refine B_r ?_
                  have hF_42 := br_elim hF_41 hF_18
                  refine T_r ?_
                  refine T_r ?_
                  refine E_ret1 f_108 rfl (by kernel_rfl : Vc.look _ 2 = some (.int .i64 10)) ?_
                  obtain rfl := Option.some.inj hF_42
                  exact ⟨_, rfl, M_3, ((hM_1.trans hM_2).trans hM_3), (p_15.dropN 2), rfl⟩
                · have hF_43 := cnd_f h_19 hF_40
                  refine wp_skip ?_
                  refine B_n ?_
                  refine T_n ?_
                  exact ⟨(), (Option.some.inj hF_43).symm, M_3, (hM_2.trans hM_3), f_107.keep (ks := [0, 4]) (by kernel_rfl), p_15⟩
    · rintro a_84 w_16 ⟨y_4, rfl, M_4, hM_4, f_109, p_16⟩
      refine T_n ?_
      refine R_seq ?_
      refine R_seq ?_
      refine R_reg ?_
      refine W_run (L' := [(4, .map (some bm_1)), (96, .pointer (some (ad0.add 5)))]) (w' := w_16) f_109 3 [4, 96] (by kernel_rfl) (fun a_85 f_110 => ?_)
      refine W_eq (v := .slice A_2 d0.fKeys.length cap_2) f_110 (by kernel_rfl) (by kernel_rfl) rfl rfl (X_load1 (v := .slice A_2 d0.fKeys.length cap_2) rfl (ad := ad0.add 5) (by kernel_rfl) (by kernel_rfl) (p_16.cell ((fun j v h => (hM_1.trans hM_4).cell (q0 j v h)) 5 _ rfl))) (fun a_86 f_111 => ?_)
      refine W_run (L' := [(4, .map (some bm_1)), (97, .slice A_2 d0.fKeys.length cap_2), (98, .int .i64 ((d0.fKeys.length : Nat) : Int)), (99, .int .i64 0)]) (w' := w_16) f_111 2 [4, 97, 98, 99] (by kernel_rfl) (fun a_87 f_112 => ?_)
      refine W_end rfl ?_
      refine T_n ?_
      refine wp_block ?_
      obtain ⟨b_2, hL_1, hF_44⟩ := bind_some' hF_18
      refine wp_mono (Q := fun e a w => (e = .ret ∧ (∃ y_5 : (List ((List UInt8) × Bool)), b_2 = .inl y_5 ∧ ∃ M_6 : Mem, M_4.le M_6 ∧ Frm 109 [(2, .int .i64 41)] a ∧ Hp w0 M_6 ((Ent.obj bm_1 (mapO S Value.bool y_5)) :: (Ent.obj b_1 (.cells #[.int .i8 d0.fKind, .bool y_1.1, .int .i64 y_1.2.1, S y_1.2.2.1, .slice A_3 y_1.2.2.2.1.length cap_3, .slice A_4 y_1.2.2.2.2.length cap_4] 26 (0, 0))) :: H) w)) ∨ (e = .exit 2 ∧ (∃ y_6 : (List ((List UInt8) × Bool)), b_2 = .inr y_6 ∧ ∃ M_7 : Mem, M_4.le M_7 ∧ Frm 109 [] a ∧ Hp w0 M_7 ((Ent.obj bm_1 (mapO S Value.bool y_6)) :: (Ent.obj b_1 (.cells #[.int .i8 d0.fKind, .bool y_1.1, .int .i64 y_1.2.1, S y_1.2.2.1, .slice A_3 y_1.2.2.2.1.length cap_3, .slice A_4 y_1.2.2.2.2.length cap_4] 26 (0, 0))) :: H) w))) (R_loop (n := 109) (w0 := w0) (M := M_4) (fun (x : Nat × (Int × (List ((List UInt8) × Bool)))) => match x with | (m_1, s_1) => [(4, .map (some bm_1)), (97, .slice A_2 d0.fKeys.length cap_2), (98, .int .i64 ((d0.fKeys.length : Nat) : Int)), (99, .int .i64 s_1.1)]) (fun (x : Nat × (Int × (List ((List UInt8) × Bool)))) => match x with | (m_1, s_1) => ((Ent.obj bm_1 (mapO S Value.bool s_1.2)) :: (Ent.obj b_1 (.cells #[.int .i8 d0.fKind, .bool y_1.1, .int .i64 y_1.2.1, S y_1.2.2.1, .slice A_3 y_1.2.2.2.1.length cap_3, .slice A_4 y_1.2.2.2.2.length cap_4] 26 (0, 0))) :: H)) (fun (x : Nat × (Int × (List ((List UInt8) × Bool)))) (MM : Mem) => match x with | (m_1, s_1) => loopF (tree_alone_s1 n d0) m_1 s_1 = some b_2) (fun (x : Nat × (Int × (List ((List UInt8) × Bool)))) => match x with | (m_1, s_1) => m_1) (n, ((0 : Int), ([] : List ((List UInt8) × Bool)))) (f_112.keep (ks := [4, 97, 98, 99]) (by kernel_rfl)) p_16 hL_1 ?_) ?_
      · rintro ⟨m_1, s_1⟩ M_5 a_88 w_17 hM_5 I_1 f_113 p_17
        replace f_113 : Frm 109 [(4, .map (some bm_1)), (97, .slice A_2 d0.fKeys.length cap_2), (98, .int .i64 ((d0.fKeys.length : Nat) : Int)), (99, .int .i64 s_1.1)] a_88 := f_113
        replace p_17 : Hp w0 M_5 ((Ent.obj bm_1 (mapO S Value.bool s_1.2)) :: (Ent.obj b_1 (.cells #[.int .i8 d0.fKind, .bool y_1.1, .int .i64 y_1.2.1, S y_1.2.2.1, .slice A_3 y_1.2.2.2.1.length cap_3, .slice A_4 y_1.2.2.2.2.length cap_4] 26 (0, 0))) :: H) w_17 := p_17
        have I_1L := I_1
        obtain ⟨m_2, r_1, rfl, hs_1, hn_1⟩ := loop_step I_1L
        unfold tree_alone_s1 at hs_1
        refine R_seq ?_
        refine R_reg ?_
        refine W_run (L' := [(4, .map (some bm_1)), (97, .slice A_2 d0.fKeys.length cap_2), (98, .int .i64 ((d0.fKeys.length : Nat) : Int)), (99, .int .i64 s_1.1), (100, .bool (decide (s_1.1 < ((d0.fKeys.length : Nat) : Int))))]) (w' := w_17) f_113 1 [4, 97, 98, 99, 100] (by kernel_rfl) (fun a_89 f_114 => ?_)
        refine W_end rfl ?_
        refine T_n ?_
        refine R_seq ?_
        refine R_cond f_114 (b := decide (s_1.1 < ((d0.fKeys.length : Nat) : Int))) (by kernel_rfl) (by kernel_rfl) (fun h_20 => ?_) (fun h_20 => ?_)
        · have k_31 : s_1.1 < ((d0.fKeys.length : Nat) : Int) := decide_eq_true_iff.1 h_20
          have hF_45 := cnd_t h_20 hs_1
          refine wp_skip ?_
          refine T_n ?_
          refine R_seq ?_
          refine wp_block ?_
          refine R_seq ?_
          refine R_reg ?_
          obtain ⟨x_3, hx_3, hF_46⟩ := bind_some' hF_45
          obtain ⟨ad_1, c_1, e_1, hl_1, hr_1, hc_1⟩ := Sli.at_ (h_2.mono ((hM_1.trans hM_4).trans hM_5)) hx_3
          clear hl_1
          obtain rfl : c_1 = [S x_3] := hr_1
          refine W_eq (v := .pointer (some (ad_1.add (s_1.1.toNat * 1)))) f_114 (by kernel_rfl) (by kernel_rfl) rfl rfl (X_indexAddrA e_1 rfl (len := d0.fKeys.length) (cap := cap_2) (k := .i64) (i := s_1.1) (by kernel_rfl) (by kernel_rfl) (e := 9) (by kernel_rfl) (sz := 1) (by kernel_rfl) (getI_nn hx_3) (getI_lt hx_3)) (fun a_90 f_115 => ?_)
          refine W_eq (v := S x_3) f_115 (by kernel_rfl) (by kernel_rfl) rfl rfl (X_load1 (v := S x_3) rfl (ad := ad_1.add (s_1.1.toNat * 1)) (by kernel_rfl) (by kernel_rfl) (p_17.cell (hc_1 0 _ rfl))) (fun a_91 f_116 => ?_)
          refine W_run (L' := [(4, .map (some bm_1)), (6, S x_3), (97, .slice A_2 d0.fKeys.length cap_2), (98, .int .i64 ((d0.fKeys.length : Nat) : Int)), (99, .int .i64 s_1.1)]) (w' := w_17) f_116 1 [4, 6, 97, 98, 99] (by kernel_rfl) (fun a_92 f_117 => ?_)
          refine W_end rfl ?_
          refine T_n ?_
          refine R_seq ?_
          refine R_seq ?_
          refine R_reg ?_
          refine W_run (L' := [(4, .map (some bm_1)), (6, S x_3), (97, .slice A_2 d0.fKeys.length cap_2), (98, .int .i64 ((d0.fKeys.length : Nat) : Int)), (99, .int .i64 s_1.1), (103, .map (some bm_1)), (104, S x_3)]) (w' := w_17) f_117 2 [4, 6, 97, 98, 99, 103, 104] (by kernel_rfl) (fun a_93 f_118 => ?_)
          refine W_eq (v := .bool ((mget s_1.2 x_3).getD false)) f_118 (by kernel_rfl) (by kernel_rfl) rfl rfl (X_lookup1 (ek := S) (ev := Value.bool) (m := s_1.2) (k := x_3) (z := false) (kt := 9) (et := 4) rfl (by kernel_rfl) (by kernel_rfl) (by kernel_rfl) (strKey (by kernel_rfl)) (by kernel_rfl) (p_17.ownObj 0 rfl)) (fun a_94 f_119 => ?_)
          refine W_end rfl ?_
          refine T_n ?_
          refine R_cond f_119 (b := (mget s_1.2 x_3).getD false) (by kernel_rfl) (by kernel_rfl) (fun h_21 => ?_) (fun h_21 => ?_)
          · have hF_47 := cnd_t h_21 hF_46
            refine R_seq ?_
            refine R_reg ?_
            refine W_run (L' := [(2, .int .i64 41)]) (w' := w_17) f_119 1 [2] (by kernel_rfl) (fun a_95 f_120 => ?_)
            refine W_end rfl ?_
            refine T_n ?_
            refine wp_ret ?_
            refine T_r ?_
            refine B_r ?_
            refine T_r ?_
            refine T_r ?_
            obtain rfl := Option.some.inj hF_47
            exact .inl ⟨rfl, s_1.2, (Option.some.inj hn_1).symm, M_5, hM_5, f_120.keep (ks := [2]) (by kernel_rfl), p_17⟩
          · have hF_48 := cnd_f h_21 hF_46
            refine wp_skip ?_
            refine T_n ?_
            refine R_reg ?_
            refine W_run (L' := [(4, .map (some bm_1)), (97, .slice A_2 d0.fKeys.length cap_2), (98, .int .i64 ((d0.fKeys.length : Nat) : Int)), (99, .int .i64 s_1.1), (106, .map (some bm_1)), (107, S x_3)]) (w' := w_17) f_119 2 [4, 97, 98, 99, 106, 107] (by kernel_rfl) (fun a_96 f_121 => ?_)
            refine W_mapput (ek := S) (ev := Value.bool) (m := s_1.2) (k := x_3) (v := (true)) (kt := 9) (et := 4) f_121 p_17 (by kernel_rfl) (by kernel_rfl) rfl (.inl rfl) (by kernel_rfl) (by kernel_rfl) (by kernel_rfl) (by kernel_rfl) (strKey (by kernel_rfl)) (fun w_18 p_18 a_97 f_122 => ?_)
            refine W_end rfl ?_
            refine B_n ?_
            refine T_n ?_
            refine R_reg ?_
            obtain ⟨g_2, hF_49⟩ := need_some hF_48
            refine W_run (L' := [(4, .map (some bm_1)), (97, .slice A_2 d0.fKeys.length cap_2), (98, .int .i64 ((d0.fKeys.length : Nat) : Int)), (99, .int .i64 s_1.1), (106, .map (some bm_1)), (107, S x_3), (108, .int .i64 (IntKind.wrap .i64 (s_1.1 + 1)))]) (w' := w_18) f_122 1 [4, 97, 98, 99, 106, 107, 108] (by kernel_rfl) (fun a_98 f_123 => ?_)
            have f_124 := Frm.set f_123 108 (v := .int .i64 (IntKind.wrap .i64 (s_1.1 + 1))) (v' := .int .i64 (s_1.1 + 1)) (by kernel_rfl) (congrArg (Value.int .i64) (inR_wrap g_2))
            have f_125 : Frm 109 [(4, .map (some bm_1)), (97, .slice A_2 d0.fKeys.length cap_2), (98, .int .i64 ((d0.fKeys.length : Nat) : Int)), (99, .int .i64 s_1.1), (106, .map (some bm_1)), (107, S x_3), (108, .int .i64 (s_1.1 + 1))] a_98 := f_124.keep (ks := [4, 97, 98, 99, 106, 107, 108]) (by kernel_rfl)
            refine W_run (L' := [(4, .map (some bm_1)), (97, .slice A_2 d0.fKeys.length cap_2), (98, .int .i64 ((d0.fKeys.length : Nat) : Int)), (99, .int .i64 (s_1.1 + 1))]) (w' := w_18) f_125 1 [4, 97, 98, 99] (by kernel_rfl) (fun a_99 f_126 => ?_)
            refine W_end rfl ?_
            refine T_n ?_
            obtain rfl := Option.some.inj hF_49
            exact ⟨⟨m_2, (s_1.1 + 1, mput s_1.2 x_3 (true))⟩, Nat.lt_succ_self _, M_5, hM_5, hn_1, f_126.keep (ks := [4, 97, 98, 99]) (by kernel_rfl), p_18⟩
        · have k_34 : ¬ (s_1.1 < ((d0.fKeys.length : Nat) : Int)) := iff_f decide_eq_true_iff h_20
          have hF_50 := cnd_f h_20 hs_1
          refine wp_exit ?_
          refine T_x ?_
          refine T_x ?_
          obtain rfl := Option.some.inj hF_50
          exact .inr ⟨rfl, s_1.2, (Option.some.inj hn_1).symm, M_5, hM_5, f_114.keep (ks := []) (by kernel_rfl), p_17⟩
      · rintro _ a_102 w_21 (⟨rfl, y_5, rfl, M_6, hM_6, f_127, p_19⟩ | ⟨rfl, y_6, rfl, M_7, hM_7, f_128, p_20⟩)
        · refine B_r ?_
          refine T_r ?_
          refine E_ret1 f_127 rfl (by kernel_rfl : Vc.look _ 2 = some (.int .i64 41)) ?_
          obtain rfl := Option.some.inj hF_44
          exact ⟨_, rfl, M_6, ((hM_1.trans hM_4).trans hM_6), (p_19.dropN 2), rfl⟩
        · refine B_x ?_
          refine T_n ?_
          refine R_seq ?_
          refine R_reg ?_
          refine W_run (L' := [(2, .int .i64 0)]) (w' := w_21) f_128 1 [2] (by kernel_rfl) (fun a_103 f_129 => ?_)
          refine W_end rfl ?_
          refine T_n ?_
          refine wp_ret ?_
          refine E_ret1 f_129 rfl (by kernel_rfl : Vc.look _ 2 = some (.int .i64 0)) ?_
          obtain rfl := Option.some.inj hF_44
          exact ⟨_, rfl, M_7, ((hM_1.trans hM_4).trans hM_7), (p_20.dropN 2), rfl⟩

def tree_Check_s1 (n : Nat) (s_1 : Int) (x_2 : T_api_Value) : Option (Lp Int (Int × Int)) :=
    (tree_alone n (⟨x_2.fKind, (x_2.fBool), x_2.fNum, x_2.fText, x_2.fList, x_2.fKeys⟩ : T_api_Value)).bind fun x_3 =>
    bif (!(decide (x_3 = 0))) then
      (some (.br (s_1, x_3)))
    else
      need (inR .i64 (s_1 + 1)) <|
      some (.nx (s_1 + 1))
def tree_Check (n : Nat) (d0 : T_api_Value) : Option Int :=
  (tree_depth n d0 (24 : Int)).bind fun x_1 =>
  bif (decide ((24 : Int) < x_1)) then
    (some ((30 : Int)))
  else
    need ((walkV d0).length ≤ 9223372036854775806) <|
    (foldY (tree_Check_s1 n) (walkV d0) (0 : Int)).bind fun j_1 =>
    (match j_1 with 
    | .nx s_2 => bif (decide ((4096 : Int) < s_2)) then
        (some ((3 : Int)))
      else
        some ((0 : Int)) 
    | .br b_5 => some (b_5.2))
theorem tree_Check_ok (n : Nat) (M : Mem) (hG : GL M) (c0 : List Value) (d0 : T_api_Value) (h0 : Rep M (emb_T_api_Value d0) c0) (r : Int) (hF : tree_Check n d0 = some r) : Ok Tryd.prog M 18 [.agg c0.toArray] (fun _ v => v = .int .i64 r) := by
  unfold tree_Check at hF
  intro M1 hM0 w0 H w p0
  replace hG := GL.mono hM0 hG
  replace h0 := Rep.mono hM0 _ _ h0
  obtain ⟨A_1, cap_1, A_2, cap_2, rfl, h_1, h_2⟩ := T_api_Value.opn h0
  refine R_enterM 19 Tryd.func18 rfl rfl (by simp) (fun a0 f0 => ?_)
  replace f0 : Frm 19 [(0, .agg #[.int .i8 d0.fKind, .bool d0.fBool, .int .i64 d0.fNum, S d0.fText, .slice A_1 d0.fList.length cap_1, .slice A_2 d0.fKeys.length cap_2])] a0 := f0
  refine R_seq ?_
  refine R_reg ?_
  refine W_box (cs := #[.int .i8 d0.fKind, .bool d0.fBool, .int .i64 d0.fNum, S d0.fText, .slice A_1 d0.fList.length cap_1, .slice A_2 d0.fKeys.length cap_2]) (T := 26) f0 p0 1 [0, 1] (fun b_1 => [(0, .agg #[.int .i8 d0.fKind, .bool d0.fBool, .int .i64 d0.fNum, S d0.fText, .slice A_1 d0.fList.length cap_1, .slice A_2 d0.fKeys.length cap_2]), (1, .pointer (some (⟨b_1, 0, none⟩)))]) (fun _ => by kernel_rfl) (fun b_1 M_1 w_1 hM_1 hc_1 p_1 a_1 f_1 => ?_)
  replace f_1 : Frm 19 [(0, .agg #[.int .i8 d0.fKind, .bool d0.fBool, .int .i64 d0.fNum, S d0.fText, .slice A_1 d0.fList.length cap_1, .slice A_2 d0.fKeys.length cap_2]), (1, .pointer (some (⟨b_1, 0, none⟩)))] a_1 := f_1
  have hc_2 := fz_box hc_1
  refine W_alloc f_1 p_1 1 [0, 1, 2] (.cells #[.int .i64 0] 35 (0, 0)) (fun b_2 => [(0, .agg #[.int .i8 d0.fKind, .bool d0.fBool, .int .i64 d0.fNum, S d0.fText, .slice A_1 d0.fList.length cap_1, .slice A_2 d0.fKeys.length cap_2]), (1, .pointer (some (⟨b_1, 0, none⟩))), (2, .pointer (some (⟨b_2, 0, none⟩)))]) (fun _ => by kernel_rfl) (fun b_2 w_2 p_2 a_2 f_2 => ?_)
  replace f_2 : Frm 19 [(0, .agg #[.int .i8 d0.fKind, .bool d0.fBool, .int .i64 d0.fNum, S d0.fText, .slice A_1 d0.fList.length cap_1, .slice A_2 d0.fKeys.length cap_2]), (1, .pointer (some (⟨b_1, 0, none⟩))), (2, .pointer (some (⟨b_2, 0, none⟩)))] a_2 := f_2
  refine W_end rfl ?_
  refine T_n ?_
  refine R_seq ?_
  refine R_seq ?_
  refine R_reg ?_
  obtain ⟨x_1, hx_1, hF_1⟩ := bind_some' hF
  refine W_okv (v := .int .i64 x_1) f_2 p_2 (by kernel_rfl) (by kernel_rfl) rfl rfl (fun _ => by kernel_rfl) (tree_depth_ok n _ (⟨b_1, 0, none⟩) [.int .i8 d0.fKind, .bool d0.fBool, .int .i64 d0.fNum, S d0.fText, .slice A_1 d0.fList.length cap_1, .slice A_2 d0.fKeys.length cap_2] d0 (T_api_Value.shutx (x := d0) (h_1.mono hM_1) (h_2.mono hM_1)) (fz_at (hc_2) 0 rfl) (24 : Int) x_1 hx_1) (fun w_3 p_3 a_3 f_3 => ?_)
  refine W_run (L' := [(1, .pointer (some (⟨b_1, 0, none⟩))), (2, .pointer (some (⟨b_2, 0, none⟩))), (7, .bool (decide ((24 : Int) < x_1)))]) (w' := w_3) f_3 1 [1, 2, 7] (by kernel_rfl) (fun a_4 f_4 => ?_)
  refine W_end rfl ?_
  refine T_n ?_
  refine R_cond f_4 (b := decide ((24 : Int) < x_1)) (by kernel_rfl) (by kernel_rfl) (fun h_3 => ?_) (fun h_3 => ?_)
  · have k_1 : (24 : Int) < x_1 := decide_eq_true_iff.1 h_3
    have hF_2 := cnd_t h_3 hF_1
    refine R_seq ?_
    refine R_reg ?_
    refine W_store1 f_4 p_3 0 (by kernel_rfl) (by kernel_rfl) rfl rfl (b := b_2) (j := 0) (v := .int .i64 30) (by kernel_rfl) (by kernel_rfl) rfl (by kernel_rfl) (by exact rfl) (by simp) (by simp) ((Ent.obj b_2 (.cells #[.int .i64 30] 35 (0, 0))) :: H) rfl (fun w_4 p_4 a_5 f_5 => ?_)
    refine W_end rfl ?_
    refine T_n ?_
    refine wp_ret ?_
    refine T_r ?_
    refine E_M0 f_5 ?_
    refine V_rv1 rfl (Rv.cell1 (v := .int .i64 30) (ad := ⟨b_2, 0, none⟩) f_5 (by kernel_rfl) (by kernel_rfl) (p_4.ownCell 0 rfl 0)) ?_
    obtain rfl := Option.some.inj hF_2
    exact ⟨_, rfl, M_1, hM_1, (p_4.dropN 1), rfl⟩
  · have k_2 : ¬ ((24 : Int) < x_1) := iff_f decide_eq_true_iff h_3
    have hF_3 := cnd_f h_3 hF_1
    refine wp_skip ?_
    refine T_n ?_
    refine R_seq ?_
    refine R_reg ?_
    refine W_alloc f_4 p_3 1 [1, 2, 3, 7] (.cells #[.int .i64 0] 3 (0, 0)) (fun b_3 => [(1, .pointer (some (⟨b_1, 0, none⟩))), (2, .pointer (some (⟨b_2, 0, none⟩))), (3, .pointer (some (⟨b_3, 0, none⟩))), (7, .bool (decide ((24 : Int) < x_1)))]) (fun _ => by kernel_rfl) (fun b_3 w_5 p_5 a_6 f_6 => ?_)
    replace f_6 : Frm 19 [(1, .pointer (some (⟨b_1, 0, none⟩))), (2, .pointer (some (⟨b_2, 0, none⟩))), (3, .pointer (some (⟨b_3, 0, none⟩))), (7, .bool (decide ((24 : Int) < x_1)))] a_6 := f_6
    refine W_store1 f_6 p_5 0 (by kernel_rfl) (by kernel_rfl) rfl rfl (b := b_3) (j := 0) (v := .int .i64 0) (by kernel_rfl) (by kernel_rfl) rfl (by kernel_rfl) (by exact rfl) (by simp) (by simp) ((Ent.obj b_3 (.cells #[.int .i64 0] 3 (0, 0))) :: (Ent.obj b_2 (.cells #[.int .i64 0] 35 (0, 0))) :: H) rfl (fun w_6 p_6 a_7 f_7 => ?_)
    refine W_end rfl ?_
    refine T_n ?_
    refine R_seq ?_
    refine R_seq ?_
    refine R_reg ?_
    refine W_eq (v := .agg #[.int .i8 d0.fKind, .bool d0.fBool, .int .i64 d0.fNum, S d0.fText, .slice A_1 d0.fList.length cap_1, .slice A_2 d0.fKeys.length cap_2]) f_7 (by kernel_rfl) (by kernel_rfl) rfl rfl (X_loadN (cs := [.int .i8 d0.fKind, .bool d0.fBool, .int .i64 d0.fNum, S d0.fText, .slice A_1 d0.fList.length cap_1, .slice A_2 d0.fKeys.length cap_2]) rfl (ad := ⟨b_1, 0, none⟩) (by kernel_rfl) (by kernel_rfl) (fun j v h => p_6.cell (hc_2 j v h))) (fun a_8 f_8 => ?_)
    obtain ⟨g_1, hF_4⟩ := need_some hF_3
    refine W_ok f_8 p_6 (by kernel_rfl) (by kernel_rfl) rfl rfl (fun _ => by kernel_rfl) (walk_ok d0 g_1 _ [.int .i8 d0.fKind, .bool d0.fBool, .int .i64 d0.fNum, S d0.fText, .slice A_1 d0.fList.length cap_1, .slice A_2 d0.fKeys.length cap_2] (T_api_Value.shutx (x := d0) (h_1.mono hM_1) (h_2.mono hM_1))) (fun u_1 M_2 w_7 hM_2 p_7 q_1 a_9 f_9 => ?_)
    obtain ⟨fv_1, cp_1, rfl, hit_1⟩ := q_1
    refine W_end rfl ?_
    refine T_n ?_
    refine wp_block ?_
    have f_10 : Frm 19 [(2, .pointer (some (⟨b_2, 0, none⟩))), (3, .pointer (some (⟨b_3, 0, none⟩))), (9, .func (.func fv_1) #[] cp_1.toArray)] a_9 := f_9.keep (ks := [2, 3, 9]) (by kernel_rfl)
    obtain ⟨j_1, hL_1, hF_5⟩ := bind_some' hF_4
    refine R_range (σ := Int) (β := Int × Int) (vals := valsV) (Y := (tree_Check_s1 n)) (E0 := [Ent.obj b_3 (.cells #[.int .i64 0] 3 (0, 0)), Ent.obj b_2 (.cells #[.int .i64 0] 35 (0, 0))]) (H := H) (w0 := w0) (M := M_2) (f := fv_1) (caps := cp_1) f_10 p_7 (by kernel_rfl) (by kernel_rfl) (by kernel_rfl) hit_1.1 (fun (s_1 : Int) M' E1 => E1 = [Ent.obj b_3 (.cells #[.int .i64 s_1] 3 (0, 0)), Ent.obj b_2 (.cells #[.int .i64 0] 35 (0, 0))]) (fun (y_1 : Int × Int) M' E1 => E1 = [Ent.obj b_3 (.cells #[.int .i64 y_1.1] 3 (0, 0)), Ent.obj b_2 (.cells #[.int .i64 y_1.2] 35 (0, 0))]) (fun (_ : Int × Int) => Jmp.ret) (0 : Int) j_1 rfl (fun s_ M_ M2_ E_ hM h => h) (fun s_ M_ M2_ E_ hM h => h) (fun M_ x_ vs_ h => by obtain ⟨c_, h, _⟩ := h; exact ⟨_, h⟩) (hit_1.2 _ _ _ _ _ hL_1) ?_ ?_ ?_
    · rintro s_1 x_2 r_1 hs_1 l_1 w0 M_3 E_1 H w_8 a_10 v_1 hM_3 rfl ⟨cc_1, hv_1, hr_1⟩ p_8 f_11
      obtain rfl : v_1 = .agg cc_1.toArray := by simpa using hv_1
      replace f_11 : Frm 19 [(10, .agg cc_1.toArray), (2, .pointer (some (⟨b_2, 0, none⟩))), (3, .pointer (some (⟨b_3, 0, none⟩))), (9, .func (.func fv_1) #[] cp_1.toArray)] a_10 := f_11
      replace p_8 : Hp w0 M_3 ((Ent.obj b_3 (.cells #[.int .i64 s_1] 3 (0, 0))) :: (Ent.obj b_2 (.cells #[.int .i64 0] 35 (0, 0))) :: H) w_8 := p_8
      unfold tree_Check_s1 at hs_1
      obtain ⟨A_3, cap_3, A_4, cap_4, rfl, h_4, h_5⟩ := T_api_Value.opn hr_1
      refine RI_reg (then_out F_out) (by kernel_rfl) ?_
      refine W_alloc f_11 p_8 1 [2, 3, 4, 9, 10] (.cells #[.int .i8 0, .bool false, .int .i64 0, S [], .slice none 0 0, .slice none 0 0] 26 (0, 0)) (fun b_4 => [(2, .pointer (some (⟨b_2, 0, none⟩))), (3, .pointer (some (⟨b_3, 0, none⟩))), (4, .pointer (some (⟨b_4, 0, none⟩))), (9, .func (.func fv_1) #[] cp_1.toArray), (10, .agg #[.int .i8 x_2.fKind, .bool x_2.fBool, .int .i64 x_2.fNum, S x_2.fText, .slice A_3 x_2.fList.length cap_3, .slice A_4 x_2.fKeys.length cap_4])]) (fun _ => by kernel_rfl) (fun b_4 w_9 p_9 a_11 f_12 => ?_)
      replace f_12 : Frm 19 [(2, .pointer (some (⟨b_2, 0, none⟩))), (3, .pointer (some (⟨b_3, 0, none⟩))), (4, .pointer (some (⟨b_4, 0, none⟩))), (9, .func (.func fv_1) #[] cp_1.toArray), (10, .agg #[.int .i8 x_2.fKind, .bool x_2.fBool, .int .i64 x_2.fNum, S x_2.fText, .slice A_3 x_2.fList.length cap_3, .slice A_4 x_2.fKeys.length cap_4])] a_11 := f_12
      refine W_storeN (vs := [.int .i8 x_2.fKind, .bool x_2.fBool, .int .i64 x_2.fNum, S x_2.fText, .slice A_3 x_2.fList.length cap_3, .slice A_4 x_2.fKeys.length cap_4]) (j := 0) f_12 p_9 (by kernel_rfl) (by kernel_rfl) rfl rfl (by kernel_rfl) (by kernel_rfl) (by simp [Value.oneCell', S]) (by kernel_rfl) (by simp) (by decide) (cs' := #[.int .i8 x_2.fKind, .bool x_2.fBool, .int .i64 x_2.fNum, S x_2.fText, .slice A_3 x_2.fList.length cap_3, .slice A_4 x_2.fKeys.length cap_4]) rfl (fun w_10 p_10 a_12 f_13 => ?_)
      refine W_end rfl ?_
      refine T_n ?_
      refine ⟨M_3, [Ent.obj b_4 (.cells #[.int .i8 x_2.fKind, .bool x_2.fBool, .int .i64 x_2.fNum, S x_2.fText, .slice A_3 x_2.fList.length cap_3, .slice A_4 x_2.fKeys.length cap_4] 26 (0, 0)), Ent.obj b_3 (.cells #[.int .i64 s_1] 3 (0, 0)), Ent.obj b_2 (.cells #[.int .i64 0] 35 (0, 0))], (Mem.le_refl _), p_10, fun H w_11 p_11 => ?_⟩
      replace p_11 : Hp w0 M_3 ((Ent.obj b_4 (.cells #[.int .i8 x_2.fKind, .bool x_2.fBool, .int .i64 x_2.fNum, S x_2.fText, .slice A_3 x_2.fList.length cap_3, .slice A_4 x_2.fKeys.length cap_4] 26 (0, 0))) :: (Ent.obj b_3 (.cells #[.int .i64 s_1] 3 (0, 0))) :: (Ent.obj b_2 (.cells #[.int .i64 0] 35 (0, 0))) :: H) w_11 := p_11
      refine RI_block ?_
      refine RI_seq ?_
      refine RI_seq ?_
      refine RI_reg (then_out (then_out (block_out (RB_out)))) (by kernel_rfl) ?_
      obtain ⟨M_4, hM_4, p_12, hc_3⟩ := p_11.fzOwn
      obtain ⟨x_3, hx_2, hF_6⟩ := bind_some' hs_1
      refine W_okv (v := .int .i64 x_3) f_13 p_12 (by kernel_rfl) (by kernel_rfl) rfl rfl (fun _ => by kernel_rfl) (tree_alone_ok n _ (GL.mono (((hM_1.trans hM_2).trans hM_3).trans hM_4) hG) (⟨b_4, 0, none⟩) [.int .i8 x_2.fKind, .bool x_2.fBool, .int .i64 x_2.fNum, S x_2.fText, .slice A_3 x_2.fList.length cap_3, .slice A_4 x_2.fKeys.length cap_4] (⟨x_2.fKind, (x_2.fBool), x_2.fNum, x_2.fText, x_2.fList, x_2.fKeys⟩ : T_api_Value) (T_api_Value.shut (h_4.mono hM_4) (h_5.mono hM_4)) (fz_at (hc_3) 0 rfl) x_3 hx_2) (fun w_12 p_13 a_13 f_14 => ?_)
      refine W_run (L' := [(2, .pointer (some (⟨b_2, 0, none⟩))), (3, .pointer (some (⟨b_3, 0, none⟩))), (5, .int .i64 x_3)]) (w' := w_12) f_14 1 [2, 3, 5] (by kernel_rfl) (fun a_14 f_15 => ?_)
      refine W_end rfl ?_
      refine T_n ?_
      refine RI_seq ?_
      refine RI_reg (then_out (then_out (block_out (RB_out)))) (by kernel_rfl) ?_
      refine W_run (L' := [(2, .pointer (some (⟨b_2, 0, none⟩))), (3, .pointer (some (⟨b_3, 0, none⟩))), (5, .int .i64 x_3), (13, .bool (!(decide (x_3 = 0))))]) (w' := w_12) f_15 2 [2, 3, 5, 13] (by kernel_rfl) (fun a_15 f_16 => ?_)
      refine W_end rfl ?_
      refine T_n ?_
      refine RI_cond f_16 (b := !(decide (x_3 = 0))) (by kernel_rfl) (by kernel_rfl) (fun h_6 => ?_) (fun h_6 => ?_)
      · have k_3 : ¬ (x_3 = 0) := (not_iff decide_eq_true_iff).1 h_6
        have hF_7 := cnd_t h_6 hF_6
        refine RI_seq ?_
        refine RI_reg (then_out (then_out (block_out (RB_out)))) (by kernel_rfl) ?_
        refine W_run (L' := [(2, .pointer (some (⟨b_2, 0, none⟩))), (14, .int .i64 x_3)]) (w' := w_12) f_16 1 [2, 14] (by kernel_rfl) (fun a_16 f_17 => ?_)
        refine W_store1 f_17 p_13 1 (by kernel_rfl) (by kernel_rfl) rfl rfl (b := b_2) (j := 0) (v := .int .i64 x_3) (by kernel_rfl) (by kernel_rfl) rfl (by kernel_rfl) (by exact rfl) (by simp) (by simp) ((Ent.obj b_3 (.cells #[.int .i64 s_1] 3 (0, 0))) :: (Ent.obj b_2 (.cells #[.int .i64 x_3] 35 (0, 0))) :: H) rfl (fun w_13 p_14 a_17 f_18 => ?_)
        refine W_end rfl ?_
        refine T_n ?_
        refine RI_ret ?_
        refine T_r ?_
        refine B_r ?_
        obtain rfl := Option.some.inj hF_7
        exact RB_x rfl ⟨M_4, [Ent.obj b_3 (.cells #[.int .i64 s_1] 3 (0, 0)), Ent.obj b_2 (.cells #[.int .i64 x_3] 35 (0, 0))], hM_4, p_14, rfl⟩
      · have k_4 : ¬ (¬ (x_3 = 0)) := iff_f (not_iff decide_eq_true_iff) h_6
        have hF_8 := cnd_f h_6 hF_6
        refine RI_skip ?_
        refine T_n ?_
        refine RI_reg (block_out (RB_out)) (by kernel_rfl) ?_
        refine W_eq (v := .int .i64 s_1) f_16 (by kernel_rfl) (by kernel_rfl) rfl rfl (X_load1 (v := .int .i64 s_1) rfl (ad := ⟨b_3, 0, none⟩) (by kernel_rfl) (by kernel_rfl) (p_13.ownCell 0 rfl 0)) (fun a_18 f_19 => ?_)
        obtain ⟨g_2, hF_9⟩ := need_some hF_8
        refine W_run (L' := [(2, .pointer (some (⟨b_2, 0, none⟩))), (3, .pointer (some (⟨b_3, 0, none⟩))), (5, .int .i64 x_3), (13, .bool (!(decide (x_3 = 0)))), (15, .int .i64 s_1), (16, .int .i64 (IntKind.wrap .i64 (s_1 + 1)))]) (w' := w_12) f_19 1 [2, 3, 5, 13, 15, 16] (by kernel_rfl) (fun a_19 f_20 => ?_)
        have f_21 := Frm.set f_20 16 (v := .int .i64 (IntKind.wrap .i64 (s_1 + 1))) (v' := .int .i64 (s_1 + 1)) (by kernel_rfl) (congrArg (Value.int .i64) (inR_wrap g_2))
        have f_22 : Frm 19 [(2, .pointer (some (⟨b_2, 0, none⟩))), (3, .pointer (some (⟨b_3, 0, none⟩))), (5, .int .i64 x_3), (13, .bool (!(decide (x_3 = 0)))), (15, .int .i64 s_1), (16, .int .i64 (s_1 + 1))] a_19 := f_21.keep (ks := [2, 3, 5, 13, 15, 16]) (by kernel_rfl)
        refine W_store1 f_22 p_13 0 (by kernel_rfl) (by kernel_rfl) rfl rfl (b := b_3) (j := 0) (v := .int .i64 (s_1 + 1)) (by kernel_rfl) (by kernel_rfl) rfl (by kernel_rfl) (by exact rfl) (by simp) (by simp) ((Ent.obj b_3 (.cells #[.int .i64 (s_1 + 1)] 3 (0, 0))) :: (Ent.obj b_2 (.cells #[.int .i64 0] 35 (0, 0))) :: H) rfl (fun w_14 p_15 a_20 f_23 => ?_)
        refine W_end rfl ?_
        refine B_n ?_
        obtain rfl := Option.some.inj hF_9
        exact RB_n ⟨M_4, [Ent.obj b_3 (.cells #[.int .i64 (s_1 + 1)] 3 (0, 0)), Ent.obj b_2 (.cells #[.int .i64 0] 35 (0, 0))], hM_4, p_15, rfl⟩
    · rintro s_2 rfl l_2 D_1 rr_1 M_5 E_2 w_15 a_21 hM_5 rfl p_16 f_24
      replace p_16 : Hp w0 M_5 ((Ent.obj D_1 (.deferred (some []))) :: (Ent.obj b_3 (.cells #[.int .i64 s_2] 3 (0, 0))) :: (Ent.obj b_2 (.cells #[.int .i64 0] 35 (0, 0))) :: H) w_15 := p_16.drop
      replace hF_5 : (_ : Option _) = some _ := hF_5
      refine B_n ?_
      refine T_n ?_
      refine R_seq ?_
      refine R_seq ?_
      refine R_reg ?_
      refine W_eq (v := .int .i64 s_2) f_24 (by kernel_rfl) (by kernel_rfl) rfl rfl (X_load1 (v := .int .i64 s_2) rfl (ad := ⟨b_3, 0, none⟩) (by kernel_rfl) (by kernel_rfl) (p_16.ownCell 1 rfl 0)) (fun a_22 f_25 => ?_)
      refine W_run (L' := [(2, .pointer (some (⟨b_2, 0, none⟩))), (18, .bool (decide ((4096 : Int) < s_2)))]) (w' := w_15) f_25 1 [2, 18] (by kernel_rfl) (fun a_23 f_26 => ?_)
      refine W_end rfl ?_
      refine T_n ?_
      refine R_cond f_26 (b := decide ((4096 : Int) < s_2)) (by kernel_rfl) (by kernel_rfl) (fun h_7 => ?_) (fun h_7 => ?_)
      · have k_5 : (4096 : Int) < s_2 := decide_eq_true_iff.1 h_7
        have hF_10 := cnd_t h_7 hF_5
        refine R_seq ?_
        refine R_reg ?_
        refine W_store1 f_26 p_16 2 (by kernel_rfl) (by kernel_rfl) rfl rfl (b := b_2) (j := 0) (v := .int .i64 3) (by kernel_rfl) (by kernel_rfl) rfl (by kernel_rfl) (by exact rfl) (by simp) (by simp) ((Ent.obj D_1 (.deferred (some []))) :: (Ent.obj b_3 (.cells #[.int .i64 s_2] 3 (0, 0))) :: (Ent.obj b_2 (.cells #[.int .i64 3] 35 (0, 0))) :: H) rfl (fun w_16 p_17 a_24 f_27 => ?_)
        refine W_end rfl ?_
        refine T_n ?_
        refine wp_ret ?_
        refine T_r ?_
        refine E_M1 f_27 p_17 (fun w_17 p_18 => ?_)
        replace p_18 : Hp w0 M_5 ((Ent.obj b_3 (.cells #[.int .i64 s_2] 3 (0, 0))) :: (Ent.obj b_2 (.cells #[.int .i64 3] 35 (0, 0))) :: H) w_17 := p_18
        refine V_rv1 rfl (Rv.cell1 (v := .int .i64 3) (ad := ⟨b_2, 0, none⟩) f_27 (by kernel_rfl) (by kernel_rfl) (p_18.ownCell 1 rfl 0)) ?_
        obtain rfl := Option.some.inj hF_10
        exact ⟨_, rfl, M_5, ((hM_1.trans hM_2).trans hM_5), (p_18.dropN 2), rfl⟩
      · have k_6 : ¬ ((4096 : Int) < s_2) := iff_f decide_eq_true_iff h_7
        have hF_11 := cnd_f h_7 hF_5
        refine wp_skip ?_
        refine T_n ?_
        refine R_seq ?_
        refine R_reg ?_
        refine W_store1 f_26 p_16 2 (by kernel_rfl) (by kernel_rfl) rfl rfl (b := b_2) (j := 0) (v := .int .i64 0) (by kernel_rfl) (by kernel_rfl) rfl (by kernel_rfl) (by exact rfl) (by simp) (by simp) ((Ent.obj D_1 (.deferred (some []))) :: (Ent.obj b_3 (.cells #[.int .i64 s_2] 3 (0, 0))) :: (Ent.obj b_2 (.cells #[.int .i64 0] 35 (0, 0))) :: H) rfl (fun w_18 p_19 a_25 f_28 => ?_)
        refine W_end rfl ?_
        refine T_n ?_
        refine wp_ret ?_
        refine E_M1 f_28 p_19 (fun w_19 p_20 => ?_)
        replace p_20 : Hp w0 M_5 ((Ent.obj b_3 (.cells #[.int .i64 s_2] 3 (0, 0))) :: (Ent.obj b_2 (.cells #[.int .i64 0] 35 (0, 0))) :: H) w_19 := p_20
        refine V_rv1 rfl (Rv.cell1 (v := .int .i64 0) (ad := ⟨b_2, 0, none⟩) f_28 (by kernel_rfl) (by kernel_rfl) (p_20.ownCell 1 rfl 0)) ?_
        obtain rfl := Option.some.inj hF_11
        exact ⟨_, rfl, M_5, ((hM_1.trans hM_2).trans hM_5), (p_20.dropN 2), rfl⟩
    · rintro b_5 rfl l_3 D_2 rr_2 M_6 E_3 w_20 a_26 hM_6 hx_3 p_21 f_29
      obtain rfl := hx_3
      replace p_21 : Hp w0 M_6 ((Ent.obj D_2 (.deferred (some []))) :: (Ent.obj b_3 (.cells #[.int .i64 b_5.1] 3 (0, 0))) :: (Ent.obj b_2 (.cells #[.int .i64 b_5.2] 35 (0, 0))) :: H) w_20 := p_21.drop
      refine B_r ?_
      refine T_r ?_
      refine E_M1 f_29 p_21 (fun w_21 p_22 => ?_)
      replace p_22 : Hp w0 M_6 ((Ent.obj b_3 (.cells #[.int .i64 b_5.1] 3 (0, 0))) :: (Ent.obj b_2 (.cells #[.int .i64 b_5.2] 35 (0, 0))) :: H) w_21 := p_22
      refine V_rv1 rfl (Rv.cell1 (v := .int .i64 b_5.2) (ad := ⟨b_2, 0, none⟩) f_29 (by kernel_rfl) (by kernel_rfl) (p_22.ownCell 1 rfl 0)) ?_
      obtain rfl := Option.some.inj hF_5
      exact ⟨_, rfl, M_6, ((hM_1.trans hM_2).trans hM_6), (p_22.dropN 2), rfl⟩
end Go.Proofs.YtekkifakjkhjiaaDoor
