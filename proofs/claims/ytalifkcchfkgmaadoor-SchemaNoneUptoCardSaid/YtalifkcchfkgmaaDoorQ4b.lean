/-
  Printed by a program: of each function its shallow reading, and the proof that the function gives what the reading gives. No condition.
-/
import Derived.Test.YtalifkcchfkgmaaDoorQ3a
import Derived.Test.YtalifkcchfkgmaaDoorHd
import Derived.Test.YtalifkcchfkgmaaDoorWalkIt2
set_option linter.unusedVariables false
set_option linter.unusedSimpArgs false
namespace Go.Proofs.YtalifkcchfkgmaaDoor
open Go Go.Vc Go.RowKit
def runes_Valid (n : Nat) (d0 : List UInt8) : Option Bool :=
  (h_ValidString n d0).bind fun x_1 =>
  some ((x_1))
theorem runes_Valid_ok (n : Nat) (M : Mem) (hG : GL M) (d0 : List UInt8) (r : Bool) (hF : runes_Valid n d0 = some r) : Ok Tryd.prog M 87 [S d0] (fun _ v => v = .bool r) := by
  unfold runes_Valid at hF
  intro M1 hM0 w0 H w p0
  replace hG := GL.mono hM0 hG
  refine R_enter 5 Tryd.func87 rfl rfl (by simp) (fun a0 f0 => ?_)
  refine R_seq (R_reg ?_)
  refine V_run f0 1 (by kernel_rfl) (fun a_1 f_1 => ?_)
  refine W_end rfl (T_n (R_seq (R_reg ?_)))
  refine V_run f_1 1 (by kernel_rfl) (fun a_2 f_2 => ?_)
  obtain ⟨x_1, hx_1, hF_1⟩ := bind_some' hF
  refine V_okv f_2 p0 (h_ValidString_ok n _ hG d0 x_1 hx_1) (by kernel_rfl) (fun _ => by kernel_rfl) (fun w_1 p_1 a_3 f_3 => ?_)
  refine V_run f_3 1 (by kernel_rfl) (fun a_4 f_4 => ?_)
  refine W_end rfl (T_n (wp_ret ?_))
  refine E_ret1 f_4 rfl (by kernel_rfl : Vc.look _ 2 = some (.bool x_1)) ?_
  obtain rfl := Option.some.inj hF_1
  exact ⟨_, rfl, M1, (Mem.le_refl _), p_1, rfl⟩

def tree_alone_1 (n : Nat) (d0 : List UInt8) : Option Bool :=
  (runes_Valid n d0).bind fun x_1 =>
  some ((!x_1))
theorem tree_alone_1_ok (n : Nat) (M : Mem) (hG : GL M) (d0 : List UInt8) (r : Bool) (hF : tree_alone_1 n d0 = some r) : Ok Tryd.prog M 100 [S d0] (fun _ v => v = .bool r) := by
  unfold tree_alone_1 at hF
  intro M1 hM0 w0 H w p0
  replace hG := GL.mono hM0 hG
  refine R_enter 6 Tryd.func100 rfl rfl (by simp) (fun a0 f0 => ?_)
  refine R_seq (R_reg ?_)
  refine V_run f0 1 (by kernel_rfl) (fun a_1 f_1 => ?_)
  refine W_end rfl (T_n (R_seq (R_reg ?_)))
  refine V_run f_1 1 (by kernel_rfl) (fun a_2 f_2 => ?_)
  obtain ⟨x_1, hx_1, hF_1⟩ := bind_some' hF
  refine V_okv f_2 p0 (runes_Valid_ok n _ hG d0 x_1 hx_1) (by kernel_rfl) (fun _ => by kernel_rfl) (fun w_1 p_1 a_3 f_3 => ?_)
  refine V_run f_3 2 (by kernel_rfl) (fun a_4 f_4 => ?_)
  refine W_end rfl (T_n (wp_ret ?_))
  refine E_ret1 f_4 rfl (by kernel_rfl : Vc.look _ 2 = some (.bool !x_1)) ?_
  obtain rfl := Option.some.inj hF_1
  exact ⟨_, rfl, M1, (Mem.le_refl _), p_1, rfl⟩

def slices_IndexFuncstring_string_s1 (n : Nat) (d0 : List (List UInt8)) (s_1 : Int) : Option (Lp Int (Sum Int Unit)) :=
    bif (decide (s_1 < ((d0.length : Nat) : Int))) then
      ((getI d0 s_1).bind fun x_1 =>
      (tree_alone_1 n x_1).bind fun x_2 =>
      bif x_2 then
        (some (.br (.inl s_1)))
      else
        need (inR .i64 (s_1 + 1)) <|
        some (.nx (s_1 + 1)))
    else
      some (.br (.inr ()))
def slices_IndexFuncstring_string (n : Nat) (d0 : List (List UInt8)) : Option Int :=
  (loopF (slices_IndexFuncstring_string_s1 n d0) n (0 : Int)).bind fun b_1 =>
  (match b_1 with 
  | .inl y_1 => some (y_1) 
  | .inr y_2 => some ((-1 : Int)))
set_option maxHeartbeats 2000000 in
theorem slices_IndexFuncstring_string_ok (n : Nat) (M : Mem) (hG : GL M) (A0 : Option Addr) (cap0 : Nat) (d0 : List (List UInt8)) (h0 : Sli M 1 Dat.str A0 cap0 d0) (r : Int) (hF : slices_IndexFuncstring_string n d0 = some r) : Ok Tryd.prog M 112 [.slice A0 d0.length cap0, .func (.func 100) #[] #[]] (fun _ v => v = .int .i64 r) := by
  unfold slices_IndexFuncstring_string at hF
  intro M1 hM0 w0 H w p0
  replace hG := GL.mono hM0 hG
  replace h0 := h0.mono hM0
  refine R_enter 19 Tryd.func112 rfl rfl (by simp) (fun a0 f0 => ?_)
  refine R_seq (R_reg ?_)
  refine V_run f0 1 (by kernel_rfl) (fun a_1 f_1 => ?_)
  refine W_end rfl (T_n (R_seq (R_seq (R_reg ?_))))
  refine V_run f_1 3 (by kernel_rfl) (fun a_2 f_2 => ?_)
  refine W_end rfl (T_n (wp_block ?_))
  obtain ⟨b_1, hL_1, hF_1⟩ := bind_some' hF
  refine wp_mono (Q := fun e a w => (e = .ret ∧ (∃ y_1 : Int, b_1 = .inl y_1 ∧ ∃ M_2 : Mem, M1.le M_2 ∧ Frm 19 [(4, .int .i64 y_1)] a ∧ Hp w0 M_2 (H) w)) ∨ (e = .exit 0 ∧ (∃ y_2 : Unit, b_1 = .inr y_2 ∧ ∃ M_3 : Mem, M1.le M_3 ∧ Frm 19 [] a ∧ Hp w0 M_3 (H) w))) (R_loop (n := 19) (w0 := w0) (M := M1) (fun (x : Nat × Int) => match x with | (m_1, s_1) => [(0, .slice A0 d0.length cap0), (1, .func (.func 100) #[] #[]), (7, .int .i64 ((d0.length : Nat) : Int)), (8, .int .i64 s_1)]) (fun (x : Nat × Int) => match x with | (m_1, s_1) => (H)) (fun (x : Nat × Int) (MM : Mem) => match x with | (m_1, s_1) => loopF (slices_IndexFuncstring_string_s1 n d0) m_1 s_1 = some b_1) (fun (x : Nat × Int) => match x with | (m_1, s_1) => m_1) (n, (0 : Int)) (f_2.keep (ks := [0, 1, 7, 8]) (by kernel_rfl)) p0 hL_1 ?_) ?_
  · rintro ⟨m_1, s_1⟩ M_1 a_3 w_1 hM_1 I_1 f_3 p_1
    have I_1L := I_1
    obtain ⟨m_2, r_1, rfl, hs_1, hn_1⟩ := loop_step I_1L
    unfold slices_IndexFuncstring_string_s1 at hs_1
    refine R_seq (R_reg ?_)
    refine V_run f_3 1 (by kernel_rfl) (fun a_4 f_4 => ?_)
    refine W_end rfl (T_n (R_seq ?_))
    refine R_cond f_4 (b := decide (s_1 < ((d0.length : Nat) : Int))) (by kernel_rfl) (by kernel_rfl) (fun h_1 => ?_) (fun h_1 => ?_)
    · have k_1 : s_1 < ((d0.length : Nat) : Int) := decide_eq_true_iff.1 h_1
      have hF_2 := cnd_t h_1 hs_1
      refine wp_skip (T_n (R_seq (wp_block (R_seq (R_reg ?_)))))
      refine V_run f_4 2 (by kernel_rfl) (fun a_5 f_5 => ?_)
      refine W_end rfl (T_n (R_seq (R_reg ?_)))
      refine V_run f_5 3 (by kernel_rfl) (fun a_6 f_6 => ?_)
      obtain ⟨x_1, hx_1, hF_3⟩ := bind_some' hF_2
      obtain ⟨ad_1, c_1, e_1, hl_1, hr_1, hc_1⟩ := Sli.at_ (h0.mono hM_1) hx_1
      clear hl_1
      obtain rfl : c_1 = [S x_1] := hr_1
      refine V_eq (v := .pointer (some (ad_1.add (s_1.toNat * 1)))) f_6 (by kernel_rfl) (X_indexAddrA e_1 rfl (len := d0.length) (cap := cap0) (k := .i64) (i := s_1) (by kernel_rfl) (by kernel_rfl) (e := 9) (by kernel_rfl) (sz := 1) (by kernel_rfl) (getI_nn hx_1) (getI_lt hx_1)) (fun a_7 f_7 => ?_)
      refine V_ld f_7 p_1 hc_1 0 rfl (by kernel_rfl) (by kernel_rfl) (fun a_8 f_8 => ?_)
      obtain ⟨x_2, hx_2, hF_4⟩ := bind_some' hF_3
      refine V_okv f_8 p_1 (tree_alone_1_ok n _ (GL.mono hM_1 hG) x_1 x_2 hx_2) (by kernel_rfl) (fun _ => by kernel_rfl) (fun w_2 p_2 a_9 f_9 => ?_)
      refine W_end rfl (T_n ?_)
      refine R_cond f_9 (b := x_2) (by kernel_rfl) (by kernel_rfl) (fun h_2 => ?_) (fun h_2 => ?_)
      · have hF_5 := cnd_t h_2 hF_4
        refine R_seq (R_reg ?_)
        refine V_run f_9 2 (by kernel_rfl) (fun a_10 f_10 => ?_)
        refine W_end rfl (T_n (wp_ret (B_r (T_r (T_r ?_)))))
        obtain rfl := Option.some.inj hF_5
        exact .inl ⟨rfl, s_1, (Option.some.inj hn_1).symm, M_1, hM_1, f_10.keep (ks := [4]) (by kernel_rfl), p_2⟩
      · have hF_6 := cnd_f h_2 hF_4
        refine wp_skip (B_n (T_n (R_reg ?_)))
        obtain ⟨g_1, hF_7⟩ := need_some hF_6
        refine V_run f_9 1 (by kernel_rfl) (fun a_11 f_11 => ?_)
        have f_12 := Frm.set f_11 18 (v := .int .i64 (IntKind.wrap .i64 (s_1 + 1))) (v' := .int .i64 (s_1 + 1)) (by kernel_rfl) (congrArg (Value.int .i64) (inR_wrap g_1))
        refine V_run f_12 1 (by kernel_rfl) (fun a_12 f_13 => ?_)
        refine W_end rfl (T_n ?_)
        obtain rfl := Option.some.inj hF_7
        exact ⟨⟨m_2, s_1 + 1⟩, Nat.lt_succ_self _, M_1, hM_1, hn_1, f_13.keep (ks := [0, 1, 7, 8]) (by kernel_rfl), p_2⟩
    · have k_4 : ¬ (s_1 < ((d0.length : Nat) : Int)) := iff_f decide_eq_true_iff h_1
      have hF_8 := cnd_f h_1 hs_1
      refine wp_exit (T_x (T_x ?_))
      obtain rfl := Option.some.inj hF_8
      exact .inr ⟨rfl, (), (Option.some.inj hn_1).symm, M_1, hM_1, f_4.keep (ks := []) (by kernel_rfl), p_1⟩
  · rintro _ a_15 w_5 (⟨rfl, y_1, rfl, M_2, hM_2, f_14, p_3⟩ | ⟨rfl, y_2, rfl, M_3, hM_3, f_15, p_4⟩)
    · refine B_r (T_r ?_)
      refine E_ret1 f_14 rfl (by kernel_rfl : Vc.look _ 4 = some (.int .i64 y_1)) ?_
      obtain rfl := Option.some.inj hF_1
      exact ⟨_, rfl, M_2, hM_2, p_3, rfl⟩
    · refine B_x (T_n (R_seq (R_reg ?_)))
      refine V_run f_15 1 (by kernel_rfl) (fun a_16 f_16 => ?_)
      refine W_end rfl (T_n (wp_ret ?_))
      refine E_ret1 f_16 rfl (by kernel_rfl : Vc.look _ 4 = some (.int .i64 (-1))) ?_
      obtain rfl := Option.some.inj hF_1
      exact ⟨_, rfl, M_3, hM_3, p_4, rfl⟩

def slices_ContainsFuncstring_string (n : Nat) (d0 : List (List UInt8)) : Option Bool :=
  (slices_IndexFuncstring_string n d0).bind fun x_1 =>
  some ((decide ((0 : Int) ≤ x_1)))
theorem slices_ContainsFuncstring_string_ok (n : Nat) (M : Mem) (hG : GL M) (A0 : Option Addr) (cap0 : Nat) (d0 : List (List UInt8)) (h0 : Sli M 1 Dat.str A0 cap0 d0) (r : Bool) (hF : slices_ContainsFuncstring_string n d0 = some r) : Ok Tryd.prog M 99 [.slice A0 d0.length cap0, .func (.func 100) #[] #[]] (fun _ v => v = .bool r) := by
  unfold slices_ContainsFuncstring_string at hF
  intro M1 hM0 w0 H w p0
  replace hG := GL.mono hM0 hG
  replace h0 := h0.mono hM0
  refine R_enter 9 Tryd.func99 rfl rfl (by simp) (fun a0 f0 => ?_)
  refine R_seq (R_reg ?_)
  refine V_run f0 1 (by kernel_rfl) (fun a_1 f_1 => ?_)
  refine W_end rfl (T_n (R_seq (R_reg ?_)))
  refine V_run f_1 2 (by kernel_rfl) (fun a_2 f_2 => ?_)
  obtain ⟨x_1, hx_1, hF_1⟩ := bind_some' hF
  refine V_okv f_2 p0 (slices_IndexFuncstring_string_ok n _ hG A0 cap0 d0 h0 x_1 hx_1) (by kernel_rfl) (fun _ => by kernel_rfl) (fun w_1 p_1 a_3 f_3 => ?_)
  refine V_run f_3 2 (by kernel_rfl) (fun a_4 f_4 => ?_)
  refine W_end rfl (T_n (wp_ret ?_))
  refine E_ret1 f_4 rfl (by kernel_rfl : Vc.look _ 4 = some (.bool (decide ((0 : Int) ≤ x_1)))) ?_
  obtain rfl := Option.some.inj hF_1
  exact ⟨_, rfl, M1, (Mem.le_refl _), p_1, rfl⟩

def tree_alone_s1 (n : Nat) (d0 : T_api_Value) (s_1 : Int × (List ((List UInt8) × Bool))) : Option (Lp (Int × (List ((List UInt8) × Bool))) (Sum (List ((List UInt8) × Bool)) (List ((List UInt8) × Bool)))) :=
    bif (decide (s_1.1 < ((d0.fKeys.length : Nat) : Int))) then
      ((getI d0.fKeys s_1.1).bind fun x_3 =>
      bif ((mget s_1.2 x_3).getD false) then
        (some (.br (.inl s_1.2)))
      else
        need (inR .i64 (s_1.1 + 1)) <|
        some (.nx (s_1.1 + 1, mput s_1.2 x_3 (true))))
    else
      some (.br (.inr s_1.2))
def tree_alone (n : Nat) (d0 : T_api_Value) : Option Int :=
  ((bif (decide (d0.fKind = 0)) then
      (some (.nx ((d0.fBool), d0.fNum, d0.fText, d0.fList, d0.fKeys)))
    else
      bif (decide (d0.fKind = 1)) then
        (some (.nx ((false), d0.fNum, d0.fText, d0.fList, d0.fKeys)))
      else
        bif (decide (d0.fKind = 2)) then
          (some (.nx ((d0.fBool), (0 : Int), d0.fText, d0.fList, d0.fKeys)))
        else
          bif (decide (d0.fKind = 3)) then
            (some (.nx ((d0.fBool), d0.fNum, ([] : List UInt8), d0.fList, d0.fKeys)))
          else
            bif (decide (d0.fKind = 4)) then
              (some (.nx ((d0.fBool), d0.fNum, d0.fText, ([] : List T_api_Value), d0.fKeys)))
            else
              bif (decide (d0.fKind = 5)) then
                (bif (!(decide (((d0.fKeys.length : Nat) : Int) = ((d0.fList.length : Nat) : Int)))) then
                  (((some ((2 : Int)) : Option Int)).map Lp.br)
                else
                  some (.nx ((d0.fBool), d0.fNum, d0.fText, ([] : List T_api_Value), ([] : List (List UInt8)))))
              else
                ((some ((2 : Int)) : Option Int)).map Lp.br : Option (Lp (Bool × Int × List UInt8 × List T_api_Value × List (List UInt8)) Int))).bind fun j => joinF j fun y_1 =>
  ((((bif y_1.1 then
        (some ((true)))
      else
        bif (!(decide (y_1.2.1 = 0))) then
          (some ((true)))
        else
          bif (!(decide (y_1.2.2.1 = []))) then
            (some ((true)))
          else
            need (inR .i64 (((y_1.2.2.2.1.length : Nat) : Int) + ((y_1.2.2.2.2.length : Nat) : Int))) <|
            some ((decide ((0 : Int) < (((y_1.2.2.2.1.length : Nat) : Int) + ((y_1.2.2.2.2.length : Nat) : Int))))) : Option Bool)).bind fun y_2 =>
    bif y_2 then
      (((some ((2 : Int)) : Option Int)).map Lp.br)
    else
      ((bif (decide (d0.fNum < (-9007199254740992))) then
          (some ((true)))
        else
          some ((decide ((9007199254740992 : Int) < d0.fNum))) : Option Bool)).bind fun y_3 =>
      bif y_3 then
        (((some ((20 : Int)) : Option Int)).map Lp.br)
      else
        (runes_Valid n d0.fText).bind fun x_1 =>
        bif !x_1 then
          (((some ((10 : Int)) : Option Int)).map Lp.br)
        else
          (slices_ContainsFuncstring_string n d0.fKeys).bind fun x_2 =>
          bif x_2 then
            (((some ((10 : Int)) : Option Int)).map Lp.br)
          else
            some (.nx ()) : Option (Lp Unit Int))).bind fun j => joinF j fun y_4 =>
  (loopF (tree_alone_s1 n d0) n ((0 : Int), ([] : List ((List UInt8) × Bool)))).bind fun b_2 =>
  (match b_2 with 
  | .inl y_5 => some ((41 : Int)) 
  | .inr y_6 => some ((0 : Int)))
set_option maxHeartbeats 2000000 in
theorem tree_alone_ok (n : Nat) (M : Mem) (hG : GL M) (ad0 : Addr) (c0 : List Value) (d0 : T_api_Value) (h0 : Rep M (emb_T_api_Value d0) c0) (q0 : ∀ j v, c0[j]? = some v → M.cell? (ad0.add j) = some v) (r : Int) (hF : tree_alone n d0 = some r) : Ok Tryd.prog M 86 [.pointer (some ad0)] (fun _ v => v = .int .i64 r) := by
  unfold tree_alone at hF
  intro M1 hM0 w0 H w p0
  replace hG := GL.mono hM0 hG
  replace h0 := Rep.mono hM0 _ _ h0
  replace q0 := fun j v h => hM0.cell (q0 j v h)
  obtain ⟨A_1, cap_1, A_2, cap_2, rfl, h_1, h_2⟩ := T_api_Value.opn h0
  refine R_enter 109 Tryd.func86 rfl rfl (by simp) (fun a0 f0 => ?_)
  refine R_seq (R_reg ?_)
  refine V_run f0 1 (by kernel_rfl) (fun a_1 f_1 => ?_)
  refine W_end rfl (T_n (R_seq (R_reg ?_)))
  refine V_run f_1 2 (by kernel_rfl) (fun a_2 f_2 => ?_)
  refine V_eq (v := .agg #[.int .i8 d0.fKind, .bool d0.fBool, .int .i64 d0.fNum, S d0.fText, .slice A_1 d0.fList.length cap_1, .slice A_2 d0.fKeys.length cap_2]) f_2 (by kernel_rfl) (X_loadN (cs := [.int .i8 d0.fKind, .bool d0.fBool, .int .i64 d0.fNum, S d0.fText, .slice A_1 d0.fList.length cap_1, .slice A_2 d0.fKeys.length cap_2]) rfl (ad := ad0) (by kernel_rfl) (by kernel_rfl) (fun j v h => p0.cell (q0 j v h))) (fun a_3 f_3 => ?_)
  refine V_alloc f_3 p0 (.cells #[.int .i8 0, .bool false, .int .i64 0, S [], .slice none 0 0, .slice none 0 0] 33 (0, 0)) (by kernel_rfl) (fun _ => by kernel_rfl) (fun b_1 w_1 p_1 a_4 f_4 => ?_)
  refine W_storeN (vs := [.int .i8 d0.fKind, .bool d0.fBool, .int .i64 d0.fNum, S d0.fText, .slice A_1 d0.fList.length cap_1, .slice A_2 d0.fKeys.length cap_2]) (j := 0) f_4 p_1 (by kernel_rfl) (by kernel_rfl) rfl rfl (by kernel_rfl) (by kernel_rfl) (by simp [Value.oneCell', S]) (by kernel_rfl) (by simp) (by decide) (cs' := #[.int .i8 d0.fKind, .bool d0.fBool, .int .i64 d0.fNum, S d0.fText, .slice A_1 d0.fList.length cap_1, .slice A_2 d0.fKeys.length cap_2]) rfl (fun w_2 p_2 a_5 f_5 => ?_)
  refine W_end rfl (T_n (R_seq (R_seq (R_reg ?_))))
  refine V_run f_5 3 (by kernel_rfl) (fun a_6 f_6 => ?_)
  refine V_ld f_6 p_2 q0 0 rfl (by kernel_rfl) (by kernel_rfl) (fun a_7 f_7 => ?_)
  refine W_end rfl (T_n ?_)
  obtain ⟨j_1, hj_1, hF_1⟩ := bind_some' hF
  refine R_mid (fun a_33 w_10 => ∃ y_1 : Bool × Int × List UInt8 × List T_api_Value × List (List UInt8), j_1 = .nx y_1 ∧ ∃ M_1 : Mem, M1.le M_1 ∧ ∃ (A_3 : Option Addr), ∃ (cap_3 : Nat), ∃ (A_4 : Option Addr), ∃ (cap_4 : Nat), Sli M_1 6 emb_T_api_Value A_3 cap_3 y_1.2.2.2.1 ∧ Sli M_1 1 Dat.str A_4 cap_4 y_1.2.2.2.2 ∧ Frm 109 [(0, .pointer (some ad0)), (3, .pointer (some (⟨b_1, 0, none⟩)))] a_33 ∧ Hp w0 M_1 ((Ent.obj b_1 (.cells #[.int .i8 d0.fKind, .bool y_1.1, .int .i64 y_1.2.1, S y_1.2.2.1, .slice A_3 y_1.2.2.2.1.length cap_3, .slice A_4 y_1.2.2.2.2.length cap_4] 33 (0, 0))) :: H) w_10) ?_ ?_
  · refine wp_block (R_seq (R_reg ?_))
    refine V_run f_7 2 (by kernel_rfl) (fun a_8 f_8 => ?_)
    refine W_end rfl (T_n ?_)
    refine R_cond f_8 (b := decide (d0.fKind = 0)) (by kernel_rfl) (by kernel_rfl) (fun h_3 => ?_) (fun h_3 => ?_)
    · have k_1 : d0.fKind = 0 := decide_eq_true_iff.1 h_3
      have hF_2 := cnd_t h_3 hj_1
      refine wp_skip (B_n (T_n ?_))
      exact ⟨((d0.fBool), d0.fNum, d0.fText, d0.fList, d0.fKeys), (Option.some.inj hF_2).symm, M1, (Mem.le_refl _), A_1, cap_1, A_2, cap_2, h_1, h_2, f_8.keep (ks := [0, 3]) (by kernel_rfl), p_2⟩
    · have k_2 : ¬ (d0.fKind = 0) := iff_f decide_eq_true_iff h_3
      have hF_3 := cnd_f h_3 hj_1
      refine R_seq (R_reg ?_)
      refine V_run f_8 2 (by kernel_rfl) (fun a_9 f_9 => ?_)
      refine W_end rfl (T_n ?_)
      refine R_cond f_9 (b := decide (d0.fKind = 1)) (by kernel_rfl) (by kernel_rfl) (fun h_4 => ?_) (fun h_4 => ?_)
      · have k_3 : d0.fKind = 1 := decide_eq_true_iff.1 h_4
        have hF_4 := cnd_t h_4 hF_3
        refine R_reg ?_
        refine V_run f_9 1 (by kernel_rfl) (fun a_10 f_10 => ?_)
        refine W_store1 f_10 p_2 0 (by kernel_rfl) (by kernel_rfl) rfl rfl (b := b_1) (j := 1) (v := .bool false) (by kernel_rfl) (by kernel_rfl) rfl (by kernel_rfl) (by exact rfl) (by simp) (by simp) ((Ent.obj b_1 (.cells #[.int .i8 d0.fKind, .bool false, .int .i64 d0.fNum, S d0.fText, .slice A_1 d0.fList.length cap_1, .slice A_2 d0.fKeys.length cap_2] 33 (0, 0))) :: H) rfl (fun w_3 p_3 a_11 f_11 => ?_)
        refine W_end rfl (B_n (T_n ?_))
        exact ⟨((false), d0.fNum, d0.fText, d0.fList, d0.fKeys), (Option.some.inj hF_4).symm, M1, (Mem.le_refl _), A_1, cap_1, A_2, cap_2, h_1, h_2, f_11.keep (ks := [0, 3]) (by kernel_rfl), p_3⟩
      · have k_4 : ¬ (d0.fKind = 1) := iff_f decide_eq_true_iff h_4
        have hF_5 := cnd_f h_4 hF_3
        refine R_seq (R_reg ?_)
        refine V_run f_9 2 (by kernel_rfl) (fun a_12 f_12 => ?_)
        refine W_end rfl (T_n ?_)
        refine R_cond f_12 (b := decide (d0.fKind = 2)) (by kernel_rfl) (by kernel_rfl) (fun h_5 => ?_) (fun h_5 => ?_)
        · have k_5 : d0.fKind = 2 := decide_eq_true_iff.1 h_5
          have hF_6 := cnd_t h_5 hF_5
          refine R_reg ?_
          refine V_run f_12 1 (by kernel_rfl) (fun a_13 f_13 => ?_)
          refine W_store1 f_13 p_2 0 (by kernel_rfl) (by kernel_rfl) rfl rfl (b := b_1) (j := 2) (v := .int .i64 0) (by kernel_rfl) (by kernel_rfl) rfl (by kernel_rfl) (by exact rfl) (by simp) (by simp) ((Ent.obj b_1 (.cells #[.int .i8 d0.fKind, .bool d0.fBool, .int .i64 0, S d0.fText, .slice A_1 d0.fList.length cap_1, .slice A_2 d0.fKeys.length cap_2] 33 (0, 0))) :: H) rfl (fun w_4 p_4 a_14 f_14 => ?_)
          refine W_end rfl (B_n (T_n ?_))
          exact ⟨((d0.fBool), (0 : Int), d0.fText, d0.fList, d0.fKeys), (Option.some.inj hF_6).symm, M1, (Mem.le_refl _), A_1, cap_1, A_2, cap_2, h_1, h_2, f_14.keep (ks := [0, 3]) (by kernel_rfl), p_4⟩
        · have k_6 : ¬ (d0.fKind = 2) := iff_f decide_eq_true_iff h_5
          have hF_7 := cnd_f h_5 hF_5
          refine R_seq (R_reg ?_)
          refine V_run f_12 2 (by kernel_rfl) (fun a_15 f_15 => ?_)
          refine W_end rfl (T_n ?_)
          refine R_cond f_15 (b := decide (d0.fKind = 3)) (by kernel_rfl) (by kernel_rfl) (fun h_6 => ?_) (fun h_6 => ?_)
          · have k_7 : d0.fKind = 3 := decide_eq_true_iff.1 h_6
            have hF_8 := cnd_t h_6 hF_7
            refine R_reg ?_
            refine V_run f_15 1 (by kernel_rfl) (fun a_16 f_16 => ?_)
            refine W_store1 f_16 p_2 0 (by kernel_rfl) (by kernel_rfl) rfl rfl (b := b_1) (j := 3) (v := S []) (by kernel_rfl) (by kernel_rfl) rfl (by kernel_rfl) (by exact rfl) (by simp) (by simp) ((Ent.obj b_1 (.cells #[.int .i8 d0.fKind, .bool d0.fBool, .int .i64 d0.fNum, S [], .slice A_1 d0.fList.length cap_1, .slice A_2 d0.fKeys.length cap_2] 33 (0, 0))) :: H) rfl (fun w_5 p_5 a_17 f_17 => ?_)
            refine W_end rfl (B_n (T_n ?_))
            exact ⟨((d0.fBool), d0.fNum, ([] : List UInt8), d0.fList, d0.fKeys), (Option.some.inj hF_8).symm, M1, (Mem.le_refl _), A_1, cap_1, A_2, cap_2, h_1, h_2, f_17.keep (ks := [0, 3]) (by kernel_rfl), p_5⟩
          · have k_8 : ¬ (d0.fKind = 3) := iff_f decide_eq_true_iff h_6
            have hF_9 := cnd_f h_6 hF_7
            refine R_seq (R_reg ?_)
            refine V_run f_15 2 (by kernel_rfl) (fun a_18 f_18 => ?_)
            refine W_end rfl (T_n ?_)
            refine R_cond f_18 (b := decide (d0.fKind = 4)) (by kernel_rfl) (by kernel_rfl) (fun h_7 => ?_) (fun h_7 => ?_)
            · have k_9 : d0.fKind = 4 := decide_eq_true_iff.1 h_7
              have hF_10 := cnd_t h_7 hF_9
              refine R_reg ?_
              refine V_run f_18 1 (by kernel_rfl) (fun a_19 f_19 => ?_)
              refine W_store1 f_19 p_2 0 (by kernel_rfl) (by kernel_rfl) rfl rfl (b := b_1) (j := 4) (v := .slice none 0 0) (by kernel_rfl) (by kernel_rfl) rfl (by kernel_rfl) (by exact rfl) (by simp) (by simp) ((Ent.obj b_1 (.cells #[.int .i8 d0.fKind, .bool d0.fBool, .int .i64 d0.fNum, S d0.fText, .slice none 0 0, .slice A_2 d0.fKeys.length cap_2] 33 (0, 0))) :: H) rfl (fun w_6 p_6 a_20 f_20 => ?_)
              refine W_end rfl (B_n (T_n ?_))
              exact ⟨((d0.fBool), d0.fNum, d0.fText, ([] : List T_api_Value), d0.fKeys), (Option.some.inj hF_10).symm, M1, (Mem.le_refl _), none, 0, A_2, cap_2, Sli.nil, h_2, f_20.keep (ks := [0, 3]) (by kernel_rfl), p_6⟩
            · have k_10 : ¬ (d0.fKind = 4) := iff_f decide_eq_true_iff h_7
              have hF_11 := cnd_f h_7 hF_9
              refine R_seq (R_reg ?_)
              refine V_run f_18 2 (by kernel_rfl) (fun a_21 f_21 => ?_)
              refine W_end rfl (T_n ?_)
              refine R_cond f_21 (b := decide (d0.fKind = 5)) (by kernel_rfl) (by kernel_rfl) (fun h_8 => ?_) (fun h_8 => ?_)
              · have k_11 : d0.fKind = 5 := decide_eq_true_iff.1 h_8
                have hF_12 := cnd_t h_8 hF_11
                refine R_seq (R_seq ?_)
                refine R_draw p_2 (by kernel_rfl) (by kernel_rfl) ?_
                refine Q_run default f_21 3 (fun _ => by kernel_rfl) (fun a_22 f_22 => ?_)
                refine Q_ld f_22 q0 5 rfl (by kernel_rfl) (by kernel_rfl) (fun a_23 f_23 => ?_)
                refine Q_run default f_23 4 (fun _ => by kernel_rfl) (fun a_24 f_24 => ?_)
                refine Q_ld f_24 q0 4 rfl (by kernel_rfl) (by kernel_rfl) (fun a_25 f_25 => ?_)
                refine Q_run default f_25 2 (fun _ => by kernel_rfl) (fun a_26 f_26 => ?_)
                refine Q_end rfl ?_
                intro w_7 p_7
                refine T_n ?_
                refine R_cond f_26 (b := !(decide (((d0.fKeys.length : Nat) : Int) = ((d0.fList.length : Nat) : Int)))) (by kernel_rfl) (by kernel_rfl) (fun h_9 => ?_) (fun h_9 => ?_)
                · have k_12 : ¬ (((d0.fKeys.length : Nat) : Int) = ((d0.fList.length : Nat) : Int)) := (not_iff decide_eq_true_iff).1 h_9
                  have hF_13 := cnd_t h_9 hF_12
                  refine R_seq (R_reg ?_)
                  refine V_run f_26 1 (by kernel_rfl) (fun a_27 f_27 => ?_)
                  refine W_end rfl (T_n (wp_ret (T_r (B_r ?_))))
                  have hF_14 := br_elim hF_13 hF_1
                  refine T_r (T_r ?_)
                  refine E_ret1 f_27 rfl (by kernel_rfl : Vc.look _ 2 = some (.int .i64 2)) ?_
                  obtain rfl := Option.some.inj hF_14
                  exact ⟨_, rfl, M1, (Mem.le_refl _), (p_7.dropN 1), rfl⟩
                · have k_13 : ¬ (¬ (((d0.fKeys.length : Nat) : Int) = ((d0.fList.length : Nat) : Int))) := iff_f (not_iff decide_eq_true_iff) h_9
                  have hF_15 := cnd_f h_9 hF_12
                  refine wp_skip (T_n (R_reg ?_))
                  refine V_run f_26 1 (by kernel_rfl) (fun a_28 f_28 => ?_)
                  refine W_store1 f_28 p_7 0 (by kernel_rfl) (by kernel_rfl) rfl rfl (b := b_1) (j := 4) (v := .slice none 0 0) (by kernel_rfl) (by kernel_rfl) rfl (by kernel_rfl) (by exact rfl) (by simp) (by simp) ((Ent.obj b_1 (.cells #[.int .i8 d0.fKind, .bool d0.fBool, .int .i64 d0.fNum, S d0.fText, .slice none 0 0, .slice A_2 d0.fKeys.length cap_2] 33 (0, 0))) :: H) rfl (fun w_8 p_8 a_29 f_29 => ?_)
                  refine V_run f_29 1 (by kernel_rfl) (fun a_30 f_30 => ?_)
                  refine W_store1 f_30 p_8 0 (by kernel_rfl) (by kernel_rfl) rfl rfl (b := b_1) (j := 5) (v := .slice none 0 0) (by kernel_rfl) (by kernel_rfl) rfl (by kernel_rfl) (by exact rfl) (by simp) (by simp) ((Ent.obj b_1 (.cells #[.int .i8 d0.fKind, .bool d0.fBool, .int .i64 d0.fNum, S d0.fText, .slice none 0 0, .slice none 0 0] 33 (0, 0))) :: H) rfl (fun w_9 p_9 a_31 f_31 => ?_)
                  refine W_end rfl (B_n (T_n ?_))
                  exact ⟨((d0.fBool), d0.fNum, d0.fText, ([] : List T_api_Value), ([] : List (List UInt8))), (Option.some.inj hF_15).symm, M1, (Mem.le_refl _), none, 0, none, 0, Sli.nil, Sli.nil, f_31.keep (ks := [0, 3]) (by kernel_rfl), p_9⟩
              · have k_14 : ¬ (d0.fKind = 5) := iff_f decide_eq_true_iff h_8
                have hF_16 := cnd_f h_8 hF_11
                refine R_seq (R_reg ?_)
                refine V_run f_21 1 (by kernel_rfl) (fun a_32 f_32 => ?_)
                refine W_end rfl (T_n (wp_ret (B_r ?_)))
                have hF_17 := br_elim hF_16 hF_1
                refine T_r (T_r ?_)
                refine E_ret1 f_32 rfl (by kernel_rfl : Vc.look _ 2 = some (.int .i64 2)) ?_
                obtain rfl := Option.some.inj hF_17
                exact ⟨_, rfl, M1, (Mem.le_refl _), (p_2.dropN 1), rfl⟩
  · rintro a_33 w_10 ⟨y_1, rfl, M_1, hM_1, A_3, cap_3, A_4, cap_4, h_10, h_11, f_33, p_10⟩
    refine T_n (R_seq (R_reg ?_))
    refine W_newmap S Value.bool f_33 p_10 (by kernel_rfl) (by kernel_rfl) rfl rfl rfl (fun bm_1 w_11 p_11 a_34 f_34 => ?_)
    refine V_run f_34 1 (by kernel_rfl) (fun a_35 f_35 => ?_)
    refine W_end rfl (T_n (R_seq ?_))
    obtain ⟨j_2, hj_2, hF_18⟩ := bind_some' hF_1
    refine R_mid (fun a_78 w_16 => ∃ y_4 : Unit, j_2 = .nx y_4 ∧ ∃ M_4 : Mem, M_1.le M_4 ∧ Frm 109 [(0, .pointer (some ad0)), (4, .map (some bm_1))] a_78 ∧ Hp w0 M_4 ((Ent.obj bm_1 (mapO S Value.bool ([] : List ((List UInt8) × Bool)))) :: (Ent.obj b_1 (.cells #[.int .i8 d0.fKind, .bool y_1.1, .int .i64 y_1.2.1, S y_1.2.2.1, .slice A_3 y_1.2.2.2.1.length cap_3, .slice A_4 y_1.2.2.2.2.length cap_4] 33 (0, 0))) :: H) w_16) ?_ ?_
    · refine wp_block (R_seq ?_)
      obtain ⟨j_3, hj_3, hF_19⟩ := bind_some' hj_2
      refine R_mid (fun a_56 w_12 => ∃ y_2 : Bool, j_3 = y_2 ∧ ∃ M_2 : Mem, M_1.le M_2 ∧ Frm 109 [(0, .pointer (some ad0)), (4, .map (some bm_1)), (44, .bool y_2)] a_56 ∧ Hp w0 M_2 ((Ent.obj bm_1 (mapO S Value.bool ([] : List ((List UInt8) × Bool)))) :: (Ent.obj b_1 (.cells #[.int .i8 d0.fKind, .bool y_1.1, .int .i64 y_1.2.1, S y_1.2.2.1, .slice A_3 y_1.2.2.2.1.length cap_3, .slice A_4 y_1.2.2.2.2.length cap_4] 33 (0, 0))) :: H) w_12) ?_ ?_
      · refine R_reg ?_
        refine V_run f_35 1 (by kernel_rfl) (fun a_36 f_36 => ?_)
        refine V_eq (v := .bool y_1.1) f_36 (by kernel_rfl) (X_load1 (v := .bool y_1.1) rfl (ad := ⟨b_1, 1, none⟩) (by kernel_rfl) (by kernel_rfl) (p_11.ownCell 1 rfl 1)) (fun a_37 f_37 => ?_)
        refine V_run f_37 1 (by kernel_rfl) (fun a_38 f_38 => ?_)
        rcases Bool.eq_false_or_eq_true (y_1.1) with h_12 | h_12
        · have hF_20 := cnd_t h_12 hj_3
          have f_39 := Frm.set f_38 47 (v := .bool y_1.1) (v' := .bool true) (by kernel_rfl) (congrArg Value.bool h_12)
          refine V_run f_39 20 (by kernel_rfl) (fun a_39 f_40 => ?_)
          refine W_end rfl (T_n ?_)
          exact ⟨(true), (Option.some.inj hF_20).symm, M_1, (Mem.le_refl _), f_40.keep (ks := [0, 4, 44]) (by kernel_rfl), p_11⟩
        · have hF_21 := cnd_f h_12 hj_3
          have f_41 := Frm.set f_38 47 (v := .bool y_1.1) (v' := .bool false) (by kernel_rfl) (congrArg Value.bool h_12)
          refine V_run f_41 1 (by kernel_rfl) (fun a_40 f_42 => ?_)
          refine V_eq (v := .int .i64 y_1.2.1) f_42 (by kernel_rfl) (X_load1 (v := .int .i64 y_1.2.1) rfl (ad := ⟨b_1, 2, none⟩) (by kernel_rfl) (by kernel_rfl) (p_11.ownCell 1 rfl 2)) (fun a_41 f_43 => ?_)
          refine V_run f_43 3 (by kernel_rfl) (fun a_42 f_44 => ?_)
          rcases Bool.eq_false_or_eq_true (!(decide (y_1.2.1 = 0))) with h_13 | h_13
          · have k_17 : ¬ (y_1.2.1 = 0) := (not_iff decide_eq_true_iff).1 h_13
            have hF_22 := cnd_t h_13 hF_21
            have f_45 := Frm.set f_44 52 (v := .bool (!(decide (y_1.2.1 = 0)))) (v' := .bool true) (by kernel_rfl) (congrArg Value.bool h_13)
            refine V_run f_45 15 (by kernel_rfl) (fun a_43 f_46 => ?_)
            refine W_end rfl (T_n ?_)
            exact ⟨(true), (Option.some.inj hF_22).symm, M_1, (Mem.le_refl _), f_46.keep (ks := [0, 4, 44]) (by kernel_rfl), p_11⟩
          · have k_18 : ¬ (¬ (y_1.2.1 = 0)) := iff_f (not_iff decide_eq_true_iff) h_13
            have hF_23 := cnd_f h_13 hF_21
            have f_47 := Frm.set f_44 52 (v := .bool (!(decide (y_1.2.1 = 0)))) (v' := .bool false) (by kernel_rfl) (congrArg Value.bool h_13)
            refine V_run f_47 1 (by kernel_rfl) (fun a_44 f_48 => ?_)
            refine V_eq (v := S y_1.2.2.1) f_48 (by kernel_rfl) (X_load1 (v := S y_1.2.2.1) rfl (ad := ⟨b_1, 3, none⟩) (by kernel_rfl) (by kernel_rfl) (p_11.ownCell 1 rfl 3)) (fun a_45 f_49 => ?_)
            refine V_eq (v := .bool (!(decide (y_1.2.2.1 = [])))) f_49 (by kernel_rfl) (X_strne rfl (l := y_1.2.2.1) (m := []) (by kernel_rfl) (by kernel_rfl)) (fun a_46 f_50 => ?_)
            refine V_run f_50 2 (by kernel_rfl) (fun a_47 f_51 => ?_)
            rcases Bool.eq_false_or_eq_true (!(decide (y_1.2.2.1 = []))) with h_14 | h_14
            · have k_19 : ¬ (y_1.2.2.1 = []) := (not_iff decide_eq_true_iff).1 h_14
              have hF_24 := cnd_t h_14 hF_23
              have f_52 := Frm.set f_51 57 (v := .bool (!(decide (y_1.2.2.1 = [])))) (v' := .bool true) (by kernel_rfl) (congrArg Value.bool h_14)
              refine V_run f_52 10 (by kernel_rfl) (fun a_48 f_53 => ?_)
              refine W_end rfl (T_n ?_)
              exact ⟨(true), (Option.some.inj hF_24).symm, M_1, (Mem.le_refl _), f_53.keep (ks := [0, 4, 44]) (by kernel_rfl), p_11⟩
            · have k_20 : ¬ (¬ (y_1.2.2.1 = [])) := iff_f (not_iff decide_eq_true_iff) h_14
              have hF_25 := cnd_f h_14 hF_23
              have f_54 := Frm.set f_51 57 (v := .bool (!(decide (y_1.2.2.1 = [])))) (v' := .bool false) (by kernel_rfl) (congrArg Value.bool h_14)
              refine V_run f_54 1 (by kernel_rfl) (fun a_49 f_55 => ?_)
              refine V_eq (v := .slice A_3 y_1.2.2.2.1.length cap_3) f_55 (by kernel_rfl) (X_load1 (v := .slice A_3 y_1.2.2.2.1.length cap_3) rfl (ad := ⟨b_1, 4, none⟩) (by kernel_rfl) (by kernel_rfl) (p_11.ownCell 1 rfl 4)) (fun a_50 f_56 => ?_)
              refine V_run f_56 2 (by kernel_rfl) (fun a_51 f_57 => ?_)
              refine V_eq (v := .slice A_4 y_1.2.2.2.2.length cap_4) f_57 (by kernel_rfl) (X_load1 (v := .slice A_4 y_1.2.2.2.2.length cap_4) rfl (ad := ⟨b_1, 5, none⟩) (by kernel_rfl) (by kernel_rfl) (p_11.ownCell 1 rfl 5)) (fun a_52 f_58 => ?_)
              refine V_run f_58 1 (by kernel_rfl) (fun a_53 f_59 => ?_)
              obtain ⟨g_1, hF_26⟩ := need_some hF_25
              refine V_run f_59 1 (by kernel_rfl) (fun a_54 f_60 => ?_)
              have f_61 := Frm.set f_60 64 (v := .int .i64 (IntKind.wrap .i64 (((y_1.2.2.2.1.length : Nat) : Int) + ((y_1.2.2.2.2.length : Nat) : Int)))) (v' := .int .i64 (((y_1.2.2.2.1.length : Nat) : Int) + ((y_1.2.2.2.2.length : Nat) : Int))) (by kernel_rfl) (congrArg (Value.int .i64) (inR_wrap g_1))
              refine V_run f_61 3 (by kernel_rfl) (fun a_55 f_62 => ?_)
              refine W_end rfl (T_n ?_)
              exact ⟨(decide ((0 : Int) < (((y_1.2.2.2.1.length : Nat) : Int) + ((y_1.2.2.2.2.length : Nat) : Int)))), (Option.some.inj hF_26).symm, M_1, (Mem.le_refl _), f_62.keep (ks := [0, 4, 44]) (by kernel_rfl), p_11⟩
      · rintro a_56 w_12 ⟨y_2, hq_2, M_2, hM_2, f_63, p_12⟩
        subst j_3
        refine T_n ?_
        refine R_cond f_63 (b := y_2) (by kernel_rfl) (by kernel_rfl) (fun h_15 => ?_) (fun h_15 => ?_)
        · have hF_27 := cnd_t h_15 hF_19
          refine R_seq (R_reg ?_)
          refine V_run f_63 1 (by kernel_rfl) (fun a_57 f_64 => ?_)
          refine W_end rfl (T_n (wp_ret (B_r ?_)))
          have hF_28 := br_elim hF_27 hF_18
          refine T_r (T_r ?_)
          refine E_ret1 f_64 rfl (by kernel_rfl : Vc.look _ 2 = some (.int .i64 2)) ?_
          obtain rfl := Option.some.inj hF_28
          exact ⟨_, rfl, M_2, (hM_1.trans hM_2), (p_12.dropN 2), rfl⟩
        · have hF_29 := cnd_f h_15 hF_19
          refine R_seq ?_
          obtain ⟨j_4, hj_4, hF_30⟩ := bind_some' hF_29
          refine R_mid (fun a_65 w_13 => ∃ y_3 : Bool, j_4 = y_3 ∧ ∃ M_3 : Mem, M_2.le M_3 ∧ Frm 109 [(0, .pointer (some ad0)), (4, .map (some bm_1)), (67, .bool y_3)] a_65 ∧ Hp w0 M_3 ((Ent.obj bm_1 (mapO S Value.bool ([] : List ((List UInt8) × Bool)))) :: (Ent.obj b_1 (.cells #[.int .i8 d0.fKind, .bool y_1.1, .int .i64 y_1.2.1, S y_1.2.2.1, .slice A_3 y_1.2.2.2.1.length cap_3, .slice A_4 y_1.2.2.2.2.length cap_4] 33 (0, 0))) :: H) w_13) ?_ ?_
          · refine R_reg ?_
            refine V_run f_63 3 (by kernel_rfl) (fun a_58 f_65 => ?_)
            refine V_ld f_65 p_12 (fzu (hM_1.trans hM_2) q0) 2 rfl (by kernel_rfl) (by kernel_rfl) (fun a_59 f_66 => ?_)
            refine V_run f_66 2 (by kernel_rfl) (fun a_60 f_67 => ?_)
            rcases Bool.eq_false_or_eq_true (decide (d0.fNum < (-9007199254740992))) with h_16 | h_16
            · have k_23 : d0.fNum < (-9007199254740992) := decide_eq_true_iff.1 h_16
              have hF_31 := cnd_t h_16 hj_4
              have f_68 := Frm.set f_67 73 (v := .bool (decide (d0.fNum < (-9007199254740992)))) (v' := .bool true) (by kernel_rfl) (congrArg Value.bool h_16)
              refine V_run f_68 7 (by kernel_rfl) (fun a_61 f_69 => ?_)
              refine W_end rfl (T_n ?_)
              exact ⟨(true), (Option.some.inj hF_31).symm, M_2, (Mem.le_refl _), f_69.keep (ks := [0, 4, 67]) (by kernel_rfl), p_12⟩
            · have k_24 : ¬ (d0.fNum < (-9007199254740992)) := iff_f decide_eq_true_iff h_16
              have hF_32 := cnd_f h_16 hj_4
              have f_70 := Frm.set f_67 73 (v := .bool (decide (d0.fNum < (-9007199254740992)))) (v' := .bool false) (by kernel_rfl) (congrArg Value.bool h_16)
              refine V_run f_70 3 (by kernel_rfl) (fun a_62 f_71 => ?_)
              refine V_ld f_71 p_12 (fzu (hM_1.trans hM_2) q0) 2 rfl (by kernel_rfl) (by kernel_rfl) (fun a_63 f_72 => ?_)
              refine V_run f_72 3 (by kernel_rfl) (fun a_64 f_73 => ?_)
              refine W_end rfl (T_n ?_)
              exact ⟨(decide ((9007199254740992 : Int) < d0.fNum)), (Option.some.inj hF_32).symm, M_2, (Mem.le_refl _), f_73.keep (ks := [0, 4, 67]) (by kernel_rfl), p_12⟩
          · rintro a_65 w_13 ⟨y_3, hq_3, M_3, hM_3, f_74, p_13⟩
            subst j_4
            refine T_n ?_
            refine R_cond f_74 (b := y_3) (by kernel_rfl) (by kernel_rfl) (fun h_17 => ?_) (fun h_17 => ?_)
            · have hF_33 := cnd_t h_17 hF_30
              refine R_seq (R_reg ?_)
              refine V_run f_74 1 (by kernel_rfl) (fun a_66 f_75 => ?_)
              refine W_end rfl (T_n (wp_ret (B_r ?_)))
              have hF_34 := br_elim hF_33 hF_18
              refine T_r (T_r ?_)
              refine E_ret1 f_75 rfl (by kernel_rfl : Vc.look _ 2 = some (.int .i64 20)) ?_
              obtain rfl := Option.some.inj hF_34
              exact ⟨_, rfl, M_3, ((hM_1.trans hM_2).trans hM_3), (p_13.dropN 2), rfl⟩
            · have hF_35 := cnd_f h_17 hF_30
              refine R_seq (R_reg ?_)
              refine V_run f_74 3 (by kernel_rfl) (fun a_67 f_76 => ?_)
              refine V_ld f_76 p_13 (fzu ((hM_1.trans hM_2).trans hM_3) q0) 3 rfl (by kernel_rfl) (by kernel_rfl) (fun a_68 f_77 => ?_)
              obtain ⟨x_1, hx_1, hF_36⟩ := bind_some' hF_35
              refine V_okv f_77 p_13 (runes_Valid_ok n _ (GL.mono ((hM_1.trans hM_2).trans hM_3) hG) d0.fText x_1 hx_1) (by kernel_rfl) (fun _ => by kernel_rfl) (fun w_14 p_14 a_69 f_78 => ?_)
              refine V_run f_78 2 (by kernel_rfl) (fun a_70 f_79 => ?_)
              rcases Bool.eq_false_or_eq_true (!x_1) with h_18 | h_18
              · have k_27 : (x_1) = false := by simpa using h_18
                have hF_37 := cnd_t h_18 hF_36
                have f_80 := Frm.set f_79 87 (v := .bool !x_1) (v' := .bool true) (by kernel_rfl) (congrArg Value.bool h_18)
                refine V_run f_80 7 (by kernel_rfl) (fun a_71 f_81 => ?_)
                refine W_end rfl (T_n ?_)
                refine R_cond_t f_81 (by kernel_rfl) (by kernel_rfl) ?_
                refine R_seq (R_reg ?_)
                refine V_run f_81 1 (by kernel_rfl) (fun a_72 f_82 => ?_)
                refine W_end rfl (T_n (wp_ret (B_r ?_)))
                have hF_38 := br_elim hF_37 hF_18
                refine T_r (T_r ?_)
                refine E_ret1 f_82 rfl (by kernel_rfl : Vc.look _ 2 = some (.int .i64 10)) ?_
                obtain rfl := Option.some.inj hF_38
                exact ⟨_, rfl, M_3, ((hM_1.trans hM_2).trans hM_3), (p_14.dropN 2), rfl⟩
              · have k_28 : (x_1) = true := by simpa using h_18
                have hF_39 := cnd_f h_18 hF_36
                have f_83 := Frm.set f_79 87 (v := .bool !x_1) (v' := .bool false) (by kernel_rfl) (congrArg Value.bool h_18)
                refine V_run f_83 3 (by kernel_rfl) (fun a_73 f_84 => ?_)
                refine V_ld f_84 p_14 (fzu ((hM_1.trans hM_2).trans hM_3) q0) 5 rfl (by kernel_rfl) (by kernel_rfl) (fun a_74 f_85 => ?_)
                obtain ⟨x_2, hx_2, hF_40⟩ := bind_some' hF_39
                refine V_okv f_85 p_14 (slices_ContainsFuncstring_string_ok n _ (GL.mono ((hM_1.trans hM_2).trans hM_3) hG) A_2 cap_2 d0.fKeys (h_2.mono ((hM_1.trans hM_2).trans hM_3)) x_2 hx_2) (by kernel_rfl) (fun _ => by kernel_rfl) (fun w_15 p_15 a_75 f_86 => ?_)
                refine V_run f_86 2 (by kernel_rfl) (fun a_76 f_87 => ?_)
                refine W_end rfl (T_n ?_)
                refine R_cond f_87 (b := x_2) (by kernel_rfl) (by kernel_rfl) (fun h_19 => ?_) (fun h_19 => ?_)
                · have hF_41 := cnd_t h_19 hF_40
                  refine R_seq (R_reg ?_)
                  refine V_run f_87 1 (by kernel_rfl) (fun a_77 f_88 => ?_)
                  refine W_end rfl (T_n (wp_ret (B_r ?_)))
                  have hF_42 := br_elim hF_41 hF_18
                  refine T_r (T_r ?_)
                  refine E_ret1 f_88 rfl (by kernel_rfl : Vc.look _ 2 = some (.int .i64 10)) ?_
                  obtain rfl := Option.some.inj hF_42
                  exact ⟨_, rfl, M_3, ((hM_1.trans hM_2).trans hM_3), (p_15.dropN 2), rfl⟩
                · have hF_43 := cnd_f h_19 hF_40
                  refine wp_skip (B_n (T_n ?_))
                  exact ⟨(), (Option.some.inj hF_43).symm, M_3, (hM_2.trans hM_3), f_87.keep (ks := [0, 4]) (by kernel_rfl), p_15⟩
    · rintro a_78 w_16 ⟨y_4, rfl, M_4, hM_4, f_89, p_16⟩
      refine T_n (R_seq (R_seq (R_reg ?_)))
      refine V_run f_89 3 (by kernel_rfl) (fun a_79 f_90 => ?_)
      refine V_ld f_90 p_16 (fzu (hM_1.trans hM_4) q0) 5 rfl (by kernel_rfl) (by kernel_rfl) (fun a_80 f_91 => ?_)
      refine V_run f_91 2 (by kernel_rfl) (fun a_81 f_92 => ?_)
      refine W_end rfl (T_n (wp_block ?_))
      obtain ⟨b_2, hL_1, hF_44⟩ := bind_some' hF_18
      refine wp_mono (Q := fun e a w => (e = .ret ∧ (∃ y_5 : (List ((List UInt8) × Bool)), b_2 = .inl y_5 ∧ ∃ M_6 : Mem, M_4.le M_6 ∧ Frm 109 [(2, .int .i64 41)] a ∧ Hp w0 M_6 ((Ent.obj bm_1 (mapO S Value.bool y_5)) :: (Ent.obj b_1 (.cells #[.int .i8 d0.fKind, .bool y_1.1, .int .i64 y_1.2.1, S y_1.2.2.1, .slice A_3 y_1.2.2.2.1.length cap_3, .slice A_4 y_1.2.2.2.2.length cap_4] 33 (0, 0))) :: H) w)) ∨ (e = .exit 2 ∧ (∃ y_6 : (List ((List UInt8) × Bool)), b_2 = .inr y_6 ∧ ∃ M_7 : Mem, M_4.le M_7 ∧ Frm 109 [] a ∧ Hp w0 M_7 ((Ent.obj bm_1 (mapO S Value.bool y_6)) :: (Ent.obj b_1 (.cells #[.int .i8 d0.fKind, .bool y_1.1, .int .i64 y_1.2.1, S y_1.2.2.1, .slice A_3 y_1.2.2.2.1.length cap_3, .slice A_4 y_1.2.2.2.2.length cap_4] 33 (0, 0))) :: H) w))) (R_loop (n := 109) (w0 := w0) (M := M_4) (fun (x : Nat × (Int × (List ((List UInt8) × Bool)))) => match x with | (m_1, s_1) => [(4, .map (some bm_1)), (97, .slice A_2 d0.fKeys.length cap_2), (98, .int .i64 ((d0.fKeys.length : Nat) : Int)), (99, .int .i64 s_1.1)]) (fun (x : Nat × (Int × (List ((List UInt8) × Bool)))) => match x with | (m_1, s_1) => ((Ent.obj bm_1 (mapO S Value.bool s_1.2)) :: (Ent.obj b_1 (.cells #[.int .i8 d0.fKind, .bool y_1.1, .int .i64 y_1.2.1, S y_1.2.2.1, .slice A_3 y_1.2.2.2.1.length cap_3, .slice A_4 y_1.2.2.2.2.length cap_4] 33 (0, 0))) :: H)) (fun (x : Nat × (Int × (List ((List UInt8) × Bool)))) (MM : Mem) => match x with | (m_1, s_1) => loopF (tree_alone_s1 n d0) m_1 s_1 = some b_2) (fun (x : Nat × (Int × (List ((List UInt8) × Bool)))) => match x with | (m_1, s_1) => m_1) (n, ((0 : Int), ([] : List ((List UInt8) × Bool)))) (f_92.keep (ks := [4, 97, 98, 99]) (by kernel_rfl)) p_16 hL_1 ?_) ?_
      · rintro ⟨m_1, s_1⟩ M_5 a_82 w_17 hM_5 I_1 f_93 p_17
        have I_1L := I_1
        obtain ⟨m_2, r_1, rfl, hs_1, hn_1⟩ := loop_step I_1L
        unfold tree_alone_s1 at hs_1
        refine R_seq (R_reg ?_)
        refine V_run f_93 1 (by kernel_rfl) (fun a_83 f_94 => ?_)
        refine W_end rfl (T_n (R_seq ?_))
        refine R_cond f_94 (b := decide (s_1.1 < ((d0.fKeys.length : Nat) : Int))) (by kernel_rfl) (by kernel_rfl) (fun h_20 => ?_) (fun h_20 => ?_)
        · have k_31 : s_1.1 < ((d0.fKeys.length : Nat) : Int) := decide_eq_true_iff.1 h_20
          have hF_45 := cnd_t h_20 hs_1
          refine wp_skip (T_n (R_seq (wp_block (R_seq (R_reg ?_)))))
          obtain ⟨x_3, hx_3, hF_46⟩ := bind_some' hF_45
          obtain ⟨ad_1, c_1, e_1, hl_1, hr_1, hc_1⟩ := Sli.at_ (h_2.mono ((hM_1.trans hM_4).trans hM_5)) hx_3
          clear hl_1
          obtain rfl : c_1 = [S x_3] := hr_1
          refine V_eq (v := .pointer (some (ad_1.add (s_1.1.toNat * 1)))) f_94 (by kernel_rfl) (X_indexAddrA e_1 rfl (len := d0.fKeys.length) (cap := cap_2) (k := .i64) (i := s_1.1) (by kernel_rfl) (by kernel_rfl) (e := 9) (by kernel_rfl) (sz := 1) (by kernel_rfl) (getI_nn hx_3) (getI_lt hx_3)) (fun a_84 f_95 => ?_)
          refine V_ld f_95 p_17 hc_1 0 rfl (by kernel_rfl) (by kernel_rfl) (fun a_85 f_96 => ?_)
          refine V_run f_96 1 (by kernel_rfl) (fun a_86 f_97 => ?_)
          refine W_end rfl (T_n (R_seq (R_seq (R_reg ?_))))
          refine V_run f_97 2 (by kernel_rfl) (fun a_87 f_98 => ?_)
          refine V_eq (v := .bool ((mget s_1.2 x_3).getD false)) f_98 (by kernel_rfl) (X_lookup1 (ek := S) (ev := Value.bool) (m := s_1.2) (k := x_3) (z := false) (kt := 9) (et := 4) rfl (by kernel_rfl) (by kernel_rfl) (by kernel_rfl) (strKey (by kernel_rfl)) (by kernel_rfl) (p_17.ownObj 0 rfl)) (fun a_88 f_99 => ?_)
          refine W_end rfl (T_n ?_)
          refine R_cond f_99 (b := (mget s_1.2 x_3).getD false) (by kernel_rfl) (by kernel_rfl) (fun h_21 => ?_) (fun h_21 => ?_)
          · have hF_47 := cnd_t h_21 hF_46
            refine R_seq (R_reg ?_)
            refine V_run f_99 1 (by kernel_rfl) (fun a_89 f_100 => ?_)
            refine W_end rfl (T_n (wp_ret (T_r (B_r (T_r (T_r ?_))))))
            obtain rfl := Option.some.inj hF_47
            exact .inl ⟨rfl, s_1.2, (Option.some.inj hn_1).symm, M_5, hM_5, f_100.keep (ks := [2]) (by kernel_rfl), p_17⟩
          · have hF_48 := cnd_f h_21 hF_46
            refine wp_skip (T_n (R_reg ?_))
            refine V_run f_99 2 (by kernel_rfl) (fun a_90 f_101 => ?_)
            refine W_mapput (ek := S) (ev := Value.bool) (m := s_1.2) (k := x_3) (v := (true)) (kt := 9) (et := 4) f_101 p_17 (by kernel_rfl) (by kernel_rfl) rfl (.inl rfl) (by kernel_rfl) (by kernel_rfl) (by kernel_rfl) (by kernel_rfl) (strKey (by kernel_rfl)) (fun w_18 p_18 a_91 f_102 => ?_)
            refine W_end rfl (B_n (T_n (R_reg ?_)))
            obtain ⟨g_2, hF_49⟩ := need_some hF_48
            refine V_run f_102 1 (by kernel_rfl) (fun a_92 f_103 => ?_)
            have f_104 := Frm.set f_103 108 (v := .int .i64 (IntKind.wrap .i64 (s_1.1 + 1))) (v' := .int .i64 (s_1.1 + 1)) (by kernel_rfl) (congrArg (Value.int .i64) (inR_wrap g_2))
            refine V_run f_104 1 (by kernel_rfl) (fun a_93 f_105 => ?_)
            refine W_end rfl (T_n ?_)
            obtain rfl := Option.some.inj hF_49
            exact ⟨⟨m_2, (s_1.1 + 1, mput s_1.2 x_3 (true))⟩, Nat.lt_succ_self _, M_5, hM_5, hn_1, f_105.keep (ks := [4, 97, 98, 99]) (by kernel_rfl), p_18⟩
        · have k_34 : ¬ (s_1.1 < ((d0.fKeys.length : Nat) : Int)) := iff_f decide_eq_true_iff h_20
          have hF_50 := cnd_f h_20 hs_1
          refine wp_exit (T_x (T_x ?_))
          obtain rfl := Option.some.inj hF_50
          exact .inr ⟨rfl, s_1.2, (Option.some.inj hn_1).symm, M_5, hM_5, f_94.keep (ks := []) (by kernel_rfl), p_17⟩
      · rintro _ a_96 w_21 (⟨rfl, y_5, rfl, M_6, hM_6, f_106, p_19⟩ | ⟨rfl, y_6, rfl, M_7, hM_7, f_107, p_20⟩)
        · refine B_r (T_r ?_)
          refine E_ret1 f_106 rfl (by kernel_rfl : Vc.look _ 2 = some (.int .i64 41)) ?_
          obtain rfl := Option.some.inj hF_44
          exact ⟨_, rfl, M_6, ((hM_1.trans hM_4).trans hM_6), (p_19.dropN 2), rfl⟩
        · refine B_x (T_n (R_seq (R_reg ?_)))
          refine V_run f_107 1 (by kernel_rfl) (fun a_97 f_108 => ?_)
          refine W_end rfl (T_n (wp_ret ?_))
          refine E_ret1 f_108 rfl (by kernel_rfl : Vc.look _ 2 = some (.int .i64 0)) ?_
          obtain rfl := Option.some.inj hF_44
          exact ⟨_, rfl, M_7, ((hM_1.trans hM_4).trans hM_7), (p_20.dropN 2), rfl⟩

def tree_Check_s1 (n : Nat) (s_1 : Int) (x_2 : T_api_Value) : Option (Lp Int (Int × Int)) :=
    (tree_alone n x_2).bind fun x_3 =>
    bif (!(decide (x_3 = 0))) then
      (some (.br (s_1, x_3)))
    else
      need (inR .i64 (s_1 + 1)) <|
      some (.nx (s_1 + 1))
def tree_Check (n : Nat) (d0 : T_api_Value) : Option Int :=
  (tree_depth n d0 (24 : Int)).bind fun x_1 =>
  bif (decide ((24 : Int) < x_1)) then
    (some ((30 : Int)))
  else
    need ((walkV d0).length ≤ 9223372036854775806) <|
    (foldY (tree_Check_s1 n) (walkV d0) (0 : Int)).bind fun j_1 =>
    (match j_1 with 
    | .nx s_2 => bif (decide ((4096 : Int) < s_2)) then
        (some ((3 : Int)))
      else
        some ((0 : Int)) 
    | .br b_5 => some (b_5.2))
set_option maxHeartbeats 2000000 in
theorem tree_Check_ok (n : Nat) (M : Mem) (hG : GL M) (c0 : List Value) (d0 : T_api_Value) (h0 : Rep M (emb_T_api_Value d0) c0) (r : Int) (hF : tree_Check n d0 = some r) : Ok Tryd.prog M 68 [.agg c0.toArray] (fun _ v => v = .int .i64 r) := by
  unfold tree_Check at hF
  intro M1 hM0 w0 H w p0
  replace hG := GL.mono hM0 hG
  replace h0 := Rep.mono hM0 _ _ h0
  obtain ⟨A_1, cap_1, A_2, cap_2, rfl, h_1, h_2⟩ := T_api_Value.opn h0
  refine R_enterM 19 Tryd.func68 rfl rfl (by simp) (fun a0 f0 => ?_)
  refine R_seq (R_reg ?_)
  refine V_box (cs := #[.int .i8 d0.fKind, .bool d0.fBool, .int .i64 d0.fNum, S d0.fText, .slice A_1 d0.fList.length cap_1, .slice A_2 d0.fKeys.length cap_2]) (T := 33) f0 p0 (by kernel_rfl) (fun _ => by kernel_rfl) (fun b_1 M_1 w_1 hM_1 hc_1 p_1 a_1 f_1 => ?_)
  have hc_2 := fz_box hc_1
  refine V_alloc f_1 p_1 (.cells #[.int .i64 0] 26 (0, 0)) (by kernel_rfl) (fun _ => by kernel_rfl) (fun b_2 w_2 p_2 a_2 f_2 => ?_)
  refine W_end rfl (T_n (R_seq (R_seq (R_reg ?_))))
  obtain ⟨x_1, hx_1, hF_1⟩ := bind_some' hF
  refine V_okv f_2 p_2 (tree_depth_ok n _ (⟨b_1, 0, none⟩) [.int .i8 d0.fKind, .bool d0.fBool, .int .i64 d0.fNum, S d0.fText, .slice A_1 d0.fList.length cap_1, .slice A_2 d0.fKeys.length cap_2] d0 (T_api_Value.shutx (x := d0) (h_1.mono hM_1) (h_2.mono hM_1)) (fz_at (hc_2) 0 rfl) (24 : Int) x_1 hx_1) (by kernel_rfl) (fun _ => by kernel_rfl) (fun w_3 p_3 a_3 f_3 => ?_)
  refine V_run f_3 1 (by kernel_rfl) (fun a_4 f_4 => ?_)
  refine W_end rfl (T_n ?_)
  refine R_cond f_4 (b := decide ((24 : Int) < x_1)) (by kernel_rfl) (by kernel_rfl) (fun h_3 => ?_) (fun h_3 => ?_)
  · have k_1 : (24 : Int) < x_1 := decide_eq_true_iff.1 h_3
    have hF_2 := cnd_t h_3 hF_1
    refine R_seq (R_reg ?_)
    refine W_store1 f_4 p_3 0 (by kernel_rfl) (by kernel_rfl) rfl rfl (b := b_2) (j := 0) (v := .int .i64 30) (by kernel_rfl) (by kernel_rfl) rfl (by kernel_rfl) (by exact rfl) (by simp) (by simp) ((Ent.obj b_2 (.cells #[.int .i64 30] 26 (0, 0))) :: H) rfl (fun w_4 p_4 a_5 f_5 => ?_)
    refine W_end rfl (T_n (wp_ret (T_r ?_)))
    refine E_M0 f_5 ?_
    refine V_rv1 rfl (Rv.cell1 (v := .int .i64 30) (ad := ⟨b_2, 0, none⟩) f_5 (by kernel_rfl) (by kernel_rfl) (p_4.ownCell 0 rfl 0)) ?_
    obtain rfl := Option.some.inj hF_2
    exact ⟨_, rfl, M_1, hM_1, (p_4.dropN 1), rfl⟩
  · have k_2 : ¬ ((24 : Int) < x_1) := iff_f decide_eq_true_iff h_3
    have hF_3 := cnd_f h_3 hF_1
    refine wp_skip (T_n (R_seq (R_reg ?_)))
    refine V_alloc f_4 p_3 (.cells #[.int .i64 0] 3 (0, 0)) (by kernel_rfl) (fun _ => by kernel_rfl) (fun b_3 w_5 p_5 a_6 f_6 => ?_)
    refine W_store1 f_6 p_5 0 (by kernel_rfl) (by kernel_rfl) rfl rfl (b := b_3) (j := 0) (v := .int .i64 0) (by kernel_rfl) (by kernel_rfl) rfl (by kernel_rfl) (by exact rfl) (by simp) (by simp) ((Ent.obj b_3 (.cells #[.int .i64 0] 3 (0, 0))) :: (Ent.obj b_2 (.cells #[.int .i64 0] 26 (0, 0))) :: H) rfl (fun w_6 p_6 a_7 f_7 => ?_)
    refine W_end rfl (T_n (R_seq (R_seq (R_reg ?_))))
    refine V_eq (v := .agg #[.int .i8 d0.fKind, .bool d0.fBool, .int .i64 d0.fNum, S d0.fText, .slice A_1 d0.fList.length cap_1, .slice A_2 d0.fKeys.length cap_2]) f_7 (by kernel_rfl) (X_loadN (cs := [.int .i8 d0.fKind, .bool d0.fBool, .int .i64 d0.fNum, S d0.fText, .slice A_1 d0.fList.length cap_1, .slice A_2 d0.fKeys.length cap_2]) rfl (ad := ⟨b_1, 0, none⟩) (by kernel_rfl) (by kernel_rfl) (fun j v h => p_6.cell (hc_2 j v h))) (fun a_8 f_8 => ?_)
    obtain ⟨g_1, hF_4⟩ := need_some hF_3
    refine V_ok f_8 p_6 (walk_ok d0 g_1 _ [.int .i8 d0.fKind, .bool d0.fBool, .int .i64 d0.fNum, S d0.fText, .slice A_1 d0.fList.length cap_1, .slice A_2 d0.fKeys.length cap_2] (T_api_Value.shutx (x := d0) (h_1.mono hM_1) (h_2.mono hM_1))) (by kernel_rfl) (fun _ => by kernel_rfl) (fun u_1 M_2 w_7 hM_2 p_7 q_1 a_9 f_9 => ?_)
    obtain ⟨fv_1, cp_1, rfl, hit_1⟩ := q_1
    refine W_end rfl (T_n (wp_block ?_))
    have f_10 : Frm 19 [(2, .pointer (some (⟨b_2, 0, none⟩))), (3, .pointer (some (⟨b_3, 0, none⟩))), (9, .func (.func fv_1) #[] cp_1.toArray)] a_9 := f_9.keep (ks := [2, 3, 9]) (by kernel_rfl)
    obtain ⟨j_1, hL_1, hF_5⟩ := bind_some' hF_4
    refine R_range (σ := Int) (β := Int × Int) (vals := valsV) (Y := (tree_Check_s1 n)) (E0 := [Ent.obj b_3 (.cells #[.int .i64 0] 3 (0, 0)), Ent.obj b_2 (.cells #[.int .i64 0] 26 (0, 0))]) (H := H) (w0 := w0) (M := M_2) (f := fv_1) (caps := cp_1) f_10 p_7 (by kernel_rfl) (by kernel_rfl) (by kernel_rfl) hit_1.1 (fun (s_1 : Int) M' E1 => E1 = [Ent.obj b_3 (.cells #[.int .i64 s_1] 3 (0, 0)), Ent.obj b_2 (.cells #[.int .i64 0] 26 (0, 0))]) (fun (y_1 : Int × Int) M' E1 => E1 = [Ent.obj b_3 (.cells #[.int .i64 y_1.1] 3 (0, 0)), Ent.obj b_2 (.cells #[.int .i64 y_1.2] 26 (0, 0))]) (fun (_ : Int × Int) => Jmp.ret) (0 : Int) j_1 rfl (fun s_ M_ M2_ E_ hM h => h) (fun s_ M_ M2_ E_ hM h => h) (fun M_ x_ vs_ h => by obtain ⟨c_, h, _⟩ := h; exact ⟨_, h⟩) (hit_1.2 _ _ _ _ _ hL_1) ?_ ?_ ?_
    · rintro s_1 x_2 r_1 hs_1 l_1 w0 M_3 E_1 H w_8 a_10 v_1 hM_3 rfl ⟨cc_1, hv_1, hr_1⟩ p_8 f_11
      obtain rfl : v_1 = .agg cc_1.toArray := by simpa using hv_1
      unfold tree_Check_s1 at hs_1
      obtain ⟨A_3, cap_3, A_4, cap_4, rfl, h_4, h_5⟩ := T_api_Value.opn hr_1
      refine RI_reg (then_out F_out) (by kernel_rfl) ?_
      refine V_alloc f_11 p_8 (.cells #[.int .i8 0, .bool false, .int .i64 0, S [], .slice none 0 0, .slice none 0 0] 33 (0, 0)) (by kernel_rfl) (fun _ => by kernel_rfl) (fun b_4 w_9 p_9 a_11 f_12 => ?_)
      refine W_storeN (vs := [.int .i8 x_2.fKind, .bool x_2.fBool, .int .i64 x_2.fNum, S x_2.fText, .slice A_3 x_2.fList.length cap_3, .slice A_4 x_2.fKeys.length cap_4]) (j := 0) f_12 p_9 (by kernel_rfl) (by kernel_rfl) rfl rfl (by kernel_rfl) (by kernel_rfl) (by simp [Value.oneCell', S]) (by kernel_rfl) (by simp) (by decide) (cs' := #[.int .i8 x_2.fKind, .bool x_2.fBool, .int .i64 x_2.fNum, S x_2.fText, .slice A_3 x_2.fList.length cap_3, .slice A_4 x_2.fKeys.length cap_4]) rfl (fun w_10 p_10 a_12 f_13 => ?_)
      refine W_end rfl (T_n ?_)
      refine ⟨M_3, [Ent.obj b_4 (.cells #[.int .i8 x_2.fKind, .bool x_2.fBool, .int .i64 x_2.fNum, S x_2.fText, .slice A_3 x_2.fList.length cap_3, .slice A_4 x_2.fKeys.length cap_4] 33 (0, 0)), Ent.obj b_3 (.cells #[.int .i64 s_1] 3 (0, 0)), Ent.obj b_2 (.cells #[.int .i64 0] 26 (0, 0))], (Mem.le_refl _), p_10, fun H w_11 p_11 => ?_⟩
      refine RI_block ?_
      refine RI_seq ?_
      refine RI_seq ?_
      refine RI_reg (then_out (then_out (block_out (RB_out)))) (by kernel_rfl) ?_
      obtain ⟨M_4, hM_4, p_12, hc_3⟩ := p_11.fzOwn
      obtain ⟨x_3, hx_2, hF_6⟩ := bind_some' hs_1
      refine V_okv f_13 p_12 (tree_alone_ok n _ (GL.mono (((hM_1.trans hM_2).trans hM_3).trans hM_4) hG) (⟨b_4, 0, none⟩) [.int .i8 x_2.fKind, .bool x_2.fBool, .int .i64 x_2.fNum, S x_2.fText, .slice A_3 x_2.fList.length cap_3, .slice A_4 x_2.fKeys.length cap_4] x_2 (T_api_Value.shutx (x := x_2) (h_4.mono hM_4) (h_5.mono hM_4)) (fz_at (hc_3) 0 rfl) x_3 hx_2) (by kernel_rfl) (fun _ => by kernel_rfl) (fun w_12 p_13 a_13 f_14 => ?_)
      refine V_run f_14 1 (by kernel_rfl) (fun a_14 f_15 => ?_)
      refine W_end rfl (T_n ?_)
      refine RI_seq ?_
      refine RI_reg (then_out (then_out (block_out (RB_out)))) (by kernel_rfl) ?_
      refine V_run f_15 2 (by kernel_rfl) (fun a_15 f_16 => ?_)
      refine W_end rfl (T_n ?_)
      refine RI_cond f_16 (b := !(decide (x_3 = 0))) (by kernel_rfl) (by kernel_rfl) (fun h_6 => ?_) (fun h_6 => ?_)
      · have k_3 : ¬ (x_3 = 0) := (not_iff decide_eq_true_iff).1 h_6
        have hF_7 := cnd_t h_6 hF_6
        refine RI_seq ?_
        refine RI_reg (then_out (then_out (block_out (RB_out)))) (by kernel_rfl) ?_
        refine V_run f_16 1 (by kernel_rfl) (fun a_16 f_17 => ?_)
        refine W_store1 f_17 p_13 1 (by kernel_rfl) (by kernel_rfl) rfl rfl (b := b_2) (j := 0) (v := .int .i64 x_3) (by kernel_rfl) (by kernel_rfl) rfl (by kernel_rfl) (by exact rfl) (by simp) (by simp) ((Ent.obj b_3 (.cells #[.int .i64 s_1] 3 (0, 0))) :: (Ent.obj b_2 (.cells #[.int .i64 x_3] 26 (0, 0))) :: H) rfl (fun w_13 p_14 a_17 f_18 => ?_)
        refine W_end rfl (T_n ?_)
        refine RI_ret ?_
        refine T_r (B_r ?_)
        obtain rfl := Option.some.inj hF_7
        exact RB_x rfl ⟨M_4, [Ent.obj b_3 (.cells #[.int .i64 s_1] 3 (0, 0)), Ent.obj b_2 (.cells #[.int .i64 x_3] 26 (0, 0))], hM_4, p_14, rfl⟩
      · have k_4 : ¬ (¬ (x_3 = 0)) := iff_f (not_iff decide_eq_true_iff) h_6
        have hF_8 := cnd_f h_6 hF_6
        refine RI_skip ?_
        refine T_n ?_
        refine RI_reg (block_out (RB_out)) (by kernel_rfl) ?_
        refine V_eq (v := .int .i64 s_1) f_16 (by kernel_rfl) (X_load1 (v := .int .i64 s_1) rfl (ad := ⟨b_3, 0, none⟩) (by kernel_rfl) (by kernel_rfl) (p_13.ownCell 0 rfl 0)) (fun a_18 f_19 => ?_)
        obtain ⟨g_2, hF_9⟩ := need_some hF_8
        refine V_run f_19 1 (by kernel_rfl) (fun a_19 f_20 => ?_)
        have f_21 := Frm.set f_20 16 (v := .int .i64 (IntKind.wrap .i64 (s_1 + 1))) (v' := .int .i64 (s_1 + 1)) (by kernel_rfl) (congrArg (Value.int .i64) (inR_wrap g_2))
        refine W_store1 f_21 p_13 0 (by kernel_rfl) (by kernel_rfl) rfl rfl (b := b_3) (j := 0) (v := .int .i64 (s_1 + 1)) (by kernel_rfl) (by kernel_rfl) rfl (by kernel_rfl) (by exact rfl) (by simp) (by simp) ((Ent.obj b_3 (.cells #[.int .i64 (s_1 + 1)] 3 (0, 0))) :: (Ent.obj b_2 (.cells #[.int .i64 0] 26 (0, 0))) :: H) rfl (fun w_14 p_15 a_20 f_22 => ?_)
        refine W_end rfl (B_n ?_)
        obtain rfl := Option.some.inj hF_9
        exact RB_n ⟨M_4, [Ent.obj b_3 (.cells #[.int .i64 (s_1 + 1)] 3 (0, 0)), Ent.obj b_2 (.cells #[.int .i64 0] 26 (0, 0))], hM_4, p_15, rfl⟩
    · rintro s_2 rfl l_2 D_1 rr_1 M_5 E_2 w_15 a_21 hM_5 rfl p_16 f_23
      replace p_16 : Hp w0 M_5 ((Ent.obj D_1 (.deferred (some []))) :: (Ent.obj b_3 (.cells #[.int .i64 s_2] 3 (0, 0))) :: (Ent.obj b_2 (.cells #[.int .i64 0] 26 (0, 0))) :: H) w_15 := p_16.drop
      replace hF_5 : (_ : Option _) = some _ := hF_5
      refine B_n (T_n (R_seq (R_seq (R_reg ?_))))
      refine V_eq (v := .int .i64 s_2) f_23 (by kernel_rfl) (X_load1 (v := .int .i64 s_2) rfl (ad := ⟨b_3, 0, none⟩) (by kernel_rfl) (by kernel_rfl) (p_16.ownCell 1 rfl 0)) (fun a_22 f_24 => ?_)
      refine V_run f_24 1 (by kernel_rfl) (fun a_23 f_25 => ?_)
      refine W_end rfl (T_n ?_)
      refine R_cond f_25 (b := decide ((4096 : Int) < s_2)) (by kernel_rfl) (by kernel_rfl) (fun h_7 => ?_) (fun h_7 => ?_)
      · have k_5 : (4096 : Int) < s_2 := decide_eq_true_iff.1 h_7
        have hF_10 := cnd_t h_7 hF_5
        refine R_seq (R_reg ?_)
        refine W_store1 f_25 p_16 2 (by kernel_rfl) (by kernel_rfl) rfl rfl (b := b_2) (j := 0) (v := .int .i64 3) (by kernel_rfl) (by kernel_rfl) rfl (by kernel_rfl) (by exact rfl) (by simp) (by simp) ((Ent.obj D_1 (.deferred (some []))) :: (Ent.obj b_3 (.cells #[.int .i64 s_2] 3 (0, 0))) :: (Ent.obj b_2 (.cells #[.int .i64 3] 26 (0, 0))) :: H) rfl (fun w_16 p_17 a_24 f_26 => ?_)
        refine W_end rfl (T_n (wp_ret (T_r ?_)))
        refine E_M1 f_26 p_17 (fun w_17 p_18 => ?_)
        refine V_rv1 rfl (Rv.cell1 (v := .int .i64 3) (ad := ⟨b_2, 0, none⟩) f_26 (by kernel_rfl) (by kernel_rfl) (p_18.ownCell 1 rfl 0)) ?_
        obtain rfl := Option.some.inj hF_10
        exact ⟨_, rfl, M_5, ((hM_1.trans hM_2).trans hM_5), (p_18.dropN 2), rfl⟩
      · have k_6 : ¬ ((4096 : Int) < s_2) := iff_f decide_eq_true_iff h_7
        have hF_11 := cnd_f h_7 hF_5
        refine wp_skip (T_n (R_seq (R_reg ?_)))
        refine W_store1 f_25 p_16 2 (by kernel_rfl) (by kernel_rfl) rfl rfl (b := b_2) (j := 0) (v := .int .i64 0) (by kernel_rfl) (by kernel_rfl) rfl (by kernel_rfl) (by exact rfl) (by simp) (by simp) ((Ent.obj D_1 (.deferred (some []))) :: (Ent.obj b_3 (.cells #[.int .i64 s_2] 3 (0, 0))) :: (Ent.obj b_2 (.cells #[.int .i64 0] 26 (0, 0))) :: H) rfl (fun w_18 p_19 a_25 f_27 => ?_)
        refine W_end rfl (T_n (wp_ret ?_))
        refine E_M1 f_27 p_19 (fun w_19 p_20 => ?_)
        refine V_rv1 rfl (Rv.cell1 (v := .int .i64 0) (ad := ⟨b_2, 0, none⟩) f_27 (by kernel_rfl) (by kernel_rfl) (p_20.ownCell 1 rfl 0)) ?_
        obtain rfl := Option.some.inj hF_11
        exact ⟨_, rfl, M_5, ((hM_1.trans hM_2).trans hM_5), (p_20.dropN 2), rfl⟩
    · rintro b_5 rfl l_3 D_2 rr_2 M_6 E_3 w_20 a_26 hM_6 hx_3 p_21 f_28
      obtain rfl := hx_3
      replace p_21 : Hp w0 M_6 ((Ent.obj D_2 (.deferred (some []))) :: (Ent.obj b_3 (.cells #[.int .i64 b_5.1] 3 (0, 0))) :: (Ent.obj b_2 (.cells #[.int .i64 b_5.2] 26 (0, 0))) :: H) w_20 := p_21.drop
      refine B_r (T_r ?_)
      refine E_M1 f_28 p_21 (fun w_21 p_22 => ?_)
      refine V_rv1 rfl (Rv.cell1 (v := .int .i64 b_5.2) (ad := ⟨b_2, 0, none⟩) f_28 (by kernel_rfl) (by kernel_rfl) (p_22.ownCell 1 rfl 0)) ?_
      obtain rfl := Option.some.inj hF_5
      exact ⟨_, rfl, M_6, ((hM_1.trans hM_2).trans hM_6), (p_22.dropN 2), rfl⟩
end Go.Proofs.YtalifkcchfkgmaaDoor
