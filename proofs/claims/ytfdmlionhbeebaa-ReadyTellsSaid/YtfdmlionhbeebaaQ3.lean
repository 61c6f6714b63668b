/-
  Printed by a program: of each function its shallow reading, and the proof that the function gives what the reading gives. No condition.
-/
import Derived.Test.YtfdmlionhbeebaaQ1
import Derived.Test.YtfdmlionhbeebaaRdyAdapt
set_option linter.unusedVariables false
set_option linter.unusedSimpArgs false
namespace Go.Proofs.Ytfdmlionhbeebaa
open Go Go.Vc Go.RowKit
def ready_ways (n : Nat) (d0 : List (List Int)) (d1 : Bool) : Option (List (List Int)) :=
  bif d1 then
    ((deps_Turned n d0).bind fun x_1 =>
    some (x_1))
  else
    some (d0)
theorem ready_ways_ok (n : Nat) (M : Mem) (A0 : Option Addr) (cap0 : Nat) (d0 : List (List Int)) (h0 : Sli M 1 (eL 1 (Dat.int .i64)) A0 cap0 d0) (d1 : Bool) (r : List (List Int)) (hF : ready_ways n d0 d1 = some r) : Ok Try.prog M 29 [.slice A0 d0.length cap0, .bool d1] (fun M' v => ∃ (A0 : Option Addr) (k0 : Nat), v = .slice A0 r.length k0 ∧ Sli M' 1 (eL 1 (Dat.int .i64)) A0 k0 r) := by
  unfold ready_ways at hF
  intro M1 hM0 w0 H w p0
  replace h0 := h0.mono hM0
  refine R_enter 9 Try.func29 rfl rfl (by simp) (fun a0 f0 => ?_)
  replace f0 : Frm 9 [(0, .slice A0 d0.length cap0), (1, .bool d1)] a0 := f0
  refine R_seq ?_
  refine R_reg ?_
  refine W_run (L' := [(0, .slice A0 d0.length cap0), (1, .bool d1)]) (w' := w) f0 1 [0, 1] (by kernel_rfl) (fun a_1 f_1 => ?_)
  refine W_end rfl ?_
  refine T_n ?_
  refine R_seq ?_
  refine R_seq ?_
  refine R_reg ?_
  refine W_run (L' := [(0, .slice A0 d0.length cap0), (5, .bool d1)]) (w' := w) f_1 1 [0, 5] (by kernel_rfl) (fun a_2 f_2 => ?_)
  refine W_end rfl ?_
  refine T_n ?_
  refine R_cond f_2 (b := d1) (by kernel_rfl) (by kernel_rfl) (fun h_1 => ?_) (fun h_1 => ?_)
  · have hF_1 := cnd_t h_1 hF
    refine R_seq ?_
    refine R_reg ?_
    refine W_run (L' := [(6, .slice A0 d0.length cap0)]) (w' := w) f_2 1 [6] (by kernel_rfl) (fun a_3 f_3 => ?_)
    obtain ⟨x_1, hx_1, hF_2⟩ := bind_some' hF_1
    refine W_ok f_3 p0 (by kernel_rfl) (by kernel_rfl) rfl rfl (fun _ => by kernel_rfl) (deps_Turned_ok n _ A0 cap0 d0 h0 x_1 hx_1) (fun u_1 M_1 w_1 hM_1 p_1 q_1 a_4 f_4 => ?_)
    obtain ⟨A_1, cap_1, rfl, h_2⟩ := q_1
    refine W_run (L' := [(4, .slice A_1 x_1.length cap_1)]) (w' := w_1) f_4 1 [4] (by kernel_rfl) (fun a_5 f_5 => ?_)
    refine W_end rfl ?_
    refine T_n ?_
    refine wp_ret ?_
    refine T_r ?_
    refine E_ret1 f_5 rfl (by kernel_rfl : Vc.look _ 4 = some (.slice A_1 x_1.length cap_1)) ?_
    obtain rfl := Option.some.inj hF_2
    exact ⟨_, rfl, M_1, hM_1, p_1, ⟨A_1, cap_1, rfl, h_2⟩⟩
  · have hF_3 := cnd_f h_1 hF
    refine wp_skip ?_
    refine T_n ?_
    refine R_seq ?_
    refine R_reg ?_
    refine W_run (L' := [(4, .slice A0 d0.length cap0)]) (w' := w) f_2 2 [4] (by kernel_rfl) (fun a_6 f_6 => ?_)
    refine W_end rfl ?_
    refine T_n ?_
    refine wp_ret ?_
    refine E_ret1 f_6 rfl (by kernel_rfl : Vc.look _ 4 = some (.slice A0 d0.length cap0)) ?_
    obtain rfl := Option.some.inj hF_3
    exact ⟨_, rfl, M1, (Mem.le_refl _), p0, ⟨A0, cap0, rfl, h0⟩⟩

def ready_lets (n : Nat) (d0 : Int) : Option Bool :=
  bif (decide (d0 = 0)) then
    (some ((true)))
  else
    some ((decide (d0 = 3)))
theorem ready_lets_ok (n : Nat) (M : Mem) (d0 : Int) (r : Bool) (hF : ready_lets n d0 = some r) : Ok Try.prog M 30 [.int .i8 d0] (fun _ v => v = .bool r) := by
  unfold ready_lets at hF
  intro M1 hM0 w0 H w p0
  refine R_enter 9 Try.func30 rfl rfl (by simp) (fun a0 f0 => ?_)
  replace f0 : Frm 9 [(0, .int .i8 d0)] a0 := f0
  refine R_seq ?_
  refine R_reg ?_
  refine W_run (L' := [(0, .int .i8 d0)]) (w' := w) f0 1 [0] (by kernel_rfl) (fun a_1 f_1 => ?_)
  refine W_end rfl ?_
  refine T_n ?_
  refine R_seq ?_
  refine R_reg ?_
  refine W_run (L' := [(0, .int .i8 d0), (5, .bool (decide (d0 = 0)))]) (w' := w) f_1 3 [0, 5] (by kernel_rfl) (fun a_2 f_2 => ?_)
  rcases Bool.eq_false_or_eq_true (decide (d0 = 0)) with h_1 | h_1
  · have k_1 : d0 = 0 := decide_eq_true_iff.1 h_1
    have hF_1 := cnd_t h_1 hF
    have f_3 := Frm.set f_2 5 (v := .bool (decide (d0 = 0))) (v' := .bool true) (by kernel_rfl) (congrArg Value.bool h_1)
    have f_4 : Frm 9 [(0, .int .i8 d0), (5, .bool true)] a_2 := f_3.keep (ks := [0, 5]) (by kernel_rfl)
    refine W_run (L' := [(2, .bool true)]) (w' := w) f_4 4 [2] (by kernel_rfl) (fun a_3 f_5 => ?_)
    refine W_end rfl ?_
    refine T_n ?_
    refine wp_ret ?_
    refine E_ret1 f_5 rfl (by kernel_rfl : Vc.look _ 2 = some (.bool true)) ?_
    obtain rfl := Option.some.inj hF_1
    exact ⟨_, rfl, M1, (Mem.le_refl _), p0, rfl⟩
  · have k_2 : ¬ (d0 = 0) := iff_f decide_eq_true_iff h_1
    have hF_2 := cnd_f h_1 hF
    have f_6 := Frm.set f_2 5 (v := .bool (decide (d0 = 0))) (v' := .bool false) (by kernel_rfl) (congrArg Value.bool h_1)
    have f_7 : Frm 9 [(0, .int .i8 d0), (5, .bool false)] a_2 := f_6.keep (ks := [0, 5]) (by kernel_rfl)
    refine W_run (L' := [(2, .bool (decide (d0 = 3)))]) (w' := w) f_7 4 [2] (by kernel_rfl) (fun a_4 f_8 => ?_)
    refine W_end rfl ?_
    refine T_n ?_
    refine wp_ret ?_
    refine E_ret1 f_8 rfl (by kernel_rfl : Vc.look _ 2 = some (.bool (decide (d0 = 3)))) ?_
    obtain rfl := Option.some.inj hF_2
    exact ⟨_, rfl, M1, (Mem.le_refl _), p0, rfl⟩

def ready_over_1 (n : Nat) (d0 : Int) (d2 : List Int) : Option Bool :=
  (getI d2 d0).bind fun x_1 =>
  (ready_lets n x_1).bind fun x_2 =>
  some ((x_2))
theorem ready_over_1_ok (n : Nat) (M : Mem) (d0 : Int) (ad1 : Addr) (q1 : ∀ j v, [(.func (.func 30) #[] #[] : Value)][j]? = some v → M.cell? (ad1.add j) = some v) (ad2 : Addr) (c2 : List Value) (d2 : List Int) (h2 : Rep M ((eL 1 (Dat.int .i8)) d2) c2) (q2 : ∀ j v, c2[j]? = some v → M.cell? (ad2.add j) = some v) (r : Bool) (hF : ready_over_1 n d0 d2 = some r) : Ok Try.prog M 48 [.int .i64 d0, .pointer (some ad1), .pointer (some ad2)] (fun _ v => v = .bool r) := by
  unfold ready_over_1 at hF
  intro M1 hM0 w0 H w p0
  replace q1 := fun j v h => hM0.cell (q1 j v h)
  replace h2 := Rep.mono hM0 _ _ h2
  replace q2 := fun j v h => hM0.cell (q2 j v h)
  obtain ⟨A_1, cap_1, rfl, h_1⟩ := Rep.sli h2
  refine R_enter 11 Try.func48 rfl rfl (by simp) (fun a0 f0 => ?_)
  replace f0 : Frm 11 [(0, .int .i64 d0), (1, .pointer (some ad1)), (2, .pointer (some ad2))] a0 := f0
  refine R_seq ?_
  refine R_reg ?_
  refine W_run (L' := [(0, .int .i64 d0), (1, .pointer (some ad1)), (2, .pointer (some ad2))]) (w' := w) f0 1 [0, 1, 2] (by kernel_rfl) (fun a_1 f_1 => ?_)
  refine W_end rfl ?_
  refine T_n ?_
  refine R_seq ?_
  refine R_draw p0 (by kernel_rfl) (by kernel_rfl) ?_
  refine Q_eq (v := .func (.func 30) #[] #[]) f_1 (by kernel_rfl) (by kernel_rfl) rfl rfl (fun _ pq => X_load1 (v := .func (.func 30) #[] #[]) rfl (ad := ad1) (by kernel_rfl) (by kernel_rfl) (pq.cell (q1 0 _ rfl))) (fun a_2 f_2 => ?_)
  refine Q_eq (v := .slice A_1 d2.length cap_1) f_2 (by kernel_rfl) (by kernel_rfl) rfl rfl (fun _ pq => X_load1 (v := .slice A_1 d2.length cap_1) rfl (ad := ad2) (by kernel_rfl) (by kernel_rfl) (pq.cell (q2 0 _ rfl))) (fun a_3 f_3 => ?_)
  refine Q_eq (v := .int .i64 d0) f_3 (by kernel_rfl) (by kernel_rfl) rfl rfl (fun _ _ => by kernel_rfl) (fun a_4 f_4 => ?_)
  have f_5 : Frm 11 [(5, .func (.func 30) #[] #[]), (6, .slice A_1 d2.length cap_1), (7, .int .i64 d0)] a_4 := f_4.keep (ks := [5, 6, 7]) (by kernel_rfl)
  obtain ⟨x_1, hx_1, hF_1⟩ := bind_some' hF
  obtain ⟨ad_1, c_1, e_1, hl_1, hr_1, hc_1⟩ := Sli.at_ h_1 hx_1
  clear hl_1
  obtain rfl : c_1 = [.int .i8 x_1] := hr_1
  refine Q_eq (v := .pointer (some (ad_1.add (d0.toNat * 1)))) f_5 (by kernel_rfl) (by kernel_rfl) rfl rfl (fun _ pq => X_indexAddrA e_1 rfl (len := d2.length) (cap := cap_1) (k := .i64) (i := d0) (by kernel_rfl) (by kernel_rfl) (e := 24) (by kernel_rfl) (sz := 1) (by kernel_rfl) (getI_nn hx_1) (getI_lt hx_1)) (fun a_5 f_6 => ?_)
  refine Q_eq (v := .int .i8 x_1) f_6 (by kernel_rfl) (by kernel_rfl) rfl rfl (fun _ pq => X_load1 (v := .int .i8 x_1) rfl (ad := ad_1.add (d0.toNat * 1)) (by kernel_rfl) (by kernel_rfl) (pq.cell (hc_1 0 _ rfl))) (fun a_6 f_7 => ?_)
  obtain ⟨x_2, hx_2, hF_2⟩ := bind_some' hF_1
  refine Q_okv (v := .bool x_2) f_7 (by kernel_rfl) (by kernel_rfl) rfl rfl (fun _ => by kernel_rfl) (ready_lets_ok n _ x_1 x_2 hx_2) (fun a_7 f_8 => ?_)
  refine Q_eq (v := .bool x_2) f_8 (by kernel_rfl) (by kernel_rfl) rfl rfl (fun _ _ => by kernel_rfl) (fun a_8 f_9 => ?_)
  have f_10 : Frm 11 [(4, .bool x_2)] a_8 := f_9.keep (ks := [4]) (by kernel_rfl)
  refine Q_end rfl ?_
  intro w_2 p_2
  refine T_n ?_
  refine wp_ret ?_
  refine E_ret1 f_10 rfl (by kernel_rfl : Vc.look _ 4 = some (.bool x_2)) ?_
  obtain rfl := Option.some.inj hF_2
  exact ⟨_, rfl, M1, (Mem.le_refl _), p_2, rfl⟩

def ready_every_1 (n : Nat) (d0 : Int) (d1_f_1 : List Int) : Option Bool :=
  (ready_over_1 n d0 d1_f_1).bind fun x_1 =>
  some ((!x_1))
theorem ready_every_1_ok (n : Nat) (M : Mem) (d0 : Int) (ad1_f_0 : Addr) (q1_f_0 : ∀ j v, [(.func (.func 30) #[] #[] : Value)][j]? = some v → M.cell? (ad1_f_0.add j) = some v) (ad1_f_1 : Addr) (c1_f_1 : List Value) (d1_f_1 : List Int) (h1_f_1 : Rep M ((eL 1 (Dat.int .i8)) d1_f_1) c1_f_1) (q1_f_1 : ∀ j v, c1_f_1[j]? = some v → M.cell? (ad1_f_1.add j) = some v) (ad1 : Addr) (q1 : ∀ j v, [(.func (.func 48) #[] #[.pointer (some ad1_f_0), .pointer (some ad1_f_1)] : Value)][j]? = some v → M.cell? (ad1.add j) = some v) (r : Bool) (hF : ready_every_1 n d0 d1_f_1 = some r) : Ok Try.prog M 50 [.int .i64 d0, .pointer (some ad1)] (fun _ v => v = .bool r) := by
  unfold ready_every_1 at hF
  intro M1 hM0 w0 H w p0
  replace q1_f_0 := fun j v h => hM0.cell (q1_f_0 j v h)
  replace h1_f_1 := Rep.mono hM0 _ _ h1_f_1
  replace q1_f_1 := fun j v h => hM0.cell (q1_f_1 j v h)
  replace q1 := fun j v h => hM0.cell (q1 j v h)
  obtain ⟨A_1, cap_1, rfl, h_1⟩ := Rep.sli h1_f_1
  refine R_enter 8 Try.func50 rfl rfl (by simp) (fun a0 f0 => ?_)
  replace f0 : Frm 8 [(0, .int .i64 d0), (1, .pointer (some ad1))] a0 := f0
  refine R_seq ?_
  refine R_reg ?_
  refine W_run (L' := [(0, .int .i64 d0), (1, .pointer (some ad1))]) (w' := w) f0 1 [0, 1] (by kernel_rfl) (fun a_1 f_1 => ?_)
  refine W_end rfl ?_
  refine T_n ?_
  refine R_seq ?_
  refine R_reg ?_
  refine W_eq (v := .func (.func 48) #[] #[.pointer (some ad1_f_0), .pointer (some ad1_f_1)]) f_1 (by kernel_rfl) (by kernel_rfl) rfl rfl (X_load1 (v := .func (.func 48) #[] #[.pointer (some ad1_f_0), .pointer (some ad1_f_1)]) rfl (ad := ad1) (by kernel_rfl) (by kernel_rfl) (p0.cell (q1 0 _ rfl))) (fun a_2 f_2 => ?_)
  refine W_run (L' := [(4, .func (.func 48) #[] #[.pointer (some ad1_f_0), .pointer (some ad1_f_1)]), (5, .int .i64 d0)]) (w' := w) f_2 1 [4, 5] (by kernel_rfl) (fun a_3 f_3 => ?_)
  obtain ⟨x_1, hx_1, hF_1⟩ := bind_some' hF
  refine W_okv (v := .bool x_1) f_3 p0 (by kernel_rfl) (by kernel_rfl) rfl rfl (fun _ => by kernel_rfl) (ready_over_1_ok n _ d0 ad1_f_0 (q1_f_0) ad1_f_1 [.slice A_1 d1_f_1.length cap_1] d1_f_1 (Sli.rep h_1) (fz_at (q1_f_1) 0 rfl) x_1 hx_1) (fun w_1 p_1 a_4 f_4 => ?_)
  refine W_run (L' := [(3, .bool !x_1)]) (w' := w_1) f_4 2 [3] (by kernel_rfl) (fun a_5 f_5 => ?_)
  refine W_end rfl ?_
  refine T_n ?_
  refine wp_ret ?_
  refine E_ret1 f_5 rfl (by kernel_rfl : Vc.look _ 3 = some (.bool !x_1)) ?_
  obtain rfl := Option.some.inj hF_1
  exact ⟨_, rfl, M1, (Mem.le_refl _), p_1, rfl⟩

def slices_IndexFuncint_int_2_s1 (n : Nat) (d0 : List Int) (d1_0_f_1 : List Int) (s_1 : Int) : Option (Lp Int (Sum Int Unit)) :=
    bif (decide (s_1 < ((d0.length : Nat) : Int))) then
      ((getI d0 s_1).bind fun x_1 =>
      (ready_every_1 n x_1 d1_0_f_1).bind fun x_2 =>
      bif x_2 then
        (some (.br (.inl s_1)))
      else
        need (inR .i64 (s_1 + 1)) <|
        some (.nx (s_1 + 1)))
    else
      some (.br (.inr ()))
def slices_IndexFuncint_int_2 (n : Nat) (d0 : List Int) (d1_0_f_1 : List Int) : Option Int :=
  (loopF (slices_IndexFuncint_int_2_s1 n d0 d1_0_f_1) n (0 : Int)).bind fun b_1 =>
  (match b_1 with 
  | .inl y_1 => some (y_1) 
  | .inr y_2 => some ((-1 : Int)))
theorem slices_IndexFuncint_int_2_ok (n : Nat) (M : Mem) (A0 : Option Addr) (cap0 : Nat) (d0 : List Int) (h0 : Sli M 1 (Dat.int .i64) A0 cap0 d0) (ad1_0_f_0 : Addr) (q1_0_f_0 : ∀ j v, [(.func (.func 30) #[] #[] : Value)][j]? = some v → M.cell? (ad1_0_f_0.add j) = some v) (ad1_0_f_1 : Addr) (c1_0_f_1 : List Value) (d1_0_f_1 : List Int) (h1_0_f_1 : Rep M ((eL 1 (Dat.int .i8)) d1_0_f_1) c1_0_f_1) (q1_0_f_1 : ∀ j v, c1_0_f_1[j]? = some v → M.cell? (ad1_0_f_1.add j) = some v) (ad1_0 : Addr) (q1_0 : ∀ j v, [(.func (.func 48) #[] #[.pointer (some ad1_0_f_0), .pointer (some ad1_0_f_1)] : Value)][j]? = some v → M.cell? (ad1_0.add j) = some v) (r : Int) (hF : slices_IndexFuncint_int_2 n d0 d1_0_f_1 = some r) : Ok Try.prog M 53 [.slice A0 d0.length cap0, .func (.func 50) #[] #[.pointer (some ad1_0)]] (fun _ v => v = .int .i64 r) := by
  unfold slices_IndexFuncint_int_2 at hF
  intro M1 hM0 w0 H w p0
  replace h0 := h0.mono hM0
  replace q1_0_f_0 := fun j v h => hM0.cell (q1_0_f_0 j v h)
  replace h1_0_f_1 := Rep.mono hM0 _ _ h1_0_f_1
  replace q1_0_f_1 := fun j v h => hM0.cell (q1_0_f_1 j v h)
  replace q1_0 := fun j v h => hM0.cell (q1_0 j v h)
  obtain ⟨A_1, cap_1, rfl, h_1⟩ := Rep.sli h1_0_f_1
  refine R_enter 19 Try.func53 rfl rfl (by simp) (fun a0 f0 => ?_)
  replace f0 : Frm 19 [(0, .slice A0 d0.length cap0), (1, .func (.func 50) #[] #[.pointer (some ad1_0)])] a0 := f0
  refine R_seq ?_
  refine R_reg ?_
  refine W_run (L' := [(0, .slice A0 d0.length cap0), (1, .func (.func 50) #[] #[.pointer (some ad1_0)])]) (w' := w) f0 1 [0, 1] (by kernel_rfl) (fun a_1 f_1 => ?_)
  refine W_end rfl ?_
  refine T_n ?_
  refine R_seq ?_
  refine R_seq ?_
  refine R_reg ?_
  refine W_run (L' := [(0, .slice A0 d0.length cap0), (1, .func (.func 50) #[] #[.pointer (some ad1_0)]), (7, .int .i64 ((d0.length : Nat) : Int)), (8, .int .i64 0)]) (w' := w) f_1 3 [0, 1, 7, 8] (by kernel_rfl) (fun a_2 f_2 => ?_)
  refine W_end rfl ?_
  refine T_n ?_
  refine wp_block ?_
  obtain ⟨b_1, hL_1, hF_1⟩ := bind_some' hF
  refine wp_mono (Q := fun e a w => (e = .ret ∧ (∃ y_1 : Int, b_1 = .inl y_1 ∧ ∃ M_2 : Mem, M1.le M_2 ∧ Frm 19 [(4, .int .i64 y_1)] a ∧ Hp w0 M_2 (H) w)) ∨ (e = .exit 0 ∧ (∃ y_2 : Unit, b_1 = .inr y_2 ∧ ∃ M_3 : Mem, M1.le M_3 ∧ Frm 19 [] a ∧ Hp w0 M_3 (H) w))) (R_loop (n := 19) (w0 := w0) (M := M1) (fun (x : Nat × Int) => match x with | (m_1, s_1) => [(0, .slice A0 d0.length cap0), (1, .func (.func 50) #[] #[.pointer (some ad1_0)]), (7, .int .i64 ((d0.length : Nat) : Int)), (8, .int .i64 s_1)]) (fun (x : Nat × Int) => match x with | (m_1, s_1) => (H)) (fun (x : Nat × Int) (MM : Mem) => match x with | (m_1, s_1) => loopF (slices_IndexFuncint_int_2_s1 n d0 d1_0_f_1) m_1 s_1 = some b_1) (fun (x : Nat × Int) => match x with | (m_1, s_1) => m_1) (n, (0 : Int)) (f_2.keep (ks := [0, 1, 7, 8]) (by kernel_rfl)) p0 hL_1 ?_) ?_
  · rintro ⟨m_1, s_1⟩ M_1 a_3 w_1 hM_1 I_1 f_3 p_1
    replace f_3 : Frm 19 [(0, .slice A0 d0.length cap0), (1, .func (.func 50) #[] #[.pointer (some ad1_0)]), (7, .int .i64 ((d0.length : Nat) : Int)), (8, .int .i64 s_1)] a_3 := f_3
    replace p_1 : Hp w0 M_1 (H) w_1 := p_1
    have I_1L := I_1
    obtain ⟨m_2, r_1, rfl, hs_1, hn_1⟩ := loop_step I_1L
    unfold slices_IndexFuncint_int_2_s1 at hs_1
    refine R_seq ?_
    refine R_reg ?_
    refine W_run (L' := [(0, .slice A0 d0.length cap0), (1, .func (.func 50) #[] #[.pointer (some ad1_0)]), (7, .int .i64 ((d0.length : Nat) : Int)), (8, .int .i64 s_1), (9, .bool (decide (s_1 < ((d0.length : Nat) : Int))))]) (w' := w_1) f_3 1 [0, 1, 7, 8, 9] (by kernel_rfl) (fun a_4 f_4 => ?_)
    refine W_end rfl ?_
    refine T_n ?_
    refine R_seq ?_
    refine R_cond f_4 (b := decide (s_1 < ((d0.length : Nat) : Int))) (by kernel_rfl) (by kernel_rfl) (fun h_2 => ?_) (fun h_2 => ?_)
    · have k_1 : s_1 < ((d0.length : Nat) : Int) := decide_eq_true_iff.1 h_2
      have hF_2 := cnd_t h_2 hs_1
      refine wp_skip ?_
      refine T_n ?_
      refine R_seq ?_
      refine wp_block ?_
      refine R_seq ?_
      refine R_reg ?_
      refine W_run (L' := [(0, .slice A0 d0.length cap0), (1, .func (.func 50) #[] #[.pointer (some ad1_0)]), (5, .int .i64 s_1), (7, .int .i64 ((d0.length : Nat) : Int)), (8, .int .i64 s_1)]) (w' := w_1) f_4 2 [0, 1, 5, 7, 8] (by kernel_rfl) (fun a_5 f_5 => ?_)
      refine W_end rfl ?_
      refine T_n ?_
      refine R_seq ?_
      refine R_reg ?_
      refine W_run (L' := [(0, .slice A0 d0.length cap0), (1, .func (.func 50) #[] #[.pointer (some ad1_0)]), (5, .int .i64 s_1), (7, .int .i64 ((d0.length : Nat) : Int)), (8, .int .i64 s_1), (11, .func (.func 50) #[] #[.pointer (some ad1_0)]), (12, .slice A0 d0.length cap0), (13, .int .i64 s_1)]) (w' := w_1) f_5 3 [0, 1, 5, 7, 8, 11, 12, 13] (by kernel_rfl) (fun a_6 f_6 => ?_)
      obtain ⟨x_1, hx_1, hF_3⟩ := bind_some' hF_2
      obtain ⟨ad_1, c_1, e_1, hl_1, hr_1, hc_1⟩ := Sli.at_ (h0.mono hM_1) hx_1
      clear hl_1
      obtain rfl : c_1 = [.int .i64 x_1] := hr_1
      refine W_eq (v := .pointer (some (ad_1.add (s_1.toNat * 1)))) f_6 (by kernel_rfl) (by kernel_rfl) rfl rfl (X_indexAddrA e_1 rfl (len := d0.length) (cap := cap0) (k := .i64) (i := s_1) (by kernel_rfl) (by kernel_rfl) (e := 3) (by kernel_rfl) (sz := 1) (by kernel_rfl) (getI_nn hx_1) (getI_lt hx_1)) (fun a_7 f_7 => ?_)
      refine W_eq (v := .int .i64 x_1) f_7 (by kernel_rfl) (by kernel_rfl) rfl rfl (X_load1 (v := .int .i64 x_1) rfl (ad := ad_1.add (s_1.toNat * 1)) (by kernel_rfl) (by kernel_rfl) (p_1.cell (hc_1 0 _ rfl))) (fun a_8 f_8 => ?_)
      obtain ⟨x_2, hx_2, hF_4⟩ := bind_some' hF_3
      refine W_okv (v := .bool x_2) f_8 p_1 (by kernel_rfl) (by kernel_rfl) rfl rfl (fun _ => by kernel_rfl) (ready_every_1_ok n _ x_1 ad1_0_f_0 ((fun j v h => hM_1.cell (q1_0_f_0 j v h))) ad1_0_f_1 [.slice A_1 d1_0_f_1.length cap_1] d1_0_f_1 (Sli.rep (h_1.mono hM_1)) (fz_at ((fun j v h => hM_1.cell (q1_0_f_1 j v h))) 0 rfl) ad1_0 ((fun j v h => hM_1.cell (q1_0 j v h))) x_2 hx_2) (fun w_2 p_2 a_9 f_9 => ?_)
      refine W_end rfl ?_
      refine T_n ?_
      refine R_cond f_9 (b := x_2) (by kernel_rfl) (by kernel_rfl) (fun h_3 => ?_) (fun h_3 => ?_)
      · have hF_5 := cnd_t h_3 hF_4
        refine R_seq ?_
        refine R_reg ?_
        refine W_run (L' := [(4, .int .i64 s_1)]) (w' := w_2) f_9 2 [4] (by kernel_rfl) (fun a_10 f_10 => ?_)
        refine W_end rfl ?_
        refine T_n ?_
        refine wp_ret ?_
        refine B_r ?_
        refine T_r ?_
        refine T_r ?_
        obtain rfl := Option.some.inj hF_5
        exact .inl ⟨rfl, s_1, (Option.some.inj hn_1).symm, M_1, hM_1, f_10.keep (ks := [4]) (by kernel_rfl), p_2⟩
      · have hF_6 := cnd_f h_3 hF_4
        refine wp_skip ?_
        refine B_n ?_
        refine T_n ?_
        refine R_reg ?_
        obtain ⟨g_1, hF_7⟩ := need_some hF_6
        refine W_run (L' := [(0, .slice A0 d0.length cap0), (1, .func (.func 50) #[] #[.pointer (some ad1_0)]), (5, .int .i64 s_1), (7, .int .i64 ((d0.length : Nat) : Int)), (8, .int .i64 s_1), (11, .func (.func 50) #[] #[.pointer (some ad1_0)]), (12, .slice A0 d0.length cap0), (13, .int .i64 s_1), (14, .pointer (some (ad_1.add (s_1.toNat * 1)))), (15, .int .i64 x_1), (16, .bool x_2), (18, .int .i64 (IntKind.wrap .i64 (s_1 + 1)))]) (w' := w_2) f_9 1 [0, 1, 5, 7, 8, 11, 12, 13, 14, 15, 16, 18] (by kernel_rfl) (fun a_11 f_11 => ?_)
        have f_12 := Frm.set f_11 18 (v := .int .i64 (IntKind.wrap .i64 (s_1 + 1))) (v' := .int .i64 (s_1 + 1)) (by kernel_rfl) (congrArg (Value.int .i64) (inR_wrap g_1))
        have f_13 : Frm 19 [(0, .slice A0 d0.length cap0), (1, .func (.func 50) #[] #[.pointer (some ad1_0)]), (5, .int .i64 s_1), (7, .int .i64 ((d0.length : Nat) : Int)), (8, .int .i64 s_1), (11, .func (.func 50) #[] #[.pointer (some ad1_0)]), (12, .slice A0 d0.length cap0), (13, .int .i64 s_1), (14, .pointer (some (ad_1.add (s_1.toNat * 1)))), (15, .int .i64 x_1), (16, .bool x_2), (18, .int .i64 (s_1 + 1))] a_11 := f_12.keep (ks := [0, 1, 5, 7, 8, 11, 12, 13, 14, 15, 16, 18]) (by kernel_rfl)
        refine W_run (L' := [(0, .slice A0 d0.length cap0), (1, .func (.func 50) #[] #[.pointer (some ad1_0)]), (7, .int .i64 ((d0.length : Nat) : Int)), (8, .int .i64 (s_1 + 1))]) (w' := w_2) f_13 1 [0, 1, 7, 8] (by kernel_rfl) (fun a_12 f_14 => ?_)
        refine W_end rfl ?_
        refine T_n ?_
        obtain rfl := Option.some.inj hF_7
        exact ⟨⟨m_2, s_1 + 1⟩, Nat.lt_succ_self _, M_1, hM_1, hn_1, f_14.keep (ks := [0, 1, 7, 8]) (by kernel_rfl), p_2⟩
    · have k_4 : ¬ (s_1 < ((d0.length : Nat) : Int)) := iff_f decide_eq_true_iff h_2
      have hF_8 := cnd_f h_2 hs_1
      refine wp_exit ?_
      refine T_x ?_
      refine T_x ?_
      obtain rfl := Option.some.inj hF_8
      exact .inr ⟨rfl, (), (Option.some.inj hn_1).symm, M_1, hM_1, f_4.keep (ks := []) (by kernel_rfl), p_1⟩
  · rintro _ a_15 w_5 (⟨rfl, y_1, rfl, M_2, hM_2, f_15, p_3⟩ | ⟨rfl, y_2, rfl, M_3, hM_3, f_16, p_4⟩)
    · refine B_r ?_
      refine T_r ?_
      refine E_ret1 f_15 rfl (by kernel_rfl : Vc.look _ 4 = some (.int .i64 y_1)) ?_
      obtain rfl := Option.some.inj hF_1
      exact ⟨_, rfl, M_2, hM_2, p_3, rfl⟩
    · refine B_x ?_
      refine T_n ?_
      refine R_seq ?_
      refine R_reg ?_
      refine W_run (L' := [(4, .int .i64 (-1))]) (w' := w_5) f_16 1 [4] (by kernel_rfl) (fun a_16 f_17 => ?_)
      refine W_end rfl ?_
      refine T_n ?_
      refine wp_ret ?_
      refine E_ret1 f_17 rfl (by kernel_rfl : Vc.look _ 4 = some (.int .i64 (-1))) ?_
      obtain rfl := Option.some.inj hF_1
      exact ⟨_, rfl, M_3, hM_3, p_4, rfl⟩

def slices_ContainsFuncint_int_2 (n : Nat) (d0 : List Int) (d1_0_f_1 : List Int) : Option Bool :=
  (slices_IndexFuncint_int_2 n d0 d1_0_f_1).bind fun x_1 =>
  some ((decide ((0 : Int) ≤ x_1)))
theorem slices_ContainsFuncint_int_2_ok (n : Nat) (M : Mem) (A0 : Option Addr) (cap0 : Nat) (d0 : List Int) (h0 : Sli M 1 (Dat.int .i64) A0 cap0 d0) (ad1_0_f_0 : Addr) (q1_0_f_0 : ∀ j v, [(.func (.func 30) #[] #[] : Value)][j]? = some v → M.cell? (ad1_0_f_0.add j) = some v) (ad1_0_f_1 : Addr) (c1_0_f_1 : List Value) (d1_0_f_1 : List Int) (h1_0_f_1 : Rep M ((eL 1 (Dat.int .i8)) d1_0_f_1) c1_0_f_1) (q1_0_f_1 : ∀ j v, c1_0_f_1[j]? = some v → M.cell? (ad1_0_f_1.add j) = some v) (ad1_0 : Addr) (q1_0 : ∀ j v, [(.func (.func 48) #[] #[.pointer (some ad1_0_f_0), .pointer (some ad1_0_f_1)] : Value)][j]? = some v → M.cell? (ad1_0.add j) = some v) (r : Bool) (hF : slices_ContainsFuncint_int_2 n d0 d1_0_f_1 = some r) : Ok Try.prog M 37 [.slice A0 d0.length cap0, .func (.func 50) #[] #[.pointer (some ad1_0)]] (fun _ v => v = .bool r) := by
  unfold slices_ContainsFuncint_int_2 at hF
  intro M1 hM0 w0 H w p0
  replace h0 := h0.mono hM0
  replace q1_0_f_0 := fun j v h => hM0.cell (q1_0_f_0 j v h)
  replace h1_0_f_1 := Rep.mono hM0 _ _ h1_0_f_1
  replace q1_0_f_1 := fun j v h => hM0.cell (q1_0_f_1 j v h)
  replace q1_0 := fun j v h => hM0.cell (q1_0 j v h)
  obtain ⟨A_1, cap_1, rfl, h_1⟩ := Rep.sli h1_0_f_1
  refine R_enter 9 Try.func37 rfl rfl (by simp) (fun a0 f0 => ?_)
  replace f0 : Frm 9 [(0, .slice A0 d0.length cap0), (1, .func (.func 50) #[] #[.pointer (some ad1_0)])] a0 := f0
  refine R_seq ?_
  refine R_reg ?_
  refine W_run (L' := [(0, .slice A0 d0.length cap0), (1, .func (.func 50) #[] #[.pointer (some ad1_0)])]) (w' := w) f0 1 [0, 1] (by kernel_rfl) (fun a_1 f_1 => ?_)
  refine W_end rfl ?_
  refine T_n ?_
  refine R_seq ?_
  refine R_reg ?_
  refine W_run (L' := [(5, .slice A0 d0.length cap0), (6, .func (.func 50) #[] #[.pointer (some ad1_0)])]) (w' := w) f_1 2 [5, 6] (by kernel_rfl) (fun a_2 f_2 => ?_)
  obtain ⟨x_1, hx_1, hF_1⟩ := bind_some' hF
  refine W_okv (v := .int .i64 x_1) f_2 p0 (by kernel_rfl) (by kernel_rfl) rfl rfl (fun _ => by kernel_rfl) (slices_IndexFuncint_int_2_ok n _ A0 cap0 d0 h0 ad1_0_f_0 (q1_0_f_0) ad1_0_f_1 [.slice A_1 d1_0_f_1.length cap_1] d1_0_f_1 (Sli.rep h_1) (fz_at (q1_0_f_1) 0 rfl) ad1_0 (q1_0) x_1 hx_1) (fun w_1 p_1 a_3 f_3 => ?_)
  refine W_run (L' := [(4, .bool (decide ((0 : Int) ≤ x_1)))]) (w' := w_1) f_3 2 [4] (by kernel_rfl) (fun a_4 f_4 => ?_)
  refine W_end rfl ?_
  refine T_n ?_
  refine wp_ret ?_
  refine E_ret1 f_4 rfl (by kernel_rfl : Vc.look _ 4 = some (.bool (decide ((0 : Int) ≤ x_1)))) ?_
  obtain rfl := Option.some.inj hF_1
  exact ⟨_, rfl, M1, (Mem.le_refl _), p_1, rfl⟩

def ready_every (n : Nat) (d0 : List Int) (d1_1 : List Int) : Option Bool :=
  (slices_ContainsFuncint_int_2 n d0 d1_1).bind fun x_1 =>
  some ((!x_1))
theorem ready_every_ok (n : Nat) (M : Mem) (A0 : Option Addr) (cap0 : Nat) (d0 : List Int) (h0 : Sli M 1 (Dat.int .i64) A0 cap0 d0) (ad1_0 : Addr) (q1_0 : ∀ j v, [(.func (.func 30) #[] #[] : Value)][j]? = some v → M.cell? (ad1_0.add j) = some v) (ad1_1 : Addr) (c1_1 : List Value) (d1_1 : List Int) (h1_1 : Rep M ((eL 1 (Dat.int .i8)) d1_1) c1_1) (q1_1 : ∀ j v, c1_1[j]? = some v → M.cell? (ad1_1.add j) = some v) (r : Bool) (hF : ready_every n d0 d1_1 = some r) : Ok Try.prog M 31 [.slice A0 d0.length cap0, .func (.func 48) #[] #[.pointer (some ad1_0), .pointer (some ad1_1)]] (fun _ v => v = .bool r) := by
  unfold ready_every at hF
  intro M1 hM0 w0 H w p0
  replace h0 := h0.mono hM0
  replace q1_0 := fun j v h => hM0.cell (q1_0 j v h)
  replace h1_1 := Rep.mono hM0 _ _ h1_1
  replace q1_1 := fun j v h => hM0.cell (q1_1 j v h)
  obtain ⟨A_1, cap_1, rfl, h_1⟩ := Rep.sli h1_1
  refine R_enter 9 Try.func31 rfl rfl (by simp) (fun a0 f0 => ?_)
  replace f0 : Frm 9 [(0, .slice A0 d0.length cap0), (1, .func (.func 48) #[] #[.pointer (some ad1_0), .pointer (some ad1_1)])] a0 := f0
  refine R_seq ?_
  refine R_reg ?_
  refine W_box (cs := #[.func (.func 48) #[] #[.pointer (some ad1_0), .pointer (some ad1_1)]]) (T := 74) f0 p0 1 [0, 1, 3] (fun b_1 => [(0, .slice A0 d0.length cap0), (1, .func (.func 48) #[] #[.pointer (some ad1_0), .pointer (some ad1_1)]), (3, .pointer (some (⟨b_1, 0, none⟩)))]) (fun _ => by kernel_rfl) (fun b_1 M_1 w_1 hM_1 hc_1 p_1 a_1 f_1 => ?_)
  replace f_1 : Frm 9 [(0, .slice A0 d0.length cap0), (1, .func (.func 48) #[] #[.pointer (some ad1_0), .pointer (some ad1_1)]), (3, .pointer (some (⟨b_1, 0, none⟩)))] a_1 := f_1
  have hc_2 := fz_box hc_1
  refine W_run (L' := [(0, .slice A0 d0.length cap0), (3, .pointer (some (⟨b_1, 0, none⟩)))]) (w' := w_1) f_1 1 [0, 3] (by kernel_rfl) (fun a_2 f_2 => ?_)
  refine W_end rfl ?_
  refine T_n ?_
  refine R_seq ?_
  refine R_reg ?_
  refine W_run (L' := [(5, .slice A0 d0.length cap0), (6, .func (.func 50) #[] #[.pointer (some (⟨b_1, 0, none⟩))])]) (w' := w_1) f_2 2 [5, 6] (by kernel_rfl) (fun a_3 f_3 => ?_)
  obtain ⟨x_1, hx_1, hF_1⟩ := bind_some' hF
  refine W_okv (v := .bool x_1) f_3 p_1 (by kernel_rfl) (by kernel_rfl) rfl rfl (fun _ => by kernel_rfl) (slices_ContainsFuncint_int_2_ok n _ A0 cap0 d0 (h0.mono hM_1) ad1_0 ((fun j v h => hM_1.cell (q1_0 j v h))) ad1_1 [.slice A_1 d1_1.length cap_1] d1_1 (Sli.rep (h_1.mono hM_1)) (fz_at ((fun j v h => hM_1.cell (q1_1 j v h))) 0 rfl) (⟨b_1, 0, none⟩) (hc_2) x_1 hx_1) (fun w_2 p_2 a_4 f_4 => ?_)
  refine W_run (L' := [(4, .bool !x_1)]) (w' := w_2) f_4 2 [4] (by kernel_rfl) (fun a_5 f_5 => ?_)
  refine W_end rfl ?_
  refine T_n ?_
  refine wp_ret ?_
  refine E_ret1 f_5 rfl (by kernel_rfl : Vc.look _ 4 = some (.bool !x_1)) ?_
  obtain rfl := Option.some.inj hF_1
  exact ⟨_, rfl, M_1, hM_1, p_2, rfl⟩

def ready_over_s1 (n : Nat) (d0 : List (List Int)) (d1 : List Int) (s_1 : List Int × Int) : Option (Lp (List Int × Int) (List Int)) :=
    bif (decide (s_1.2 < ((d1.length : Nat) : Int))) then
      ((getI d1 s_1.2).bind fun x_1 =>
      ((bif (decide (x_1 = 1)) then
          ((getI d0 s_1.2).bind fun x_2 =>
          (ready_every n x_2 d1).bind fun x_3 =>
          some ((x_3)))
        else
          some ((false)) : Option Bool)).bind fun y_1 =>
      bif y_1 then
        (need ((s_1.1.length + 1) * 8 ≤ 140737488355328) <|
        need (inR .i64 (s_1.2 + 1)) <|
        some (.nx (s_1.1 ++ [s_1.2], s_1.2 + 1)))
      else
        need (inR .i64 (s_1.2 + 1)) <|
        some (.nx (s_1.1, s_1.2 + 1)))
    else
      some (.br s_1.1)
def ready_over (n : Nat) (d0 : List (List Int)) (d1 : List Int) : Option (List Int) :=
  (loopF (ready_over_s1 n d0 d1) n (([] : List Int), (0 : Int))).bind fun y_2 =>
  some (y_2)
set_option maxRecDepth 20000 in
theorem ready_over_ok (n : Nat) (M : Mem) (A0 : Option Addr) (cap0 : Nat) (d0 : List (List Int)) (h0 : Sli M 1 (eL 1 (Dat.int .i64)) A0 cap0 d0) (A1 : Option Addr) (cap1 : Nat) (d1 : List Int) (h1 : Sli M 1 (Dat.int .i8) A1 cap1 d1) (r : List Int) (hF : ready_over n d0 d1 = some r) : OkH Try.prog M [] 28 [.slice A0 d0.length cap0, .slice A1 d1.length cap1, .func (.func 30) #[] #[], .func (.func 31) #[] #[]] (fun M' E' v => ∃ (A0 : Option Addr) (k0 : Nat) (s0 : List Value), v = .slice A0 r.length k0 ∧ E' = [.row 3 1 (.slice A0 r.length k0) r.length s0] ∧ RepSeq M' (r.map (Dat.int .i64)) s0) := by
  unfold ready_over at hF
  intro M1 hM0 w0 H w p0
  replace h0 := h0.mono hM0
  replace h1 := h1.mono hM0
  refine R_enter 35 Try.func28 rfl rfl (by simp) (fun a0 f0 => ?_)
  replace f0 : Frm 35 [(0, .slice A0 d0.length cap0), (1, .slice A1 d1.length cap1), (2, .func (.func 30) #[] #[]), (3, .func (.func 31) #[] #[])] a0 := f0
  refine R_seq ?_
  refine R_reg ?_
  refine W_box (cs := #[.slice A1 d1.length cap1]) (T := 23) f0 p0 1 [0, 1, 2, 3, 5] (fun b_1 => [(0, .slice A0 d0.length cap0), (1, .slice A1 d1.length cap1), (2, .func (.func 30) #[] #[]), (3, .func (.func 31) #[] #[]), (5, .pointer (some (⟨b_1, 0, none⟩)))]) (fun _ => by kernel_rfl) (fun b_1 M_1 w_1 hM_1 hc_1 p_1 a_1 f_1 => ?_)
  replace f_1 : Frm 35 [(0, .slice A0 d0.length cap0), (1, .slice A1 d1.length cap1), (2, .func (.func 30) #[] #[]), (3, .func (.func 31) #[] #[]), (5, .pointer (some (⟨b_1, 0, none⟩)))] a_1 := f_1
  have hc_2 := fz_box hc_1
  refine W_box (cs := #[.func (.func 30) #[] #[]]) (T := 70) f_1 p_1 1 [0, 1, 2, 3, 5, 6] (fun b_2 => [(0, .slice A0 d0.length cap0), (1, .slice A1 d1.length cap1), (2, .func (.func 30) #[] #[]), (3, .func (.func 31) #[] #[]), (5, .pointer (some (⟨b_1, 0, none⟩))), (6, .pointer (some (⟨b_2, 0, none⟩)))]) (fun _ => by kernel_rfl) (fun b_2 M_2 w_2 hM_2 hc_3 p_2 a_2 f_2 => ?_)
  replace f_2 : Frm 35 [(0, .slice A0 d0.length cap0), (1, .slice A1 d1.length cap1), (2, .func (.func 30) #[] #[]), (3, .func (.func 31) #[] #[]), (5, .pointer (some (⟨b_1, 0, none⟩))), (6, .pointer (some (⟨b_2, 0, none⟩)))] a_2 := f_2
  have hc_4 := fz_box hc_3
  refine W_run (L' := [(0, .slice A0 d0.length cap0), (3, .func (.func 31) #[] #[]), (5, .pointer (some (⟨b_1, 0, none⟩))), (6, .pointer (some (⟨b_2, 0, none⟩))), (8, .slice none 0 0)]) (w' := w_2) f_2 1 [0, 3, 5, 6, 8] (by kernel_rfl) (fun a_3 f_3 => ?_)
  refine W_end rfl ?_
  refine T_n ?_
  refine R_seq ?_
  refine R_seq ?_
  refine R_reg ?_
  refine W_eq (v := .slice A1 d1.length cap1) f_3 (by kernel_rfl) (by kernel_rfl) rfl rfl (X_load1 (v := .slice A1 d1.length cap1) rfl (ad := ⟨b_1, 0, none⟩) (by kernel_rfl) (by kernel_rfl) (p_2.cell ((fun j v h => hM_2.cell (hc_2 j v h)) 0 _ rfl))) (fun a_4 f_4 => ?_)
  refine W_run (L' := [(0, .slice A0 d0.length cap0), (3, .func (.func 31) #[] #[]), (5, .pointer (some (⟨b_1, 0, none⟩))), (6, .pointer (some (⟨b_2, 0, none⟩))), (8, .slice none 0 0), (11, .slice A1 d1.length cap1), (12, .int .i64 ((d1.length : Nat) : Int)), (13, .int .i64 0)]) (w' := w_2) f_4 2 [0, 3, 5, 6, 8, 11, 12, 13] (by kernel_rfl) (fun a_5 f_5 => ?_)
  refine W_end rfl ?_
  refine T_n ?_
  refine wp_block ?_
  obtain ⟨A_1, cap_1, hv_1⟩ : ∃ A cap, Value.slice none 0 0 = .slice A ([] : List Int).length cap := ⟨none, 0, rfl⟩
  have p_3 : Hp w0 M_2 ((Ent.row 3 1 (.slice A_1 ([] : List Int).length cap_1) ([] : List Int).length []) :: H) w_2 := by rw [← hv_1]; exact p_2.nilRow 3 1
  have f_6 := Frm.set f_5 8 (v := .slice none 0 0) (v' := .slice A_1 ([] : List Int).length cap_1) (by kernel_rfl) (hv_1)
  have f_7 : Frm 35 [(0, .slice A0 d0.length cap0), (3, .func (.func 31) #[] #[]), (5, .pointer (some (⟨b_1, 0, none⟩))), (6, .pointer (some (⟨b_2, 0, none⟩))), (8, .slice A_1 ([] : List Int).length cap_1), (11, .slice A1 d1.length cap1), (12, .int .i64 ((d1.length : Nat) : Int)), (13, .int .i64 0)] a_5 := f_6.keep (ks := [0, 3, 5, 6, 8, 11, 12, 13]) (by kernel_rfl)
  have hr_1 : RepSeq M_2 (([] : List Int).map (Dat.int .i64)) [] := rfl
  obtain ⟨b_3, hL_1, hF_1⟩ := bind_some' hF
  refine wp_mono (Q := fun e a w => (e = .exit 0 ∧ (∃ y_2 : List Int, b_3 = y_2 ∧ ∃ M_5 : Mem, M_2.le M_5 ∧ ∃ (A_5 : Option Addr), ∃ (cap_5 : Nat), ∃ (cs_3 : List Value), RepSeq M_5 (y_2.map (Dat.int .i64)) cs_3 ∧ Frm 35 [(8, .slice A_5 y_2.length cap_5)] a ∧ Hp w0 M_5 ((Ent.row 3 1 (.slice A_5 y_2.length cap_5) y_2.length cs_3) :: H) w))) (R_loop (n := 35) (w0 := w0) (M := M_2) (fun (x : Nat × (List Int × Int) × (Option Addr) × Nat × (List Value)) => match x with | (m_1, s_1, A_2, cap_2, cs_1) => [(0, .slice A0 d0.length cap0), (3, .func (.func 31) #[] #[]), (5, .pointer (some (⟨b_1, 0, none⟩))), (6, .pointer (some (⟨b_2, 0, none⟩))), (8, .slice A_2 s_1.1.length cap_2), (11, .slice A1 d1.length cap1), (12, .int .i64 ((d1.length : Nat) : Int)), (13, .int .i64 s_1.2)]) (fun (x : Nat × (List Int × Int) × (Option Addr) × Nat × (List Value)) => match x with | (m_1, s_1, A_2, cap_2, cs_1) => ((Ent.row 3 1 (.slice A_2 s_1.1.length cap_2) s_1.1.length cs_1) :: H)) (fun (x : Nat × (List Int × Int) × (Option Addr) × Nat × (List Value)) (MM : Mem) => match x with | (m_1, s_1, A_2, cap_2, cs_1) => loopF (ready_over_s1 n d0 d1) m_1 s_1 = some b_3 ∧ RepSeq MM (s_1.1.map (Dat.int .i64)) cs_1) (fun (x : Nat × (List Int × Int) × (Option Addr) × Nat × (List Value)) => match x with | (m_1, s_1, A_2, cap_2, cs_1) => m_1) (n, (([] : List Int), (0 : Int)), A_1, cap_1, []) (f_7.keep (ks := [0, 3, 5, 6, 8, 11, 12, 13]) (by kernel_rfl)) p_3 ⟨hL_1, hr_1⟩ ?_) ?_
  · rintro ⟨m_1, s_1, A_2, cap_2, cs_1⟩ M_3 a_6 w_3 hM_3 I_1 f_8 p_4
    replace f_8 : Frm 35 [(0, .slice A0 d0.length cap0), (3, .func (.func 31) #[] #[]), (5, .pointer (some (⟨b_1, 0, none⟩))), (6, .pointer (some (⟨b_2, 0, none⟩))), (8, .slice A_2 s_1.1.length cap_2), (11, .slice A1 d1.length cap1), (12, .int .i64 ((d1.length : Nat) : Int)), (13, .int .i64 s_1.2)] a_6 := f_8
    replace p_4 : Hp w0 M_3 ((Ent.row 3 1 (.slice A_2 s_1.1.length cap_2) s_1.1.length cs_1) :: H) w_3 := p_4
    obtain ⟨I_1L, hr_2⟩ := I_1
    obtain ⟨m_2, r_1, rfl, hs_1, hn_1⟩ := loop_step I_1L
    unfold ready_over_s1 at hs_1
    refine R_seq ?_
    refine R_reg ?_
    refine W_run (L' := [(0, .slice A0 d0.length cap0), (3, .func (.func 31) #[] #[]), (5, .pointer (some (⟨b_1, 0, none⟩))), (6, .pointer (some (⟨b_2, 0, none⟩))), (8, .slice A_2 s_1.1.length cap_2), (11, .slice A1 d1.length cap1), (12, .int .i64 ((d1.length : Nat) : Int)), (13, .int .i64 s_1.2), (14, .bool (decide (s_1.2 < ((d1.length : Nat) : Int))))]) (w' := w_3) f_8 1 [0, 3, 5, 6, 8, 11, 12, 13, 14] (by kernel_rfl) (fun a_7 f_9 => ?_)
    refine W_end rfl ?_
    refine T_n ?_
    refine R_seq ?_
    refine R_cond f_9 (b := decide (s_1.2 < ((d1.length : Nat) : Int))) (by kernel_rfl) (by kernel_rfl) (fun h_1 => ?_) (fun h_1 => ?_)
    · have k_1 : s_1.2 < ((d1.length : Nat) : Int) := decide_eq_true_iff.1 h_1
      have hF_2 := cnd_t h_1 hs_1
      refine wp_skip ?_
      refine T_n ?_
      refine R_seq ?_
      refine wp_block ?_
      refine R_seq ?_
      refine R_reg ?_
      refine W_run (L' := [(0, .slice A0 d0.length cap0), (3, .func (.func 31) #[] #[]), (5, .pointer (some (⟨b_1, 0, none⟩))), (6, .pointer (some (⟨b_2, 0, none⟩))), (8, .slice A_2 s_1.1.length cap_2), (11, .slice A1 d1.length cap1), (12, .int .i64 ((d1.length : Nat) : Int)), (13, .int .i64 s_1.2), (15, .int .i64 s_1.2)]) (w' := w_3) f_9 1 [0, 3, 5, 6, 8, 11, 12, 13, 15] (by kernel_rfl) (fun a_8 f_10 => ?_)
      obtain ⟨x_1, hx_1, hF_3⟩ := bind_some' hF_2
      obtain ⟨ad_1, c_1, e_1, hl_1, hr_3, hc_5⟩ := Sli.at_ (h1.mono ((hM_1.trans hM_2).trans hM_3)) hx_1
      clear hl_1
      obtain rfl : c_1 = [.int .i8 x_1] := hr_3
      refine W_eq (v := .pointer (some (ad_1.add (s_1.2.toNat * 1)))) f_10 (by kernel_rfl) (by kernel_rfl) rfl rfl (X_indexAddrA e_1 rfl (len := d1.length) (cap := cap1) (k := .i64) (i := s_1.2) (by kernel_rfl) (by kernel_rfl) (e := 24) (by kernel_rfl) (sz := 1) (by kernel_rfl) (getI_nn hx_1) (getI_lt hx_1)) (fun a_9 f_11 => ?_)
      refine W_eq (v := .int .i8 x_1) f_11 (by kernel_rfl) (by kernel_rfl) rfl rfl (X_load1 (v := .int .i8 x_1) rfl (ad := ad_1.add (s_1.2.toNat * 1)) (by kernel_rfl) (by kernel_rfl) (p_4.cell (hc_5 0 _ rfl))) (fun a_10 f_12 => ?_)
      refine W_run (L' := [(0, .slice A0 d0.length cap0), (3, .func (.func 31) #[] #[]), (5, .pointer (some (⟨b_1, 0, none⟩))), (6, .pointer (some (⟨b_2, 0, none⟩))), (8, .slice A_2 s_1.1.length cap_2), (9, .int .i64 s_1.2), (10, .int .i8 x_1), (11, .slice A1 d1.length cap1), (12, .int .i64 ((d1.length : Nat) : Int)), (13, .int .i64 s_1.2)]) (w' := w_3) f_12 2 [0, 3, 5, 6, 8, 9, 10, 11, 12, 13] (by kernel_rfl) (fun a_11 f_13 => ?_)
      refine W_end rfl ?_
      refine T_n ?_
      refine R_seq ?_
      obtain ⟨j_1, hj_1, hF_4⟩ := bind_some' hF_3
      refine R_mid (fun a_20 w_5 => ∃ y_1 : Bool, j_1 = y_1 ∧ ∃ M_4 : Mem, M_3.le M_4 ∧ Frm 35 [(0, .slice A0 d0.length cap0), (3, .func (.func 31) #[] #[]), (5, .pointer (some (⟨b_1, 0, none⟩))), (6, .pointer (some (⟨b_2, 0, none⟩))), (8, .slice A_2 s_1.1.length cap_2), (9, .int .i64 s_1.2), (11, .slice A1 d1.length cap1), (12, .int .i64 ((d1.length : Nat) : Int)), (13, .int .i64 s_1.2), (28, .bool y_1)] a_20 ∧ Hp w0 M_4 ((Ent.row 3 1 (.slice A_2 s_1.1.length cap_2) s_1.1.length cs_1) :: H) w_5) ?_ ?_
      · refine R_reg ?_
        refine W_run (L' := [(0, .slice A0 d0.length cap0), (3, .func (.func 31) #[] #[]), (5, .pointer (some (⟨b_1, 0, none⟩))), (6, .pointer (some (⟨b_2, 0, none⟩))), (8, .slice A_2 s_1.1.length cap_2), (9, .int .i64 s_1.2), (11, .slice A1 d1.length cap1), (12, .int .i64 ((d1.length : Nat) : Int)), (13, .int .i64 s_1.2), (20, .bool (decide (x_1 = 1)))]) (w' := w_3) f_13 3 [0, 3, 5, 6, 8, 9, 11, 12, 13, 20] (by kernel_rfl) (fun a_12 f_14 => ?_)
        rcases Bool.eq_false_or_eq_true (decide (x_1 = 1)) with h_2 | h_2
        · have k_2 : x_1 = 1 := decide_eq_true_iff.1 h_2
          have hF_5 := cnd_t h_2 hj_1
          have f_15 := Frm.set f_14 20 (v := .bool (decide (x_1 = 1))) (v' := .bool true) (by kernel_rfl) (congrArg Value.bool h_2)
          have f_16 : Frm 35 [(0, .slice A0 d0.length cap0), (3, .func (.func 31) #[] #[]), (5, .pointer (some (⟨b_1, 0, none⟩))), (6, .pointer (some (⟨b_2, 0, none⟩))), (8, .slice A_2 s_1.1.length cap_2), (9, .int .i64 s_1.2), (11, .slice A1 d1.length cap1), (12, .int .i64 ((d1.length : Nat) : Int)), (13, .int .i64 s_1.2), (20, .bool true)] a_12 := f_15.keep (ks := [0, 3, 5, 6, 8, 9, 11, 12, 13, 20]) (by kernel_rfl)
          refine W_run (L' := [(0, .slice A0 d0.length cap0), (3, .func (.func 31) #[] #[]), (5, .pointer (some (⟨b_1, 0, none⟩))), (6, .pointer (some (⟨b_2, 0, none⟩))), (8, .slice A_2 s_1.1.length cap_2), (9, .int .i64 s_1.2), (11, .slice A1 d1.length cap1), (12, .int .i64 ((d1.length : Nat) : Int)), (13, .int .i64 s_1.2), (20, .bool true), (21, .func (.func 31) #[] #[]), (22, .slice A0 d0.length cap0), (23, .int .i64 s_1.2)]) (w' := w_3) f_16 3 [0, 3, 5, 6, 8, 9, 11, 12, 13, 20, 21, 22, 23] (by kernel_rfl) (fun a_13 f_17 => ?_)
          obtain ⟨x_2, hx_2, hF_6⟩ := bind_some' hF_5
          obtain ⟨ad_2, c_2, e_2, hl_2, hr_4, hc_6⟩ := Sli.at_ (h0.mono ((hM_1.trans hM_2).trans hM_3)) hx_2
          clear hl_2
          obtain ⟨A_3, cap_3, rfl, h_3⟩ := Rep.sli hr_4
          refine W_eq (v := .pointer (some (ad_2.add (s_1.2.toNat * 1)))) f_17 (by kernel_rfl) (by kernel_rfl) rfl rfl (X_indexAddrA e_2 rfl (len := d0.length) (cap := cap0) (k := .i64) (i := s_1.2) (by kernel_rfl) (by kernel_rfl) (e := 27) (by kernel_rfl) (sz := 1) (by kernel_rfl) (getI_nn hx_2) (getI_lt hx_2)) (fun a_14 f_18 => ?_)
          refine W_eq (v := .slice A_3 x_2.length cap_3) f_18 (by kernel_rfl) (by kernel_rfl) rfl rfl (X_load1 (v := .slice A_3 x_2.length cap_3) rfl (ad := ad_2.add (s_1.2.toNat * 1)) (by kernel_rfl) (by kernel_rfl) (p_4.cell (hc_6 0 _ rfl))) (fun a_15 f_19 => ?_)
          refine W_run (L' := [(0, .slice A0 d0.length cap0), (3, .func (.func 31) #[] #[]), (5, .pointer (some (⟨b_1, 0, none⟩))), (6, .pointer (some (⟨b_2, 0, none⟩))), (8, .slice A_2 s_1.1.length cap_2), (9, .int .i64 s_1.2), (11, .slice A1 d1.length cap1), (12, .int .i64 ((d1.length : Nat) : Int)), (13, .int .i64 s_1.2), (20, .bool true), (21, .func (.func 31) #[] #[]), (25, .slice A_3 x_2.length cap_3), (26, .func (.func 48) #[] #[.pointer (some (⟨b_2, 0, none⟩)), .pointer (some (⟨b_1, 0, none⟩))])]) (w' := w_3) f_19 1 [0, 3, 5, 6, 8, 9, 11, 12, 13, 20, 21, 25, 26] (by kernel_rfl) (fun a_16 f_20 => ?_)
          obtain ⟨x_3, hx_3, hF_7⟩ := bind_some' hF_6
          refine W_okv (v := .bool x_3) f_20 p_4 (by kernel_rfl) (by kernel_rfl) rfl rfl (fun _ => by kernel_rfl) (ready_every_ok n _ A_3 cap_3 x_2 h_3 (⟨b_2, 0, none⟩) ((fun j v h => hM_3.cell (hc_4 j v h))) (⟨b_1, 0, none⟩) [.slice A1 d1.length cap1] d1 (Sli.rep (h1.mono ((hM_1.trans hM_2).trans hM_3))) (fz_at ((fun j v h => (hM_2.trans hM_3).cell (hc_2 j v h))) 0 rfl) x_3 hx_3) (fun w_4 p_5 a_17 f_21 => ?_)
          refine W_run (L' := [(0, .slice A0 d0.length cap0), (3, .func (.func 31) #[] #[]), (5, .pointer (some (⟨b_1, 0, none⟩))), (6, .pointer (some (⟨b_2, 0, none⟩))), (8, .slice A_2 s_1.1.length cap_2), (9, .int .i64 s_1.2), (11, .slice A1 d1.length cap1), (12, .int .i64 ((d1.length : Nat) : Int)), (13, .int .i64 s_1.2), (28, .bool x_3)]) (w' := w_4) f_21 1 [0, 3, 5, 6, 8, 9, 11, 12, 13, 28] (by kernel_rfl) (fun a_18 f_22 => ?_)
          refine W_end rfl ?_
          refine T_n ?_
          exact ⟨(x_3), (Option.some.inj hF_7).symm, M_3, (Mem.le_refl _), f_22.keep (ks := [0, 3, 5, 6, 8, 9, 11, 12, 13, 28]) (by kernel_rfl), p_5⟩
        · have k_3 : ¬ (x_1 = 1) := iff_f decide_eq_true_iff h_2
          have hF_8 := cnd_f h_2 hj_1
          have f_23 := Frm.set f_14 20 (v := .bool (decide (x_1 = 1))) (v' := .bool false) (by kernel_rfl) (congrArg Value.bool h_2)
          have f_24 : Frm 35 [(0, .slice A0 d0.length cap0), (3, .func (.func 31) #[] #[]), (5, .pointer (some (⟨b_1, 0, none⟩))), (6, .pointer (some (⟨b_2, 0, none⟩))), (8, .slice A_2 s_1.1.length cap_2), (9, .int .i64 s_1.2), (11, .slice A1 d1.length cap1), (12, .int .i64 ((d1.length : Nat) : Int)), (13, .int .i64 s_1.2), (20, .bool false)] a_12 := f_23.keep (ks := [0, 3, 5, 6, 8, 9, 11, 12, 13, 20]) (by kernel_rfl)
          refine W_run (L' := [(0, .slice A0 d0.length cap0), (3, .func (.func 31) #[] #[]), (5, .pointer (some (⟨b_1, 0, none⟩))), (6, .pointer (some (⟨b_2, 0, none⟩))), (8, .slice A_2 s_1.1.length cap_2), (9, .int .i64 s_1.2), (11, .slice A1 d1.length cap1), (12, .int .i64 ((d1.length : Nat) : Int)), (13, .int .i64 s_1.2), (28, .bool false)]) (w' := w_3) f_24 8 [0, 3, 5, 6, 8, 9, 11, 12, 13, 28] (by kernel_rfl) (fun a_19 f_25 => ?_)
          refine W_end rfl ?_
          refine T_n ?_
          exact ⟨(false), (Option.some.inj hF_8).symm, M_3, (Mem.le_refl _), f_25.keep (ks := [0, 3, 5, 6, 8, 9, 11, 12, 13, 28]) (by kernel_rfl), p_4⟩
      · rintro a_20 w_5 ⟨y_1, hq_1, M_4, hM_4, f_26, p_6⟩
        subst j_1
        refine T_n ?_
        refine R_cond f_26 (b := y_1) (by kernel_rfl) (by kernel_rfl) (fun h_4 => ?_) (fun h_4 => ?_)
        · have hF_9 := cnd_t h_4 hF_4
          refine R_reg ?_
          refine W_run (L' := [(0, .slice A0 d0.length cap0), (3, .func (.func 31) #[] #[]), (5, .pointer (some (⟨b_1, 0, none⟩))), (6, .pointer (some (⟨b_2, 0, none⟩))), (11, .slice A1 d1.length cap1), (12, .int .i64 ((d1.length : Nat) : Int)), (13, .int .i64 s_1.2), (29, .slice A_2 s_1.1.length cap_2), (30, .int .i64 s_1.2)]) (w' := w_5) f_26 2 [0, 3, 5, 6, 11, 12, 13, 29, 30] (by kernel_rfl) (fun a_21 f_27 => ?_)
          refine W_alloc f_27 p_6 1 [0, 3, 5, 6, 11, 12, 13, 29, 30, 31] (.cells #[.int .i64 s_1.2] 3 (0, 0)) (fun b_4 => [(0, .slice A0 d0.length cap0), (3, .func (.func 31) #[] #[]), (5, .pointer (some (⟨b_1, 0, none⟩))), (6, .pointer (some (⟨b_2, 0, none⟩))), (11, .slice A1 d1.length cap1), (12, .int .i64 ((d1.length : Nat) : Int)), (13, .int .i64 s_1.2), (29, .slice A_2 s_1.1.length cap_2), (30, .int .i64 s_1.2), (31, .slice (some ⟨b_4, 0, none⟩) 1 1)]) (fun _ => by kernel_rfl) (fun b_4 w_6 p_7 a_22 f_28 => ?_)
          replace f_28 : Frm 35 [(0, .slice A0 d0.length cap0), (3, .func (.func 31) #[] #[]), (5, .pointer (some (⟨b_1, 0, none⟩))), (6, .pointer (some (⟨b_2, 0, none⟩))), (11, .slice A1 d1.length cap1), (12, .int .i64 ((d1.length : Nat) : Int)), (13, .int .i64 s_1.2), (29, .slice A_2 s_1.1.length cap_2), (30, .int .i64 s_1.2), (31, .slice (some ⟨b_4, 0, none⟩) 1 1)] a_22 := f_28
          have p_8 : Hp w0 M_4 ((Ent.row 3 1 (.slice A_2 s_1.1.length cap_2) s_1.1.length cs_1) :: (Ent.obj b_4 (.cells #[.int .i64 s_1.2] 3 (0, 0))) :: H) w_6 := p_7.pull 1 rfl rfl
          obtain ⟨g_1, hF_10⟩ := need_some hF_9
          refine W_appendL (z := .int .i64 0) (f := (Dat.int .i64)) (xs := s_1.1) (ys := [s_1.2]) (news := [.int .i64 s_1.2]) (ad := ⟨b_4, 0, none⟩) (m := 1) (c := 1) f_28 p_8 (RepSeq.mono hM_4 _ _ hr_2) (by exact ⟨_, _, rfl, rfl, rfl⟩) (by kernel_rfl) (by kernel_rfl) rfl rfl rfl (by kernel_rfl) (by kernel_rfl) (by kernel_rfl) (by kernel_rfl) rfl (own_cells (p_8.ownCell 1 rfl) 0 rfl) (by exact g_1) (by have hg_ := g_1; first | omega | (simp only [List.length_cons, List.length_nil] at *; omega)) (fun A_4 cap_4 cs_2 w_7 p_9 hr_5 a_23 f_29 => ?_)
          have p_10 : Hp w0 M_4 ((Ent.obj b_4 (.cells #[.int .i64 s_1.2] 3 (0, 0))) :: (Ent.row 3 1 (.slice A_4 (s_1.1 ++ [s_1.2]).length cap_4) (s_1.1 ++ [s_1.2]).length cs_2) :: H) w_7 := p_9.pull 1 rfl rfl
          have p_11 := p_10.drop
          refine W_run (L' := [(0, .slice A0 d0.length cap0), (3, .func (.func 31) #[] #[]), (5, .pointer (some (⟨b_1, 0, none⟩))), (6, .pointer (some (⟨b_2, 0, none⟩))), (8, .slice A_4 (s_1.1 ++ [s_1.2]).length cap_4), (11, .slice A1 d1.length cap1), (12, .int .i64 ((d1.length : Nat) : Int)), (13, .int .i64 s_1.2)]) (w' := w_7) f_29 1 [0, 3, 5, 6, 8, 11, 12, 13] (by kernel_rfl) (fun a_24 f_30 => ?_)
          refine W_end rfl ?_
          refine B_n ?_
          refine T_n ?_
          refine R_reg ?_
          obtain ⟨g_2, hF_11⟩ := need_some hF_10
          refine W_run (L' := [(0, .slice A0 d0.length cap0), (3, .func (.func 31) #[] #[]), (5, .pointer (some (⟨b_1, 0, none⟩))), (6, .pointer (some (⟨b_2, 0, none⟩))), (8, .slice A_4 (s_1.1 ++ [s_1.2]).length cap_4), (11, .slice A1 d1.length cap1), (12, .int .i64 ((d1.length : Nat) : Int)), (13, .int .i64 s_1.2), (33, .int .i64 (IntKind.wrap .i64 (s_1.2 + 1)))]) (w' := w_7) f_30 1 [0, 3, 5, 6, 8, 11, 12, 13, 33] (by kernel_rfl) (fun a_25 f_31 => ?_)
          have f_32 := Frm.set f_31 33 (v := .int .i64 (IntKind.wrap .i64 (s_1.2 + 1))) (v' := .int .i64 (s_1.2 + 1)) (by kernel_rfl) (congrArg (Value.int .i64) (inR_wrap g_2))
          have f_33 : Frm 35 [(0, .slice A0 d0.length cap0), (3, .func (.func 31) #[] #[]), (5, .pointer (some (⟨b_1, 0, none⟩))), (6, .pointer (some (⟨b_2, 0, none⟩))), (8, .slice A_4 (s_1.1 ++ [s_1.2]).length cap_4), (11, .slice A1 d1.length cap1), (12, .int .i64 ((d1.length : Nat) : Int)), (13, .int .i64 s_1.2), (33, .int .i64 (s_1.2 + 1))] a_25 := f_32.keep (ks := [0, 3, 5, 6, 8, 11, 12, 13, 33]) (by kernel_rfl)
          refine W_run (L' := [(0, .slice A0 d0.length cap0), (3, .func (.func 31) #[] #[]), (5, .pointer (some (⟨b_1, 0, none⟩))), (6, .pointer (some (⟨b_2, 0, none⟩))), (8, .slice A_4 (s_1.1 ++ [s_1.2]).length cap_4), (11, .slice A1 d1.length cap1), (12, .int .i64 ((d1.length : Nat) : Int)), (13, .int .i64 (s_1.2 + 1))]) (w' := w_7) f_33 1 [0, 3, 5, 6, 8, 11, 12, 13] (by kernel_rfl) (fun a_26 f_34 => ?_)
          refine W_end rfl ?_
          refine T_n ?_
          obtain rfl := Option.some.inj hF_11
          exact ⟨⟨m_2, (s_1.1 ++ [s_1.2], s_1.2 + 1), A_4, cap_4, cs_2⟩, Nat.lt_succ_self _, M_4, (hM_3.trans hM_4), ⟨hn_1, hr_5⟩, f_34.keep (ks := [0, 3, 5, 6, 8, 11, 12, 13]) (by kernel_rfl), p_11⟩
        · have hF_12 := cnd_f h_4 hF_4
          refine wp_skip ?_
          refine B_n ?_
          refine T_n ?_
          refine R_reg ?_
          obtain ⟨g_3, hF_13⟩ := need_some hF_12
          refine W_run (L' := [(0, .slice A0 d0.length cap0), (3, .func (.func 31) #[] #[]), (5, .pointer (some (⟨b_1, 0, none⟩))), (6, .pointer (some (⟨b_2, 0, none⟩))), (8, .slice A_2 s_1.1.length cap_2), (9, .int .i64 s_1.2), (11, .slice A1 d1.length cap1), (12, .int .i64 ((d1.length : Nat) : Int)), (13, .int .i64 s_1.2), (28, .bool y_1), (33, .int .i64 (IntKind.wrap .i64 (s_1.2 + 1)))]) (w' := w_5) f_26 1 [0, 3, 5, 6, 8, 9, 11, 12, 13, 28, 33] (by kernel_rfl) (fun a_27 f_35 => ?_)
          have f_36 := Frm.set f_35 33 (v := .int .i64 (IntKind.wrap .i64 (s_1.2 + 1))) (v' := .int .i64 (s_1.2 + 1)) (by kernel_rfl) (congrArg (Value.int .i64) (inR_wrap g_3))
          have f_37 : Frm 35 [(0, .slice A0 d0.length cap0), (3, .func (.func 31) #[] #[]), (5, .pointer (some (⟨b_1, 0, none⟩))), (6, .pointer (some (⟨b_2, 0, none⟩))), (8, .slice A_2 s_1.1.length cap_2), (9, .int .i64 s_1.2), (11, .slice A1 d1.length cap1), (12, .int .i64 ((d1.length : Nat) : Int)), (13, .int .i64 s_1.2), (28, .bool y_1), (33, .int .i64 (s_1.2 + 1))] a_27 := f_36.keep (ks := [0, 3, 5, 6, 8, 9, 11, 12, 13, 28, 33]) (by kernel_rfl)
          refine W_run (L' := [(0, .slice A0 d0.length cap0), (3, .func (.func 31) #[] #[]), (5, .pointer (some (⟨b_1, 0, none⟩))), (6, .pointer (some (⟨b_2, 0, none⟩))), (8, .slice A_2 s_1.1.length cap_2), (11, .slice A1 d1.length cap1), (12, .int .i64 ((d1.length : Nat) : Int)), (13, .int .i64 (s_1.2 + 1))]) (w' := w_5) f_37 1 [0, 3, 5, 6, 8, 11, 12, 13] (by kernel_rfl) (fun a_28 f_38 => ?_)
          refine W_end rfl ?_
          refine T_n ?_
          obtain rfl := Option.some.inj hF_13
          exact ⟨⟨m_2, (s_1.1, s_1.2 + 1), A_2, cap_2, cs_1⟩, Nat.lt_succ_self _, M_4, (hM_3.trans hM_4), ⟨hn_1, (RepSeq.mono hM_4 _ _ hr_2)⟩, f_38.keep (ks := [0, 3, 5, 6, 8, 11, 12, 13]) (by kernel_rfl), p_6⟩
    · have k_6 : ¬ (s_1.2 < ((d1.length : Nat) : Int)) := iff_f decide_eq_true_iff h_1
      have hF_14 := cnd_f h_1 hs_1
      refine wp_exit ?_
      refine T_x ?_
      refine T_x ?_
      obtain rfl := Option.some.inj hF_14
      exact ⟨rfl, s_1.1, (Option.some.inj hn_1).symm, M_3, hM_3, A_2, cap_2, cs_1, hr_2, f_9.keep (ks := [8]) (by kernel_rfl), p_4⟩
  · rintro _ a_30 w_9 ⟨rfl, y_2, hq_, M_5, hM_5, A_5, cap_5, cs_3, hr_6, f_39, p_12⟩
    subst b_3
    refine B_x ?_
    refine T_n ?_
    refine R_seq ?_
    refine R_reg ?_
    refine W_run (L' := [(8, .slice A_5 y_2.length cap_5)]) (w' := w_9) f_39 2 [8] (by kernel_rfl) (fun a_31 f_40 => ?_)
    refine W_end rfl ?_
    refine T_n ?_
    refine wp_ret ?_
    refine E_ret1 f_40 rfl (by kernel_rfl : Vc.look _ 8 = some (.slice A_5 y_2.length cap_5)) ?_
    obtain rfl := Option.some.inj hF_1
    exact ⟨_, rfl, M_5, _, ((hM_1.trans hM_2).trans hM_5), p_12, ⟨A_5, cap_5, cs_3, rfl, rfl, hr_6⟩⟩

def ready_Ready (n : Nat) (d0 : List (List Int)) (d1 : List Int) (d2 : Bool) : Option (List Int × Int) :=
  (ready_May n d0 d1).bind fun x_1 =>
  bif !x_1 then
    (some ((([] : List Int), (2 : Int))))
  else
    (ready_ways n d0 (d2)).bind fun x_2 =>
    (ready_over n x_2 d1).bind fun x_3 =>
    some ((x_3, (0 : Int)))
theorem ready_Ready_ok (n : Nat) (M : Mem) (A0 : Option Addr) (cap0 : Nat) (d0 : List (List Int)) (h0 : Sli M 1 (eL 1 (Dat.int .i64)) A0 cap0 d0) (A1 : Option Addr) (cap1 : Nat) (d1 : List Int) (h1 : Sli M 1 (Dat.int .i8) A1 cap1 d1) (d2 : Bool) (r : List Int × Int) (hF : ready_Ready n d0 d1 d2 = some r) : OkH Try.prog M [] 7 [.slice A0 d0.length cap0, .slice A1 d1.length cap1, .bool d2] (fun M' E' v => ∃ (A0 : Option Addr) (k0 : Nat) (s0 : List Value), v = .tuple #[.slice A0 r.1.length k0, .int .i64 r.2] ∧ E' = [.row 3 1 (.slice A0 r.1.length k0) r.1.length s0] ∧ RepSeq M' (r.1.map (Dat.int .i64)) s0) := by
  unfold ready_Ready at hF
  intro M1 hM0 w0 H w p0
  replace h0 := h0.mono hM0
  replace h1 := h1.mono hM0
  refine R_enter 17 Try.func7 rfl rfl (by simp) (fun a0 f0 => ?_)
  replace f0 : Frm 17 [(0, .slice A0 d0.length cap0), (1, .slice A1 d1.length cap1), (2, .bool d2)] a0 := f0
  refine R_seq ?_
  refine R_reg ?_
  refine W_run (L' := [(0, .slice A0 d0.length cap0), (1, .slice A1 d1.length cap1), (2, .bool d2)]) (w' := w) f0 2 [0, 1, 2] (by kernel_rfl) (fun a_1 f_1 => ?_)
  refine W_end rfl ?_
  refine T_n ?_
  refine R_seq ?_
  refine R_seq ?_
  refine R_reg ?_
  refine W_run (L' := [(0, .slice A0 d0.length cap0), (1, .slice A1 d1.length cap1), (2, .bool d2), (8, .slice A0 d0.length cap0), (9, .slice A1 d1.length cap1)]) (w' := w) f_1 2 [0, 1, 2, 8, 9] (by kernel_rfl) (fun a_2 f_2 => ?_)
  obtain ⟨x_1, hx_1, hF_1⟩ := bind_some' hF
  refine W_okv (v := .bool x_1) f_2 p0 (by kernel_rfl) (by kernel_rfl) rfl rfl (fun _ => by kernel_rfl) (ready_May_ok n _ A0 cap0 d0 h0 A1 cap1 d1 h1 x_1 hx_1) (fun w_1 p_1 a_3 f_3 => ?_)
  refine W_run (L' := [(0, .slice A0 d0.length cap0), (1, .slice A1 d1.length cap1), (2, .bool d2), (11, .bool !x_1)]) (w' := w_1) f_3 1 [0, 1, 2, 11] (by kernel_rfl) (fun a_4 f_4 => ?_)
  refine W_end rfl ?_
  refine T_n ?_
  refine R_cond f_4 (b := !x_1) (by kernel_rfl) (by kernel_rfl) (fun h_1 => ?_) (fun h_1 => ?_)
  · have k_1 : (x_1) = false := by simpa using h_1
    have hF_2 := cnd_t h_1 hF_1
    refine R_seq ?_
    refine R_reg ?_
    refine W_run (L' := [(6, .slice none 0 0), (7, .int .i64 2)]) (w' := w_1) f_4 2 [6, 7] (by kernel_rfl) (fun a_5 f_5 => ?_)
    refine W_end rfl ?_
    refine T_n ?_
    refine wp_ret ?_
    refine T_r ?_
    obtain ⟨A_1, cap_1, hv_1⟩ : ∃ A cap, Value.slice none 0 0 = .slice A ([] : List Int).length cap := ⟨none, 0, rfl⟩
    have p_2 : Hp w0 M1 ((Ent.row 3 1 (.slice A_1 ([] : List Int).length cap_1) ([] : List Int).length []) :: H) w_1 := by rw [← hv_1]; exact p_1.nilRow 3 1
    have f_6 := Frm.set f_5 6 (v := .slice none 0 0) (v' := .slice A_1 ([] : List Int).length cap_1) (by kernel_rfl) (hv_1)
    have f_7 : Frm 17 [(6, .slice A_1 ([] : List Int).length cap_1), (7, .int .i64 2)] a_5 := f_6.keep (ks := [6, 7]) (by kernel_rfl)
    have hr_1 : RepSeq M1 (([] : List Int).map (Dat.int .i64)) [] := rfl
    refine E_ret2 f_7 rfl (by kernel_rfl : Vc.look _ 6 = some (.slice A_1 ([] : List Int).length cap_1)) (by kernel_rfl : Vc.look _ 7 = some (.int .i64 2)) ?_
    obtain rfl := Option.some.inj hF_2
    exact ⟨_, rfl, M1, _, (Mem.le_refl _), p_2, ⟨A_1, cap_1, [], rfl, rfl, hr_1⟩⟩
  · have k_2 : (x_1) = true := by simpa using h_1
    have hF_3 := cnd_f h_1 hF_1
    refine wp_skip ?_
    refine T_n ?_
    refine R_seq ?_
    refine R_reg ?_
    refine W_run (L' := [(1, .slice A1 d1.length cap1), (12, .slice A0 d0.length cap0), (13, .bool d2)]) (w' := w_1) f_4 2 [1, 12, 13] (by kernel_rfl) (fun a_6 f_8 => ?_)
    obtain ⟨x_2, hx_2, hF_4⟩ := bind_some' hF_3
    refine W_ok f_8 p_1 (by kernel_rfl) (by kernel_rfl) rfl rfl (fun _ => by kernel_rfl) (ready_ways_ok n _ A0 cap0 d0 h0 (d2) x_2 hx_2) (fun u_1 M_1 w_2 hM_1 p_3 q_1 a_7 f_9 => ?_)
    obtain ⟨A_2, cap_2, rfl, h_2⟩ := q_1
    refine W_run (L' := [(14, .slice A_2 x_2.length cap_2), (15, .slice A1 d1.length cap1)]) (w' := w_2) f_9 1 [14, 15] (by kernel_rfl) (fun a_8 f_10 => ?_)
    obtain ⟨x_3, hx_3, hF_5⟩ := bind_some' hF_4
    refine W_okH (E := []) (H := (H)) f_10 p_3 (by kernel_rfl) (by kernel_rfl) rfl rfl (fun _ => by kernel_rfl) (ready_over_ok n _ A_2 cap_2 x_2 h_2 A1 cap1 d1 (h1.mono hM_1) x_3 hx_3) (fun u_2 M_2 E_1 w_3 hM_2 p_4 q_2 a_9 f_11 => ?_)
    obtain ⟨A_3, cap_3, cs_1, rfl, rfl, hr_2⟩ := q_2
    replace p_4 : Hp w0 M_2 ((Ent.row 3 1 (.slice A_3 x_3.length cap_3) x_3.length cs_1) :: H) w_3 := p_4
    refine W_run (L' := [(6, .slice A_3 x_3.length cap_3), (7, .int .i64 0)]) (w' := w_3) f_11 2 [6, 7] (by kernel_rfl) (fun a_10 f_12 => ?_)
    refine W_end rfl ?_
    refine T_n ?_
    refine wp_ret ?_
    refine E_ret2 f_12 rfl (by kernel_rfl : Vc.look _ 6 = some (.slice A_3 x_3.length cap_3)) (by kernel_rfl : Vc.look _ 7 = some (.int .i64 0)) ?_
    obtain rfl := Option.some.inj hF_5
    exact ⟨_, rfl, M_2, _, (hM_1.trans hM_2), p_4, ⟨A_3, cap_3, cs_1, rfl, rfl, hr_2⟩⟩

def slices_Cloneint8_int8_z (n : Nat) (d0 : List Int) (z0 : Bool) : Option (List Int) :=
  bif z0 then
    (some (([] : List Int)))
  else
    need ((([] : List Int).length + d0.length) * 1 ≤ 140737488355328) <|
    some (([] : List Int) ++ d0)
theorem slices_Cloneint8_int8_z_ok (n : Nat) (M : Mem) (A0 : Option Addr) (cap0 : Nat) (d0 : List Int) (h0 : Sli M 1 (Dat.int .i8) A0 cap0 d0) (z0 : Bool) (hz0 : A0.isNone = z0) (r : List Int) (hF : slices_Cloneint8_int8_z n d0 z0 = some r) : OkH Try.prog M [] 33 [.slice A0 d0.length cap0] (fun M' E' v => ∃ (A0 : Option Addr) (k0 : Nat) (s0 : List Value), v = .slice A0 r.length k0 ∧ E' = [.row 24 1 (.slice A0 r.length k0) r.length s0] ∧ RepSeq M' (r.map (Dat.int .i8)) s0) := by
  unfold slices_Cloneint8_int8_z at hF
  intro M1 hM0 w0 H w p0
  replace h0 := h0.mono hM0
  refine R_enter 8 Try.func33 rfl rfl (by simp) (fun a0 f0 => ?_)
  replace f0 : Frm 8 [(0, .slice A0 d0.length cap0)] a0 := f0
  refine R_seq ?_
  refine R_reg ?_
  refine W_run (L' := [(0, .slice A0 d0.length cap0)]) (w' := w) f0 1 [0] (by kernel_rfl) (fun a_1 f_1 => ?_)
  refine W_end rfl ?_
  refine T_n ?_
  refine R_seq ?_
  refine R_seq ?_
  refine R_reg ?_
  refine W_run (L' := [(0, .slice A0 d0.length cap0), (3, .slice A0 d0.length cap0)]) (w' := w) f_1 1 [0, 3] (by kernel_rfl) (fun a_2 f_2 => ?_)
  refine W_eq (v := .bool A0.isNone) f_2 (by kernel_rfl) (by kernel_rfl) rfl rfl (X_slicenil (A := A0) (n := d0.length) (c := cap0) (e := 24) rfl (by kernel_rfl) (by kernel_rfl) (by kernel_rfl) _) (fun a_3 f_3 => ?_)
  have f_4 := Frm.set f_3 4 (v := .bool A0.isNone) (v' := .bool z0) (by kernel_rfl) (congrArg Value.bool hz0)
  have f_5 : Frm 8 [(0, .slice A0 d0.length cap0), (3, .slice A0 d0.length cap0), (4, .bool z0)] a_3 := f_4.keep (ks := [0, 3, 4]) (by kernel_rfl)
  refine W_end rfl ?_
  refine T_n ?_
  refine R_cond f_5 (b := z0) (by kernel_rfl) (by kernel_rfl) (fun h_1 => ?_) (fun h_1 => ?_)
  · have hF_1 := cnd_t h_1 hF
    refine R_seq ?_
    refine R_reg ?_
    refine W_run (L' := [(2, .slice none 0 0)]) (w' := w) f_5 1 [2] (by kernel_rfl) (fun a_4 f_6 => ?_)
    refine W_end rfl ?_
    refine T_n ?_
    refine wp_ret ?_
    refine T_r ?_
    obtain ⟨A_1, cap_1, hv_1⟩ : ∃ A cap, Value.slice none 0 0 = .slice A ([] : List Int).length cap := ⟨none, 0, rfl⟩
    have p_1 : Hp w0 M1 ((Ent.row 24 1 (.slice A_1 ([] : List Int).length cap_1) ([] : List Int).length []) :: H) w := by rw [← hv_1]; exact p0.nilRow 24 1
    have f_7 := Frm.set f_6 2 (v := .slice none 0 0) (v' := .slice A_1 ([] : List Int).length cap_1) (by kernel_rfl) (hv_1)
    have f_8 : Frm 8 [(2, .slice A_1 ([] : List Int).length cap_1)] a_4 := f_7.keep (ks := [2]) (by kernel_rfl)
    have hr_1 : RepSeq M1 (([] : List Int).map (Dat.int .i8)) [] := rfl
    refine E_ret1 f_8 rfl (by kernel_rfl : Vc.look _ 2 = some (.slice A_1 ([] : List Int).length cap_1)) ?_
    obtain rfl := Option.some.inj hF_1
    exact ⟨_, rfl, M1, _, (Mem.le_refl _), p_1, ⟨A_1, cap_1, [], rfl, rfl, hr_1⟩⟩
  · have hF_2 := cnd_f h_1 hF
    refine wp_skip ?_
    refine T_n ?_
    refine R_seq ?_
    refine R_reg ?_
    refine W_alloc f_5 p0 1 [0, 3, 4, 5] (.cells #[] 24 (0, 0)) (fun b_1 => [(0, .slice A0 d0.length cap0), (3, .slice A0 d0.length cap0), (4, .bool z0), (5, .slice (some ⟨b_1, 0, none⟩) 0 0)]) (fun _ => by kernel_rfl) (fun b_1 w_1 p_2 a_5 f_9 => ?_)
    replace f_9 : Frm 8 [(0, .slice A0 d0.length cap0), (3, .slice A0 d0.length cap0), (4, .bool z0), (5, .slice (some ⟨b_1, 0, none⟩) 0 0)] a_5 := f_9
    refine W_run (L' := [(5, .slice (some ⟨b_1, 0, none⟩) 0 0), (6, .slice A0 d0.length cap0)]) (w' := w_1) f_9 1 [5, 6] (by kernel_rfl) (fun a_6 f_10 => ?_)
    have hr_2 : RepSeq M1 (([] : List Int).map (Dat.int .i8)) [] := rfl
    have p_3 : Hp w0 M1 ((Ent.row 24 1 (.slice (some ⟨b_1, 0, none⟩) 0 0) ([] : List Int).length []) :: H) w_1 := p_2.objRow (n := 0) (cap := 0) (size := 1) (by decide) (by decide) (blk_eq (by decide) rfl) rfl rfl
    obtain ⟨g_1, hF_3⟩ := need_some hF_2
    refine W_appendS (z := .int .i8 0) (f := (Dat.int .i8)) (xs := ([] : List Int)) (ys := d0) (c := cap0) f_10 p_3 hr_2 h0 (by kernel_rfl) (by kernel_rfl) rfl rfl rfl (by kernel_rfl) (by kernel_rfl) (by kernel_rfl) (by kernel_rfl) g_1 (by omega) (fun A_2 cap_2 cs_1 w_2 p_4 hr_3 a_7 f_11 => ?_)
    refine W_run (L' := [(2, .slice A_2 (([] : List Int) ++ d0).length cap_2)]) (w' := w_2) f_11 1 [2] (by kernel_rfl) (fun a_8 f_12 => ?_)
    refine W_end rfl ?_
    refine T_n ?_
    refine wp_ret ?_
    refine E_ret1 f_12 rfl (by kernel_rfl : Vc.look _ 2 = some (.slice A_2 (([] : List Int) ++ d0).length cap_2)) ?_
    obtain rfl := Option.some.inj hF_3
    exact ⟨_, rfl, M1, _, (Mem.le_refl _), p_4, ⟨A_2, cap_2, cs_1, rfl, rfl, hr_3⟩⟩

def slices_Cloneint8_int8 (_ : Nat) (d0 : List Int) : Option (List Int) := need (d0.length * 1 ≤ 140737488355328) (some d0)
theorem slices_Cloneint8_int8_ok (n : Nat) (M : Mem) (A0 : Option Addr) (cap0 : Nat) (d0 : List Int) (h0 : Sli M 1 (Dat.int .i8) A0 cap0 d0) (r : List Int) (hF : slices_Cloneint8_int8 n d0 = some r) : OkH Try.prog M [] 33 [.slice A0 d0.length cap0] (fun M' E' v => ∃ (A0 : Option Addr) (k0 : Nat) (s0 : List Value), v = .slice A0 r.length k0 ∧ E' = [.row 24 1 (.slice A0 r.length k0) r.length s0] ∧ RepSeq M' (r.map (Dat.int .i8)) s0) := by
  unfold slices_Cloneint8_int8 at hF
  obtain ⟨g, hF⟩ := need_some hF
  obtain rfl := Option.some.inj hF
  refine slices_Cloneint8_int8_z_ok n M A0 cap0 d0 h0 A0.isNone rfl d0 ?_
  unfold slices_Cloneint8_int8_z
  cases A0 with
  | none =>
    obtain ⟨h1, h2, _⟩ := h0
    have h3 := h2 rfl
    obtain rfl : d0 = [] := List.eq_nil_of_length_eq_zero (by omega)
    rfl
  | some a => simp [need]; omega

def ready_blocks (n : Nat) (d0 : Int) : Option Bool :=
  bif (decide (d0 = 4)) then
    (some ((true)))
  else
    some ((decide (d0 = 5)))
theorem ready_blocks_ok (n : Nat) (M : Mem) (d0 : Int) (r : Bool) (hF : ready_blocks n d0 = some r) : Ok Try.prog M 34 [.int .i8 d0] (fun _ v => v = .bool r) := by
  unfold ready_blocks at hF
  intro M1 hM0 w0 H w p0
  refine R_enter 9 Try.func34 rfl rfl (by simp) (fun a0 f0 => ?_)
  replace f0 : Frm 9 [(0, .int .i8 d0)] a0 := f0
  refine R_seq ?_
  refine R_reg ?_
  refine W_run (L' := [(0, .int .i8 d0)]) (w' := w) f0 1 [0] (by kernel_rfl) (fun a_1 f_1 => ?_)
  refine W_end rfl ?_
  refine T_n ?_
  refine R_seq ?_
  refine R_reg ?_
  refine W_run (L' := [(0, .int .i8 d0), (5, .bool (decide (d0 = 4)))]) (w' := w) f_1 3 [0, 5] (by kernel_rfl) (fun a_2 f_2 => ?_)
  rcases Bool.eq_false_or_eq_true (decide (d0 = 4)) with h_1 | h_1
  · have k_1 : d0 = 4 := decide_eq_true_iff.1 h_1
    have hF_1 := cnd_t h_1 hF
    have f_3 := Frm.set f_2 5 (v := .bool (decide (d0 = 4))) (v' := .bool true) (by kernel_rfl) (congrArg Value.bool h_1)
    have f_4 : Frm 9 [(0, .int .i8 d0), (5, .bool true)] a_2 := f_3.keep (ks := [0, 5]) (by kernel_rfl)
    refine W_run (L' := [(2, .bool true)]) (w' := w) f_4 4 [2] (by kernel_rfl) (fun a_3 f_5 => ?_)
    refine W_end rfl ?_
    refine T_n ?_
    refine wp_ret ?_
    refine E_ret1 f_5 rfl (by kernel_rfl : Vc.look _ 2 = some (.bool true)) ?_
    obtain rfl := Option.some.inj hF_1
    exact ⟨_, rfl, M1, (Mem.le_refl _), p0, rfl⟩
  · have k_2 : ¬ (d0 = 4) := iff_f decide_eq_true_iff h_1
    have hF_2 := cnd_f h_1 hF
    have f_6 := Frm.set f_2 5 (v := .bool (decide (d0 = 4))) (v' := .bool false) (by kernel_rfl) (congrArg Value.bool h_1)
    have f_7 : Frm 9 [(0, .int .i8 d0), (5, .bool false)] a_2 := f_6.keep (ks := [0, 5]) (by kernel_rfl)
    refine W_run (L' := [(2, .bool (decide (d0 = 5)))]) (w' := w) f_7 4 [2] (by kernel_rfl) (fun a_4 f_8 => ?_)
    refine W_end rfl ?_
    refine T_n ?_
    refine wp_ret ?_
    refine E_ret1 f_8 rfl (by kernel_rfl : Vc.look _ 2 = some (.bool (decide (d0 = 5)))) ?_
    obtain rfl := Option.some.inj hF_2
    exact ⟨_, rfl, M1, (Mem.le_refl _), p0, rfl⟩

def ready_over_1_2 (n : Nat) (d0 : Int) (d2 : List Int) : Option Bool :=
  (getI d2 d0).bind fun x_1 =>
  (ready_blocks n x_1).bind fun x_2 =>
  some ((x_2))
theorem ready_over_1_2_ok (n : Nat) (M : Mem) (d0 : Int) (ad1 : Addr) (q1 : ∀ j v, [(.func (.func 34) #[] #[] : Value)][j]? = some v → M.cell? (ad1.add j) = some v) (ad2 : Addr) (c2 : List Value) (d2 : List Int) (h2 : Rep M ((eL 1 (Dat.int .i8)) d2) c2) (q2 : ∀ j v, c2[j]? = some v → M.cell? (ad2.add j) = some v) (r : Bool) (hF : ready_over_1_2 n d0 d2 = some r) : Ok Try.prog M 48 [.int .i64 d0, .pointer (some ad1), .pointer (some ad2)] (fun _ v => v = .bool r) := by
  unfold ready_over_1_2 at hF
  intro M1 hM0 w0 H w p0
  replace q1 := fun j v h => hM0.cell (q1 j v h)
  replace h2 := Rep.mono hM0 _ _ h2
  replace q2 := fun j v h => hM0.cell (q2 j v h)
  obtain ⟨A_1, cap_1, rfl, h_1⟩ := Rep.sli h2
  refine R_enter 11 Try.func48 rfl rfl (by simp) (fun a0 f0 => ?_)
  replace f0 : Frm 11 [(0, .int .i64 d0), (1, .pointer (some ad1)), (2, .pointer (some ad2))] a0 := f0
  refine R_seq ?_
  refine R_reg ?_
  refine W_run (L' := [(0, .int .i64 d0), (1, .pointer (some ad1)), (2, .pointer (some ad2))]) (w' := w) f0 1 [0, 1, 2] (by kernel_rfl) (fun a_1 f_1 => ?_)
  refine W_end rfl ?_
  refine T_n ?_
  refine R_seq ?_
  refine R_draw p0 (by kernel_rfl) (by kernel_rfl) ?_
  refine Q_eq (v := .func (.func 34) #[] #[]) f_1 (by kernel_rfl) (by kernel_rfl) rfl rfl (fun _ pq => X_load1 (v := .func (.func 34) #[] #[]) rfl (ad := ad1) (by kernel_rfl) (by kernel_rfl) (pq.cell (q1 0 _ rfl))) (fun a_2 f_2 => ?_)
  refine Q_eq (v := .slice A_1 d2.length cap_1) f_2 (by kernel_rfl) (by kernel_rfl) rfl rfl (fun _ pq => X_load1 (v := .slice A_1 d2.length cap_1) rfl (ad := ad2) (by kernel_rfl) (by kernel_rfl) (pq.cell (q2 0 _ rfl))) (fun a_3 f_3 => ?_)
  refine Q_eq (v := .int .i64 d0) f_3 (by kernel_rfl) (by kernel_rfl) rfl rfl (fun _ _ => by kernel_rfl) (fun a_4 f_4 => ?_)
  have f_5 : Frm 11 [(5, .func (.func 34) #[] #[]), (6, .slice A_1 d2.length cap_1), (7, .int .i64 d0)] a_4 := f_4.keep (ks := [5, 6, 7]) (by kernel_rfl)
  obtain ⟨x_1, hx_1, hF_1⟩ := bind_some' hF
  obtain ⟨ad_1, c_1, e_1, hl_1, hr_1, hc_1⟩ := Sli.at_ h_1 hx_1
  clear hl_1
  obtain rfl : c_1 = [.int .i8 x_1] := hr_1
  refine Q_eq (v := .pointer (some (ad_1.add (d0.toNat * 1)))) f_5 (by kernel_rfl) (by kernel_rfl) rfl rfl (fun _ pq => X_indexAddrA e_1 rfl (len := d2.length) (cap := cap_1) (k := .i64) (i := d0) (by kernel_rfl) (by kernel_rfl) (e := 24) (by kernel_rfl) (sz := 1) (by kernel_rfl) (getI_nn hx_1) (getI_lt hx_1)) (fun a_5 f_6 => ?_)
  refine Q_eq (v := .int .i8 x_1) f_6 (by kernel_rfl) (by kernel_rfl) rfl rfl (fun _ pq => X_load1 (v := .int .i8 x_1) rfl (ad := ad_1.add (d0.toNat * 1)) (by kernel_rfl) (by kernel_rfl) (pq.cell (hc_1 0 _ rfl))) (fun a_6 f_7 => ?_)
  obtain ⟨x_2, hx_2, hF_2⟩ := bind_some' hF_1
  refine Q_okv (v := .bool x_2) f_7 (by kernel_rfl) (by kernel_rfl) rfl rfl (fun _ => by kernel_rfl) (ready_blocks_ok n _ x_1 x_2 hx_2) (fun a_7 f_8 => ?_)
  refine Q_eq (v := .bool x_2) f_8 (by kernel_rfl) (by kernel_rfl) rfl rfl (fun _ _ => by kernel_rfl) (fun a_8 f_9 => ?_)
  have f_10 : Frm 11 [(4, .bool x_2)] a_8 := f_9.keep (ks := [4]) (by kernel_rfl)
  refine Q_end rfl ?_
  intro w_2 p_2
  refine T_n ?_
  refine wp_ret ?_
  refine E_ret1 f_10 rfl (by kernel_rfl : Vc.look _ 4 = some (.bool x_2)) ?_
  obtain rfl := Option.some.inj hF_2
  exact ⟨_, rfl, M1, (Mem.le_refl _), p_2, rfl⟩

def slices_IndexFuncint_int_3_s1 (n : Nat) (d0 : List Int) (d1_1 : List Int) (s_1 : Int) : Option (Lp Int (Sum Int Unit)) :=
    bif (decide (s_1 < ((d0.length : Nat) : Int))) then
      ((getI d0 s_1).bind fun x_1 =>
      (ready_over_1_2 n x_1 d1_1).bind fun x_2 =>
      bif x_2 then
        (some (.br (.inl s_1)))
      else
        need (inR .i64 (s_1 + 1)) <|
        some (.nx (s_1 + 1)))
    else
      some (.br (.inr ()))
def slices_IndexFuncint_int_3 (n : Nat) (d0 : List Int) (d1_1 : List Int) : Option Int :=
  (loopF (slices_IndexFuncint_int_3_s1 n d0 d1_1) n (0 : Int)).bind fun b_1 =>
  (match b_1 with 
  | .inl y_1 => some (y_1) 
  | .inr y_2 => some ((-1 : Int)))
theorem slices_IndexFuncint_int_3_ok (n : Nat) (M : Mem) (A0 : Option Addr) (cap0 : Nat) (d0 : List Int) (h0 : Sli M 1 (Dat.int .i64) A0 cap0 d0) (ad1_0 : Addr) (q1_0 : ∀ j v, [(.func (.func 34) #[] #[] : Value)][j]? = some v → M.cell? (ad1_0.add j) = some v) (ad1_1 : Addr) (c1_1 : List Value) (d1_1 : List Int) (h1_1 : Rep M ((eL 1 (Dat.int .i8)) d1_1) c1_1) (q1_1 : ∀ j v, c1_1[j]? = some v → M.cell? (ad1_1.add j) = some v) (r : Int) (hF : slices_IndexFuncint_int_3 n d0 d1_1 = some r) : Ok Try.prog M 53 [.slice A0 d0.length cap0, .func (.func 48) #[] #[.pointer (some ad1_0), .pointer (some ad1_1)]] (fun _ v => v = .int .i64 r) := by
  unfold slices_IndexFuncint_int_3 at hF
  intro M1 hM0 w0 H w p0
  replace h0 := h0.mono hM0
  replace q1_0 := fun j v h => hM0.cell (q1_0 j v h)
  replace h1_1 := Rep.mono hM0 _ _ h1_1
  replace q1_1 := fun j v h => hM0.cell (q1_1 j v h)
  obtain ⟨A_1, cap_1, rfl, h_1⟩ := Rep.sli h1_1
  refine R_enter 19 Try.func53 rfl rfl (by simp) (fun a0 f0 => ?_)
  replace f0 : Frm 19 [(0, .slice A0 d0.length cap0), (1, .func (.func 48) #[] #[.pointer (some ad1_0), .pointer (some ad1_1)])] a0 := f0
  refine R_seq ?_
  refine R_reg ?_
  refine W_run (L' := [(0, .slice A0 d0.length cap0), (1, .func (.func 48) #[] #[.pointer (some ad1_0), .pointer (some ad1_1)])]) (w' := w) f0 1 [0, 1] (by kernel_rfl) (fun a_1 f_1 => ?_)
  refine W_end rfl ?_
  refine T_n ?_
  refine R_seq ?_
  refine R_seq ?_
  refine R_reg ?_
  refine W_run (L' := [(0, .slice A0 d0.length cap0), (1, .func (.func 48) #[] #[.pointer (some ad1_0), .pointer (some ad1_1)]), (7, .int .i64 ((d0.length : Nat) : Int)), (8, .int .i64 0)]) (w' := w) f_1 3 [0, 1, 7, 8] (by kernel_rfl) (fun a_2 f_2 => ?_)
  refine W_end rfl ?_
  refine T_n ?_
  refine wp_block ?_
  obtain ⟨b_1, hL_1, hF_1⟩ := bind_some' hF
  refine wp_mono (Q := fun e a w => (e = .ret ∧ (∃ y_1 : Int, b_1 = .inl y_1 ∧ ∃ M_2 : Mem, M1.le M_2 ∧ Frm 19 [(4, .int .i64 y_1)] a ∧ Hp w0 M_2 (H) w)) ∨ (e = .exit 0 ∧ (∃ y_2 : Unit, b_1 = .inr y_2 ∧ ∃ M_3 : Mem, M1.le M_3 ∧ Frm 19 [] a ∧ Hp w0 M_3 (H) w))) (R_loop (n := 19) (w0 := w0) (M := M1) (fun (x : Nat × Int) => match x with | (m_1, s_1) => [(0, .slice A0 d0.length cap0), (1, .func (.func 48) #[] #[.pointer (some ad1_0), .pointer (some ad1_1)]), (7, .int .i64 ((d0.length : Nat) : Int)), (8, .int .i64 s_1)]) (fun (x : Nat × Int) => match x with | (m_1, s_1) => (H)) (fun (x : Nat × Int) (MM : Mem) => match x with | (m_1, s_1) => loopF (slices_IndexFuncint_int_3_s1 n d0 d1_1) m_1 s_1 = some b_1) (fun (x : Nat × Int) => match x with | (m_1, s_1) => m_1) (n, (0 : Int)) (f_2.keep (ks := [0, 1, 7, 8]) (by kernel_rfl)) p0 hL_1 ?_) ?_
  · rintro ⟨m_1, s_1⟩ M_1 a_3 w_1 hM_1 I_1 f_3 p_1
    replace f_3 : Frm 19 [(0, .slice A0 d0.length cap0), (1, .func (.func 48) #[] #[.pointer (some ad1_0), .pointer (some ad1_1)]), (7, .int .i64 ((d0.length : Nat) : Int)), (8, .int .i64 s_1)] a_3 := f_3
    replace p_1 : Hp w0 M_1 (H) w_1 := p_1
    have I_1L := I_1
    obtain ⟨m_2, r_1, rfl, hs_1, hn_1⟩ := loop_step I_1L
    unfold slices_IndexFuncint_int_3_s1 at hs_1
    refine R_seq ?_
    refine R_reg ?_
    refine W_run (L' := [(0, .slice A0 d0.length cap0), (1, .func (.func 48) #[] #[.pointer (some ad1_0), .pointer (some ad1_1)]), (7, .int .i64 ((d0.length : Nat) : Int)), (8, .int .i64 s_1), (9, .bool (decide (s_1 < ((d0.length : Nat) : Int))))]) (w' := w_1) f_3 1 [0, 1, 7, 8, 9] (by kernel_rfl) (fun a_4 f_4 => ?_)
    refine W_end rfl ?_
    refine T_n ?_
    refine R_seq ?_
    refine R_cond f_4 (b := decide (s_1 < ((d0.length : Nat) : Int))) (by kernel_rfl) (by kernel_rfl) (fun h_2 => ?_) (fun h_2 => ?_)
    · have k_1 : s_1 < ((d0.length : Nat) : Int) := decide_eq_true_iff.1 h_2
      have hF_2 := cnd_t h_2 hs_1
      refine wp_skip ?_
      refine T_n ?_
      refine R_seq ?_
      refine wp_block ?_
      refine R_seq ?_
      refine R_reg ?_
      refine W_run (L' := [(0, .slice A0 d0.length cap0), (1, .func (.func 48) #[] #[.pointer (some ad1_0), .pointer (some ad1_1)]), (5, .int .i64 s_1), (7, .int .i64 ((d0.length : Nat) : Int)), (8, .int .i64 s_1)]) (w' := w_1) f_4 2 [0, 1, 5, 7, 8] (by kernel_rfl) (fun a_5 f_5 => ?_)
      refine W_end rfl ?_
      refine T_n ?_
      refine R_seq ?_
      refine R_reg ?_
      refine W_run (L' := [(0, .slice A0 d0.length cap0), (1, .func (.func 48) #[] #[.pointer (some ad1_0), .pointer (some ad1_1)]), (5, .int .i64 s_1), (7, .int .i64 ((d0.length : Nat) : Int)), (8, .int .i64 s_1), (11, .func (.func 48) #[] #[.pointer (some ad1_0), .pointer (some ad1_1)]), (12, .slice A0 d0.length cap0), (13, .int .i64 s_1)]) (w' := w_1) f_5 3 [0, 1, 5, 7, 8, 11, 12, 13] (by kernel_rfl) (fun a_6 f_6 => ?_)
      obtain ⟨x_1, hx_1, hF_3⟩ := bind_some' hF_2
      obtain ⟨ad_1, c_1, e_1, hl_1, hr_1, hc_1⟩ := Sli.at_ (h0.mono hM_1) hx_1
      clear hl_1
      obtain rfl : c_1 = [.int .i64 x_1] := hr_1
      refine W_eq (v := .pointer (some (ad_1.add (s_1.toNat * 1)))) f_6 (by kernel_rfl) (by kernel_rfl) rfl rfl (X_indexAddrA e_1 rfl (len := d0.length) (cap := cap0) (k := .i64) (i := s_1) (by kernel_rfl) (by kernel_rfl) (e := 3) (by kernel_rfl) (sz := 1) (by kernel_rfl) (getI_nn hx_1) (getI_lt hx_1)) (fun a_7 f_7 => ?_)
      refine W_eq (v := .int .i64 x_1) f_7 (by kernel_rfl) (by kernel_rfl) rfl rfl (X_load1 (v := .int .i64 x_1) rfl (ad := ad_1.add (s_1.toNat * 1)) (by kernel_rfl) (by kernel_rfl) (p_1.cell (hc_1 0 _ rfl))) (fun a_8 f_8 => ?_)
      obtain ⟨x_2, hx_2, hF_4⟩ := bind_some' hF_3
      refine W_okv (v := .bool x_2) f_8 p_1 (by kernel_rfl) (by kernel_rfl) rfl rfl (fun _ => by kernel_rfl) (ready_over_1_2_ok n _ x_1 ad1_0 ((fun j v h => hM_1.cell (q1_0 j v h))) ad1_1 [.slice A_1 d1_1.length cap_1] d1_1 (Sli.rep (h_1.mono hM_1)) (fz_at ((fun j v h => hM_1.cell (q1_1 j v h))) 0 rfl) x_2 hx_2) (fun w_2 p_2 a_9 f_9 => ?_)
      refine W_end rfl ?_
      refine T_n ?_
      refine R_cond f_9 (b := x_2) (by kernel_rfl) (by kernel_rfl) (fun h_3 => ?_) (fun h_3 => ?_)
      · have hF_5 := cnd_t h_3 hF_4
        refine R_seq ?_
        refine R_reg ?_
        refine W_run (L' := [(4, .int .i64 s_1)]) (w' := w_2) f_9 2 [4] (by kernel_rfl) (fun a_10 f_10 => ?_)
        refine W_end rfl ?_
        refine T_n ?_
        refine wp_ret ?_
        refine B_r ?_
        refine T_r ?_
        refine T_r ?_
        obtain rfl := Option.some.inj hF_5
        exact .inl ⟨rfl, s_1, (Option.some.inj hn_1).symm, M_1, hM_1, f_10.keep (ks := [4]) (by kernel_rfl), p_2⟩
      · have hF_6 := cnd_f h_3 hF_4
        refine wp_skip ?_
        refine B_n ?_
        refine T_n ?_
        refine R_reg ?_
        obtain ⟨g_1, hF_7⟩ := need_some hF_6
        refine W_run (L' := [(0, .slice A0 d0.length cap0), (1, .func (.func 48) #[] #[.pointer (some ad1_0), .pointer (some ad1_1)]), (5, .int .i64 s_1), (7, .int .i64 ((d0.length : Nat) : Int)), (8, .int .i64 s_1), (11, .func (.func 48) #[] #[.pointer (some ad1_0), .pointer (some ad1_1)]), (12, .slice A0 d0.length cap0), (13, .int .i64 s_1), (14, .pointer (some (ad_1.add (s_1.toNat * 1)))), (15, .int .i64 x_1), (16, .bool x_2), (18, .int .i64 (IntKind.wrap .i64 (s_1 + 1)))]) (w' := w_2) f_9 1 [0, 1, 5, 7, 8, 11, 12, 13, 14, 15, 16, 18] (by kernel_rfl) (fun a_11 f_11 => ?_)
        have f_12 := Frm.set f_11 18 (v := .int .i64 (IntKind.wrap .i64 (s_1 + 1))) (v' := .int .i64 (s_1 + 1)) (by kernel_rfl) (congrArg (Value.int .i64) (inR_wrap g_1))
        have f_13 : Frm 19 [(0, .slice A0 d0.length cap0), (1, .func (.func 48) #[] #[.pointer (some ad1_0), .pointer (some ad1_1)]), (5, .int .i64 s_1), (7, .int .i64 ((d0.length : Nat) : Int)), (8, .int .i64 s_1), (11, .func (.func 48) #[] #[.pointer (some ad1_0), .pointer (some ad1_1)]), (12, .slice A0 d0.length cap0), (13, .int .i64 s_1), (14, .pointer (some (ad_1.add (s_1.toNat * 1)))), (15, .int .i64 x_1), (16, .bool x_2), (18, .int .i64 (s_1 + 1))] a_11 := f_12.keep (ks := [0, 1, 5, 7, 8, 11, 12, 13, 14, 15, 16, 18]) (by kernel_rfl)
        refine W_run (L' := [(0, .slice A0 d0.length cap0), (1, .func (.func 48) #[] #[.pointer (some ad1_0), .pointer (some ad1_1)]), (7, .int .i64 ((d0.length : Nat) : Int)), (8, .int .i64 (s_1 + 1))]) (w' := w_2) f_13 1 [0, 1, 7, 8] (by kernel_rfl) (fun a_12 f_14 => ?_)
        refine W_end rfl ?_
        refine T_n ?_
        obtain rfl := Option.some.inj hF_7
        exact ⟨⟨m_2, s_1 + 1⟩, Nat.lt_succ_self _, M_1, hM_1, hn_1, f_14.keep (ks := [0, 1, 7, 8]) (by kernel_rfl), p_2⟩
    · have k_4 : ¬ (s_1 < ((d0.length : Nat) : Int)) := iff_f decide_eq_true_iff h_2
      have hF_8 := cnd_f h_2 hs_1
      refine wp_exit ?_
      refine T_x ?_
      refine T_x ?_
      obtain rfl := Option.some.inj hF_8
      exact .inr ⟨rfl, (), (Option.some.inj hn_1).symm, M_1, hM_1, f_4.keep (ks := []) (by kernel_rfl), p_1⟩
  · rintro _ a_15 w_5 (⟨rfl, y_1, rfl, M_2, hM_2, f_15, p_3⟩ | ⟨rfl, y_2, rfl, M_3, hM_3, f_16, p_4⟩)
    · refine B_r ?_
      refine T_r ?_
      refine E_ret1 f_15 rfl (by kernel_rfl : Vc.look _ 4 = some (.int .i64 y_1)) ?_
      obtain rfl := Option.some.inj hF_1
      exact ⟨_, rfl, M_2, hM_2, p_3, rfl⟩
    · refine B_x ?_
      refine T_n ?_
      refine R_seq ?_
      refine R_reg ?_
      refine W_run (L' := [(4, .int .i64 (-1))]) (w' := w_5) f_16 1 [4] (by kernel_rfl) (fun a_16 f_17 => ?_)
      refine W_end rfl ?_
      refine T_n ?_
      refine wp_ret ?_
      refine E_ret1 f_17 rfl (by kernel_rfl : Vc.look _ 4 = some (.int .i64 (-1))) ?_
      obtain rfl := Option.some.inj hF_1
      exact ⟨_, rfl, M_3, hM_3, p_4, rfl⟩

def slices_ContainsFuncint_int_3 (n : Nat) (d0 : List Int) (d1_1 : List Int) : Option Bool :=
  (slices_IndexFuncint_int_3 n d0 d1_1).bind fun x_1 =>
  some ((decide ((0 : Int) ≤ x_1)))
theorem slices_ContainsFuncint_int_3_ok (n : Nat) (M : Mem) (A0 : Option Addr) (cap0 : Nat) (d0 : List Int) (h0 : Sli M 1 (Dat.int .i64) A0 cap0 d0) (ad1_0 : Addr) (q1_0 : ∀ j v, [(.func (.func 34) #[] #[] : Value)][j]? = some v → M.cell? (ad1_0.add j) = some v) (ad1_1 : Addr) (c1_1 : List Value) (d1_1 : List Int) (h1_1 : Rep M ((eL 1 (Dat.int .i8)) d1_1) c1_1) (q1_1 : ∀ j v, c1_1[j]? = some v → M.cell? (ad1_1.add j) = some v) (r : Bool) (hF : slices_ContainsFuncint_int_3 n d0 d1_1 = some r) : Ok Try.prog M 37 [.slice A0 d0.length cap0, .func (.func 48) #[] #[.pointer (some ad1_0), .pointer (some ad1_1)]] (fun _ v => v = .bool r) := by
  unfold slices_ContainsFuncint_int_3 at hF
  intro M1 hM0 w0 H w p0
  replace h0 := h0.mono hM0
  replace q1_0 := fun j v h => hM0.cell (q1_0 j v h)
  replace h1_1 := Rep.mono hM0 _ _ h1_1
  replace q1_1 := fun j v h => hM0.cell (q1_1 j v h)
  obtain ⟨A_1, cap_1, rfl, h_1⟩ := Rep.sli h1_1
  refine R_enter 9 Try.func37 rfl rfl (by simp) (fun a0 f0 => ?_)
  replace f0 : Frm 9 [(0, .slice A0 d0.length cap0), (1, .func (.func 48) #[] #[.pointer (some ad1_0), .pointer (some ad1_1)])] a0 := f0
  refine R_seq ?_
  refine R_reg ?_
  refine W_run (L' := [(0, .slice A0 d0.length cap0), (1, .func (.func 48) #[] #[.pointer (some ad1_0), .pointer (some ad1_1)])]) (w' := w) f0 1 [0, 1] (by kernel_rfl) (fun a_1 f_1 => ?_)
  refine W_end rfl ?_
  refine T_n ?_
  refine R_seq ?_
  refine R_reg ?_
  refine W_run (L' := [(5, .slice A0 d0.length cap0), (6, .func (.func 48) #[] #[.pointer (some ad1_0), .pointer (some ad1_1)])]) (w' := w) f_1 2 [5, 6] (by kernel_rfl) (fun a_2 f_2 => ?_)
  obtain ⟨x_1, hx_1, hF_1⟩ := bind_some' hF
  refine W_okv (v := .int .i64 x_1) f_2 p0 (by kernel_rfl) (by kernel_rfl) rfl rfl (fun _ => by kernel_rfl) (slices_IndexFuncint_int_3_ok n _ A0 cap0 d0 h0 ad1_0 (q1_0) ad1_1 [.slice A_1 d1_1.length cap_1] d1_1 (Sli.rep h_1) (fz_at (q1_1) 0 rfl) x_1 hx_1) (fun w_1 p_1 a_3 f_3 => ?_)
  refine W_run (L' := [(4, .bool (decide ((0 : Int) ≤ x_1)))]) (w' := w_1) f_3 2 [4] (by kernel_rfl) (fun a_4 f_4 => ?_)
  refine W_end rfl ?_
  refine T_n ?_
  refine wp_ret ?_
  refine E_ret1 f_4 rfl (by kernel_rfl : Vc.look _ 4 = some (.bool (decide ((0 : Int) ≤ x_1)))) ?_
  obtain rfl := Option.some.inj hF_1
  exact ⟨_, rfl, M1, (Mem.le_refl _), p_1, rfl⟩

def ready_some (n : Nat) (d0 : List Int) (d1_1 : List Int) : Option Bool :=
  (slices_ContainsFuncint_int_3 n d0 d1_1).bind fun x_1 =>
  some ((x_1))
theorem ready_some_ok (n : Nat) (M : Mem) (A0 : Option Addr) (cap0 : Nat) (d0 : List Int) (h0 : Sli M 1 (Dat.int .i64) A0 cap0 d0) (ad1_0 : Addr) (q1_0 : ∀ j v, [(.func (.func 34) #[] #[] : Value)][j]? = some v → M.cell? (ad1_0.add j) = some v) (ad1_1 : Addr) (c1_1 : List Value) (d1_1 : List Int) (h1_1 : Rep M ((eL 1 (Dat.int .i8)) d1_1) c1_1) (q1_1 : ∀ j v, c1_1[j]? = some v → M.cell? (ad1_1.add j) = some v) (r : Bool) (hF : ready_some n d0 d1_1 = some r) : Ok Try.prog M 35 [.slice A0 d0.length cap0, .func (.func 48) #[] #[.pointer (some ad1_0), .pointer (some ad1_1)]] (fun _ v => v = .bool r) := by
  unfold ready_some at hF
  intro M1 hM0 w0 H w p0
  replace h0 := h0.mono hM0
  replace q1_0 := fun j v h => hM0.cell (q1_0 j v h)
  replace h1_1 := Rep.mono hM0 _ _ h1_1
  replace q1_1 := fun j v h => hM0.cell (q1_1 j v h)
  obtain ⟨A_1, cap_1, rfl, h_1⟩ := Rep.sli h1_1
  refine R_enter 8 Try.func35 rfl rfl (by simp) (fun a0 f0 => ?_)
  replace f0 : Frm 8 [(0, .slice A0 d0.length cap0), (1, .func (.func 48) #[] #[.pointer (some ad1_0), .pointer (some ad1_1)])] a0 := f0
  refine R_seq ?_
  refine R_reg ?_
  refine W_run (L' := [(0, .slice A0 d0.length cap0), (1, .func (.func 48) #[] #[.pointer (some ad1_0), .pointer (some ad1_1)])]) (w' := w) f0 1 [0, 1] (by kernel_rfl) (fun a_1 f_1 => ?_)
  refine W_end rfl ?_
  refine T_n ?_
  refine R_seq ?_
  refine R_reg ?_
  refine W_run (L' := [(5, .slice A0 d0.length cap0), (6, .func (.func 48) #[] #[.pointer (some ad1_0), .pointer (some ad1_1)])]) (w' := w) f_1 2 [5, 6] (by kernel_rfl) (fun a_2 f_2 => ?_)
  obtain ⟨x_1, hx_1, hF_1⟩ := bind_some' hF
  refine W_okv (v := .bool x_1) f_2 p0 (by kernel_rfl) (by kernel_rfl) rfl rfl (fun _ => by kernel_rfl) (slices_ContainsFuncint_int_3_ok n _ A0 cap0 d0 h0 ad1_0 (q1_0) ad1_1 [.slice A_1 d1_1.length cap_1] d1_1 (Sli.rep h_1) (fz_at (q1_1) 0 rfl) x_1 hx_1) (fun w_1 p_1 a_3 f_3 => ?_)
  refine W_run (L' := [(4, .bool x_1)]) (w' := w_1) f_3 1 [4] (by kernel_rfl) (fun a_4 f_4 => ?_)
  refine W_end rfl ?_
  refine T_n ?_
  refine wp_ret ?_
  refine E_ret1 f_4 rfl (by kernel_rfl : Vc.look _ 4 = some (.bool x_1)) ?_
  obtain rfl := Option.some.inj hF_1
  exact ⟨_, rfl, M1, (Mem.le_refl _), p_1, rfl⟩

def ready_over_2_s1 (n : Nat) (d0 : List (List Int)) (d1 : List Int) (s_1 : List Int × Int) : Option (Lp (List Int × Int) (List Int)) :=
    bif (decide (s_1.2 < ((d1.length : Nat) : Int))) then
      ((getI d1 s_1.2).bind fun x_1 =>
      ((bif (decide (x_1 = 1)) then
          ((getI d0 s_1.2).bind fun x_2 =>
          (ready_some n x_2 d1).bind fun x_3 =>
          some ((x_3)))
        else
          some ((false)) : Option Bool)).bind fun y_1 =>
      bif y_1 then
        (need ((s_1.1.length + 1) * 8 ≤ 140737488355328) <|
        need (inR .i64 (s_1.2 + 1)) <|
        some (.nx (s_1.1 ++ [s_1.2], s_1.2 + 1)))
      else
        need (inR .i64 (s_1.2 + 1)) <|
        some (.nx (s_1.1, s_1.2 + 1)))
    else
      some (.br s_1.1)
def ready_over_2 (n : Nat) (d0 : List (List Int)) (d1 : List Int) : Option (List Int) :=
  (loopF (ready_over_2_s1 n d0 d1) n (([] : List Int), (0 : Int))).bind fun y_2 =>
  some (y_2)
set_option maxRecDepth 20000 in
theorem ready_over_2_ok (n : Nat) (M : Mem) (A0 : Option Addr) (cap0 : Nat) (d0 : List (List Int)) (h0 : Sli M 1 (eL 1 (Dat.int .i64)) A0 cap0 d0) (A1 : Option Addr) (cap1 : Nat) (d1 : List Int) (h1 : Sli M 1 (Dat.int .i8) A1 cap1 d1) (r : List Int) (hF : ready_over_2 n d0 d1 = some r) : OkH Try.prog M [] 28 [.slice A0 d0.length cap0, .slice A1 d1.length cap1, .func (.func 34) #[] #[], .func (.func 35) #[] #[]] (fun M' E' v => ∃ (A0 : Option Addr) (k0 : Nat) (s0 : List Value), v = .slice A0 r.length k0 ∧ E' = [.row 3 1 (.slice A0 r.length k0) r.length s0] ∧ RepSeq M' (r.map (Dat.int .i64)) s0) := by
  unfold ready_over_2 at hF
  intro M1 hM0 w0 H w p0
  replace h0 := h0.mono hM0
  replace h1 := h1.mono hM0
  refine R_enter 35 Try.func28 rfl rfl (by simp) (fun a0 f0 => ?_)
  replace f0 : Frm 35 [(0, .slice A0 d0.length cap0), (1, .slice A1 d1.length cap1), (2, .func (.func 34) #[] #[]), (3, .func (.func 35) #[] #[])] a0 := f0
  refine R_seq ?_
  refine R_reg ?_
  refine W_box (cs := #[.slice A1 d1.length cap1]) (T := 23) f0 p0 1 [0, 1, 2, 3, 5] (fun b_1 => [(0, .slice A0 d0.length cap0), (1, .slice A1 d1.length cap1), (2, .func (.func 34) #[] #[]), (3, .func (.func 35) #[] #[]), (5, .pointer (some (⟨b_1, 0, none⟩)))]) (fun _ => by kernel_rfl) (fun b_1 M_1 w_1 hM_1 hc_1 p_1 a_1 f_1 => ?_)
  replace f_1 : Frm 35 [(0, .slice A0 d0.length cap0), (1, .slice A1 d1.length cap1), (2, .func (.func 34) #[] #[]), (3, .func (.func 35) #[] #[]), (5, .pointer (some (⟨b_1, 0, none⟩)))] a_1 := f_1
  have hc_2 := fz_box hc_1
  refine W_box (cs := #[.func (.func 34) #[] #[]]) (T := 70) f_1 p_1 1 [0, 1, 2, 3, 5, 6] (fun b_2 => [(0, .slice A0 d0.length cap0), (1, .slice A1 d1.length cap1), (2, .func (.func 34) #[] #[]), (3, .func (.func 35) #[] #[]), (5, .pointer (some (⟨b_1, 0, none⟩))), (6, .pointer (some (⟨b_2, 0, none⟩)))]) (fun _ => by kernel_rfl) (fun b_2 M_2 w_2 hM_2 hc_3 p_2 a_2 f_2 => ?_)
  replace f_2 : Frm 35 [(0, .slice A0 d0.length cap0), (1, .slice A1 d1.length cap1), (2, .func (.func 34) #[] #[]), (3, .func (.func 35) #[] #[]), (5, .pointer (some (⟨b_1, 0, none⟩))), (6, .pointer (some (⟨b_2, 0, none⟩)))] a_2 := f_2
  have hc_4 := fz_box hc_3
  refine W_run (L' := [(0, .slice A0 d0.length cap0), (3, .func (.func 35) #[] #[]), (5, .pointer (some (⟨b_1, 0, none⟩))), (6, .pointer (some (⟨b_2, 0, none⟩))), (8, .slice none 0 0)]) (w' := w_2) f_2 1 [0, 3, 5, 6, 8] (by kernel_rfl) (fun a_3 f_3 => ?_)
  refine W_end rfl ?_
  refine T_n ?_
  refine R_seq ?_
  refine R_seq ?_
  refine R_reg ?_
  refine W_eq (v := .slice A1 d1.length cap1) f_3 (by kernel_rfl) (by kernel_rfl) rfl rfl (X_load1 (v := .slice A1 d1.length cap1) rfl (ad := ⟨b_1, 0, none⟩) (by kernel_rfl) (by kernel_rfl) (p_2.cell ((fun j v h => hM_2.cell (hc_2 j v h)) 0 _ rfl))) (fun a_4 f_4 => ?_)
  refine W_run (L' := [(0, .slice A0 d0.length cap0), (3, .func (.func 35) #[] #[]), (5, .pointer (some (⟨b_1, 0, none⟩))), (6, .pointer (some (⟨b_2, 0, none⟩))), (8, .slice none 0 0), (11, .slice A1 d1.length cap1), (12, .int .i64 ((d1.length : Nat) : Int)), (13, .int .i64 0)]) (w' := w_2) f_4 2 [0, 3, 5, 6, 8, 11, 12, 13] (by kernel_rfl) (fun a_5 f_5 => ?_)
  refine W_end rfl ?_
  refine T_n ?_
  refine wp_block ?_
  obtain ⟨A_1, cap_1, hv_1⟩ : ∃ A cap, Value.slice none 0 0 = .slice A ([] : List Int).length cap := ⟨none, 0, rfl⟩
  have p_3 : Hp w0 M_2 ((Ent.row 3 1 (.slice A_1 ([] : List Int).length cap_1) ([] : List Int).length []) :: H) w_2 := by rw [← hv_1]; exact p_2.nilRow 3 1
  have f_6 := Frm.set f_5 8 (v := .slice none 0 0) (v' := .slice A_1 ([] : List Int).length cap_1) (by kernel_rfl) (hv_1)
  have f_7 : Frm 35 [(0, .slice A0 d0.length cap0), (3, .func (.func 35) #[] #[]), (5, .pointer (some (⟨b_1, 0, none⟩))), (6, .pointer (some (⟨b_2, 0, none⟩))), (8, .slice A_1 ([] : List Int).length cap_1), (11, .slice A1 d1.length cap1), (12, .int .i64 ((d1.length : Nat) : Int)), (13, .int .i64 0)] a_5 := f_6.keep (ks := [0, 3, 5, 6, 8, 11, 12, 13]) (by kernel_rfl)
  have hr_1 : RepSeq M_2 (([] : List Int).map (Dat.int .i64)) [] := rfl
  obtain ⟨b_3, hL_1, hF_1⟩ := bind_some' hF
  refine wp_mono (Q := fun e a w => (e = .exit 0 ∧ (∃ y_2 : List Int, b_3 = y_2 ∧ ∃ M_5 : Mem, M_2.le M_5 ∧ ∃ (A_5 : Option Addr), ∃ (cap_5 : Nat), ∃ (cs_3 : List Value), RepSeq M_5 (y_2.map (Dat.int .i64)) cs_3 ∧ Frm 35 [(8, .slice A_5 y_2.length cap_5)] a ∧ Hp w0 M_5 ((Ent.row 3 1 (.slice A_5 y_2.length cap_5) y_2.length cs_3) :: H) w))) (R_loop (n := 35) (w0 := w0) (M := M_2) (fun (x : Nat × (List Int × Int) × (Option Addr) × Nat × (List Value)) => match x with | (m_1, s_1, A_2, cap_2, cs_1) => [(0, .slice A0 d0.length cap0), (3, .func (.func 35) #[] #[]), (5, .pointer (some (⟨b_1, 0, none⟩))), (6, .pointer (some (⟨b_2, 0, none⟩))), (8, .slice A_2 s_1.1.length cap_2), (11, .slice A1 d1.length cap1), (12, .int .i64 ((d1.length : Nat) : Int)), (13, .int .i64 s_1.2)]) (fun (x : Nat × (List Int × Int) × (Option Addr) × Nat × (List Value)) => match x with | (m_1, s_1, A_2, cap_2, cs_1) => ((Ent.row 3 1 (.slice A_2 s_1.1.length cap_2) s_1.1.length cs_1) :: H)) (fun (x : Nat × (List Int × Int) × (Option Addr) × Nat × (List Value)) (MM : Mem) => match x with | (m_1, s_1, A_2, cap_2, cs_1) => loopF (ready_over_2_s1 n d0 d1) m_1 s_1 = some b_3 ∧ RepSeq MM (s_1.1.map (Dat.int .i64)) cs_1) (fun (x : Nat × (List Int × Int) × (Option Addr) × Nat × (List Value)) => match x with | (m_1, s_1, A_2, cap_2, cs_1) => m_1) (n, (([] : List Int), (0 : Int)), A_1, cap_1, []) (f_7.keep (ks := [0, 3, 5, 6, 8, 11, 12, 13]) (by kernel_rfl)) p_3 ⟨hL_1, hr_1⟩ ?_) ?_
  · rintro ⟨m_1, s_1, A_2, cap_2, cs_1⟩ M_3 a_6 w_3 hM_3 I_1 f_8 p_4
    replace f_8 : Frm 35 [(0, .slice A0 d0.length cap0), (3, .func (.func 35) #[] #[]), (5, .pointer (some (⟨b_1, 0, none⟩))), (6, .pointer (some (⟨b_2, 0, none⟩))), (8, .slice A_2 s_1.1.length cap_2), (11, .slice A1 d1.length cap1), (12, .int .i64 ((d1.length : Nat) : Int)), (13, .int .i64 s_1.2)] a_6 := f_8
    replace p_4 : Hp w0 M_3 ((Ent.row 3 1 (.slice A_2 s_1.1.length cap_2) s_1.1.length cs_1) :: H) w_3 := p_4
    obtain ⟨I_1L, hr_2⟩ := I_1
    obtain ⟨m_2, r_1, rfl, hs_1, hn_1⟩ := loop_step I_1L
    unfold ready_over_2_s1 at hs_1
    refine R_seq ?_
    refine R_reg ?_
    refine W_run (L' := [(0, .slice A0 d0.length cap0), (3, .func (.func 35) #[] #[]), (5, .pointer (some (⟨b_1, 0, none⟩))), (6, .pointer (some (⟨b_2, 0, none⟩))), (8, .slice A_2 s_1.1.length cap_2), (11, .slice A1 d1.length cap1), (12, .int .i64 ((d1.length : Nat) : Int)), (13, .int .i64 s_1.2), (14, .bool (decide (s_1.2 < ((d1.length : Nat) : Int))))]) (w' := w_3) f_8 1 [0, 3, 5, 6, 8, 11, 12, 13, 14] (by kernel_rfl) (fun a_7 f_9 => ?_)
    refine W_end rfl ?_
    refine T_n ?_
    refine R_seq ?_
    refine R_cond f_9 (b := decide (s_1.2 < ((d1.length : Nat) : Int))) (by kernel_rfl) (by kernel_rfl) (fun h_1 => ?_) (fun h_1 => ?_)
    · have k_1 : s_1.2 < ((d1.length : Nat) : Int) := decide_eq_true_iff.1 h_1
      have hF_2 := cnd_t h_1 hs_1
      refine wp_skip ?_
      refine T_n ?_
      refine R_seq ?_
      refine wp_block ?_
      refine R_seq ?_
      refine R_reg ?_
      refine W_run (L' := [(0, .slice A0 d0.length cap0), (3, .func (.func 35) #[] #[]), (5, .pointer (some (⟨b_1, 0, none⟩))), (6, .pointer (some (⟨b_2, 0, none⟩))), (8, .slice A_2 s_1.1.length cap_2), (11, .slice A1 d1.length cap1), (12, .int .i64 ((d1.length : Nat) : Int)), (13, .int .i64 s_1.2), (15, .int .i64 s_1.2)]) (w' := w_3) f_9 1 [0, 3, 5, 6, 8, 11, 12, 13, 15] (by kernel_rfl) (fun a_8 f_10 => ?_)
      obtain ⟨x_1, hx_1, hF_3⟩ := bind_some' hF_2
      obtain ⟨ad_1, c_1, e_1, hl_1, hr_3, hc_5⟩ := Sli.at_ (h1.mono ((hM_1.trans hM_2).trans hM_3)) hx_1
      clear hl_1
      obtain rfl : c_1 = [.int .i8 x_1] := hr_3
      refine W_eq (v := .pointer (some (ad_1.add (s_1.2.toNat * 1)))) f_10 (by kernel_rfl) (by kernel_rfl) rfl rfl (X_indexAddrA e_1 rfl (len := d1.length) (cap := cap1) (k := .i64) (i := s_1.2) (by kernel_rfl) (by kernel_rfl) (e := 24) (by kernel_rfl) (sz := 1) (by kernel_rfl) (getI_nn hx_1) (getI_lt hx_1)) (fun a_9 f_11 => ?_)
      refine W_eq (v := .int .i8 x_1) f_11 (by kernel_rfl) (by kernel_rfl) rfl rfl (X_load1 (v := .int .i8 x_1) rfl (ad := ad_1.add (s_1.2.toNat * 1)) (by kernel_rfl) (by kernel_rfl) (p_4.cell (hc_5 0 _ rfl))) (fun a_10 f_12 => ?_)
      refine W_run (L' := [(0, .slice A0 d0.length cap0), (3, .func (.func 35) #[] #[]), (5, .pointer (some (⟨b_1, 0, none⟩))), (6, .pointer (some (⟨b_2, 0, none⟩))), (8, .slice A_2 s_1.1.length cap_2), (9, .int .i64 s_1.2), (10, .int .i8 x_1), (11, .slice A1 d1.length cap1), (12, .int .i64 ((d1.length : Nat) : Int)), (13, .int .i64 s_1.2)]) (w' := w_3) f_12 2 [0, 3, 5, 6, 8, 9, 10, 11, 12, 13] (by kernel_rfl) (fun a_11 f_13 => ?_)
      refine W_end rfl ?_
      refine T_n ?_
      refine R_seq ?_
      obtain ⟨j_1, hj_1, hF_4⟩ := bind_some' hF_3
      refine R_mid (fun a_20 w_5 => ∃ y_1 : Bool, j_1 = y_1 ∧ ∃ M_4 : Mem, M_3.le M_4 ∧ Frm 35 [(0, .slice A0 d0.length cap0), (3, .func (.func 35) #[] #[]), (5, .pointer (some (⟨b_1, 0, none⟩))), (6, .pointer (some (⟨b_2, 0, none⟩))), (8, .slice A_2 s_1.1.length cap_2), (9, .int .i64 s_1.2), (11, .slice A1 d1.length cap1), (12, .int .i64 ((d1.length : Nat) : Int)), (13, .int .i64 s_1.2), (28, .bool y_1)] a_20 ∧ Hp w0 M_4 ((Ent.row 3 1 (.slice A_2 s_1.1.length cap_2) s_1.1.length cs_1) :: H) w_5) ?_ ?_
      · refine R_reg ?_
        refine W_run (L' := [(0, .slice A0 d0.length cap0), (3, .func (.func 35) #[] #[]), (5, .pointer (some (⟨b_1, 0, none⟩))), (6, .pointer (some (⟨b_2, 0, none⟩))), (8, .slice A_2 s_1.1.length cap_2), (9, .int .i64 s_1.2), (11, .slice A1 d1.length cap1), (12, .int .i64 ((d1.length : Nat) : Int)), (13, .int .i64 s_1.2), (20, .bool (decide (x_1 = 1)))]) (w' := w_3) f_13 3 [0, 3, 5, 6, 8, 9, 11, 12, 13, 20] (by kernel_rfl) (fun a_12 f_14 => ?_)
        rcases Bool.eq_false_or_eq_true (decide (x_1 = 1)) with h_2 | h_2
        · have k_2 : x_1 = 1 := decide_eq_true_iff.1 h_2
          have hF_5 := cnd_t h_2 hj_1
          have f_15 := Frm.set f_14 20 (v := .bool (decide (x_1 = 1))) (v' := .bool true) (by kernel_rfl) (congrArg Value.bool h_2)
          have f_16 : Frm 35 [(0, .slice A0 d0.length cap0), (3, .func (.func 35) #[] #[]), (5, .pointer (some (⟨b_1, 0, none⟩))), (6, .pointer (some (⟨b_2, 0, none⟩))), (8, .slice A_2 s_1.1.length cap_2), (9, .int .i64 s_1.2), (11, .slice A1 d1.length cap1), (12, .int .i64 ((d1.length : Nat) : Int)), (13, .int .i64 s_1.2), (20, .bool true)] a_12 := f_15.keep (ks := [0, 3, 5, 6, 8, 9, 11, 12, 13, 20]) (by kernel_rfl)
          refine W_run (L' := [(0, .slice A0 d0.length cap0), (3, .func (.func 35) #[] #[]), (5, .pointer (some (⟨b_1, 0, none⟩))), (6, .pointer (some (⟨b_2, 0, none⟩))), (8, .slice A_2 s_1.1.length cap_2), (9, .int .i64 s_1.2), (11, .slice A1 d1.length cap1), (12, .int .i64 ((d1.length : Nat) : Int)), (13, .int .i64 s_1.2), (20, .bool true), (21, .func (.func 35) #[] #[]), (22, .slice A0 d0.length cap0), (23, .int .i64 s_1.2)]) (w' := w_3) f_16 3 [0, 3, 5, 6, 8, 9, 11, 12, 13, 20, 21, 22, 23] (by kernel_rfl) (fun a_13 f_17 => ?_)
          obtain ⟨x_2, hx_2, hF_6⟩ := bind_some' hF_5
          obtain ⟨ad_2, c_2, e_2, hl_2, hr_4, hc_6⟩ := Sli.at_ (h0.mono ((hM_1.trans hM_2).trans hM_3)) hx_2
          clear hl_2
          obtain ⟨A_3, cap_3, rfl, h_3⟩ := Rep.sli hr_4
          refine W_eq (v := .pointer (some (ad_2.add (s_1.2.toNat * 1)))) f_17 (by kernel_rfl) (by kernel_rfl) rfl rfl (X_indexAddrA e_2 rfl (len := d0.length) (cap := cap0) (k := .i64) (i := s_1.2) (by kernel_rfl) (by kernel_rfl) (e := 27) (by kernel_rfl) (sz := 1) (by kernel_rfl) (getI_nn hx_2) (getI_lt hx_2)) (fun a_14 f_18 => ?_)
          refine W_eq (v := .slice A_3 x_2.length cap_3) f_18 (by kernel_rfl) (by kernel_rfl) rfl rfl (X_load1 (v := .slice A_3 x_2.length cap_3) rfl (ad := ad_2.add (s_1.2.toNat * 1)) (by kernel_rfl) (by kernel_rfl) (p_4.cell (hc_6 0 _ rfl))) (fun a_15 f_19 => ?_)
          refine W_run (L' := [(0, .slice A0 d0.length cap0), (3, .func (.func 35) #[] #[]), (5, .pointer (some (⟨b_1, 0, none⟩))), (6, .pointer (some (⟨b_2, 0, none⟩))), (8, .slice A_2 s_1.1.length cap_2), (9, .int .i64 s_1.2), (11, .slice A1 d1.length cap1), (12, .int .i64 ((d1.length : Nat) : Int)), (13, .int .i64 s_1.2), (20, .bool true), (21, .func (.func 35) #[] #[]), (25, .slice A_3 x_2.length cap_3), (26, .func (.func 48) #[] #[.pointer (some (⟨b_2, 0, none⟩)), .pointer (some (⟨b_1, 0, none⟩))])]) (w' := w_3) f_19 1 [0, 3, 5, 6, 8, 9, 11, 12, 13, 20, 21, 25, 26] (by kernel_rfl) (fun a_16 f_20 => ?_)
          obtain ⟨x_3, hx_3, hF_7⟩ := bind_some' hF_6
          refine W_okv (v := .bool x_3) f_20 p_4 (by kernel_rfl) (by kernel_rfl) rfl rfl (fun _ => by kernel_rfl) (ready_some_ok n _ A_3 cap_3 x_2 h_3 (⟨b_2, 0, none⟩) ((fun j v h => hM_3.cell (hc_4 j v h))) (⟨b_1, 0, none⟩) [.slice A1 d1.length cap1] d1 (Sli.rep (h1.mono ((hM_1.trans hM_2).trans hM_3))) (fz_at ((fun j v h => (hM_2.trans hM_3).cell (hc_2 j v h))) 0 rfl) x_3 hx_3) (fun w_4 p_5 a_17 f_21 => ?_)
          refine W_run (L' := [(0, .slice A0 d0.length cap0), (3, .func (.func 35) #[] #[]), (5, .pointer (some (⟨b_1, 0, none⟩))), (6, .pointer (some (⟨b_2, 0, none⟩))), (8, .slice A_2 s_1.1.length cap_2), (9, .int .i64 s_1.2), (11, .slice A1 d1.length cap1), (12, .int .i64 ((d1.length : Nat) : Int)), (13, .int .i64 s_1.2), (28, .bool x_3)]) (w' := w_4) f_21 1 [0, 3, 5, 6, 8, 9, 11, 12, 13, 28] (by kernel_rfl) (fun a_18 f_22 => ?_)
          refine W_end rfl ?_
          refine T_n ?_
          exact ⟨(x_3), (Option.some.inj hF_7).symm, M_3, (Mem.le_refl _), f_22.keep (ks := [0, 3, 5, 6, 8, 9, 11, 12, 13, 28]) (by kernel_rfl), p_5⟩
        · have k_3 : ¬ (x_1 = 1) := iff_f decide_eq_true_iff h_2
          have hF_8 := cnd_f h_2 hj_1
          have f_23 := Frm.set f_14 20 (v := .bool (decide (x_1 = 1))) (v' := .bool false) (by kernel_rfl) (congrArg Value.bool h_2)
          have f_24 : Frm 35 [(0, .slice A0 d0.length cap0), (3, .func (.func 35) #[] #[]), (5, .pointer (some (⟨b_1, 0, none⟩))), (6, .pointer (some (⟨b_2, 0, none⟩))), (8, .slice A_2 s_1.1.length cap_2), (9, .int .i64 s_1.2), (11, .slice A1 d1.length cap1), (12, .int .i64 ((d1.length : Nat) : Int)), (13, .int .i64 s_1.2), (20, .bool false)] a_12 := f_23.keep (ks := [0, 3, 5, 6, 8, 9, 11, 12, 13, 20]) (by kernel_rfl)
          refine W_run (L' := [(0, .slice A0 d0.length cap0), (3, .func (.func 35) #[] #[]), (5, .pointer (some (⟨b_1, 0, none⟩))), (6, .pointer (some (⟨b_2, 0, none⟩))), (8, .slice A_2 s_1.1.length cap_2), (9, .int .i64 s_1.2), (11, .slice A1 d1.length cap1), (12, .int .i64 ((d1.length : Nat) : Int)), (13, .int .i64 s_1.2), (28, .bool false)]) (w' := w_3) f_24 8 [0, 3, 5, 6, 8, 9, 11, 12, 13, 28] (by kernel_rfl) (fun a_19 f_25 => ?_)
          refine W_end rfl ?_
          refine T_n ?_
          exact ⟨(false), (Option.some.inj hF_8).symm, M_3, (Mem.le_refl _), f_25.keep (ks := [0, 3, 5, 6, 8, 9, 11, 12, 13, 28]) (by kernel_rfl), p_4⟩
      · rintro a_20 w_5 ⟨y_1, hq_1, M_4, hM_4, f_26, p_6⟩
        subst j_1
        refine T_n ?_
        refine R_cond f_26 (b := y_1) (by kernel_rfl) (by kernel_rfl) (fun h_4 => ?_) (fun h_4 => ?_)
        · have hF_9 := cnd_t h_4 hF_4
          refine R_reg ?_
          refine W_run (L' := [(0, .slice A0 d0.length cap0), (3, .func (.func 35) #[] #[]), (5, .pointer (some (⟨b_1, 0, none⟩))), (6, .pointer (some (⟨b_2, 0, none⟩))), (11, .slice A1 d1.length cap1), (12, .int .i64 ((d1.length : Nat) : Int)), (13, .int .i64 s_1.2), (29, .slice A_2 s_1.1.length cap_2), (30, .int .i64 s_1.2)]) (w' := w_5) f_26 2 [0, 3, 5, 6, 11, 12, 13, 29, 30] (by kernel_rfl) (fun a_21 f_27 => ?_)
          refine W_alloc f_27 p_6 1 [0, 3, 5, 6, 11, 12, 13, 29, 30, 31] (.cells #[.int .i64 s_1.2] 3 (0, 0)) (fun b_4 => [(0, .slice A0 d0.length cap0), (3, .func (.func 35) #[] #[]), (5, .pointer (some (⟨b_1, 0, none⟩))), (6, .pointer (some (⟨b_2, 0, none⟩))), (11, .slice A1 d1.length cap1), (12, .int .i64 ((d1.length : Nat) : Int)), (13, .int .i64 s_1.2), (29, .slice A_2 s_1.1.length cap_2), (30, .int .i64 s_1.2), (31, .slice (some ⟨b_4, 0, none⟩) 1 1)]) (fun _ => by kernel_rfl) (fun b_4 w_6 p_7 a_22 f_28 => ?_)
          replace f_28 : Frm 35 [(0, .slice A0 d0.length cap0), (3, .func (.func 35) #[] #[]), (5, .pointer (some (⟨b_1, 0, none⟩))), (6, .pointer (some (⟨b_2, 0, none⟩))), (11, .slice A1 d1.length cap1), (12, .int .i64 ((d1.length : Nat) : Int)), (13, .int .i64 s_1.2), (29, .slice A_2 s_1.1.length cap_2), (30, .int .i64 s_1.2), (31, .slice (some ⟨b_4, 0, none⟩) 1 1)] a_22 := f_28
          have p_8 : Hp w0 M_4 ((Ent.row 3 1 (.slice A_2 s_1.1.length cap_2) s_1.1.length cs_1) :: (Ent.obj b_4 (.cells #[.int .i64 s_1.2] 3 (0, 0))) :: H) w_6 := p_7.pull 1 rfl rfl
          obtain ⟨g_1, hF_10⟩ := need_some hF_9
          refine W_appendL (z := .int .i64 0) (f := (Dat.int .i64)) (xs := s_1.1) (ys := [s_1.2]) (news := [.int .i64 s_1.2]) (ad := ⟨b_4, 0, none⟩) (m := 1) (c := 1) f_28 p_8 (RepSeq.mono hM_4 _ _ hr_2) (by exact ⟨_, _, rfl, rfl, rfl⟩) (by kernel_rfl) (by kernel_rfl) rfl rfl rfl (by kernel_rfl) (by kernel_rfl) (by kernel_rfl) (by kernel_rfl) rfl (own_cells (p_8.ownCell 1 rfl) 0 rfl) (by exact g_1) (by have hg_ := g_1; first | omega | (simp only [List.length_cons, List.length_nil] at *; omega)) (fun A_4 cap_4 cs_2 w_7 p_9 hr_5 a_23 f_29 => ?_)
          have p_10 : Hp w0 M_4 ((Ent.obj b_4 (.cells #[.int .i64 s_1.2] 3 (0, 0))) :: (Ent.row 3 1 (.slice A_4 (s_1.1 ++ [s_1.2]).length cap_4) (s_1.1 ++ [s_1.2]).length cs_2) :: H) w_7 := p_9.pull 1 rfl rfl
          have p_11 := p_10.drop
          refine W_run (L' := [(0, .slice A0 d0.length cap0), (3, .func (.func 35) #[] #[]), (5, .pointer (some (⟨b_1, 0, none⟩))), (6, .pointer (some (⟨b_2, 0, none⟩))), (8, .slice A_4 (s_1.1 ++ [s_1.2]).length cap_4), (11, .slice A1 d1.length cap1), (12, .int .i64 ((d1.length : Nat) : Int)), (13, .int .i64 s_1.2)]) (w' := w_7) f_29 1 [0, 3, 5, 6, 8, 11, 12, 13] (by kernel_rfl) (fun a_24 f_30 => ?_)
          refine W_end rfl ?_
          refine B_n ?_
          refine T_n ?_
          refine R_reg ?_
          obtain ⟨g_2, hF_11⟩ := need_some hF_10
          refine W_run (L' := [(0, .slice A0 d0.length cap0), (3, .func (.func 35) #[] #[]), (5, .pointer (some (⟨b_1, 0, none⟩))), (6, .pointer (some (⟨b_2, 0, none⟩))), (8, .slice A_4 (s_1.1 ++ [s_1.2]).length cap_4), (11, .slice A1 d1.length cap1), (12, .int .i64 ((d1.length : Nat) : Int)), (13, .int .i64 s_1.2), (33, .int .i64 (IntKind.wrap .i64 (s_1.2 + 1)))]) (w' := w_7) f_30 1 [0, 3, 5, 6, 8, 11, 12, 13, 33] (by kernel_rfl) (fun a_25 f_31 => ?_)
          have f_32 := Frm.set f_31 33 (v := .int .i64 (IntKind.wrap .i64 (s_1.2 + 1))) (v' := .int .i64 (s_1.2 + 1)) (by kernel_rfl) (congrArg (Value.int .i64) (inR_wrap g_2))
          have f_33 : Frm 35 [(0, .slice A0 d0.length cap0), (3, .func (.func 35) #[] #[]), (5, .pointer (some (⟨b_1, 0, none⟩))), (6, .pointer (some (⟨b_2, 0, none⟩))), (8, .slice A_4 (s_1.1 ++ [s_1.2]).length cap_4), (11, .slice A1 d1.length cap1), (12, .int .i64 ((d1.length : Nat) : Int)), (13, .int .i64 s_1.2), (33, .int .i64 (s_1.2 + 1))] a_25 := f_32.keep (ks := [0, 3, 5, 6, 8, 11, 12, 13, 33]) (by kernel_rfl)
          refine W_run (L' := [(0, .slice A0 d0.length cap0), (3, .func (.func 35) #[] #[]), (5, .pointer (some (⟨b_1, 0, none⟩))), (6, .pointer (some (⟨b_2, 0, none⟩))), (8, .slice A_4 (s_1.1 ++ [s_1.2]).length cap_4), (11, .slice A1 d1.length cap1), (12, .int .i64 ((d1.length : Nat) : Int)), (13, .int .i64 (s_1.2 + 1))]) (w' := w_7) f_33 1 [0, 3, 5, 6, 8, 11, 12, 13] (by kernel_rfl) (fun a_26 f_34 => ?_)
          refine W_end rfl ?_
          refine T_n ?_
          obtain rfl := Option.some.inj hF_11
          exact ⟨⟨m_2, (s_1.1 ++ [s_1.2], s_1.2 + 1), A_4, cap_4, cs_2⟩, Nat.lt_succ_self _, M_4, (hM_3.trans hM_4), ⟨hn_1, hr_5⟩, f_34.keep (ks := [0, 3, 5, 6, 8, 11, 12, 13]) (by kernel_rfl), p_11⟩
        · have hF_12 := cnd_f h_4 hF_4
          refine wp_skip ?_
          refine B_n ?_
          refine T_n ?_
          refine R_reg ?_
          obtain ⟨g_3, hF_13⟩ := need_some hF_12
          refine W_run (L' := [(0, .slice A0 d0.length cap0), (3, .func (.func 35) #[] #[]), (5, .pointer (some (⟨b_1, 0, none⟩))), (6, .pointer (some (⟨b_2, 0, none⟩))), (8, .slice A_2 s_1.1.length cap_2), (9, .int .i64 s_1.2), (11, .slice A1 d1.length cap1), (12, .int .i64 ((d1.length : Nat) : Int)), (13, .int .i64 s_1.2), (28, .bool y_1), (33, .int .i64 (IntKind.wrap .i64 (s_1.2 + 1)))]) (w' := w_5) f_26 1 [0, 3, 5, 6, 8, 9, 11, 12, 13, 28, 33] (by kernel_rfl) (fun a_27 f_35 => ?_)
          have f_36 := Frm.set f_35 33 (v := .int .i64 (IntKind.wrap .i64 (s_1.2 + 1))) (v' := .int .i64 (s_1.2 + 1)) (by kernel_rfl) (congrArg (Value.int .i64) (inR_wrap g_3))
          have f_37 : Frm 35 [(0, .slice A0 d0.length cap0), (3, .func (.func 35) #[] #[]), (5, .pointer (some (⟨b_1, 0, none⟩))), (6, .pointer (some (⟨b_2, 0, none⟩))), (8, .slice A_2 s_1.1.length cap_2), (9, .int .i64 s_1.2), (11, .slice A1 d1.length cap1), (12, .int .i64 ((d1.length : Nat) : Int)), (13, .int .i64 s_1.2), (28, .bool y_1), (33, .int .i64 (s_1.2 + 1))] a_27 := f_36.keep (ks := [0, 3, 5, 6, 8, 9, 11, 12, 13, 28, 33]) (by kernel_rfl)
          refine W_run (L' := [(0, .slice A0 d0.length cap0), (3, .func (.func 35) #[] #[]), (5, .pointer (some (⟨b_1, 0, none⟩))), (6, .pointer (some (⟨b_2, 0, none⟩))), (8, .slice A_2 s_1.1.length cap_2), (11, .slice A1 d1.length cap1), (12, .int .i64 ((d1.length : Nat) : Int)), (13, .int .i64 (s_1.2 + 1))]) (w' := w_5) f_37 1 [0, 3, 5, 6, 8, 11, 12, 13] (by kernel_rfl) (fun a_28 f_38 => ?_)
          refine W_end rfl ?_
          refine T_n ?_
          obtain rfl := Option.some.inj hF_13
          exact ⟨⟨m_2, (s_1.1, s_1.2 + 1), A_2, cap_2, cs_1⟩, Nat.lt_succ_self _, M_4, (hM_3.trans hM_4), ⟨hn_1, (RepSeq.mono hM_4 _ _ hr_2)⟩, f_38.keep (ks := [0, 3, 5, 6, 8, 11, 12, 13]) (by kernel_rfl), p_6⟩
    · have k_6 : ¬ (s_1.2 < ((d1.length : Nat) : Int)) := iff_f decide_eq_true_iff h_1
      have hF_14 := cnd_f h_1 hs_1
      refine wp_exit ?_
      refine T_x ?_
      refine T_x ?_
      obtain rfl := Option.some.inj hF_14
      exact ⟨rfl, s_1.1, (Option.some.inj hn_1).symm, M_3, hM_3, A_2, cap_2, cs_1, hr_2, f_9.keep (ks := [8]) (by kernel_rfl), p_4⟩
  · rintro _ a_30 w_9 ⟨rfl, y_2, hq_, M_5, hM_5, A_5, cap_5, cs_3, hr_6, f_39, p_12⟩
    subst b_3
    refine B_x ?_
    refine T_n ?_
    refine R_seq ?_
    refine R_reg ?_
    refine W_run (L' := [(8, .slice A_5 y_2.length cap_5)]) (w' := w_9) f_39 2 [8] (by kernel_rfl) (fun a_31 f_40 => ?_)
    refine W_end rfl ?_
    refine T_n ?_
    refine wp_ret ?_
    refine E_ret1 f_40 rfl (by kernel_rfl : Vc.look _ 8 = some (.slice A_5 y_2.length cap_5)) ?_
    obtain rfl := Option.some.inj hF_1
    exact ⟨_, rfl, M_5, _, ((hM_1.trans hM_2).trans hM_5), p_12, ⟨A_5, cap_5, cs_3, rfl, rfl, hr_6⟩⟩

def ready_Settle_s2 (n : Nat) (x_4 : List Int) (s_2 : List Int × Int) : Option (Lp (List Int × Int) (List Int)) :=
    bif (decide (s_2.2 < ((x_4.length : Nat) : Int))) then
      ((getI x_4 s_2.2).bind fun x_5 =>
      (getI s_2.1 x_5).bind fun x_6 =>
      need (inR .i64 (s_2.2 + 1)) <|
      some (.nx (s_2.1.set x_5.toNat (5 : Int), s_2.2 + 1)))
    else
      some (.br s_2.1)
def ready_Settle_s1 (n : Nat) (x_2 : List (List Int)) (s_1 : List Int) : Option (Lp (List Int) (List Int)) :=
    (ready_over_2 n x_2 s_1).bind fun x_4 =>
    bif (decide (((x_4.length : Nat) : Int) = 0)) then
      (some (.br s_1))
    else
      (loopF (ready_Settle_s2 n x_4) n (s_1, (0 : Int))).bind fun y_1 =>
      some (.nx y_1)
def ready_Settle (n : Nat) (d0 : List (List Int)) (d1 : List Int) (d2 : Bool) : Option (List Int × Int) :=
  (ready_May n d0 d1).bind fun x_1 =>
  bif !x_1 then
    (some ((([] : List Int), (2 : Int))))
  else
    (ready_ways n d0 (d2)).bind fun x_2 =>
    (slices_Cloneint8_int8 n d1).bind fun x_3 =>
    (loopF (ready_Settle_s1 n x_2) n x_3).bind fun y_2 =>
    some ((y_2, (0 : Int)))
set_option maxRecDepth 20000 in
theorem ready_Settle_ok (n : Nat) (M : Mem) (A0 : Option Addr) (cap0 : Nat) (d0 : List (List Int)) (h0 : Sli M 1 (eL 1 (Dat.int .i64)) A0 cap0 d0) (A1 : Option Addr) (cap1 : Nat) (d1 : List Int) (h1 : Sli M 1 (Dat.int .i8) A1 cap1 d1) (d2 : Bool) (r : List Int × Int) (hF : ready_Settle n d0 d1 d2 = some r) : OkH Try.prog M [] 9 [.slice A0 d0.length cap0, .slice A1 d1.length cap1, .bool d2] (fun M' E' v => ∃ (A0 : Option Addr) (k0 : Nat) (s0 : List Value), v = .tuple #[.slice A0 r.1.length k0, .int .i64 r.2] ∧ E' = [.row 24 1 (.slice A0 r.1.length k0) r.1.length s0] ∧ RepSeq M' (r.1.map (Dat.int .i8)) s0) := by
  unfold ready_Settle at hF
  intro M1 hM0 w0 H w p0
  replace h0 := h0.mono hM0
  replace h1 := h1.mono hM0
  refine R_enter 39 Try.func9 rfl rfl (by simp) (fun a0 f0 => ?_)
  replace f0 : Frm 39 [(0, .slice A0 d0.length cap0), (1, .slice A1 d1.length cap1), (2, .bool d2)] a0 := f0
  refine R_seq ?_
  refine R_reg ?_
  refine W_run (L' := [(0, .slice A0 d0.length cap0), (1, .slice A1 d1.length cap1), (2, .bool d2)]) (w' := w) f0 2 [0, 1, 2] (by kernel_rfl) (fun a_1 f_1 => ?_)
  refine W_end rfl ?_
  refine T_n ?_
  refine R_seq ?_
  refine R_seq ?_
  refine R_reg ?_
  refine W_run (L' := [(0, .slice A0 d0.length cap0), (1, .slice A1 d1.length cap1), (2, .bool d2), (13, .slice A0 d0.length cap0), (14, .slice A1 d1.length cap1)]) (w' := w) f_1 2 [0, 1, 2, 13, 14] (by kernel_rfl) (fun a_2 f_2 => ?_)
  obtain ⟨x_1, hx_1, hF_1⟩ := bind_some' hF
  refine W_okv (v := .bool x_1) f_2 p0 (by kernel_rfl) (by kernel_rfl) rfl rfl (fun _ => by kernel_rfl) (ready_May_ok n _ A0 cap0 d0 h0 A1 cap1 d1 h1 x_1 hx_1) (fun w_1 p_1 a_3 f_3 => ?_)
  refine W_run (L' := [(0, .slice A0 d0.length cap0), (1, .slice A1 d1.length cap1), (2, .bool d2), (16, .bool !x_1)]) (w' := w_1) f_3 1 [0, 1, 2, 16] (by kernel_rfl) (fun a_4 f_4 => ?_)
  refine W_end rfl ?_
  refine T_n ?_
  refine R_cond f_4 (b := !x_1) (by kernel_rfl) (by kernel_rfl) (fun h_1 => ?_) (fun h_1 => ?_)
  · have k_1 : (x_1) = false := by simpa using h_1
    have hF_2 := cnd_t h_1 hF_1
    refine R_seq ?_
    refine R_reg ?_
    refine W_run (L' := [(6, .slice none 0 0), (7, .int .i64 2)]) (w' := w_1) f_4 2 [6, 7] (by kernel_rfl) (fun a_5 f_5 => ?_)
    refine W_end rfl ?_
    refine T_n ?_
    refine wp_ret ?_
    refine T_r ?_
    obtain ⟨A_1, cap_1, hv_1⟩ : ∃ A cap, Value.slice none 0 0 = .slice A ([] : List Int).length cap := ⟨none, 0, rfl⟩
    have p_2 : Hp w0 M1 ((Ent.row 24 1 (.slice A_1 ([] : List Int).length cap_1) ([] : List Int).length []) :: H) w_1 := by rw [← hv_1]; exact p_1.nilRow 24 1
    have f_6 := Frm.set f_5 6 (v := .slice none 0 0) (v' := .slice A_1 ([] : List Int).length cap_1) (by kernel_rfl) (hv_1)
    have f_7 : Frm 39 [(6, .slice A_1 ([] : List Int).length cap_1), (7, .int .i64 2)] a_5 := f_6.keep (ks := [6, 7]) (by kernel_rfl)
    have hr_1 : RepSeq M1 (([] : List Int).map (Dat.int .i8)) [] := rfl
    refine E_ret2 f_7 rfl (by kernel_rfl : Vc.look _ 6 = some (.slice A_1 ([] : List Int).length cap_1)) (by kernel_rfl : Vc.look _ 7 = some (.int .i64 2)) ?_
    obtain rfl := Option.some.inj hF_2
    exact ⟨_, rfl, M1, _, (Mem.le_refl _), p_2, ⟨A_1, cap_1, [], rfl, rfl, hr_1⟩⟩
  · have k_2 : (x_1) = true := by simpa using h_1
    have hF_3 := cnd_f h_1 hF_1
    refine wp_skip ?_
    refine T_n ?_
    refine R_seq ?_
    refine R_reg ?_
    refine W_run (L' := [(1, .slice A1 d1.length cap1), (17, .slice A0 d0.length cap0), (18, .bool d2)]) (w' := w_1) f_4 2 [1, 17, 18] (by kernel_rfl) (fun a_6 f_8 => ?_)
    obtain ⟨x_2, hx_2, hF_4⟩ := bind_some' hF_3
    refine W_ok f_8 p_1 (by kernel_rfl) (by kernel_rfl) rfl rfl (fun _ => by kernel_rfl) (ready_ways_ok n _ A0 cap0 d0 h0 (d2) x_2 hx_2) (fun u_1 M_1 w_2 hM_1 p_3 q_1 a_7 f_9 => ?_)
    obtain ⟨A_2, cap_2, rfl, h_2⟩ := q_1
    refine W_run (L' := [(19, .slice A_2 x_2.length cap_2), (20, .slice A1 d1.length cap1)]) (w' := w_2) f_9 1 [19, 20] (by kernel_rfl) (fun a_8 f_10 => ?_)
    obtain ⟨x_3, hx_3, hF_5⟩ := bind_some' hF_4
    refine W_okH (E := []) (H := (H)) f_10 p_3 (by kernel_rfl) (by kernel_rfl) rfl rfl (fun _ => by kernel_rfl) (slices_Cloneint8_int8_ok n _ A1 cap1 d1 (h1.mono hM_1) x_3 hx_3) (fun u_2 M_2 E_1 w_3 hM_2 p_4 q_2 a_9 f_11 => ?_)
    obtain ⟨A_3, cap_3, cs_1, rfl, rfl, hr_2⟩ := q_2
    replace p_4 : Hp w0 M_2 ((Ent.row 24 1 (.slice A_3 x_3.length cap_3) x_3.length cs_1) :: H) w_3 := p_4
    refine W_run (L' := [(8, .slice A_2 x_2.length cap_2), (9, .slice A_3 x_3.length cap_3)]) (w' := w_3) f_11 2 [8, 9] (by kernel_rfl) (fun a_10 f_12 => ?_)
    refine W_end rfl ?_
    refine T_n ?_
    refine wp_block ?_
    obtain ⟨b_1, hL_1, hF_6⟩ := bind_some' hF_5
    refine wp_mono (Q := fun e a w => (e = .ret ∧ (∃ y_2 : List Int, b_1 = y_2 ∧ ∃ M_9 : Mem, M_2.le M_9 ∧ ∃ (A_9 : Option Addr), ∃ (cap_11 : Nat), ∃ (cs_6 : List Value), RepSeq M_9 (y_2.map (Dat.int .i8)) cs_6 ∧ Frm 39 [(6, .slice A_9 y_2.length cap_11), (7, .int .i64 0)] a ∧ Hp w0 M_9 ((Ent.row 24 1 (.slice A_9 y_2.length cap_11) y_2.length cs_6) :: H) w))) (R_loop (n := 39) (w0 := w0) (M := M_2) (fun (x : Nat × (List Int) × (Option Addr) × Nat × (List Value)) => match x with | (m_1, s_1, A_4, cap_4, cs_2) => [(8, .slice A_2 x_2.length cap_2), (9, .slice A_4 s_1.length cap_4)]) (fun (x : Nat × (List Int) × (Option Addr) × Nat × (List Value)) => match x with | (m_1, s_1, A_4, cap_4, cs_2) => ((Ent.row 24 1 (.slice A_4 s_1.length cap_4) s_1.length cs_2) :: H)) (fun (x : Nat × (List Int) × (Option Addr) × Nat × (List Value)) (MM : Mem) => match x with | (m_1, s_1, A_4, cap_4, cs_2) => loopF (ready_Settle_s1 n x_2) m_1 s_1 = some b_1 ∧ RepSeq MM (s_1.map (Dat.int .i8)) cs_2) (fun (x : Nat × (List Int) × (Option Addr) × Nat × (List Value)) => match x with | (m_1, s_1, A_4, cap_4, cs_2) => m_1) (n, x_3, A_3, cap_3, cs_1) (f_12.keep (ks := [8, 9]) (by kernel_rfl)) p_4 ⟨hL_1, hr_2⟩ ?_) ?_
    · rintro ⟨m_1, s_1, A_4, cap_4, cs_2⟩ M_3 a_11 w_4 hM_3 I_1 f_13 p_5
      replace f_13 : Frm 39 [(8, .slice A_2 x_2.length cap_2), (9, .slice A_4 s_1.length cap_4)] a_11 := f_13
      replace p_5 : Hp w0 M_3 ((Ent.row 24 1 (.slice A_4 s_1.length cap_4) s_1.length cs_2) :: H) w_4 := p_5
      obtain ⟨I_1L, hr_3⟩ := I_1
      obtain ⟨m_2, r_1, rfl, hs_1, hn_1⟩ := loop_step I_1L
      unfold ready_Settle_s1 at hs_1
      refine wp_block ?_
      refine R_seq ?_
      refine R_reg ?_
      refine W_run (L' := [(8, .slice A_2 x_2.length cap_2), (9, .slice A_4 s_1.length cap_4), (22, .slice A_2 x_2.length cap_2), (23, .slice A_4 s_1.length cap_4)]) (w' := w_4) f_13 2 [8, 9, 22, 23] (by kernel_rfl) (fun a_12 f_14 => ?_)
      obtain ⟨M_4, A_5, cap_5, hM_4, hv_2, p_6, h_3, hb_1⟩ := p_5.lend (f := (Dat.int .i8)) (xs := s_1) (szd_int .i8) hr_3
      have f_15 := Frm.set f_14 9 (v := .slice A_4 s_1.length cap_4) (v' := .slice A_5 s_1.length cap_5) (by kernel_rfl) (hv_2)
      have f_16 := Frm.set f_15 23 (v := .slice A_4 s_1.length cap_4) (v' := .slice A_5 s_1.length cap_5) (by kernel_rfl) (hv_2)
      have f_17 : Frm 39 [(8, .slice A_2 x_2.length cap_2), (9, .slice A_5 s_1.length cap_5), (22, .slice A_2 x_2.length cap_2), (23, .slice A_5 s_1.length cap_5)] a_12 := f_16.keep (ks := [8, 9, 22, 23]) (by kernel_rfl)
      obtain ⟨x_4, hx_4, hF_7⟩ := bind_some' hs_1
      refine W_okH (E := []) (H := (H)) f_17 p_6 (by kernel_rfl) (by kernel_rfl) rfl rfl (fun _ => by kernel_rfl) (ready_over_2_ok n _ A_2 cap_2 x_2 (h_2.mono ((hM_2.trans hM_3).trans hM_4)) A_5 cap_5 s_1 h_3 x_4 hx_4) (fun u_3 M_5 E_2 w_5 hM_5 p_7 q_3 a_13 f_18 => ?_)
      obtain ⟨A_6, cap_6, cs_3, rfl, rfl, hr_4⟩ := q_3
      replace p_7 : Hp w0 M_5 ((Ent.row 3 1 (.slice A_6 x_4.length cap_6) x_4.length cs_3) :: H) w_5 := p_7
      have hr_5 : ∀ M, RepSeq M (x_4.map (Dat.int .i64)) cs_3 := fun M => RepSeq.flat (flat_int .i64) _ hr_4
      obtain ⟨M_6, hM_6, p_8⟩ := hb_1 _ _ _ hM_5 p_7
      have f_19 := Frm.set f_18 9 (v := .slice A_5 s_1.length cap_5) (v' := .slice A_4 s_1.length cap_4) (by kernel_rfl) (hv_2.symm)
      have f_20 := Frm.set f_19 23 (v := .slice A_5 s_1.length cap_5) (v' := .slice A_4 s_1.length cap_4) (by kernel_rfl) (hv_2.symm)
      have f_21 : Frm 39 [(8, .slice A_2 x_2.length cap_2), (9, .slice A_4 s_1.length cap_4), (22, .slice A_2 x_2.length cap_2), (23, .slice A_4 s_1.length cap_4), (24, .slice A_6 x_4.length cap_6)] a_13 := f_20.keep (ks := [8, 9, 22, 23, 24]) (by kernel_rfl)
      have hr_6 := hr_5 M_6
      refine W_run (L' := [(8, .slice A_2 x_2.length cap_2), (9, .slice A_4 s_1.length cap_4), (10, .slice A_6 x_4.length cap_6)]) (w' := w_5) f_21 1 [8, 9, 10] (by kernel_rfl) (fun a_14 f_22 => ?_)
      refine W_end rfl ?_
      refine T_n ?_
      refine R_seq ?_
      refine R_seq ?_
      refine R_reg ?_
      refine W_run (L' := [(8, .slice A_2 x_2.length cap_2), (9, .slice A_4 s_1.length cap_4), (10, .slice A_6 x_4.length cap_6), (27, .bool (decide (((x_4.length : Nat) : Int) = 0)))]) (w' := w_5) f_22 3 [8, 9, 10, 27] (by kernel_rfl) (fun a_15 f_23 => ?_)
      refine W_end rfl ?_
      refine T_n ?_
      refine R_cond f_23 (b := decide (((x_4.length : Nat) : Int) = 0)) (by kernel_rfl) (by kernel_rfl) (fun h_4 => ?_) (fun h_4 => ?_)
      · have k_3 : ((x_4.length : Nat) : Int) = 0 := decide_eq_true_iff.1 h_4
        have hF_8 := cnd_t h_4 hF_7
        refine R_seq ?_
        refine R_reg ?_
        refine W_run (L' := [(6, .slice A_4 s_1.length cap_4), (7, .int .i64 0)]) (w' := w_5) f_23 3 [6, 7] (by kernel_rfl) (fun a_16 f_24 => ?_)
        refine W_end rfl ?_
        refine T_n ?_
        refine wp_ret ?_
        refine T_r ?_
        refine B_r ?_
        have p_14 : Hp w0 M_6 ((Ent.row 3 1 (.slice A_6 x_4.length cap_6) x_4.length cs_3) :: (Ent.row 24 1 (.slice A_4 s_1.length cap_4) s_1.length cs_2) :: H) w_5 := p_8.pull 1 rfl rfl
        refine T_r ?_
        obtain rfl := Option.some.inj hF_8
        exact ⟨rfl, s_1, (Option.some.inj hn_1).symm, M_6, (hM_3.trans hM_6), A_4, cap_4, cs_2, (RepSeq.mono hM_6 _ _ hr_3), f_24.keep (ks := [6, 7]) (by kernel_rfl), (p_14.dropN 1)⟩
      · have k_4 : ¬ (((x_4.length : Nat) : Int) = 0) := iff_f decide_eq_true_iff h_4
        have hF_9 := cnd_f h_4 hF_7
        refine wp_skip ?_
        refine T_n ?_
        refine R_seq ?_
        refine R_reg ?_
        refine W_run (L' := [(8, .slice A_2 x_2.length cap_2), (9, .slice A_4 s_1.length cap_4), (29, .slice A_6 x_4.length cap_6), (30, .int .i64 ((x_4.length : Nat) : Int)), (31, .int .i64 0)]) (w' := w_5) f_23 3 [8, 9, 29, 30, 31] (by kernel_rfl) (fun a_17 f_25 => ?_)
        refine W_end rfl ?_
        refine T_n ?_
        refine wp_block ?_
        obtain ⟨b_2, hL_2, hF_10⟩ := bind_some' hF_9
        refine wp_mono (Q := fun e a w => (e = .exit 2 ∧ (∃ y_1 : List Int, b_2 = y_1 ∧ ∃ M_8 : Mem, M_6.le M_8 ∧ ∃ (A_8 : Option Addr), ∃ (cap_10 : Nat), ∃ (cs_5 : List Value), RepSeq M_8 (y_1.map (Dat.int .i8)) cs_5 ∧ Frm 39 [(8, .slice A_2 x_2.length cap_2), (9, .slice A_8 y_1.length cap_10)] a ∧ Hp w0 M_8 ((Ent.row 24 1 (.slice A_8 y_1.length cap_10) y_1.length cs_5) :: (Ent.row 3 1 (.slice A_6 x_4.length cap_6) x_4.length cs_3) :: H) w))) (R_loop (n := 39) (w0 := w0) (M := M_6) (fun (x : Nat × (List Int × Int) × (Option Addr) × Nat × (List Value)) => match x with | (m_3, s_2, A_7, cap_7, cs_4) => [(8, .slice A_2 x_2.length cap_2), (9, .slice A_7 s_2.1.length cap_7), (29, .slice A_6 x_4.length cap_6), (30, .int .i64 ((x_4.length : Nat) : Int)), (31, .int .i64 s_2.2)]) (fun (x : Nat × (List Int × Int) × (Option Addr) × Nat × (List Value)) => match x with | (m_3, s_2, A_7, cap_7, cs_4) => ((Ent.row 24 1 (.slice A_7 s_2.1.length cap_7) s_2.1.length cs_4) :: (Ent.row 3 1 (.slice A_6 x_4.length cap_6) x_4.length cs_3) :: H)) (fun (x : Nat × (List Int × Int) × (Option Addr) × Nat × (List Value)) (MM : Mem) => match x with | (m_3, s_2, A_7, cap_7, cs_4) => loopF (ready_Settle_s2 n x_4) m_3 s_2 = some b_2 ∧ RepSeq MM (s_2.1.map (Dat.int .i8)) cs_4) (fun (x : Nat × (List Int × Int) × (Option Addr) × Nat × (List Value)) => match x with | (m_3, s_2, A_7, cap_7, cs_4) => m_3) (n, (s_1, (0 : Int)), A_4, cap_4, cs_2) (f_25.keep (ks := [8, 9, 29, 30, 31]) (by kernel_rfl)) p_8 ⟨hL_2, (RepSeq.mono hM_6 _ _ hr_3)⟩ ?_) ?_
        · rintro ⟨m_3, s_2, A_7, cap_7, cs_4⟩ M_7 a_18 w_6 hM_7 I_2 f_26 p_9
          replace f_26 : Frm 39 [(8, .slice A_2 x_2.length cap_2), (9, .slice A_7 s_2.1.length cap_7), (29, .slice A_6 x_4.length cap_6), (30, .int .i64 ((x_4.length : Nat) : Int)), (31, .int .i64 s_2.2)] a_18 := f_26
          replace p_9 : Hp w0 M_7 ((Ent.row 24 1 (.slice A_7 s_2.1.length cap_7) s_2.1.length cs_4) :: (Ent.row 3 1 (.slice A_6 x_4.length cap_6) x_4.length cs_3) :: H) w_6 := p_9
          obtain ⟨I_2L, hr_7⟩ := I_2
          obtain ⟨m_4, r_2, rfl, hs_2, hn_2⟩ := loop_step I_2L
          unfold ready_Settle_s2 at hs_2
          refine R_seq ?_
          refine R_reg ?_
          refine W_run (L' := [(8, .slice A_2 x_2.length cap_2), (9, .slice A_7 s_2.1.length cap_7), (29, .slice A_6 x_4.length cap_6), (30, .int .i64 ((x_4.length : Nat) : Int)), (31, .int .i64 s_2.2), (32, .bool (decide (s_2.2 < ((x_4.length : Nat) : Int))))]) (w' := w_6) f_26 1 [8, 9, 29, 30, 31, 32] (by kernel_rfl) (fun a_19 f_27 => ?_)
          refine W_end rfl ?_
          refine T_n ?_
          refine R_seq ?_
          refine R_cond f_27 (b := decide (s_2.2 < ((x_4.length : Nat) : Int))) (by kernel_rfl) (by kernel_rfl) (fun h_5 => ?_) (fun h_5 => ?_)
          · have k_5 : s_2.2 < ((x_4.length : Nat) : Int) := decide_eq_true_iff.1 h_5
            have hF_11 := cnd_t h_5 hs_2
            refine wp_skip ?_
            refine T_n ?_
            refine R_seq ?_
            refine wp_block ?_
            refine R_seq ?_
            refine R_reg ?_
            obtain ⟨x_5, hx_5, hF_12⟩ := bind_some' hF_11
            obtain ⟨b_3, cap_8, hv_3, hcap_1⟩ := p_9.rowAddr 1 rfl (getI_pos hx_5)
            have f_28 := Frm.set f_27 29 (v := .slice A_6 x_4.length cap_6) (v' := .slice (some ⟨b_3, 0, none⟩) x_4.length cap_8) (by kernel_rfl) (hv_3)
            have f_29 : Frm 39 [(8, .slice A_2 x_2.length cap_2), (9, .slice A_7 s_2.1.length cap_7), (29, .slice (some ⟨b_3, 0, none⟩) x_4.length cap_8), (30, .int .i64 ((x_4.length : Nat) : Int)), (31, .int .i64 s_2.2), (32, .bool (decide (s_2.2 < ((x_4.length : Nat) : Int))))] a_19 := f_28.keep (ks := [8, 9, 29, 30, 31, 32]) (by kernel_rfl)
            refine W_eq (v := .pointer (some ((⟨b_3, 0, none⟩ : Addr).add (s_2.2.toNat * 1)))) f_29 (by kernel_rfl) (by kernel_rfl) rfl rfl (X_indexAddr rfl (ad := ⟨b_3, 0, none⟩) (len := x_4.length) (cap := cap_8) (k := .i64) (i := s_2.2) (by kernel_rfl) (by kernel_rfl) (e := 3) (by kernel_rfl) (sz := 1) (by kernel_rfl) (getI_nn hx_5) (getI_lt hx_5)) (fun a_20 f_30 => ?_)
            have f_31 := Frm.set f_30 29 (v := .slice (some ⟨b_3, 0, none⟩) x_4.length cap_8) (v' := .slice A_6 x_4.length cap_6) (by kernel_rfl) (hv_3.symm)
            have f_32 : Frm 39 [(8, .slice A_2 x_2.length cap_2), (9, .slice A_7 s_2.1.length cap_7), (29, .slice A_6 x_4.length cap_6), (30, .int .i64 ((x_4.length : Nat) : Int)), (31, .int .i64 s_2.2), (32, .bool (decide (s_2.2 < ((x_4.length : Nat) : Int)))), (33, .pointer (some ((⟨b_3, 0, none⟩ : Addr).add (s_2.2.toNat * 1))))] a_20 := f_31.keep (ks := [8, 9, 29, 30, 31, 32, 33]) (by kernel_rfl)
            obtain ⟨c_1, hl_1, hr_8, hc_1⟩ := RepSeq.get s_2.2.toNat (szd_all (szd_int .i64)) (RepSeq.mono hM_7 _ _ hr_6) (getI_map hx_5)
            clear hl_1
            obtain rfl : c_1 = [.int .i64 x_5] := hr_8
            refine W_eq (v := .int .i64 x_5) f_32 (by kernel_rfl) (by kernel_rfl) rfl rfl (X_load1 (v := .int .i64 x_5) rfl (ad := (⟨b_3, 0, none⟩ : Addr).add (s_2.2.toNat * 1)) (by kernel_rfl) (by kernel_rfl) (by simpa [Addr.add] using (fun j v h => row_at (p_9.rowCell 1 rfl hv_3) hc_1 j v h) 0 _ rfl)) (fun a_21 f_33 => ?_)
            refine W_run (L' := [(8, .slice A_2 x_2.length cap_2), (9, .slice A_7 s_2.1.length cap_7), (12, .int .i64 x_5), (29, .slice A_6 x_4.length cap_6), (30, .int .i64 ((x_4.length : Nat) : Int)), (31, .int .i64 s_2.2)]) (w' := w_6) f_33 1 [8, 9, 12, 29, 30, 31] (by kernel_rfl) (fun a_22 f_34 => ?_)
            refine W_end rfl ?_
            refine T_n ?_
            refine R_reg ?_
            refine W_run (L' := [(8, .slice A_2 x_2.length cap_2), (9, .slice A_7 s_2.1.length cap_7), (29, .slice A_6 x_4.length cap_6), (30, .int .i64 ((x_4.length : Nat) : Int)), (31, .int .i64 s_2.2), (35, .slice A_7 s_2.1.length cap_7), (36, .int .i64 x_5)]) (w' := w_6) f_34 2 [8, 9, 29, 30, 31, 35, 36] (by kernel_rfl) (fun a_23 f_35 => ?_)
            obtain ⟨x_6, hx_6, hF_13⟩ := bind_some' hF_12
            obtain ⟨b_4, cap_9, hv_4, hcap_2⟩ := p_9.rowAddr 0 rfl (getI_pos hx_6)
            have f_36 := Frm.set f_35 35 (v := .slice A_7 s_2.1.length cap_7) (v' := .slice (some ⟨b_4, 0, none⟩) s_2.1.length cap_9) (by kernel_rfl) (hv_4)
            have f_37 : Frm 39 [(8, .slice A_2 x_2.length cap_2), (9, .slice A_7 s_2.1.length cap_7), (29, .slice A_6 x_4.length cap_6), (30, .int .i64 ((x_4.length : Nat) : Int)), (31, .int .i64 s_2.2), (35, .slice (some ⟨b_4, 0, none⟩) s_2.1.length cap_9), (36, .int .i64 x_5)] a_23 := f_36.keep (ks := [8, 9, 29, 30, 31, 35, 36]) (by kernel_rfl)
            refine W_eq (v := .pointer (some ((⟨b_4, 0, none⟩ : Addr).add (x_5.toNat * 1)))) f_37 (by kernel_rfl) (by kernel_rfl) rfl rfl (X_indexAddr rfl (ad := ⟨b_4, 0, none⟩) (len := s_2.1.length) (cap := cap_9) (k := .i64) (i := x_5) (by kernel_rfl) (by kernel_rfl) (e := 24) (by kernel_rfl) (sz := 1) (by kernel_rfl) (getI_nn hx_6) (getI_lt hx_6)) (fun a_24 f_38 => ?_)
            have f_39 := Frm.set f_38 35 (v := .slice (some ⟨b_4, 0, none⟩) s_2.1.length cap_9) (v' := .slice A_7 s_2.1.length cap_7) (by kernel_rfl) (hv_4.symm)
            have f_40 : Frm 39 [(8, .slice A_2 x_2.length cap_2), (9, .slice A_7 s_2.1.length cap_7), (29, .slice A_6 x_4.length cap_6), (30, .int .i64 ((x_4.length : Nat) : Int)), (31, .int .i64 s_2.2), (35, .slice A_7 s_2.1.length cap_7), (36, .int .i64 x_5), (37, .pointer (some ((⟨b_4, 0, none⟩ : Addr).add (x_5.toNat * 1))))] a_24 := f_39.keep (ks := [8, 9, 29, 30, 31, 35, 36, 37]) (by kernel_rfl)
            refine W_rowstore (it := x_5) (d := s_2.1) (f := (Dat.int .i8)) (xv := (5 : Int)) (v := .int .i8 5) f_40 p_9 hv_4 (by kernel_rfl) (by kernel_rfl) rfl rfl (by kernel_rfl) (by kernel_rfl) (by exact rfl) (by kernel_rfl) (szd_int .i8) hx_6 hr_7 (fun w_7 p_10 hr_9 a_25 f_41 => ?_)
            have p_11 : Hp w0 M_7 ((Ent.row 24 1 (.slice A_7 (s_2.1.set x_5.toNat (5 : Int)).length cap_7) (s_2.1.set x_5.toNat (5 : Int)).length (cs_4.set x_5.toNat (.int .i8 5))) :: (Ent.row 3 1 (.slice A_6 x_4.length cap_6) x_4.length cs_3) :: H) w_7 := p_10.rowVal (by rw [List.length_set])
            have f_42 := Frm.set f_41 9 (v := .slice A_7 s_2.1.length cap_7) (v' := .slice A_7 (s_2.1.set x_5.toNat (5 : Int)).length cap_7) (by kernel_rfl) (by rw [List.length_set])
            have f_43 := Frm.set f_42 35 (v := .slice A_7 s_2.1.length cap_7) (v' := .slice A_7 (s_2.1.set x_5.toNat (5 : Int)).length cap_7) (by kernel_rfl) (by rw [List.length_set])
            have f_44 : Frm 39 [(8, .slice A_2 x_2.length cap_2), (9, .slice A_7 (s_2.1.set x_5.toNat (5 : Int)).length cap_7), (29, .slice A_6 x_4.length cap_6), (30, .int .i64 ((x_4.length : Nat) : Int)), (31, .int .i64 s_2.2), (35, .slice A_7 (s_2.1.set x_5.toNat (5 : Int)).length cap_7), (36, .int .i64 x_5), (37, .pointer (some ((⟨b_4, 0, none⟩ : Addr).add (x_5.toNat * 1))))] a_25 := f_43.keep (ks := [8, 9, 29, 30, 31, 35, 36, 37]) (by kernel_rfl)
            refine W_end rfl ?_
            refine B_n ?_
            refine T_n ?_
            refine R_reg ?_
            obtain ⟨g_1, hF_14⟩ := need_some hF_13
            refine W_run (L' := [(8, .slice A_2 x_2.length cap_2), (9, .slice A_7 (s_2.1.set x_5.toNat (5 : Int)).length cap_7), (29, .slice A_6 x_4.length cap_6), (30, .int .i64 ((x_4.length : Nat) : Int)), (31, .int .i64 s_2.2), (35, .slice A_7 (s_2.1.set x_5.toNat (5 : Int)).length cap_7), (36, .int .i64 x_5), (37, .pointer (some ((⟨b_4, 0, none⟩ : Addr).add (x_5.toNat * 1)))), (38, .int .i64 (IntKind.wrap .i64 (s_2.2 + 1)))]) (w' := w_7) f_44 1 [8, 9, 29, 30, 31, 35, 36, 37, 38] (by kernel_rfl) (fun a_26 f_45 => ?_)
            have f_46 := Frm.set f_45 38 (v := .int .i64 (IntKind.wrap .i64 (s_2.2 + 1))) (v' := .int .i64 (s_2.2 + 1)) (by kernel_rfl) (congrArg (Value.int .i64) (inR_wrap g_1))
            have f_47 : Frm 39 [(8, .slice A_2 x_2.length cap_2), (9, .slice A_7 (s_2.1.set x_5.toNat (5 : Int)).length cap_7), (29, .slice A_6 x_4.length cap_6), (30, .int .i64 ((x_4.length : Nat) : Int)), (31, .int .i64 s_2.2), (35, .slice A_7 (s_2.1.set x_5.toNat (5 : Int)).length cap_7), (36, .int .i64 x_5), (37, .pointer (some ((⟨b_4, 0, none⟩ : Addr).add (x_5.toNat * 1)))), (38, .int .i64 (s_2.2 + 1))] a_26 := f_46.keep (ks := [8, 9, 29, 30, 31, 35, 36, 37, 38]) (by kernel_rfl)
            refine W_run (L' := [(8, .slice A_2 x_2.length cap_2), (9, .slice A_7 (s_2.1.set x_5.toNat (5 : Int)).length cap_7), (29, .slice A_6 x_4.length cap_6), (30, .int .i64 ((x_4.length : Nat) : Int)), (31, .int .i64 (s_2.2 + 1))]) (w' := w_7) f_47 1 [8, 9, 29, 30, 31] (by kernel_rfl) (fun a_27 f_48 => ?_)
            refine W_end rfl ?_
            refine T_n ?_
            obtain rfl := Option.some.inj hF_14
            exact ⟨⟨m_4, (s_2.1.set x_5.toNat (5 : Int), s_2.2 + 1), A_7, cap_7, cs_4.set x_5.toNat (.int .i8 5)⟩, Nat.lt_succ_self _, M_7, hM_7, ⟨hn_2, hr_9⟩, f_48.keep (ks := [8, 9, 29, 30, 31]) (by kernel_rfl), p_11⟩
          · have k_6 : ¬ (s_2.2 < ((x_4.length : Nat) : Int)) := iff_f decide_eq_true_iff h_5
            have hF_15 := cnd_f h_5 hs_2
            refine wp_exit ?_
            refine T_x ?_
            refine T_x ?_
            obtain rfl := Option.some.inj hF_15
            exact ⟨rfl, s_2.1, (Option.some.inj hn_2).symm, M_7, hM_7, A_7, cap_7, cs_4, hr_7, f_27.keep (ks := [8, 9]) (by kernel_rfl), p_9⟩
        · rintro _ a_29 w_9 ⟨rfl, y_1, hq_, M_8, hM_8, A_8, cap_10, cs_5, hr_10, f_49, p_12⟩
          subst b_2
          refine B_x ?_
          refine B_n ?_
          have p_15 : Hp w0 M_8 ((Ent.row 3 1 (.slice A_6 x_4.length cap_6) x_4.length cs_3) :: (Ent.row 24 1 (.slice A_8 y_1.length cap_10) y_1.length cs_5) :: H) w_9 := p_12.pull 1 rfl rfl
          refine T_n ?_
          obtain rfl := Option.some.inj hF_10
          exact ⟨⟨m_2, y_1, A_8, cap_10, cs_5⟩, Nat.lt_succ_self _, M_8, ((hM_3.trans hM_6).trans hM_8), ⟨hn_1, hr_10⟩, f_49.keep (ks := [8, 9]) (by kernel_rfl), (p_15.dropN 1)⟩
    · rintro _ a_31 w_11 ⟨rfl, y_2, hq_, M_9, hM_9, A_9, cap_11, cs_6, hr_11, f_50, p_13⟩
      subst b_1
      refine B_r ?_
      refine E_ret2 f_50 rfl (by kernel_rfl : Vc.look _ 6 = some (.slice A_9 y_2.length cap_11)) (by kernel_rfl : Vc.look _ 7 = some (.int .i64 0)) ?_
      obtain rfl := Option.some.inj hF_6
      exact ⟨_, rfl, M_9, _, ((hM_1.trans hM_2).trans hM_9), p_13, ⟨A_9, cap_11, cs_6, rfl, rfl, hr_11⟩⟩
end Go.Proofs.Ytfdmlionhbeebaa
