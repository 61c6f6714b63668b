/-
  Chapter 3: the iterator tree.Walk, by hand: the closure and its maker. Own work.
-/
import Derived.Test.YtekkifakjkhjiaaDoorWalkIt
namespace Go.Proofs.YtekkifakjkhjiaaDoor
open Go Go.Vc Go.RowKit

set_option maxRecDepth 100000 in
theorem walk_iter (v : T_api_Value) (hlen : (walkV v).length ≤ 9223372036854775806) (M : Mem) (bv : Nat) (cs : List Value) (hrep : Rep M (emb_T_api_Value v) cs) (hbv : ∀ j u, cs[j]? = some u → M.cell? ((⟨bv, 0, none⟩ : Addr).add j) = some u) :
    IterOk Tryd.prog 40 [.pointer (some ⟨bv, 0, none⟩)] valsV (walkV v) M := by
  refine ⟨Go.Proofs.enters_of Tryd.func40 (by kernel_rfl) rfl, fun σ β Y s0 r hr l J Jx hJ hJx hY w0 M1 E H w hM0 hj p0 => ?_⟩
  refine R_enter 7 Tryd.func40 rfl rfl (by simp) (fun a0 f0 => ?_)
  replace f0 : Frm 7 [(0, .func (.yield l) #[] #[]), (1, .pointer (some ⟨bv, 0, none⟩))] a0 := f0
  refine R_seq ?_
  refine R_reg ?_
  refine W_box (cs := #[.func (.yield l) #[] #[]]) (T := 27) f0 p0 1 [1, 2] (fun b => [(1, .pointer (some ⟨bv, 0, none⟩)), (2, .pointer (some ⟨b, 0, none⟩))]) (fun _ => by kernel_rfl) (fun by_ M2 w hM1 hc p1 a_1 f_1 => ?_)
  replace f_1 : Frm 7 [(1, .pointer (some ⟨bv, 0, none⟩)), (2, .pointer (some ⟨by_, 0, none⟩))] a_1 := f_1
  refine W_end rfl ?_
  refine T_n ?_
  refine R_seq ?_
  refine R_reg ?_
  refine W_alloc f_1 p1 1 [1, 2, 3] (.cells #[.nilFunc] 52 (0, 0)) (fun b => [(1, .pointer (some ⟨bv, 0, none⟩)), (2, .pointer (some ⟨by_, 0, none⟩)), (3, .pointer (some ⟨b, 0, none⟩))]) (fun _ => by kernel_rfl) (fun bs w p2 a_2 f_2 => ?_)
  replace f_2 : Frm 7 [(1, .pointer (some ⟨bv, 0, none⟩)), (2, .pointer (some ⟨by_, 0, none⟩)), (3, .pointer (some ⟨bs, 0, none⟩))] a_2 := f_2
  refine W_end rfl ?_
  refine T_n ?_
  refine R_seq ?_
  refine R_reg ?_
  refine W_run (L' := [(1, .pointer (some ⟨bv, 0, none⟩)), (3, .pointer (some ⟨bs, 0, none⟩)), (4, .func (.func 41) #[] #[.pointer (some ⟨by_, 0, none⟩), .pointer (some ⟨bs, 0, none⟩)])]) (w' := w) f_2 1 [1, 3, 4] (by kernel_rfl) (fun a_3 f_3 => ?_)
  refine W_store1 f_3 p2 0 (by kernel_rfl) (by kernel_rfl) rfl rfl (b := bs) (j := 0) (v := .func (.func 41) #[] #[.pointer (some ⟨by_, 0, none⟩), .pointer (some ⟨bs, 0, none⟩)]) (by kernel_rfl) (by kernel_rfl) rfl (by kernel_rfl) (by exact rfl) (by simp) (by simp)
    (.obj bs (.cells #[.func (.func 41) #[] #[.pointer (some ⟨by_, 0, none⟩), .pointer (some ⟨bs, 0, none⟩)]] 52 (0, 0)) :: (E ++ H)) (by exact rfl) (fun w p3 a_4 f_4 => ?_)
  refine W_end rfl ?_
  refine T_n ?_
  obtain ⟨hM2, p4⟩ := p3.freeze
  have hself : (M2.add bs (.cells #[.func (.func 41) #[] #[.pointer (some ⟨by_, 0, none⟩), .pointer (some ⟨bs, 0, none⟩)]] 52 (0, 0))).cell? ⟨bs, 0, none⟩ = some (.func (.func 41) #[] #[.pointer (some ⟨by_, 0, none⟩), .pointer (some ⟨bs, 0, none⟩)]) := by rw [add_cell]; rfl
  generalize (M2.add bs (.cells #[.func (.func 41) #[] #[.pointer (some ⟨by_, 0, none⟩), .pointer (some ⟨bs, 0, none⟩)]] 52 (0, 0))) = M3 at hM2 p4 hself
  have hM3 := hM1.trans hM2
  refine R_reg ?_
  refine W_eq (v := .func (.func 41) #[] #[.pointer (some ⟨by_, 0, none⟩), .pointer (some ⟨bs, 0, none⟩)]) f_4 (by kernel_rfl) (by kernel_rfl) rfl rfl (X_load1 (v := .func (.func 41) #[] #[.pointer (some ⟨by_, 0, none⟩), .pointer (some ⟨bs, 0, none⟩)]) rfl (ad := ⟨bs, 0, none⟩) (by kernel_rfl) (by kernel_rfl) (p4.cell hself)) (fun a_5 f_5 => ?_)
  have hcall := walkIns by_ bs l Y J Jx hJ hY (SizeOf.sizeOf v + 1) v (Nat.lt_succ_self _) hlen s0 r hr M3 ⟨bv, 0, none⟩ cs (Rep.mono (hM0.trans hM3) _ _ hrep) (fun j u h => (hM0.trans hM3).cell (hbv j u h)) (hM2.cell (hc 0 _ rfl)) hself w0 M3 E H w (Mem.le_refl _) (hJ _ _ _ _ hM3 hj) p4
  refine W_call (R := fun _ w' => ∃ M' E', M3.le M' ∧ Hp w0 M' (E' ++ H) w' ∧ match r with
    | .nx s' => J s' M' E'
    | .br b => Jx b M' E') f_5 (by kernel_rfl) (by kernel_rfl) rfl rfl (by kernel_rfl) (hcall.mono fun e w' ⟨M', E', g1, g2, g3⟩ => ?_) ?_
  · cases r with
    | nx s' => exact ⟨_, g3.1, M', E', g1, g2, g3.2⟩
    | br b => exact ⟨_, g3.1, M', E', g1, g2, g3.2⟩
  rintro v_1 w_4 ⟨M4, E4, hM4, p_4, g4⟩ a_6 f_6
  refine W_end rfl ?_
  refine E_end0 f_6 rfl ?_
  cases r with
  | nx s' => exact ⟨_, rfl, M4, E4, hM3.trans hM4, p_4, g4⟩
  | br b => exact ⟨_, rfl, M4, E4, hM3.trans hM4, p_4, g4⟩

/-- What a call of tree.Walk makes. -/
def WalkRes (v : T_api_Value) (M : Mem) (u : Value) : Prop := ∃ f caps, u = .func (.func f) #[] caps.toArray ∧ IterOk Tryd.prog f caps valsV (walkV v) M
set_option maxRecDepth 100000 in
theorem walk_ok (v : T_api_Value) (hlen : (walkV v).length ≤ 9223372036854775806) (M : Mem) (cs : List Value) (h0 : Rep M (emb_T_api_Value v) cs) : Ok Tryd.prog M 16 [.agg cs.toArray] (fun M' u => WalkRes v M' u) := by
  intro M1 hM0 w0 H w p0
  replace h0 := Rep.mono hM0 _ _ h0
  obtain ⟨A_1, cap_1, A_2, cap_2, rfl, h_1, h_2⟩ := T_api_Value.opn h0
  refine R_enter 4 Tryd.func16 rfl rfl (by simp) (fun a0 f0 => ?_)
  replace f0 : Frm 4 [(0, .agg #[.int .i8 v.fKind, .bool v.fBool, .int .i64 v.fNum, S v.fText, .slice A_1 v.fList.length cap_1, .slice A_2 v.fKeys.length cap_2])] a0 := f0
  refine R_seq ?_
  refine R_reg ?_
  refine W_box (cs := #[.int .i8 v.fKind, .bool v.fBool, .int .i64 v.fNum, S v.fText, .slice A_1 v.fList.length cap_1, .slice A_2 v.fKeys.length cap_2]) (T := 26) f0 p0 1 [1] (fun b => [(1, .pointer (some ⟨b, 0, none⟩))]) (fun _ => by kernel_rfl) (fun bv M2 w hM1 hc p1 a_1 f_1 => ?_)
  replace f_1 : Frm 4 [(1, .pointer (some ⟨bv, 0, none⟩))] a_1 := f_1
  have hc2 := fz_box hc
  refine W_run (L' := [(1, .pointer (some ⟨bv, 0, none⟩))]) (w' := w) f_1 1 [1] (by kernel_rfl) (fun a_2 f_2 => ?_)
  refine W_end rfl ?_
  refine T_n ?_
  refine R_seq ?_
  refine R_reg ?_
  refine W_run (L' := [(2, .func (.func 40) #[] #[.pointer (some ⟨bv, 0, none⟩)])]) (w' := w) f_2 2 [2] (by kernel_rfl) (fun a_3 f_3 => ?_)
  refine W_end rfl ?_
  refine T_n ?_
  refine wp_ret ?_
  refine E_ret1 f_3 rfl (by kernel_rfl : Vc.look _ 2 = some (.func (.func 40) #[] #[.pointer (some ⟨bv, 0, none⟩)])) ?_
  refine ⟨_, rfl, M2, hM1, p1, 40, [.pointer (some ⟨bv, 0, none⟩)], rfl, ?_⟩
  exact walk_iter v hlen M2 bv _ (Rep.mono hM1 _ _ h0) hc2
end Go.Proofs.YtekkifakjkhjiaaDoor
