/-
  Texts of this claim, packed (what nothing names is left out): O3a, O3, RefsP3, RefsP4. Own work, partly printed by own programs. No condition.
-/
import Derived.Test.YtpjgpnfdadpkkaaPkM2
set_option linter.unusedVariables false
set_option linter.unusedSimpArgs false
set_option maxHeartbeats 2000000
namespace Go.Proofs.Ytpjgpnfdadpkkaa
open Go Go.Vc Go.RowKit
def refs_scope_plain_s1 (n : Nat) (d0_4 : List ((List UInt8) × Bool)) (_ : Unit) (x_1 : TH0) : Option (Lp Unit Unit) :=
    bif (!(decide (x_1.fKind = 3))) then
      (some (.br ()))
    else
      bif (!((mget d0_4 x_1.fName).getD false)) then
        (some (.br ()))
      else
        some (.nx ())
def refs_scope_plain (n : Nat) (d0_0 : List TD0) (d0_1 : List TF0) (d0_2 : List TB0) (d0_3 : List TC0) (d0_4 : List ((List UInt8) × Bool)) (d0_5 : List ((List UInt8) × Bool)) (d0_6 : List ((List UInt8) × TB0)) (d1 : TH0) : Option Int :=
  need (sizeX d1 ≤ 9223372036854775806) <|
  (foldY (refs_scope_plain_s1 n d0_4) (usesV d1) ()).bind fun j_1 =>
  (match j_1 with 
  | .nx _ => some ((0 : Int)) 
  | .br b_5 => some ((160 : Int)))
set_option maxRecDepth 20000 in
theorem refs_scope_plain_ok (n : Nat) (M : Mem) (A0_0 : Option Addr) (cap0_0 : Nat) (d0_0 : List TD0) (h0_0 : Sli M 10 emb_TD0 A0_0 cap0_0 d0_0) (A0_1 : Option Addr) (cap0_1 : Nat) (d0_1 : List TF0) (h0_1 : Sli M 15 emb_TF0 A0_1 cap0_1 d0_1) (A0_2 : Option Addr) (cap0_2 : Nat) (d0_2 : List TB0) (h0_2 : Sli M 7 emb_TB0 A0_2 cap0_2 d0_2) (A0_3 : Option Addr) (cap0_3 : Nat) (d0_3 : List TC0) (h0_3 : Sli M 8 emb_TC0 A0_3 cap0_3 d0_3) (b0_4 : Nat) (d0_4 : List ((List UInt8) × Bool)) (h00_4 : M b0_4 = some (mapO S Value.bool d0_4)) (b0_5 : Nat) (d0_5 : List ((List UInt8) × Bool)) (h00_5 : M b0_5 = some (mapO S Value.bool d0_5)) (b0_6 : Nat) (d0_6 : List ((List UInt8) × TB0)) (m0_6 : List ((List UInt8) × Value)) (h00_6 : M b0_6 = some (mapO S idV m0_6)) (h0_6 : RepMap M emb_TB0 d0_6 m0_6) (c1 : List Value) (d1 : TH0) (h1 : Rep M (emb_TH0 d1) c1) (r : Int) (hF : refs_scope_plain n d0_0 d0_1 d0_2 d0_3 d0_4 d0_5 d0_6 d1 = some r) : Ok Try.prog M 26 [.agg #[.slice A0_0 d0_0.length cap0_0, .slice A0_1 d0_1.length cap0_1, .slice A0_2 d0_2.length cap0_2, .slice A0_3 d0_3.length cap0_3, .map (some b0_4), .map (some b0_5), .map (some b0_6)], .agg c1.toArray] (fun _ v => v = .int .i64 r) := by
 unfold refs_scope_plain at hF
 intro M1 hM0 w0 H w p0
 replace h0_0 := h0_0.mono hM0
 replace h0_1 := h0_1.mono hM0
 replace h0_2 := h0_2.mono hM0
 replace h0_3 := h0_3.mono hM0
 replace h00_4 := hM0 _ _ h00_4
 replace h00_5 := hM0 _ _ h00_5
 replace h00_6 := hM0 _ _ h00_6
 replace h0_6 := RepMap.mono hM0 h0_6
 replace h1 := Rep.mono hM0 _ _ h1
 obtain ⟨A_1, cap_1, rfl, h_1⟩ := TH0.opn h1
 refine R_enterM 20 Try.func26 rfl rfl (by simp) fun a0 f0 => RR (Y12 (cs := #[.slice A0_0 d0_0.length cap0_0, .slice A0_1 d0_1.length cap0_1, .slice A0_2 d0_2.length cap0_2, .slice A0_3 d0_3.length cap0_3, .map (some b0_4), .map (some b0_5), .map (some b0_6)]) (T := 62) f0 p0 fun b_1 M_1 w_1 hM_1 hc_1 p_1 _ f => ?_)
 have hc_2 := fz_box hc_1
 refine Y12 (cs := #[.int .i8 d1.fKind, S d1.fText, .int .i64 d1.fNum, S d1.fName, S d1.fAttr, .slice A_1 d1.fL.length cap_1]) (T := 37) f p_1 fun b_2 M_2 w_2 hM_2 hc_3 p_2 _ f => ?_
 have hc_4 := fz_box hc_3
 refine Y11 f p_2 (.cells #[.int .i64 0] 31 (0, 0)) fun b_3 w_3 p_3 _ f => eT (R_seq (RR (Z (v := .agg #[.int .i8 d1.fKind, S d1.fText, .int .i64 d1.fNum, S d1.fName, S d1.fAttr, .slice A_1 d1.fL.length cap_1]) f (Y27 (cs := [.int .i8 d1.fKind, S d1.fText, .int .i64 d1.fNum, S d1.fName, S d1.fAttr, .slice A_1 d1.fL.length cap_1]) rfl (ad := ⟨b_2, 0, none⟩) (fun j v h => p_3.cell (hc_4 j v h))) fun _ f => ?_)))
 obtain ⟨g_1, hF_1⟩ := nS hF
 refine Y15 f p_3 (all_it d1 g_1 _ [.int .i8 d1.fKind, S d1.fText, .int .i64 d1.fNum, S d1.fName, S d1.fAttr, .slice A_1 d1.fL.length cap_1] (TH0.shutx (x := d1) (h_1.mono (hM_1.trans hM_2)))) fun _ M_3 w_4 hM_3 p_4 q_1 a_5 f => ?_
 obtain ⟨fv_1, cp_1, rfl, hit_1⟩ := q_1
 refine eT (wp_block ?_)
 have f : Frm 20 [(2, .pointer (some (⟨b_1, 0, none⟩))), (4, .pointer (some (⟨b_3, 0, none⟩))), (7, .func (.func fv_1) #[] cp_1.toArray)] a_5 := f.kp
 obtain ⟨j_1, hL_1, hF_2⟩ := bS hF_1
 refine R_range (σ := Unit) (β := Unit) (vals := valsX) (Y := (refs_scope_plain_s1 n d0_4)) (E0 := [Ent.obj b_3 (.cells #[.int .i64 0] 31 (0, 0))]) (H := H) (w0 := w0) (M := M_3) (f := fv_1) (caps := cp_1) f p_4 (by kernel_rfl) (by kernel_rfl) (by kernel_rfl) hit_1.1 (fun (s_1 : Unit) M' E1 => E1 = [Ent.obj b_3 (.cells #[.int .i64 0] 31 (0, 0))]) (fun (y_1 : Unit) M' E1 => E1 = [Ent.obj b_3 (.cells #[.int .i64 160] 31 (0, 0))]) (fun (_ : Unit) => Jmp.ret) () j_1 rfl (fun s_ M_ M2_ E_ hM h => h) (fun s_ M_ M2_ E_ hM h => h) (fun M_ x_ vs_ h => by obtain ⟨c_, h, _⟩ := h; exact ⟨_, h⟩) (hit_1.2 _ _ _ _ _ hL_1) ?_ ?_ ?_
 ·rintro s_1 x_1 r_1 hs_1 l_1 w0 M_4 E_1 H w_5 _ v_1 hM_4 rfl ⟨cc_1, hv_1, hr_1⟩ p_5 f
  obtain rfl : v_1 = .agg cc_1.toArray := by simpa using hv_1
  unfold refs_scope_plain_s1 at hs_1
  obtain ⟨A_2, cap_2, rfl, h_2⟩ := TH0.opn hr_1
  refine RI_reg (then_out F_out) (by kernel_rfl) (Y11 f p_5 (.cells #[.int .i8 0, S [], .int .i64 0, S [], S [], .slice none 0 0] 37 (0, 0)) fun b_4 w_6 p_6 _ f => Y22 (vs := [.int .i8 x_1.fKind, S x_1.fText, .int .i64 x_1.fNum, S x_1.fName, S x_1.fAttr, .slice A_2 x_1.fL.length cap_2]) (j := 0) f p_6 rfl rfl (by simp [Value.oneCell', S]) (by simp) (by decide) (cs' := #[.int .i8 x_1.fKind, S x_1.fText, .int .i64 x_1.fNum, S x_1.fName, S x_1.fAttr, .slice A_2 x_1.fL.length cap_2]) (by kernel_rfl) fun w_7 p_7 _ f => eT (⟨M_4, [Ent.obj b_4 (.cells #[.int .i8 x_1.fKind, S x_1.fText, .int .i64 x_1.fNum, S x_1.fName, S x_1.fAttr, .slice A_2 x_1.fL.length cap_2] 37 (0, 0)), Ent.obj b_3 (.cells #[.int .i64 0] 31 (0, 0))], (mR _), p_7, fun H w_8 p_8 => ?_⟩))
  refine RI_block (RI_seq (RI_reg (then_out (block_out (RB_out))) (by kernel_rfl) (Y f 1 fun _ f => Z f (Y26 (v := .int .i8 x_1.fKind) rfl (ad := ⟨b_4, 0, none⟩) (p_8.ownCell 0 rfl 0)) fun _ f => Y f 2 fun _ f => ?_)))
  rcases cE hs_1 with ⟨h_3, hF_3⟩ | ⟨h_3, hF_4⟩
  ·have k_1 : ¬ (x_1.fKind = 3) := (not_iff dI).1 h_3
   have f := f.st 12 (cB h_3)
   refine Y f 7 fun _ f => eT (RI_cond_t f (by kernel_rfl) (by kernel_rfl) (RI_seq (RI_reg (then_out (block_out (RB_out))) (by kernel_rfl) (Y21 f p_8 1 rfl rfl (b := b_3) (j := 0) (v := .int .i64 160) rfl (by exact rfl) (by simp) (by simp) ((Ent.obj b_4 (.cells #[.int .i8 x_1.fKind, S x_1.fText, .int .i64 x_1.fNum, S x_1.fName, S x_1.fAttr, .slice A_2 x_1.fL.length cap_2] 37 (0, 0))) :: (Ent.obj b_3 (.cells #[.int .i64 160] 31 (0, 0))) :: H) rfl fun w_9 p_9 _ f => eT (RI_ret (B_r ?_))))))
   obtain rfl := sI hF_3
   exact RB_x rfl ⟨M_4, [Ent.obj b_3 (.cells #[.int .i64 160] 31 (0, 0))], (mR _), (p_9.dropN 1), rfl⟩
  ·have k_2 : ¬ (¬ (x_1.fKind = 3)) := iff_f (not_iff dI) h_3
   have f := f.st 12 (cB h_3)
   refine Y f 1 fun _ f => Y14 f p_8 (fzu ((hM_2.trans hM_3).trans hM_4) hc_2) 4 rfl fun _ f => Y f 1 fun _ f => Z f (Y26 (v := S x_1.fName) rfl (ad := ⟨b_4, 3, none⟩) (p_8.ownCell 0 rfl 3)) fun _ f => Z (v := .bool ((mget d0_4 x_1.fName).getD false)) f (X_lookup1 (ek := S) (ev := Value.bool) (m := d0_4) (k := x_1.fName) (z := false) (kt := 9) (et := 4) rfl (by kernel_rfl) (by kernel_rfl) (by kernel_rfl) (strKey (by kernel_rfl)) (by kernel_rfl) (p_8.mem _ _ ((((hM_1.trans hM_2).trans hM_3).trans hM_4) _ _ h00_4))) fun _ f => Y f 2 fun _ f => eT (RI_cond f (b := !((mget d0_4 x_1.fName).getD false)) (by kernel_rfl) (by kernel_rfl) (fun h_4 => ?_) fun h_4 => ?_)
   ·have k_3 : ((mget d0_4 x_1.fName).getD false) = false := by simpa using h_4
    have hF_5 := cnd_t h_4 hF_4
    refine RI_seq (RI_reg (then_out (block_out (RB_out))) (by kernel_rfl) (Y21 f p_8 1 rfl rfl (b := b_3) (j := 0) (v := .int .i64 160) rfl (by exact rfl) (by simp) (by simp) ((Ent.obj b_4 (.cells #[.int .i8 x_1.fKind, S x_1.fText, .int .i64 x_1.fNum, S x_1.fName, S x_1.fAttr, .slice A_2 x_1.fL.length cap_2] 37 (0, 0))) :: (Ent.obj b_3 (.cells #[.int .i64 160] 31 (0, 0))) :: H) rfl fun w_10 p_10 _ f => eT (RI_ret (B_r ?_))))
    obtain rfl := sI hF_5
    exact RB_x rfl ⟨M_4, [Ent.obj b_3 (.cells #[.int .i64 160] 31 (0, 0))], (mR _), (p_10.dropN 1), rfl⟩
   ·have k_4 : ((mget d0_4 x_1.fName).getD false) = true := by simpa using h_4
    have hF_6 := cnd_f h_4 hF_4
    refine RI_skip (B_n ?_)
    obtain rfl := sI hF_6
    exact RB_n ⟨M_4, [Ent.obj b_3 (.cells #[.int .i64 0] 31 (0, 0))], (mR _), (p_8.dropN 1), rfl⟩
 ·rintro s_2 rfl l_2 D_1 rr_1 M_5 E_2 w_11 _ hM_5 rfl p_11 f
  replace p_11 : Hp w0 M_5 ((Ent.obj D_1 (.deferred (some []))) :: (Ent.obj b_3 (.cells #[.int .i64 0] 31 (0, 0))) :: H) w_11 := p_11.drop
  replace hF_2 : (_ : Option _) = some _ := hF_2
  refine B_n (T_n (RR (Y21 f p_11 1 rfl rfl (b := b_3) (j := 0) (v := .int .i64 0) rfl (by exact rfl) (by simp) (by simp) ((Ent.obj D_1 (.deferred (some []))) :: (Ent.obj b_3 (.cells #[.int .i64 0] 31 (0, 0))) :: H) rfl fun w_12 p_12 _ f => eT (wp_ret (E_M1 f p_12 fun w_13 p_13 => V_rv1 rfl (Y8 (v := .int .i64 0) (ad := ⟨b_3, 0, none⟩) f (p_13.ownCell 0 rfl 0)) ?_)))))
  obtain rfl := sI hF_2
  exact ⟨_, rfl, M_5, (((hM_1.trans hM_2).trans hM_3).trans hM_5), (p_13.dropN 1), rfl⟩
 ·rintro b_5 rfl l_3 D_2 rr_2 M_6 E_3 w_14 _ hM_6 hx_1 p_14 f
  obtain rfl := hx_1
  replace p_14 : Hp w0 M_6 ((Ent.obj D_2 (.deferred (some []))) :: (Ent.obj b_3 (.cells #[.int .i64 160] 31 (0, 0))) :: H) w_14 := p_14.drop
  refine B_r (T_r (E_M1 f p_14 fun w_15 p_15 => V_rv1 rfl (Y8 (v := .int .i64 160) (ad := ⟨b_3, 0, none⟩) f (p_15.ownCell 0 rfl 0)) ?_))
  obtain rfl := sI hF_2
  exact ⟨_, rfl, M_6, (((hM_1.trans hM_2).trans hM_3).trans hM_6), (p_15.dropN 1), rfl⟩
def refs_scope_cond_1 (n : Nat) (d0_0 : List TD0) (d0_1 : List TF0) (d0_2 : List TB0) (d0_3 : List TC0) (d0_4 : List ((List UInt8) × Bool)) (d0_5 : List ((List UInt8) × Bool)) (d0_6 : List ((List UInt8) × TB0)) (d1 : TF0) : Option Int :=
  (refs_scope_plain n d0_0 d0_1 d0_2 d0_3 d0_4 d0_5 d0_6 (⟨d1.fA.fKind, d1.fA.fText, d1.fA.fNum, d1.fA.fName, d1.fA.fAttr, d1.fA.fL⟩ : TH0)).bind fun x_1 =>
  some (x_1)
theorem refs_scope_cond_1_ok (n : Nat) (M : Mem) (A0_0 : Option Addr) (cap0_0 : Nat) (d0_0 : List TD0) (h0_0 : Sli M 10 emb_TD0 A0_0 cap0_0 d0_0) (A0_1 : Option Addr) (cap0_1 : Nat) (d0_1 : List TF0) (h0_1 : Sli M 15 emb_TF0 A0_1 cap0_1 d0_1) (A0_2 : Option Addr) (cap0_2 : Nat) (d0_2 : List TB0) (h0_2 : Sli M 7 emb_TB0 A0_2 cap0_2 d0_2) (A0_3 : Option Addr) (cap0_3 : Nat) (d0_3 : List TC0) (h0_3 : Sli M 8 emb_TC0 A0_3 cap0_3 d0_3) (b0_4 : Nat) (d0_4 : List ((List UInt8) × Bool)) (h00_4 : M b0_4 = some (mapO S Value.bool d0_4)) (b0_5 : Nat) (d0_5 : List ((List UInt8) × Bool)) (h00_5 : M b0_5 = some (mapO S Value.bool d0_5)) (b0_6 : Nat) (d0_6 : List ((List UInt8) × TB0)) (m0_6 : List ((List UInt8) × Value)) (h00_6 : M b0_6 = some (mapO S idV m0_6)) (h0_6 : RepMap M emb_TB0 d0_6 m0_6) (ad0 : Addr) (q0 : ∀ j v, [(.slice A0_0 d0_0.length cap0_0 : Value), .slice A0_1 d0_1.length cap0_1, .slice A0_2 d0_2.length cap0_2, .slice A0_3 d0_3.length cap0_3, .map (some b0_4), .map (some b0_5), .map (some b0_6)][j]? = some v → M.cell? (ad0.add j) = some v) (ad1 : Addr) (c1 : List Value) (d1 : TF0) (h1 : Rep M (emb_TF0 d1) c1) (q1 : ∀ j v, c1[j]? = some v → M.cell? (ad1.add j) = some v) (r : Int) (hF : refs_scope_cond_1 n d0_0 d0_1 d0_2 d0_3 d0_4 d0_5 d0_6 d1 = some r) : Ok Try.prog M 25 [.pointer (some ad0), .pointer (some ad1)] (fun _ v => v = .int .i64 r) := by
 unfold refs_scope_cond_1 at hF
 intro M1 hM0 w0 H w p0
 replace h0_0 := h0_0.mono hM0
 replace h0_1 := h0_1.mono hM0
 replace h0_2 := h0_2.mono hM0
 replace h0_3 := h0_3.mono hM0
 replace h00_4 := hM0 _ _ h00_4
 replace h00_5 := hM0 _ _ h00_5
 replace h00_6 := hM0 _ _ h00_6
 replace h0_6 := RepMap.mono hM0 h0_6
 replace q0 := fun j v h => hM0.cell (q0 j v h)
 replace h1 := Rep.mono hM0 _ _ h1
 replace q1 := fun j v h => hM0.cell (q1 j v h)
 obtain ⟨A_1, cap_1, A_2, cap_2, A_3, cap_3, rfl, h_1, h_2, h_3⟩ := TF0.opn h1
 refine R_enter 7 Try.func25 rfl rfl (by simp) fun a0 f0 => RR (Y f0 1 fun _ f => eT (RR (Z (v := .agg #[.slice A0_0 d0_0.length cap0_0, .slice A0_1 d0_1.length cap0_1, .slice A0_2 d0_2.length cap0_2, .slice A0_3 d0_3.length cap0_3, .map (some b0_4), .map (some b0_5), .map (some b0_6)]) f (Y27 (cs := [.slice A0_0 d0_0.length cap0_0, .slice A0_1 d0_1.length cap0_1, .slice A0_2 d0_2.length cap0_2, .slice A0_3 d0_3.length cap0_3, .map (some b0_4), .map (some b0_5), .map (some b0_6)]) rfl (ad := ad0) (fun j v h => p0.cell (q0 j v h))) fun _ f => Y f 1 fun _ f => Z (v := .agg #[.int .i8 d1.fA.fKind, S d1.fA.fText, .int .i64 d1.fA.fNum, S d1.fA.fName, S d1.fA.fAttr, .slice A_1 d1.fA.fL.length cap_1]) f (Y27 (cs := [.int .i8 d1.fA.fKind, S d1.fA.fText, .int .i64 d1.fA.fNum, S d1.fA.fName, S d1.fA.fAttr, .slice A_1 d1.fA.fL.length cap_1]) rfl (ad := ad1.add 2) (fz_part (base := ad1) (fun j v h => p0.cell (q1 j v h)) 2 rfl)) fun _ f => ?_)))
 obtain ⟨x_1, hx_1, hF_1⟩ := bS hF
 refine Y17 f p0 (refs_scope_plain_ok n _ A0_0 cap0_0 d0_0 h0_0 A0_1 cap0_1 d0_1 h0_1 A0_2 cap0_2 d0_2 h0_2 A0_3 cap0_3 d0_3 h0_3 b0_4 d0_4 h00_4 b0_5 d0_5 h00_5 b0_6 d0_6 m0_6 h00_6 h0_6 _ (⟨d1.fA.fKind, d1.fA.fText, d1.fA.fNum, d1.fA.fName, d1.fA.fAttr, d1.fA.fL⟩ : TH0) (TH0.shut h_1) x_1 hx_1) fun w_1 p_1 _ f => Y f 1 fun _ f => eT (wp_ret (E_ret1 f rfl (by kernel_rfl : Vc.look _ 2 = some (.int .i64 x_1)) ?_))
 obtain rfl := sI hF_1
 exact ⟨_, rfl, M1, (mR _), p_1, rfl⟩
def refs_scope_cond_2 (n : Nat) (d0_0 : List TD0) (d0_1 : List TF0) (d0_2 : List TB0) (d0_3 : List TC0) (d0_4 : List ((List UInt8) × Bool)) (d0_5 : List ((List UInt8) × Bool)) (d0_6 : List ((List UInt8) × TB0)) (d1 : TF0) : Option Int :=
  (refs_scope_plain n d0_0 d0_1 d0_2 d0_3 d0_4 d0_5 d0_6 (⟨d1.fB.fKind, d1.fB.fText, d1.fB.fNum, d1.fB.fName, d1.fB.fAttr, d1.fB.fL⟩ : TH0)).bind fun x_1 =>
  some (x_1)
theorem refs_scope_cond_2_ok (n : Nat) (M : Mem) (A0_0 : Option Addr) (cap0_0 : Nat) (d0_0 : List TD0) (h0_0 : Sli M 10 emb_TD0 A0_0 cap0_0 d0_0) (A0_1 : Option Addr) (cap0_1 : Nat) (d0_1 : List TF0) (h0_1 : Sli M 15 emb_TF0 A0_1 cap0_1 d0_1) (A0_2 : Option Addr) (cap0_2 : Nat) (d0_2 : List TB0) (h0_2 : Sli M 7 emb_TB0 A0_2 cap0_2 d0_2) (A0_3 : Option Addr) (cap0_3 : Nat) (d0_3 : List TC0) (h0_3 : Sli M 8 emb_TC0 A0_3 cap0_3 d0_3) (b0_4 : Nat) (d0_4 : List ((List UInt8) × Bool)) (h00_4 : M b0_4 = some (mapO S Value.bool d0_4)) (b0_5 : Nat) (d0_5 : List ((List UInt8) × Bool)) (h00_5 : M b0_5 = some (mapO S Value.bool d0_5)) (b0_6 : Nat) (d0_6 : List ((List UInt8) × TB0)) (m0_6 : List ((List UInt8) × Value)) (h00_6 : M b0_6 = some (mapO S idV m0_6)) (h0_6 : RepMap M emb_TB0 d0_6 m0_6) (ad0 : Addr) (q0 : ∀ j v, [(.slice A0_0 d0_0.length cap0_0 : Value), .slice A0_1 d0_1.length cap0_1, .slice A0_2 d0_2.length cap0_2, .slice A0_3 d0_3.length cap0_3, .map (some b0_4), .map (some b0_5), .map (some b0_6)][j]? = some v → M.cell? (ad0.add j) = some v) (ad1 : Addr) (c1 : List Value) (d1 : TF0) (h1 : Rep M (emb_TF0 d1) c1) (q1 : ∀ j v, c1[j]? = some v → M.cell? (ad1.add j) = some v) (r : Int) (hF : refs_scope_cond_2 n d0_0 d0_1 d0_2 d0_3 d0_4 d0_5 d0_6 d1 = some r) : Ok Try.prog M 27 [.pointer (some ad0), .pointer (some ad1)] (fun _ v => v = .int .i64 r) := by
 unfold refs_scope_cond_2 at hF
 intro M1 hM0 w0 H w p0
 replace h0_0 := h0_0.mono hM0
 replace h0_1 := h0_1.mono hM0
 replace h0_2 := h0_2.mono hM0
 replace h0_3 := h0_3.mono hM0
 replace h00_4 := hM0 _ _ h00_4
 replace h00_5 := hM0 _ _ h00_5
 replace h00_6 := hM0 _ _ h00_6
 replace h0_6 := RepMap.mono hM0 h0_6
 replace q0 := fun j v h => hM0.cell (q0 j v h)
 replace h1 := Rep.mono hM0 _ _ h1
 replace q1 := fun j v h => hM0.cell (q1 j v h)
 obtain ⟨A_1, cap_1, A_2, cap_2, A_3, cap_3, rfl, h_1, h_2, h_3⟩ := TF0.opn h1
 refine R_enter 7 Try.func27 rfl rfl (by simp) fun a0 f0 => RR (Y f0 1 fun _ f => eT (RR (Z (v := .agg #[.slice A0_0 d0_0.length cap0_0, .slice A0_1 d0_1.length cap0_1, .slice A0_2 d0_2.length cap0_2, .slice A0_3 d0_3.length cap0_3, .map (some b0_4), .map (some b0_5), .map (some b0_6)]) f (Y27 (cs := [.slice A0_0 d0_0.length cap0_0, .slice A0_1 d0_1.length cap0_1, .slice A0_2 d0_2.length cap0_2, .slice A0_3 d0_3.length cap0_3, .map (some b0_4), .map (some b0_5), .map (some b0_6)]) rfl (ad := ad0) (fun j v h => p0.cell (q0 j v h))) fun _ f => Y f 1 fun _ f => Z (v := .agg #[.int .i8 d1.fB.fKind, S d1.fB.fText, .int .i64 d1.fB.fNum, S d1.fB.fName, S d1.fB.fAttr, .slice A_2 d1.fB.fL.length cap_2]) f (Y27 (cs := [.int .i8 d1.fB.fKind, S d1.fB.fText, .int .i64 d1.fB.fNum, S d1.fB.fName, S d1.fB.fAttr, .slice A_2 d1.fB.fL.length cap_2]) rfl (ad := ad1.add 8) (fz_part (base := ad1) (fun j v h => p0.cell (q1 j v h)) 8 rfl)) fun _ f => ?_)))
 obtain ⟨x_1, hx_1, hF_1⟩ := bS hF
 refine Y17 f p0 (refs_scope_plain_ok n _ A0_0 cap0_0 d0_0 h0_0 A0_1 cap0_1 d0_1 h0_1 A0_2 cap0_2 d0_2 h0_2 A0_3 cap0_3 d0_3 h0_3 b0_4 d0_4 h00_4 b0_5 d0_5 h00_5 b0_6 d0_6 m0_6 h00_6 h0_6 _ (⟨d1.fB.fKind, d1.fB.fText, d1.fB.fNum, d1.fB.fName, d1.fB.fAttr, d1.fB.fL⟩ : TH0) (TH0.shut h_2) x_1 hx_1) fun w_1 p_1 _ f => Y f 1 fun _ f => eT (wp_ret (E_ret1 f rfl (by kernel_rfl : Vc.look _ 2 = some (.int .i64 x_1)) ?_))
 obtain rfl := sI hF_1
 exact ⟨_, rfl, M1, (mR _), p_1, rfl⟩
def refs_first (n : Nat) (d0_0_0_0 : List TD0) (d0_0_0_1 : List TF0) (d0_0_0_2 : List TB0) (d0_0_0_3 : List TC0) (d0_0_0_4 : List ((List UInt8) × Bool)) (d0_0_0_5 : List ((List UInt8) × Bool)) (d0_0_0_6 : List ((List UInt8) × TB0)) (d0_0_1 : TF0) (d0_1_0_0 : List TD0) (d0_1_0_1 : List TF0) (d0_1_0_2 : List TB0) (d0_1_0_3 : List TC0) (d0_1_0_4 : List ((List UInt8) × Bool)) (d0_1_0_5 : List ((List UInt8) × Bool)) (d0_1_0_6 : List ((List UInt8) × TB0)) (d0_1_1 : TF0) : Option Int :=
  (refs_scope_cond_1 n d0_0_0_0 d0_0_0_1 d0_0_0_2 d0_0_0_3 d0_0_0_4 d0_0_0_5 d0_0_0_6 d0_0_1).bind fun x_1 =>
  bif (!(decide (x_1 = 0))) then
    (some (x_1))
  else
    (refs_scope_cond_2 n d0_1_0_0 d0_1_0_1 d0_1_0_2 d0_1_0_3 d0_1_0_4 d0_1_0_5 d0_1_0_6 d0_1_1).bind fun x_2 =>
    bif (!(decide (x_2 = 0))) then
      (some (x_2))
    else
      some ((0 : Int))
set_option maxRecDepth 20000 in
theorem refs_first_ok (n : Nat) (M : Mem) (A0_0_0_0 : Option Addr) (cap0_0_0_0 : Nat) (d0_0_0_0 : List TD0) (h0_0_0_0 : Sli M 10 emb_TD0 A0_0_0_0 cap0_0_0_0 d0_0_0_0) (A0_0_0_1 : Option Addr) (cap0_0_0_1 : Nat) (d0_0_0_1 : List TF0) (h0_0_0_1 : Sli M 15 emb_TF0 A0_0_0_1 cap0_0_0_1 d0_0_0_1) (A0_0_0_2 : Option Addr) (cap0_0_0_2 : Nat) (d0_0_0_2 : List TB0) (h0_0_0_2 : Sli M 7 emb_TB0 A0_0_0_2 cap0_0_0_2 d0_0_0_2) (A0_0_0_3 : Option Addr) (cap0_0_0_3 : Nat) (d0_0_0_3 : List TC0) (h0_0_0_3 : Sli M 8 emb_TC0 A0_0_0_3 cap0_0_0_3 d0_0_0_3) (b0_0_0_4 : Nat) (d0_0_0_4 : List ((List UInt8) × Bool)) (h00_0_0_4 : M b0_0_0_4 = some (mapO S Value.bool d0_0_0_4)) (b0_0_0_5 : Nat) (d0_0_0_5 : List ((List UInt8) × Bool)) (h00_0_0_5 : M b0_0_0_5 = some (mapO S Value.bool d0_0_0_5)) (b0_0_0_6 : Nat) (d0_0_0_6 : List ((List UInt8) × TB0)) (m0_0_0_6 : List ((List UInt8) × Value)) (h00_0_0_6 : M b0_0_0_6 = some (mapO S idV m0_0_0_6)) (h0_0_0_6 : RepMap M emb_TB0 d0_0_0_6 m0_0_0_6) (ad0_0_0 : Addr) (q0_0_0 : ∀ j v, [(.slice A0_0_0_0 d0_0_0_0.length cap0_0_0_0 : Value), .slice A0_0_0_1 d0_0_0_1.length cap0_0_0_1, .slice A0_0_0_2 d0_0_0_2.length cap0_0_0_2, .slice A0_0_0_3 d0_0_0_3.length cap0_0_0_3, .map (some b0_0_0_4), .map (some b0_0_0_5), .map (some b0_0_0_6)][j]? = some v → M.cell? (ad0_0_0.add j) = some v) (ad0_0_1 : Addr) (c0_0_1 : List Value) (d0_0_1 : TF0) (h0_0_1 : Rep M (emb_TF0 d0_0_1) c0_0_1) (q0_0_1 : ∀ j v, c0_0_1[j]? = some v → M.cell? (ad0_0_1.add j) = some v) (A0_1_0_0 : Option Addr) (cap0_1_0_0 : Nat) (d0_1_0_0 : List TD0) (h0_1_0_0 : Sli M 10 emb_TD0 A0_1_0_0 cap0_1_0_0 d0_1_0_0) (A0_1_0_1 : Option Addr) (cap0_1_0_1 : Nat) (d0_1_0_1 : List TF0) (h0_1_0_1 : Sli M 15 emb_TF0 A0_1_0_1 cap0_1_0_1 d0_1_0_1) (A0_1_0_2 : Option Addr) (cap0_1_0_2 : Nat) (d0_1_0_2 : List TB0) (h0_1_0_2 : Sli M 7 emb_TB0 A0_1_0_2 cap0_1_0_2 d0_1_0_2) (A0_1_0_3 : Option Addr) (cap0_1_0_3 : Nat) (d0_1_0_3 : List TC0) (h0_1_0_3 : Sli M 8 emb_TC0 A0_1_0_3 cap0_1_0_3 d0_1_0_3) (b0_1_0_4 : Nat) (d0_1_0_4 : List ((List UInt8) × Bool)) (h00_1_0_4 : M b0_1_0_4 = some (mapO S Value.bool d0_1_0_4)) (b0_1_0_5 : Nat) (d0_1_0_5 : List ((List UInt8) × Bool)) (h00_1_0_5 : M b0_1_0_5 = some (mapO S Value.bool d0_1_0_5)) (b0_1_0_6 : Nat) (d0_1_0_6 : List ((List UInt8) × TB0)) (m0_1_0_6 : List ((List UInt8) × Value)) (h00_1_0_6 : M b0_1_0_6 = some (mapO S idV m0_1_0_6)) (h0_1_0_6 : RepMap M emb_TB0 d0_1_0_6 m0_1_0_6) (ad0_1_0 : Addr) (q0_1_0 : ∀ j v, [(.slice A0_1_0_0 d0_1_0_0.length cap0_1_0_0 : Value), .slice A0_1_0_1 d0_1_0_1.length cap0_1_0_1, .slice A0_1_0_2 d0_1_0_2.length cap0_1_0_2, .slice A0_1_0_3 d0_1_0_3.length cap0_1_0_3, .map (some b0_1_0_4), .map (some b0_1_0_5), .map (some b0_1_0_6)][j]? = some v → M.cell? (ad0_1_0.add j) = some v) (ad0_1_1 : Addr) (c0_1_1 : List Value) (d0_1_1 : TF0) (h0_1_1 : Rep M (emb_TF0 d0_1_1) c0_1_1) (q0_1_1 : ∀ j v, c0_1_1[j]? = some v → M.cell? (ad0_1_1.add j) = some v) (ad0 : Addr) (q0 : ∀ j v, [(.func (.func 25) #[] #[.pointer (some ad0_0_0), .pointer (some ad0_0_1)] : Value), .func (.func 27) #[] #[.pointer (some ad0_1_0), .pointer (some ad0_1_1)]][j]? = some v → M.cell? (ad0.add j) = some v) (r : Int) (hF : refs_first n d0_0_0_0 d0_0_0_1 d0_0_0_2 d0_0_0_3 d0_0_0_4 d0_0_0_5 d0_0_0_6 d0_0_1 d0_1_0_0 d0_1_0_1 d0_1_0_2 d0_1_0_3 d0_1_0_4 d0_1_0_5 d0_1_0_6 d0_1_1 = some r) : Ok Try.prog M 24 [.slice (some ad0) 2 2] (fun _ v => v = .int .i64 r) := by
 unfold refs_first at hF
 intro M1 hM0 w0 H w p0
 replace h0_0_0_0 := h0_0_0_0.mono hM0
 replace h0_0_0_1 := h0_0_0_1.mono hM0
 replace h0_0_0_2 := h0_0_0_2.mono hM0
 replace h0_0_0_3 := h0_0_0_3.mono hM0
 replace h00_0_0_4 := hM0 _ _ h00_0_0_4
 replace h00_0_0_5 := hM0 _ _ h00_0_0_5
 replace h00_0_0_6 := hM0 _ _ h00_0_0_6
 replace h0_0_0_6 := RepMap.mono hM0 h0_0_0_6
 replace q0_0_0 := fun j v h => hM0.cell (q0_0_0 j v h)
 replace h0_0_1 := Rep.mono hM0 _ _ h0_0_1
 replace q0_0_1 := fun j v h => hM0.cell (q0_0_1 j v h)
 replace h0_1_0_0 := h0_1_0_0.mono hM0
 replace h0_1_0_1 := h0_1_0_1.mono hM0
 replace h0_1_0_2 := h0_1_0_2.mono hM0
 replace h0_1_0_3 := h0_1_0_3.mono hM0
 replace h00_1_0_4 := hM0 _ _ h00_1_0_4
 replace h00_1_0_5 := hM0 _ _ h00_1_0_5
 replace h00_1_0_6 := hM0 _ _ h00_1_0_6
 replace h0_1_0_6 := RepMap.mono hM0 h0_1_0_6
 replace q0_1_0 := fun j v h => hM0.cell (q0_1_0 j v h)
 replace h0_1_1 := Rep.mono hM0 _ _ h0_1_1
 replace q0_1_1 := fun j v h => hM0.cell (q0_1_1 j v h)
 replace q0 := fun j v h => hM0.cell (q0 j v h)
 obtain ⟨A_1, cap_1, A_2, cap_2, A_3, cap_3, rfl, h_1, h_2, h_3⟩ := TF0.opn h0_0_1
 obtain ⟨A_4, cap_4, A_5, cap_5, A_6, cap_6, rfl, h_4, h_5, h_6⟩ := TF0.opn h0_1_1
 refine R_enter 18 Try.func24 rfl rfl (by simp) fun a0 f0 => RR (Y f0 1 fun _ f => eT (R_seq (RR (Y f 3 fun _ f => eT (wp_block (wp_loop_rounds 7 (rounds_go (RR (Y f 1 fun _ f => eT (R_seq ?_))))))))))
 refine Y7 f (wp_skip (T_n (R_seq (wp_block (RR (Z f (Y24 rfl (ad := ad0) (len := 2) (cap := 2) (k := .i64) (i := 0) (e := 76) (sz := 1) (by decide) (by decide)) fun _ f => Y14 f p0 q0 0 rfl fun _ f => Y f 1 fun _ f => eT (RR (Y f 1 fun _ f => ?_))))))))
 obtain ⟨x_1, hx_1, hF_1⟩ := bS hF
 refine Y17 f p0 (refs_scope_cond_1_ok n _ A0_0_0_0 cap0_0_0_0 d0_0_0_0 h0_0_0_0 A0_0_0_1 cap0_0_0_1 d0_0_0_1 h0_0_0_1 A0_0_0_2 cap0_0_0_2 d0_0_0_2 h0_0_0_2 A0_0_0_3 cap0_0_0_3 d0_0_0_3 h0_0_0_3 b0_0_0_4 d0_0_0_4 h00_0_0_4 b0_0_0_5 d0_0_0_5 h00_0_0_5 b0_0_0_6 d0_0_0_6 m0_0_0_6 h00_0_0_6 h0_0_0_6 ad0_0_0 (q0_0_0) ad0_0_1 [S d0_0_1.fName, .int .i8 d0_0_1.fKind, .int .i8 d0_0_1.fA.fKind, S d0_0_1.fA.fText, .int .i64 d0_0_1.fA.fNum, S d0_0_1.fA.fName, S d0_0_1.fA.fAttr, .slice A_1 d0_0_1.fA.fL.length cap_1, .int .i8 d0_0_1.fB.fKind, S d0_0_1.fB.fText, .int .i64 d0_0_1.fB.fNum, S d0_0_1.fB.fName, S d0_0_1.fB.fAttr, .slice A_2 d0_0_1.fB.fL.length cap_2, .slice A_3 d0_0_1.fL.length cap_3] d0_0_1 (TF0.shutx (x := d0_0_1) h_1 h_2 h_3) (fz_at (q0_0_1) 0 rfl) x_1 hx_1) fun w_1 p_1 _ f => Y f 1 fun _ f => eT (RR (Y f 2 fun _ f => eT (RcF f hF_1 (fun h_7 hF_2 => ?_) fun h_7 hF_3 => ?_)))
 ·have k_1 : ¬ (x_1 = 0) := (not_iff dI).1 h_7
  refine RR (Y f 2 fun _ f => eT (wp_ret (B_r (T_r (T_r (B_r (T_r (E_ret1 f rfl (by kernel_rfl : Vc.look _ 2 = some (.int .i64 x_1)) ?_))))))))
  obtain rfl := sI hF_2
  exact ⟨_, rfl, M1, (mR _), p_1, rfl⟩
 ·have k_2 : ¬ (¬ (x_1 = 0)) := iff_f (not_iff dI) h_7
  refine wp_skip (B_n (T_n (R_reg (Y f 2 fun _ f => eT (rounds_go (RR (Y f 1 fun _ f => eT (R_seq (Y7 f (wp_skip (T_n (R_seq (wp_block (RR (Z f (Y24 rfl (ad := ad0) (len := 2) (cap := 2) (k := .i64) (i := 1) (e := 76) (sz := 1) (by decide) (by decide)) fun _ f => Y14 f p_1 q0 1 rfl fun _ f => ?_)))))))))))))))
  refine Y f 1 fun _ f => eT (RR (Y f 1 fun _ f => ?_))
  obtain ⟨x_2, hx_2, hF_4⟩ := bS hF_3
  refine Y17 f p_1 (refs_scope_cond_2_ok n _ A0_1_0_0 cap0_1_0_0 d0_1_0_0 h0_1_0_0 A0_1_0_1 cap0_1_0_1 d0_1_0_1 h0_1_0_1 A0_1_0_2 cap0_1_0_2 d0_1_0_2 h0_1_0_2 A0_1_0_3 cap0_1_0_3 d0_1_0_3 h0_1_0_3 b0_1_0_4 d0_1_0_4 h00_1_0_4 b0_1_0_5 d0_1_0_5 h00_1_0_5 b0_1_0_6 d0_1_0_6 m0_1_0_6 h00_1_0_6 h0_1_0_6 ad0_1_0 (q0_1_0) ad0_1_1 [S d0_1_1.fName, .int .i8 d0_1_1.fKind, .int .i8 d0_1_1.fA.fKind, S d0_1_1.fA.fText, .int .i64 d0_1_1.fA.fNum, S d0_1_1.fA.fName, S d0_1_1.fA.fAttr, .slice A_4 d0_1_1.fA.fL.length cap_4, .int .i8 d0_1_1.fB.fKind, S d0_1_1.fB.fText, .int .i64 d0_1_1.fB.fNum, S d0_1_1.fB.fName, S d0_1_1.fB.fAttr, .slice A_5 d0_1_1.fB.fL.length cap_5, .slice A_6 d0_1_1.fL.length cap_6] d0_1_1 (TF0.shutx (x := d0_1_1) h_4 h_5 h_6) (fz_at (q0_1_1) 0 rfl) x_2 hx_2) fun w_2 p_2 _ f => Y f 1 fun _ f => eT (RR (Y f 2 fun _ f => eT (RcF f hF_4 (fun h_8 hF_5 => ?_) fun h_8 hF_6 => ?_)))
  ·have k_3 : ¬ (x_2 = 0) := (not_iff dI).1 h_8
   refine RR (Y f 2 fun _ f => eT (wp_ret (B_r (T_r (T_r (B_r (T_r (E_ret1 f rfl (by kernel_rfl : Vc.look _ 2 = some (.int .i64 x_2)) ?_))))))))
   obtain rfl := sI hF_5
   exact ⟨_, rfl, M1, (mR _), p_2, rfl⟩
  ·have k_4 : ¬ (¬ (x_2 = 0)) := iff_f (not_iff dI) h_8
   refine wp_skip (B_n (T_n (R_reg (Y f 2 fun _ f => eT (rounds_go (RR (Y f 1 fun _ f => eT (R_seq (Y6 f (wp_exit (T_x (T_x (B_x (T_n (RR (Y f 1 fun _ f => eT (wp_ret ?_)))))))))))))))))
   refine E_ret1 f rfl (by kernel_rfl : Vc.look _ 2 = some (.int .i64 0)) ?_
   obtain rfl := sI hF_6
   exact ⟨_, rfl, M1, (mR _), p_2, rfl⟩
def refs_scope_cond_s1 (n : Nat) (rec_refs_scope_cond : (List TD0) → (List TF0) → (List TB0) → (List TC0) → (List ((List UInt8) × Bool)) → (List ((List UInt8) × Bool)) → (List ((List UInt8) × TB0)) → TF0 → Option Int) (d0_0 : List TD0) (d0_1 : List TF0) (d0_2 : List TB0) (d0_3 : List TC0) (d0_4 : List ((List UInt8) × Bool)) (d0_5 : List ((List UInt8) × Bool)) (d0_6 : List ((List UInt8) × TB0)) (d1 : TF0) (s_1 : Int) : Option (Lp Int (Sum Int Unit)) :=
    bif (decide (s_1 < ((d1.fL.length : Nat) : Int))) then
      ((getI d1.fL s_1).bind fun x_2 =>
      (rec_refs_scope_cond d0_0 d0_1 d0_2 d0_3 d0_4 d0_5 d0_6 x_2).bind fun x_3 =>
      bif (!(decide (x_3 = 0))) then
        (some (.br (.inl x_3)))
      else
        need (inR .i64 (s_1 + 1)) <|
        some (.nx (s_1 + 1)))
    else
      some (.br (.inr ()))
def refs_scope_cond_b (n : Nat) (rec_refs_scope_cond : (List TD0) → (List TF0) → (List TB0) → (List TC0) → (List ((List UInt8) × Bool)) → (List ((List UInt8) × Bool)) → (List ((List UInt8) × TB0)) → TF0 → Option Int) (d0_0 : List TD0) (d0_1 : List TF0) (d0_2 : List TB0) (d0_3 : List TC0) (d0_4 : List ((List UInt8) × Bool)) (d0_5 : List ((List UInt8) × Bool)) (d0_6 : List ((List UInt8) × TB0)) (d1 : TF0) : Option Int :=
  ((bif (decide (d1.fKind = 0)) then
      ((refs_first n d0_0 d0_1 d0_2 d0_3 d0_4 d0_5 d0_6 d1 d0_0 d0_1 d0_2 d0_3 d0_4 d0_5 d0_6 d1).bind fun x_1 =>
      ((some (x_1) : Option Int)).map Lp.br)
    else
      bif (decide (d1.fKind = 4)) then
        (bif (!((mget d0_5 d1.fName).getD false)) then
          (((some ((150 : Int)) : Option Int)).map Lp.br)
        else
          some (.nx ()))
      else
        some (.nx ()) : Option (Lp Unit Int))).bind fun j => joinF j fun y_1 =>
  (loopF (refs_scope_cond_s1 n rec_refs_scope_cond d0_0 d0_1 d0_2 d0_3 d0_4 d0_5 d0_6 d1) n (0 : Int)).bind fun b_4 =>
  (match b_4 with 
  | .inl y_2 => some (y_2) 
  | .inr y_3 => some ((0 : Int)))
set_option maxRecDepth 20000 in
theorem refs_scope_cond_b_ok (n : Nat) (rec_refs_scope_cond : (List TD0) → (List TF0) → (List TB0) → (List TC0) → (List ((List UInt8) × Bool)) → (List ((List UInt8) × Bool)) → (List ((List UInt8) × TB0)) → TF0 → Option Int) (hrec_refs_scope_cond : ∀ (M : Mem) (A0_0 : Option Addr) (cap0_0 : Nat) (d0_0 : List TD0) (h0_0 : Sli M 10 emb_TD0 A0_0 cap0_0 d0_0) (A0_1 : Option Addr) (cap0_1 : Nat) (d0_1 : List TF0) (h0_1 : Sli M 15 emb_TF0 A0_1 cap0_1 d0_1) (A0_2 : Option Addr) (cap0_2 : Nat) (d0_2 : List TB0) (h0_2 : Sli M 7 emb_TB0 A0_2 cap0_2 d0_2) (A0_3 : Option Addr) (cap0_3 : Nat) (d0_3 : List TC0) (h0_3 : Sli M 8 emb_TC0 A0_3 cap0_3 d0_3) (b0_4 : Nat) (d0_4 : List ((List UInt8) × Bool)) (h00_4 : M b0_4 = some (mapO S Value.bool d0_4)) (b0_5 : Nat) (d0_5 : List ((List UInt8) × Bool)) (h00_5 : M b0_5 = some (mapO S Value.bool d0_5)) (b0_6 : Nat) (d0_6 : List ((List UInt8) × TB0)) (m0_6 : List ((List UInt8) × Value)) (h00_6 : M b0_6 = some (mapO S idV m0_6)) (h0_6 : RepMap M emb_TB0 d0_6 m0_6) (c1 : List Value) (d1 : TF0) (h1 : Rep M (emb_TF0 d1) c1) (r : Int) (hF : rec_refs_scope_cond d0_0 d0_1 d0_2 d0_3 d0_4 d0_5 d0_6 d1 = some r), Ok Try.prog M 15 [.agg #[.slice A0_0 d0_0.length cap0_0, .slice A0_1 d0_1.length cap0_1, .slice A0_2 d0_2.length cap0_2, .slice A0_3 d0_3.length cap0_3, .map (some b0_4), .map (some b0_5), .map (some b0_6)], .agg c1.toArray] (fun _ v => v = .int .i64 r)) (M : Mem) (A0_0 : Option Addr) (cap0_0 : Nat) (d0_0 : List TD0) (h0_0 : Sli M 10 emb_TD0 A0_0 cap0_0 d0_0) (A0_1 : Option Addr) (cap0_1 : Nat) (d0_1 : List TF0) (h0_1 : Sli M 15 emb_TF0 A0_1 cap0_1 d0_1) (A0_2 : Option Addr) (cap0_2 : Nat) (d0_2 : List TB0) (h0_2 : Sli M 7 emb_TB0 A0_2 cap0_2 d0_2) (A0_3 : Option Addr) (cap0_3 : Nat) (d0_3 : List TC0) (h0_3 : Sli M 8 emb_TC0 A0_3 cap0_3 d0_3) (b0_4 : Nat) (d0_4 : List ((List UInt8) × Bool)) (h00_4 : M b0_4 = some (mapO S Value.bool d0_4)) (b0_5 : Nat) (d0_5 : List ((List UInt8) × Bool)) (h00_5 : M b0_5 = some (mapO S Value.bool d0_5)) (b0_6 : Nat) (d0_6 : List ((List UInt8) × TB0)) (m0_6 : List ((List UInt8) × Value)) (h00_6 : M b0_6 = some (mapO S idV m0_6)) (h0_6 : RepMap M emb_TB0 d0_6 m0_6) (c1 : List Value) (d1 : TF0) (h1 : Rep M (emb_TF0 d1) c1) (r : Int) (hF : refs_scope_cond_b n rec_refs_scope_cond d0_0 d0_1 d0_2 d0_3 d0_4 d0_5 d0_6 d1 = some r) : Ok Try.prog M 15 [.agg #[.slice A0_0 d0_0.length cap0_0, .slice A0_1 d0_1.length cap0_1, .slice A0_2 d0_2.length cap0_2, .slice A0_3 d0_3.length cap0_3, .map (some b0_4), .map (some b0_5), .map (some b0_6)], .agg c1.toArray] (fun _ v => v = .int .i64 r) := by
 unfold refs_scope_cond_b at hF
 intro M1 hM0 w0 H w p0
 replace h0_0 := h0_0.mono hM0
 replace h0_1 := h0_1.mono hM0
 replace h0_2 := h0_2.mono hM0
 replace h0_3 := h0_3.mono hM0
 replace h00_4 := hM0 _ _ h00_4
 replace h00_5 := hM0 _ _ h00_5
 replace h00_6 := hM0 _ _ h00_6
 replace h0_6 := RepMap.mono hM0 h0_6
 replace h1 := Rep.mono hM0 _ _ h1
 obtain ⟨A_1, cap_1, A_2, cap_2, A_3, cap_3, rfl, h_1, h_2, h_3⟩ := TF0.opn h1
 refine R_enter 38 Try.func15 rfl rfl (by simp) fun a0 f0 => RR (Y12 (cs := #[.slice A0_0 d0_0.length cap0_0, .slice A0_1 d0_1.length cap0_1, .slice A0_2 d0_2.length cap0_2, .slice A0_3 d0_3.length cap0_3, .map (some b0_4), .map (some b0_5), .map (some b0_6)]) (T := 62) f0 p0 fun b_1 M_1 w_1 hM_1 hc_1 p_1 _ f => ?_)
 have hc_2 := fz_box hc_1
 refine Y12 (cs := #[S d1.fName, .int .i8 d1.fKind, .int .i8 d1.fA.fKind, S d1.fA.fText, .int .i64 d1.fA.fNum, S d1.fA.fName, S d1.fA.fAttr, .slice A_1 d1.fA.fL.length cap_1, .int .i8 d1.fB.fKind, S d1.fB.fText, .int .i64 d1.fB.fNum, S d1.fB.fName, S d1.fB.fAttr, .slice A_2 d1.fB.fL.length cap_2, .slice A_3 d1.fL.length cap_3]) (T := 45) f p_1 fun b_2 M_2 w_2 hM_2 hc_3 p_2 _ f => ?_
 have hc_4 := fz_box hc_3
 refine Y f 1 fun _ f => eT (R_seq (RR (Y f 1 fun _ f => Y14 f p_2 hc_4 1 rfl fun _ f => eT ?_)))
 obtain ⟨j_1, hj_1, hF_1⟩ := bS hF
 refine R_mid (fun a_19 w_5 => ∃ y_1 : Unit, j_1 = .nx y_1 ∧ ∃ M_4 : Mem, M_2.le M_4 ∧ Frm 38 [(2, .pointer (some (⟨b_1, 0, none⟩))), (3, .pointer (some (⟨b_2, 0, none⟩)))] a_19 ∧ Hp w0 M_4 (H) w_5) ?_ ?_
 ·refine wp_block (RR (Y f 2 fun _ f => eT (RcF f hj_1 (fun h_4 hF_2 => ?_) fun h_4 hF_5 => ?_)))
  ·have k_1 := dI.1 h_4
   refine RR (Y f 2 fun _ f => V_allocS (k := 2) (c := 2) f p_2 (.cells #[.func (.func 25) #[] #[.pointer (some (⟨b_1, 0, none⟩)), .pointer (some (⟨b_2, 0, none⟩))], .func (.func 27) #[] #[.pointer (some (⟨b_1, 0, none⟩)), .pointer (some (⟨b_2, 0, none⟩))]] 76 (0, 0)) (by kernel_rfl) (fun _ => by kernel_rfl) fun b_3 w_3 p_3 _ f => ?_)
   obtain ⟨M_3, hM_3, p_4, hc_5⟩ := p_3.fzOwn
   obtain ⟨x_1, hx_1, hF_3⟩ := bS hF_2
   refine Y17 f p_4 (refs_first_ok n _ A0_0 cap0_0 d0_0 (h0_0.mono ((hM_1.trans hM_2).trans hM_3)) A0_1 cap0_1 d0_1 (h0_1.mono ((hM_1.trans hM_2).trans hM_3)) A0_2 cap0_2 d0_2 (h0_2.mono ((hM_1.trans hM_2).trans hM_3)) A0_3 cap0_3 d0_3 (h0_3.mono ((hM_1.trans hM_2).trans hM_3)) b0_4 d0_4 (((hM_1.trans hM_2).trans hM_3) _ _ h00_4) b0_5 d0_5 (((hM_1.trans hM_2).trans hM_3) _ _ h00_5) b0_6 d0_6 m0_6 (((hM_1.trans hM_2).trans hM_3) _ _ h00_6) (h0_6.mono ((hM_1.trans hM_2).trans hM_3)) (⟨b_1, 0, none⟩) ((fzu (hM_2.trans hM_3) hc_2)) (⟨b_2, 0, none⟩) [S d1.fName, .int .i8 d1.fKind, .int .i8 d1.fA.fKind, S d1.fA.fText, .int .i64 d1.fA.fNum, S d1.fA.fName, S d1.fA.fAttr, .slice A_1 d1.fA.fL.length cap_1, .int .i8 d1.fB.fKind, S d1.fB.fText, .int .i64 d1.fB.fNum, S d1.fB.fName, S d1.fB.fAttr, .slice A_2 d1.fB.fL.length cap_2, .slice A_3 d1.fL.length cap_3] d1 (TF0.shutx (x := d1) (h_1.mono ((hM_1.trans hM_2).trans hM_3)) (h_2.mono ((hM_1.trans hM_2).trans hM_3)) (h_3.mono ((hM_1.trans hM_2).trans hM_3))) (fz_at ((fzu hM_3 hc_4)) 0 rfl) A0_0 cap0_0 d0_0 (h0_0.mono ((hM_1.trans hM_2).trans hM_3)) A0_1 cap0_1 d0_1 (h0_1.mono ((hM_1.trans hM_2).trans hM_3)) A0_2 cap0_2 d0_2 (h0_2.mono ((hM_1.trans hM_2).trans hM_3)) A0_3 cap0_3 d0_3 (h0_3.mono ((hM_1.trans hM_2).trans hM_3)) b0_4 d0_4 (((hM_1.trans hM_2).trans hM_3) _ _ h00_4) b0_5 d0_5 (((hM_1.trans hM_2).trans hM_3) _ _ h00_5) b0_6 d0_6 m0_6 (((hM_1.trans hM_2).trans hM_3) _ _ h00_6) (h0_6.mono ((hM_1.trans hM_2).trans hM_3)) (⟨b_1, 0, none⟩) ((fzu (hM_2.trans hM_3) hc_2)) (⟨b_2, 0, none⟩) [S d1.fName, .int .i8 d1.fKind, .int .i8 d1.fA.fKind, S d1.fA.fText, .int .i64 d1.fA.fNum, S d1.fA.fName, S d1.fA.fAttr, .slice A_1 d1.fA.fL.length cap_1, .int .i8 d1.fB.fKind, S d1.fB.fText, .int .i64 d1.fB.fNum, S d1.fB.fName, S d1.fB.fAttr, .slice A_2 d1.fB.fL.length cap_2, .slice A_3 d1.fL.length cap_3] d1 (TF0.shutx (x := d1) (h_1.mono ((hM_1.trans hM_2).trans hM_3)) (h_2.mono ((hM_1.trans hM_2).trans hM_3)) (h_3.mono ((hM_1.trans hM_2).trans hM_3))) (fz_at ((fzu hM_3 hc_4)) 0 rfl) (⟨b_3, 0, none⟩ : Addr) (hc_5) x_1 hx_1) fun w_4 p_5 _ f => Y f 1 fun _ f => eT (wp_ret (B_r ?_))
   have hF_4 := br_elim hF_3 hF_1
   refine T_r (T_r (E_ret1 f rfl (by kernel_rfl : Vc.look _ 4 = some (.int .i64 x_1)) ?_))
   obtain rfl := sI hF_4
   exact ⟨_, rfl, M_3, ((hM_1.trans hM_2).trans hM_3), p_5, rfl⟩
  ·have k_2 := iff_f dI h_4
   refine RR (Y f 2 fun _ f => eT (RcF f hF_5 (fun h_5 hF_6 => ?_) fun h_5 hF_10 => ?_))
   ·have k_3 := dI.1 h_5
    refine RR (Y f 1 fun _ f => Y14 f p_2 (fzu hM_2 hc_2) 5 rfl fun _ f => Y f 1 fun _ f => Y14 f p_2 hc_4 0 rfl fun _ f => Z (v := .bool ((mget d0_5 d1.fName).getD false)) f (X_lookup1 (ek := S) (ev := Value.bool) (m := d0_5) (k := d1.fName) (z := false) (kt := 9) (et := 4) rfl (by kernel_rfl) (by kernel_rfl) (by kernel_rfl) (strKey (by kernel_rfl)) (by kernel_rfl) (p_2.mem _ _ ((hM_1.trans hM_2) _ _ h00_5))) fun _ f => Y f 1 fun _ f => eT (RcF f hF_6 (fun h_6 hF_7 => ?_) fun h_6 hF_9 => ?_))
    ·have k_4 : ((mget d0_5 d1.fName).getD false) = false := by simpa using h_6
     refine RR (Y f 1 fun _ f => eT (wp_ret (B_r ?_)))
     have hF_8 := br_elim hF_7 hF_1
     refine T_r (T_r (E_ret1 f rfl (by kernel_rfl : Vc.look _ 4 = some (.int .i64 150)) ?_))
     obtain rfl := sI hF_8
     exact ⟨_, rfl, M_2, (hM_1.trans hM_2), p_2, rfl⟩
    ·have k_5 : ((mget d0_5 d1.fName).getD false) = true := by simpa using h_6
     refine wp_skip (B_n (T_n ?_))
     exact ⟨(), (sI hF_9).symm, M_2, (mR _), f.kp, p_2⟩
   ·have k_6 := iff_f dI h_5
    refine wp_skip (B_n (T_n ?_))
    exact ⟨(), (sI hF_10).symm, M_2, (mR _), f.kp, p_2⟩
 ·rintro a_19 w_5 ⟨y_1, rfl, M_4, hM_4, f, p_6⟩
  refine T_n (R_seq (RR (Y f 1 fun _ f => Y14 f p_6 (fzu hM_4 hc_4) 14 rfl fun _ f => Y f 2 fun _ f => eT (wp_block ?_))))
  obtain ⟨b_4, hL_1, hF_11⟩ := bS hF_1
  refine wp_mono (Q := fun e a w => (e = .ret ∧ (∃ y_2 : Int, b_4 = .inl y_2 ∧ ∃ M_6 : Mem, M_4.le M_6 ∧ Frm 38 [(4, .int .i64 y_2)] a ∧ Hp w0 M_6 (H) w)) ∨ (e = .exit 1 ∧ (∃ y_3 : Unit, b_4 = .inr y_3 ∧ ∃ M_7 : Mem, M_4.le M_7 ∧ Frm 38 [] a ∧ Hp w0 M_7 (H) w))) (R_loop (n := 38) (w0 := w0) (M := M_4) (fun (x : Nat × Int) => match x with | (m_1, s_1) => [(2, .pointer (some (⟨b_1, 0, none⟩))), (25, .slice A_3 d1.fL.length cap_3), (26, .int .i64 ((d1.fL.length : Nat) : Int)), (27, .int .i64 s_1)]) (fun (x : Nat × Int) => match x with | (m_1, s_1) => (H)) (fun (x : Nat × Int) (MM : Mem) => match x with | (m_1, s_1) => loopF (refs_scope_cond_s1 n rec_refs_scope_cond d0_0 d0_1 d0_2 d0_3 d0_4 d0_5 d0_6 d1) m_1 s_1 = some b_4) (fun (x : Nat × Int) => match x with | (m_1, s_1) => m_1) (n, (0 : Int)) (f.kp) p_6 hL_1 ?_) ?_
  ·rintro ⟨m_1, s_1⟩ M_5 _ w_6 hM_5 I_1 f p_7
   have I_1L := I_1
   obtain ⟨m_2, r_1, rfl, hs_1, hn_1⟩ := loop_step I_1L
   unfold refs_scope_cond_s1 at hs_1
   refine RR (Y f 1 fun _ f => eT (R_seq (RcF f hs_1 (fun h_7 hF_12 => ?_) fun h_7 hF_18 => ?_)))
   ·have k_7 := dI.1 h_7
    refine wp_skip (T_n (R_seq (wp_block (RR ?_))))
    obtain ⟨x_2, hx_2, hF_13⟩ := bS hF_12
    obtain ⟨ad_1, c_1, e_1, -, hr_1, hc_6⟩ := Sli.at_ (h_3.mono (((hM_1.trans hM_2).trans hM_4).trans hM_5)) hx_2
    obtain ⟨A_4, cap_4, A_5, cap_5, A_6, cap_6, rfl, h_8, h_9, h_10⟩ := TF0.opn hr_1
    refine Z f (Y25 e_1 rfl (len := d1.fL.length) (cap := cap_3) (k := .i64) (i := s_1) (e := 45) (sz := 15) (getI_nn hx_2) (getI_lt hx_2)) fun _ f => Z (v := .agg #[S x_2.fName, .int .i8 x_2.fKind, .int .i8 x_2.fA.fKind, S x_2.fA.fText, .int .i64 x_2.fA.fNum, S x_2.fA.fName, S x_2.fA.fAttr, .slice A_4 x_2.fA.fL.length cap_4, .int .i8 x_2.fB.fKind, S x_2.fB.fText, .int .i64 x_2.fB.fNum, S x_2.fB.fName, S x_2.fB.fAttr, .slice A_5 x_2.fB.fL.length cap_5, .slice A_6 x_2.fL.length cap_6]) f (Y27 (cs := [S x_2.fName, .int .i8 x_2.fKind, .int .i8 x_2.fA.fKind, S x_2.fA.fText, .int .i64 x_2.fA.fNum, S x_2.fA.fName, S x_2.fA.fAttr, .slice A_4 x_2.fA.fL.length cap_4, .int .i8 x_2.fB.fKind, S x_2.fB.fText, .int .i64 x_2.fB.fNum, S x_2.fB.fName, S x_2.fB.fAttr, .slice A_5 x_2.fB.fL.length cap_5, .slice A_6 x_2.fL.length cap_6]) rfl (ad := ad_1.add (s_1.toNat * 15)) (fun j v h => p_7.cell (hc_6 j v h))) fun _ f => Y11 f p_7 (.cells #[S [], .int .i8 0, .int .i8 0, S [], .int .i64 0, S [], S [], .slice none 0 0, .int .i8 0, S [], .int .i64 0, S [], S [], .slice none 0 0, .slice none 0 0] 45 (0, 0)) fun b_5 w_7 p_8 _ f => Y22 (vs := [S x_2.fName, .int .i8 x_2.fKind, .int .i8 x_2.fA.fKind, S x_2.fA.fText, .int .i64 x_2.fA.fNum, S x_2.fA.fName, S x_2.fA.fAttr, .slice A_4 x_2.fA.fL.length cap_4, .int .i8 x_2.fB.fKind, S x_2.fB.fText, .int .i64 x_2.fB.fNum, S x_2.fB.fName, S x_2.fB.fAttr, .slice A_5 x_2.fB.fL.length cap_5, .slice A_6 x_2.fL.length cap_6]) (j := 0) f p_8 rfl rfl (by simp [Value.oneCell', S]) (by simp) (by decide) (cs' := #[S x_2.fName, .int .i8 x_2.fKind, .int .i8 x_2.fA.fKind, S x_2.fA.fText, .int .i64 x_2.fA.fNum, S x_2.fA.fName, S x_2.fA.fAttr, .slice A_4 x_2.fA.fL.length cap_4, .int .i8 x_2.fB.fKind, S x_2.fB.fText, .int .i64 x_2.fB.fNum, S x_2.fB.fName, S x_2.fB.fAttr, .slice A_5 x_2.fB.fL.length cap_5, .slice A_6 x_2.fL.length cap_6]) (by kernel_rfl) fun w_8 p_9 _ f => eT (RR (Z (v := .agg #[.slice A0_0 d0_0.length cap0_0, .slice A0_1 d0_1.length cap0_1, .slice A0_2 d0_2.length cap0_2, .slice A0_3 d0_3.length cap0_3, .map (some b0_4), .map (some b0_5), .map (some b0_6)]) f (Y27 (cs := [.slice A0_0 d0_0.length cap0_0, .slice A0_1 d0_1.length cap0_1, .slice A0_2 d0_2.length cap0_2, .slice A0_3 d0_3.length cap0_3, .map (some b0_4), .map (some b0_5), .map (some b0_6)]) rfl (ad := ⟨b_1, 0, none⟩) (fun j v h => p_9.cell ((fzu ((hM_2.trans hM_4).trans hM_5) hc_2) j v h))) fun _ f => Z (v := .agg #[S x_2.fName, .int .i8 x_2.fKind, .int .i8 x_2.fA.fKind, S x_2.fA.fText, .int .i64 x_2.fA.fNum, S x_2.fA.fName, S x_2.fA.fAttr, .slice A_4 x_2.fA.fL.length cap_4, .int .i8 x_2.fB.fKind, S x_2.fB.fText, .int .i64 x_2.fB.fNum, S x_2.fB.fName, S x_2.fB.fAttr, .slice A_5 x_2.fB.fL.length cap_5, .slice A_6 x_2.fL.length cap_6]) f (Y27 (cs := [S x_2.fName, .int .i8 x_2.fKind, .int .i8 x_2.fA.fKind, S x_2.fA.fText, .int .i64 x_2.fA.fNum, S x_2.fA.fName, S x_2.fA.fAttr, .slice A_4 x_2.fA.fL.length cap_4, .int .i8 x_2.fB.fKind, S x_2.fB.fText, .int .i64 x_2.fB.fNum, S x_2.fB.fName, S x_2.fB.fAttr, .slice A_5 x_2.fB.fL.length cap_5, .slice A_6 x_2.fL.length cap_6]) rfl (ad := ⟨b_5, 0, none⟩) (own_cells (p_9.ownCell 0 rfl) 0 rfl)) fun _ f => ?_))
    obtain ⟨x_3, hx_3, hF_14⟩ := bS hF_13
    refine Y17 f p_9 (hrec_refs_scope_cond _ A0_0 cap0_0 d0_0 (h0_0.mono (((hM_1.trans hM_2).trans hM_4).trans hM_5)) A0_1 cap0_1 d0_1 (h0_1.mono (((hM_1.trans hM_2).trans hM_4).trans hM_5)) A0_2 cap0_2 d0_2 (h0_2.mono (((hM_1.trans hM_2).trans hM_4).trans hM_5)) A0_3 cap0_3 d0_3 (h0_3.mono (((hM_1.trans hM_2).trans hM_4).trans hM_5)) b0_4 d0_4 ((((hM_1.trans hM_2).trans hM_4).trans hM_5) _ _ h00_4) b0_5 d0_5 ((((hM_1.trans hM_2).trans hM_4).trans hM_5) _ _ h00_5) b0_6 d0_6 m0_6 ((((hM_1.trans hM_2).trans hM_4).trans hM_5) _ _ h00_6) (h0_6.mono (((hM_1.trans hM_2).trans hM_4).trans hM_5)) _ x_2 (TF0.shutx (x := x_2) h_8 h_9 h_10) x_3 hx_3) fun w_9 p_10 _ f => Y f 1 fun _ f => eT (RR (Y f 2 fun _ f => eT (RcF f hF_14 (fun h_11 hF_15 => ?_) fun h_11 hF_16 => ?_)))
    ·have k_8 : ¬ (x_3 = 0) := (not_iff dI).1 h_11
     refine RR (Y f 2 fun _ f => eT (wp_ret (B_r (T_r (T_r ?_)))))
     obtain rfl := sI hF_15
     exact .inl ⟨rfl, x_3, (sI hn_1).symm, M_5, hM_5, f.kp, (p_10.dropN 1)⟩
    ·have k_9 : ¬ (¬ (x_3 = 0)) := iff_f (not_iff dI) h_11
     refine wp_skip (B_n (T_n (R_reg ?_)))
     obtain ⟨g_1, hF_17⟩ := nS hF_16
     refine Y f 1 fun _ f => ?_
     have f := f.st 37 (congrArg (Value.int .i64) (inR_wrap g_1))
     refine Y f 1 fun _ f => eT ?_
     obtain rfl := sI hF_17
     exact ⟨⟨m_2, s_1 + 1⟩, Nat.lt_succ_self _, M_5, hM_5, hn_1, f.kp, (p_10.dropN 1)⟩
   ·have k_10 := iff_f dI h_7
    refine wp_exit (T_x (T_x ?_))
    obtain rfl := sI hF_18
    exact .inr ⟨rfl, (), (sI hn_1).symm, M_5, hM_5, f.kp, p_7⟩
  ·rintro _ _ w_12 (⟨rfl, y_2, rfl, M_6, hM_6, f, p_11⟩ | ⟨rfl, y_3, rfl, M_7, hM_7, f, p_12⟩)
   ·refine B_r (T_r (E_ret1 f rfl (by kernel_rfl : Vc.look _ 4 = some (.int .i64 y_2)) ?_))
    obtain rfl := sI hF_11
    exact ⟨_, rfl, M_6, (((hM_1.trans hM_2).trans hM_4).trans hM_6), p_11, rfl⟩
   ·refine B_x (T_n (RR (Y f 1 fun _ f => eT (wp_ret (E_ret1 f rfl (by kernel_rfl : Vc.look _ 4 = some (.int .i64 0)) ?_)))))
    obtain rfl := sI hF_11
    exact ⟨_, rfl, M_7, (((hM_1.trans hM_2).trans hM_4).trans hM_7), p_12, rfl⟩
def refs_scope_cond_k (n : Nat) : Nat → (List TD0) → (List TF0) → (List TB0) → (List TC0) → (List ((List UInt8) × Bool)) → (List ((List UInt8) × Bool)) → (List ((List UInt8) × TB0)) → TF0 → Option Int
  | 0 => fun _ _ _ _ _ _ _ _ => none
  | k + 1 => refs_scope_cond_b n (refs_scope_cond_k n k)
def refs_scope_cond (n : Nat) (d0_0 : List TD0) (d0_1 : List TF0) (d0_2 : List TB0) (d0_3 : List TC0) (d0_4 : List ((List UInt8) × Bool)) (d0_5 : List ((List UInt8) × Bool)) (d0_6 : List ((List UInt8) × TB0)) (d1 : TF0) : Option Int := refs_scope_cond_k n n d0_0 d0_1 d0_2 d0_3 d0_4 d0_5 d0_6 d1
theorem refs_scope_cond_ok (n : Nat) (M : Mem) (A0_0 : Option Addr) (cap0_0 : Nat) (d0_0 : List TD0) (h0_0 : Sli M 10 emb_TD0 A0_0 cap0_0 d0_0) (A0_1 : Option Addr) (cap0_1 : Nat) (d0_1 : List TF0) (h0_1 : Sli M 15 emb_TF0 A0_1 cap0_1 d0_1) (A0_2 : Option Addr) (cap0_2 : Nat) (d0_2 : List TB0) (h0_2 : Sli M 7 emb_TB0 A0_2 cap0_2 d0_2) (A0_3 : Option Addr) (cap0_3 : Nat) (d0_3 : List TC0) (h0_3 : Sli M 8 emb_TC0 A0_3 cap0_3 d0_3) (b0_4 : Nat) (d0_4 : List ((List UInt8) × Bool)) (h00_4 : M b0_4 = some (mapO S Value.bool d0_4)) (b0_5 : Nat) (d0_5 : List ((List UInt8) × Bool)) (h00_5 : M b0_5 = some (mapO S Value.bool d0_5)) (b0_6 : Nat) (d0_6 : List ((List UInt8) × TB0)) (m0_6 : List ((List UInt8) × Value)) (h00_6 : M b0_6 = some (mapO S idV m0_6)) (h0_6 : RepMap M emb_TB0 d0_6 m0_6) (c1 : List Value) (d1 : TF0) (h1 : Rep M (emb_TF0 d1) c1) (r : Int) (hF : refs_scope_cond n d0_0 d0_1 d0_2 d0_3 d0_4 d0_5 d0_6 d1 = some r) : Ok Try.prog M 15 [.agg #[.slice A0_0 d0_0.length cap0_0, .slice A0_1 d0_1.length cap0_1, .slice A0_2 d0_2.length cap0_2, .slice A0_3 d0_3.length cap0_3, .map (some b0_4), .map (some b0_5), .map (some b0_6)], .agg c1.toArray] (fun _ v => v = .int .i64 r) := by
 have key : ∀ (k : Nat) (M : Mem) (A0_0 : Option Addr) (cap0_0 : Nat) (d0_0 : List TD0) (h0_0 : Sli M 10 emb_TD0 A0_0 cap0_0 d0_0) (A0_1 : Option Addr) (cap0_1 : Nat) (d0_1 : List TF0) (h0_1 : Sli M 15 emb_TF0 A0_1 cap0_1 d0_1) (A0_2 : Option Addr) (cap0_2 : Nat) (d0_2 : List TB0) (h0_2 : Sli M 7 emb_TB0 A0_2 cap0_2 d0_2) (A0_3 : Option Addr) (cap0_3 : Nat) (d0_3 : List TC0) (h0_3 : Sli M 8 emb_TC0 A0_3 cap0_3 d0_3) (b0_4 : Nat) (d0_4 : List ((List UInt8) × Bool)) (h00_4 : M b0_4 = some (mapO S Value.bool d0_4)) (b0_5 : Nat) (d0_5 : List ((List UInt8) × Bool)) (h00_5 : M b0_5 = some (mapO S Value.bool d0_5)) (b0_6 : Nat) (d0_6 : List ((List UInt8) × TB0)) (m0_6 : List ((List UInt8) × Value)) (h00_6 : M b0_6 = some (mapO S idV m0_6)) (h0_6 : RepMap M emb_TB0 d0_6 m0_6) (c1 : List Value) (d1 : TF0) (h1 : Rep M (emb_TF0 d1) c1) (r : Int) (hF : refs_scope_cond_k n k d0_0 d0_1 d0_2 d0_3 d0_4 d0_5 d0_6 d1 = some r), Ok Try.prog M 15 [.agg #[.slice A0_0 d0_0.length cap0_0, .slice A0_1 d0_1.length cap0_1, .slice A0_2 d0_2.length cap0_2, .slice A0_3 d0_3.length cap0_3, .map (some b0_4), .map (some b0_5), .map (some b0_6)], .agg c1.toArray] (fun _ v => v = .int .i64 r) := by
  intro k
  induction k with
  | zero => intro M A0_0 cap0_0 d0_0 h0_0 A0_1 cap0_1 d0_1 h0_1 A0_2 cap0_2 d0_2 h0_2 A0_3 cap0_3 d0_3 h0_3 b0_4 d0_4 h00_4 b0_5 d0_5 h00_5 b0_6 d0_6 m0_6 h00_6 h0_6 c1 d1 h1 r hF; simp [refs_scope_cond_k] at hF
  | succ k ih => intro M A0_0 cap0_0 d0_0 h0_0 A0_1 cap0_1 d0_1 h0_1 A0_2 cap0_2 d0_2 h0_2 A0_3 cap0_3 d0_3 h0_3 b0_4 d0_4 h00_4 b0_5 d0_5 h00_5 b0_6 d0_6 m0_6 h00_6 h0_6 c1 d1 h1 r hF; exact refs_scope_cond_b_ok n (refs_scope_cond_k n k) ih M A0_0 cap0_0 d0_0 h0_0 A0_1 cap0_1 d0_1 h0_1 A0_2 cap0_2 d0_2 h0_2 A0_3 cap0_3 d0_3 h0_3 b0_4 d0_4 h00_4 b0_5 d0_5 h00_5 b0_6 d0_6 m0_6 h00_6 h0_6 c1 d1 h1 r hF
 exact key n M A0_0 cap0_0 d0_0 h0_0 A0_1 cap0_1 d0_1 h0_1 A0_2 cap0_2 d0_2 h0_2 A0_3 cap0_3 d0_3 h0_3 b0_4 d0_4 h00_4 b0_5 d0_5 h00_5 b0_6 d0_6 m0_6 h00_6 h0_6 c1 d1 h1 r hF
def refs_nested (n : Nat) (d0 : TB0) : Option Bool :=
  some ((decide (d0.fType = [83, 116, 97, 99, 107])))
theorem refs_nested_ok (n : Nat) (M : Mem) (c0 : List Value) (d0 : TB0) (h0 : Rep M (emb_TB0 d0) c0) (r : Bool) (hF : refs_nested n d0 = some r) : Ok Try.prog M 28 [.agg c0.toArray] (fun _ v => v = .bool r) := by
 unfold refs_nested at hF
 intro M1 hM0 w0 H w p0
 replace h0 := Rep.mono hM0 _ _ h0
 obtain ⟨A_1, cap_1, A_2, cap_2, A_3, cap_3, rfl, h_1, h_2, h_3⟩ := TB0.opn h0
 refine R_enter 6 Try.func28 rfl rfl (by simp) fun a0 f0 => RR (Y12 (cs := #[S d0.fId, S d0.fType, S d0.fCond, .slice A_1 d0.fProps.length cap_1, .slice A_2 d0.fDepends.length cap_2, .bool d0.fRetain, .slice A_3 d0.fInner.length cap_3]) (T := 49) f0 p0 fun b_1 M_1 w_1 hM_1 hc_1 p_1 _ f => ?_)
 have hc_2 := fz_box hc_1
 refine Y f 1 fun _ f => eT (RR (Y f 1 fun _ f => Y14 f p_1 hc_2 1 rfl fun _ f => Z f (Y28 rfl (l := d0.fType) (m := [83, 116, 97, 99, 107])) fun _ f => Y f 1 fun _ f => eT (wp_ret (E_ret1 f rfl (by kernel_rfl : Vc.look _ 2 = some (.bool (decide (d0.fType = [83, 116, 97, 99, 107])))) ?_))))
 obtain rfl := sI hF
 exact ⟨_, rfl, M_1, hM_1, p_1, rfl⟩
def refs_yes (n : Nat) (d0 : Bool) (d1 : Int) : Option Int :=
  bif d0 then
    (some ((0 : Int)))
  else
    some (d1)
theorem refs_yes_ok (n : Nat) (M : Mem) (d0 : Bool) (d1 : Int) (r : Int) (hF : refs_yes n d0 d1 = some r) : Ok Try.prog M 31 [.bool d0, .int .i64 d1] (fun _ v => v = .int .i64 r) := by
 unfold refs_yes at hF
 intro M1 hM0 w0 H w p0
 refine R_enter 7 Try.func31 rfl rfl (by simp) fun a0 f0 => RR (Y f0 1 fun _ f => eT (R_seq (RR (Y f 1 fun _ f => eT (RcF f hF (fun h_1 hF_1 => ?_) fun h_1 hF_2 => ?_)))))
 ·refine RR (Y f 1 fun _ f => eT (wp_ret (T_r (E_ret1 f rfl (by kernel_rfl : Vc.look _ 4 = some (.int .i64 0)) ?_))))
  obtain rfl := sI hF_1
  exact ⟨_, rfl, M1, (mR _), p0, rfl⟩
 ·refine wp_skip (T_n (RR (Y f 2 fun _ f => eT (wp_ret (E_ret1 f rfl (by kernel_rfl : Vc.look _ 4 = some (.int .i64 d1)) ?_)))))
  obtain rfl := sI hF_2
  exact ⟨_, rfl, M1, (mR _), p0, rfl⟩
def refs_scope_resource_1 (n : Nat) (d0_0 : List TD0) (d0_1 : List TF0) (d0_2 : List TB0) (d0_3 : List TC0) (d0_4 : List ((List UInt8) × Bool)) (d0_5 : List ((List UInt8) × Bool)) (d0_6 : List ((List UInt8) × TB0)) (d1 : TB0) : Option Int :=
  (refs_yes n (!((mget d0_4 d1.fId).getD false)) (41 : Int)).bind fun x_1 =>
  some (x_1)
theorem refs_scope_resource_1_ok (n : Nat) (M : Mem) (A0_0 : Option Addr) (cap0_0 : Nat) (d0_0 : List TD0) (h0_0 : Sli M 10 emb_TD0 A0_0 cap0_0 d0_0) (A0_1 : Option Addr) (cap0_1 : Nat) (d0_1 : List TF0) (h0_1 : Sli M 15 emb_TF0 A0_1 cap0_1 d0_1) (A0_2 : Option Addr) (cap0_2 : Nat) (d0_2 : List TB0) (h0_2 : Sli M 7 emb_TB0 A0_2 cap0_2 d0_2) (A0_3 : Option Addr) (cap0_3 : Nat) (d0_3 : List TC0) (h0_3 : Sli M 8 emb_TC0 A0_3 cap0_3 d0_3) (b0_4 : Nat) (d0_4 : List ((List UInt8) × Bool)) (h00_4 : M b0_4 = some (mapO S Value.bool d0_4)) (b0_5 : Nat) (d0_5 : List ((List UInt8) × Bool)) (h00_5 : M b0_5 = some (mapO S Value.bool d0_5)) (b0_6 : Nat) (d0_6 : List ((List UInt8) × TB0)) (m0_6 : List ((List UInt8) × Value)) (h00_6 : M b0_6 = some (mapO S idV m0_6)) (h0_6 : RepMap M emb_TB0 d0_6 m0_6) (ad0 : Addr) (q0 : ∀ j v, [(.slice A0_0 d0_0.length cap0_0 : Value), .slice A0_1 d0_1.length cap0_1, .slice A0_2 d0_2.length cap0_2, .slice A0_3 d0_3.length cap0_3, .map (some b0_4), .map (some b0_5), .map (some b0_6)][j]? = some v → M.cell? (ad0.add j) = some v) (ad1 : Addr) (c1 : List Value) (d1 : TB0) (h1 : Rep M (emb_TB0 d1) c1) (q1 : ∀ j v, c1[j]? = some v → M.cell? (ad1.add j) = some v) (r : Int) (hF : refs_scope_resource_1 n d0_0 d0_1 d0_2 d0_3 d0_4 d0_5 d0_6 d1 = some r) : Ok Try.prog M 30 [.pointer (some ad0), .pointer (some ad1)] (fun _ v => v = .int .i64 r) := by
 unfold refs_scope_resource_1 at hF
 intro M1 hM0 w0 H w p0
 replace h0_0 := h0_0.mono hM0
 replace h0_1 := h0_1.mono hM0
 replace h0_2 := h0_2.mono hM0
 replace h0_3 := h0_3.mono hM0
 replace h00_4 := hM0 _ _ h00_4
 replace h00_5 := hM0 _ _ h00_5
 replace h00_6 := hM0 _ _ h00_6
 replace h0_6 := RepMap.mono hM0 h0_6
 replace q0 := fun j v h => hM0.cell (q0 j v h)
 replace h1 := Rep.mono hM0 _ _ h1
 replace q1 := fun j v h => hM0.cell (q1 j v h)
 obtain ⟨A_1, cap_1, A_2, cap_2, A_3, cap_3, rfl, h_1, h_2, h_3⟩ := TB0.opn h1
 refine R_enter 10 Try.func30 rfl rfl (by simp) fun a0 f0 => RR (Y f0 1 fun _ f => eT (RR (Y f 1 fun _ f => Y14 f p0 q0 4 rfl fun _ f => Y f 1 fun _ f => Y14 f p0 q1 0 rfl fun _ f => Z (v := .bool ((mget d0_4 d1.fId).getD false)) f (X_lookup1 (ek := S) (ev := Value.bool) (m := d0_4) (k := d1.fId) (z := false) (kt := 9) (et := 4) rfl (by kernel_rfl) (by kernel_rfl) (by kernel_rfl) (strKey (by kernel_rfl)) (by kernel_rfl) (p0.mem _ _ h00_4)) fun _ f => Y f 1 fun _ f => ?_)))
 obtain ⟨x_1, hx_1, hF_1⟩ := bS hF
 refine Y17 f p0 (refs_yes_ok n _ (!((mget d0_4 d1.fId).getD false)) (41 : Int) x_1 hx_1) fun w_1 p_1 _ f => Y f 1 fun _ f => eT (wp_ret (E_ret1 f rfl (by kernel_rfl : Vc.look _ 2 = some (.int .i64 x_1)) ?_))
 obtain rfl := sI hF_1
 exact ⟨_, rfl, M1, (mR _), p_1, rfl⟩
def refs_scope_resource_2 (n : Nat) (d0 : TB0) (d1_0 : Int) (d2_0 : Int) : Option (Int × Int × Int) :=
  bif (decide (((d0.fInner.length : Nat) : Int) = d1_0)) then
    (bif (decide (d1_0 = 1)) then
      ((refs_yes n (true) (90 : Int)).bind fun x_1 =>
      some ((x_1, d1_0, d2_0)))
    else
      (refs_yes n (decide (d2_0 = 0)) (90 : Int)).bind fun x_2 =>
      some ((x_2, d1_0, d2_0)))
  else
    (refs_yes n (false) (90 : Int)).bind fun x_3 =>
    some ((x_3, d1_0, d2_0))
theorem refs_scope_resource_2_ok (n : Nat) (M : Mem) (ad0 : Addr) (c0 : List Value) (d0 : TB0) (h0 : Rep M (emb_TB0 d0) c0) (q0 : ∀ j v, c0[j]? = some v → M.cell? (ad0.add j) = some v) (b1 : Nat) (d1_0 : Int) (b2 : Nat) (d2_0 : Int) (r : Int × Int × Int) (hF : refs_scope_resource_2 n d0 d1_0 d2_0 = some r) : OkH Try.prog M [Ent.obj b1 (.cells #[.int .i64 d1_0] 3 (0, 0)), Ent.obj b2 (.cells #[.int .i64 d2_0] 31 (0, 0))] 32 [.pointer (some ad0), .pointer (some (⟨b1, 0, none⟩)), .pointer (some (⟨b2, 0, none⟩))] (fun M' E' v => v = .int .i64 r.1 ∧ E' = [Ent.obj b1 (.cells #[.int .i64 r.2.1] 3 (0, 0)), Ent.obj b2 (.cells #[.int .i64 r.2.2] 31 (0, 0))]) := by
 unfold refs_scope_resource_2 at hF
 intro M1 hM0 w0 H w p0
 replace h0 := Rep.mono hM0 _ _ h0
 replace q0 := fun j v h => hM0.cell (q0 j v h)
 obtain ⟨A_1, cap_1, A_2, cap_2, A_3, cap_3, rfl, h_1, h_2, h_3⟩ := TB0.opn h0
 refine R_enter 18 Try.func32 rfl rfl (by simp) fun a0 f0 => RR (Y f0 1 fun _ f => eT (RR (Y f 1 fun _ f => Y14 f p0 q0 6 rfl fun _ f => Y f 1 fun _ f => Z f (Y26 (v := .int .i64 d1_0) rfl (ad := ⟨b1, 0, none⟩) (p0.ownCell 0 rfl 0)) fun _ f => Y f 2 fun _ f => ?_)))
 rcases cE hF with ⟨h_4, hF_1⟩ | ⟨h_4, hF_6⟩
 ·have k_1 := dI.1 h_4
  have f := f.st 9 (cB h_4)
  refine Z f (Y26 (v := .int .i64 d1_0) rfl (ad := ⟨b1, 0, none⟩) (p0.ownCell 0 rfl 0)) fun _ f => Y f 2 fun _ f => ?_
  rcases cE hF_1 with ⟨h_5, hF_2⟩ | ⟨h_5, hF_4⟩
  ·have k_2 := dI.1 h_5
   have f := f.st 12 (cB h_5)
   refine Y f 4 fun _ f => ?_
   obtain ⟨x_1, hx_1, hF_3⟩ := bS hF_2
   refine Y17 f p0 (refs_yes_ok n _ (true) (90 : Int) x_1 hx_1) fun w_1 p_1 _ f => Y f 1 fun _ f => eT (wp_ret (E_ret1 f rfl (by kernel_rfl : Vc.look _ 3 = some (.int .i64 x_1)) ?_))
   obtain rfl := sI hF_3
   exact ⟨_, rfl, M1, _, (mR _), p_1, ⟨rfl, rfl⟩⟩
  ·have k_3 := iff_f dI h_5
   have f := f.st 12 (cB h_5)
   refine Z f (Y26 (v := .int .i64 d2_0) rfl (ad := ⟨b2, 0, none⟩) (p0.ownCell 1 rfl 0)) fun _ f => Y f 3 fun _ f => ?_
   obtain ⟨x_2, hx_2, hF_5⟩ := bS hF_4
   refine Y17 f p0 (refs_yes_ok n _ (decide (d2_0 = 0)) (90 : Int) x_2 hx_2) fun w_2 p_2 _ f => Y f 1 fun _ f => eT (wp_ret (E_ret1 f rfl (by kernel_rfl : Vc.look _ 3 = some (.int .i64 x_2)) ?_))
   obtain rfl := sI hF_5
   exact ⟨_, rfl, M1, _, (mR _), p_2, ⟨rfl, rfl⟩⟩
 ·have k_4 := iff_f dI h_4
  have f := f.st 9 (cB h_4)
  refine Y f 7 fun _ f => ?_
  obtain ⟨x_3, hx_3, hF_7⟩ := bS hF_6
  refine Y17 f p0 (refs_yes_ok n _ (false) (90 : Int) x_3 hx_3) fun w_3 p_3 _ f => Y f 1 fun _ f => eT (wp_ret (E_ret1 f rfl (by kernel_rfl : Vc.look _ 3 = some (.int .i64 x_3)) ?_))
  obtain rfl := sI hF_7
  exact ⟨_, rfl, M1, _, (mR _), p_3, ⟨rfl, rfl⟩⟩
def refs_scope_resource_3 (n : Nat) (d0 : TB0) (d1_0 : List TD0) (d1_1 : List TF0) (d1_2 : List TB0) (d1_3 : List TC0) (d1_4 : List ((List UInt8) × Bool)) (d1_5 : List ((List UInt8) × Bool)) (d1_6 : List ((List UInt8) × TB0)) : Option Int :=
  bif (decide (d0.fCond = [])) then
    ((refs_yes n (true) (150 : Int)).bind fun x_1 =>
    some (x_1))
  else
    (refs_yes n ((mget d1_5 d0.fCond).getD false) (150 : Int)).bind fun x_2 =>
    some (x_2)
theorem refs_scope_resource_3_ok (n : Nat) (M : Mem) (ad0 : Addr) (c0 : List Value) (d0 : TB0) (h0 : Rep M (emb_TB0 d0) c0) (q0 : ∀ j v, c0[j]? = some v → M.cell? (ad0.add j) = some v) (A1_0 : Option Addr) (cap1_0 : Nat) (d1_0 : List TD0) (h1_0 : Sli M 10 emb_TD0 A1_0 cap1_0 d1_0) (A1_1 : Option Addr) (cap1_1 : Nat) (d1_1 : List TF0) (h1_1 : Sli M 15 emb_TF0 A1_1 cap1_1 d1_1) (A1_2 : Option Addr) (cap1_2 : Nat) (d1_2 : List TB0) (h1_2 : Sli M 7 emb_TB0 A1_2 cap1_2 d1_2) (A1_3 : Option Addr) (cap1_3 : Nat) (d1_3 : List TC0) (h1_3 : Sli M 8 emb_TC0 A1_3 cap1_3 d1_3) (b1_4 : Nat) (d1_4 : List ((List UInt8) × Bool)) (h01_4 : M b1_4 = some (mapO S Value.bool d1_4)) (b1_5 : Nat) (d1_5 : List ((List UInt8) × Bool)) (h01_5 : M b1_5 = some (mapO S Value.bool d1_5)) (b1_6 : Nat) (d1_6 : List ((List UInt8) × TB0)) (m1_6 : List ((List UInt8) × Value)) (h01_6 : M b1_6 = some (mapO S idV m1_6)) (h1_6 : RepMap M emb_TB0 d1_6 m1_6) (ad1 : Addr) (q1 : ∀ j v, [(.slice A1_0 d1_0.length cap1_0 : Value), .slice A1_1 d1_1.length cap1_1, .slice A1_2 d1_2.length cap1_2, .slice A1_3 d1_3.length cap1_3, .map (some b1_4), .map (some b1_5), .map (some b1_6)][j]? = some v → M.cell? (ad1.add j) = some v) (r : Int) (hF : refs_scope_resource_3 n d0 d1_0 d1_1 d1_2 d1_3 d1_4 d1_5 d1_6 = some r) : Ok Try.prog M 33 [.pointer (some ad0), .pointer (some ad1)] (fun _ v => v = .int .i64 r) := by
 unfold refs_scope_resource_3 at hF
 intro M1 hM0 w0 H w p0
 replace h0 := Rep.mono hM0 _ _ h0
 replace q0 := fun j v h => hM0.cell (q0 j v h)
 replace h1_0 := h1_0.mono hM0
 replace h1_1 := h1_1.mono hM0
 replace h1_2 := h1_2.mono hM0
 replace h1_3 := h1_3.mono hM0
 replace h01_4 := hM0 _ _ h01_4
 replace h01_5 := hM0 _ _ h01_5
 replace h01_6 := hM0 _ _ h01_6
 replace h1_6 := RepMap.mono hM0 h1_6
 replace q1 := fun j v h => hM0.cell (q1 j v h)
 obtain ⟨A_1, cap_1, A_2, cap_2, A_3, cap_3, rfl, h_1, h_2, h_3⟩ := TB0.opn h0
 refine R_enter 14 Try.func33 rfl rfl (by simp) fun a0 f0 => RR (Y f0 1 fun _ f => eT (RR (Y f 1 fun _ f => Y14 f p0 q0 2 rfl fun _ f => Z f (Y28 rfl (l := d0.fCond) (m := [])) fun _ f => Y f 1 fun _ f => ?_)))
 rcases cE hF with ⟨h_4, hF_1⟩ | ⟨h_4, hF_3⟩
 ·have k_1 := dI.1 h_4
  have f := f.st 6 (cB h_4)
  refine Y f 6 fun _ f => ?_
  obtain ⟨x_1, hx_1, hF_2⟩ := bS hF_1
  refine Y17 f p0 (refs_yes_ok n _ (true) (150 : Int) x_1 hx_1) fun w_1 p_1 _ f => Y f 1 fun _ f => eT (wp_ret (E_ret1 f rfl (by kernel_rfl : Vc.look _ 2 = some (.int .i64 x_1)) ?_))
  obtain rfl := sI hF_2
  exact ⟨_, rfl, M1, (mR _), p_1, rfl⟩
 ·have k_2 := iff_f dI h_4
  have f := f.st 6 (cB h_4)
  refine Y f 1 fun _ f => Y14 f p0 q1 5 rfl fun _ f => Y f 1 fun _ f => Y14 f p0 q0 2 rfl fun _ f => Z (v := .bool ((mget d1_5 d0.fCond).getD false)) f (X_lookup1 (ek := S) (ev := Value.bool) (m := d1_5) (k := d0.fCond) (z := false) (kt := 9) (et := 4) rfl (by kernel_rfl) (by kernel_rfl) (by kernel_rfl) (strKey (by kernel_rfl)) (by kernel_rfl) (p0.mem _ _ h01_5)) fun _ f => Y f 1 fun _ f => ?_
  obtain ⟨x_2, hx_2, hF_4⟩ := bS hF_3
  refine Y17 f p0 (refs_yes_ok n _ ((mget d1_5 d0.fCond).getD false) (150 : Int) x_2 hx_2) fun w_2 p_2 _ f => Y f 1 fun _ f => eT (wp_ret (E_ret1 f rfl (by kernel_rfl : Vc.look _ 2 = some (.int .i64 x_2)) ?_))
  obtain rfl := sI hF_4
  exact ⟨_, rfl, M1, (mR _), p_2, rfl⟩
def refs_scope_resource_4_1 (n : Nat) (d0 : List UInt8) (d1_0 : List TD0) (d1_1 : List TF0) (d1_2 : List TB0) (d1_3 : List TC0) (d1_4 : List ((List UInt8) × Bool)) (d1_5 : List ((List UInt8) × Bool)) (d1_6 : List ((List UInt8) × TB0)) (d2 : TB0) : Option Bool :=
  bif (!(mget d1_6 d0).isSome) then
    (some ((true)))
  else
    some ((decide (d0 = d2.fId)))
theorem refs_scope_resource_4_1_ok (n : Nat) (M : Mem) (d0 : List UInt8) (A1_0 : Option Addr) (cap1_0 : Nat) (d1_0 : List TD0) (h1_0 : Sli M 10 emb_TD0 A1_0 cap1_0 d1_0) (A1_1 : Option Addr) (cap1_1 : Nat) (d1_1 : List TF0) (h1_1 : Sli M 15 emb_TF0 A1_1 cap1_1 d1_1) (A1_2 : Option Addr) (cap1_2 : Nat) (d1_2 : List TB0) (h1_2 : Sli M 7 emb_TB0 A1_2 cap1_2 d1_2) (A1_3 : Option Addr) (cap1_3 : Nat) (d1_3 : List TC0) (h1_3 : Sli M 8 emb_TC0 A1_3 cap1_3 d1_3) (b1_4 : Nat) (d1_4 : List ((List UInt8) × Bool)) (h01_4 : M b1_4 = some (mapO S Value.bool d1_4)) (b1_5 : Nat) (d1_5 : List ((List UInt8) × Bool)) (h01_5 : M b1_5 = some (mapO S Value.bool d1_5)) (b1_6 : Nat) (d1_6 : List ((List UInt8) × TB0)) (m1_6 : List ((List UInt8) × Value)) (h01_6 : M b1_6 = some (mapO S idV m1_6)) (h1_6 : RepMap M emb_TB0 d1_6 m1_6) (ad1 : Addr) (q1 : ∀ j v, [(.slice A1_0 d1_0.length cap1_0 : Value), .slice A1_1 d1_1.length cap1_1, .slice A1_2 d1_2.length cap1_2, .slice A1_3 d1_3.length cap1_3, .map (some b1_4), .map (some b1_5), .map (some b1_6)][j]? = some v → M.cell? (ad1.add j) = some v) (ad2 : Addr) (c2 : List Value) (d2 : TB0) (h2 : Rep M (emb_TB0 d2) c2) (q2 : ∀ j v, c2[j]? = some v → M.cell? (ad2.add j) = some v) (r : Bool) (hF : refs_scope_resource_4_1 n d0 d1_0 d1_1 d1_2 d1_3 d1_4 d1_5 d1_6 d2 = some r) : Ok Try.prog M 36 [S d0, .pointer (some ad1), .pointer (some ad2)] (fun _ v => v = .bool r) := by
 unfold refs_scope_resource_4_1 at hF
 intro M1 hM0 w0 H w p0
 replace h1_0 := h1_0.mono hM0
 replace h1_1 := h1_1.mono hM0
 replace h1_2 := h1_2.mono hM0
 replace h1_3 := h1_3.mono hM0
 replace h01_4 := hM0 _ _ h01_4
 replace h01_5 := hM0 _ _ h01_5
 replace h01_6 := hM0 _ _ h01_6
 replace h1_6 := RepMap.mono hM0 h1_6
 replace q1 := fun j v h => hM0.cell (q1 j v h)
 replace h2 := Rep.mono hM0 _ _ h2
 replace q2 := fun j v h => hM0.cell (q2 j v h)
 obtain ⟨A_1, cap_1, A_2, cap_2, A_3, cap_3, rfl, h_1, h_2, h_3⟩ := TB0.opn h2
 refine R_enter 22 Try.func36 rfl rfl (by simp) fun a0 f0 => RR (Y f0 1 fun _ f => eT (RR (Y f 1 fun _ f => Y14 f p0 q1 6 rfl fun _ f => Y f 1 fun _ f => ?_)))
 obtain ⟨c_1, hc_1, hr_1⟩ := RepMap.get (k := d0) (z := z_TB0) (zc := [S [], S [], S [], .slice none 0 0, .slice none 0 0, .bool false, .slice none 0 0]) (TB0.shutx (x := z_TB0) Sli.nil Sli.nil Sli.nil) h1_6
 obtain ⟨A_4, cap_4, A_5, cap_5, A_6, cap_6, rfl, h_4, h_5, h_6⟩ := TB0.opn hr_1
 refine Z (v := .tuple #[.agg #[S ((mget d1_6 d0).getD z_TB0).fId, S ((mget d1_6 d0).getD z_TB0).fType, S ((mget d1_6 d0).getD z_TB0).fCond, .slice A_4 ((mget d1_6 d0).getD z_TB0).fProps.length cap_4, .slice A_5 ((mget d1_6 d0).getD z_TB0).fDepends.length cap_5, .bool ((mget d1_6 d0).getD z_TB0).fRetain, .slice A_6 ((mget d1_6 d0).getD z_TB0).fInner.length cap_6], .bool (mget d1_6 d0).isSome]) f (X_lookupR2 (ek := S) (kt := 9) (et := 49) hc_1 (RepMap.isSome h1_6) rfl (by kernel_rfl) (by kernel_rfl) (by kernel_rfl) (strKey (by kernel_rfl)) (by kernel_rfl) (p0.mem _ _ h01_6)) fun _ f => Y f 3 fun _ f => Y11 f p0 (.cells #[S [], S [], S [], .slice none 0 0, .slice none 0 0, .bool false, .slice none 0 0] 49 (0, 0)) fun b_1 w_1 p_1 _ f => Y22 (vs := [S ((mget d1_6 d0).getD z_TB0).fId, S ((mget d1_6 d0).getD z_TB0).fType, S ((mget d1_6 d0).getD z_TB0).fCond, .slice A_4 ((mget d1_6 d0).getD z_TB0).fProps.length cap_4, .slice A_5 ((mget d1_6 d0).getD z_TB0).fDepends.length cap_5, .bool ((mget d1_6 d0).getD z_TB0).fRetain, .slice A_6 ((mget d1_6 d0).getD z_TB0).fInner.length cap_6]) (j := 0) f p_1 rfl rfl (by simp [Value.oneCell', S]) (by simp) (by decide) (cs' := #[S ((mget d1_6 d0).getD z_TB0).fId, S ((mget d1_6 d0).getD z_TB0).fType, S ((mget d1_6 d0).getD z_TB0).fCond, .slice A_4 ((mget d1_6 d0).getD z_TB0).fProps.length cap_4, .slice A_5 ((mget d1_6 d0).getD z_TB0).fDepends.length cap_5, .bool ((mget d1_6 d0).getD z_TB0).fRetain, .slice A_6 ((mget d1_6 d0).getD z_TB0).fInner.length cap_6]) (by kernel_rfl) fun w_2 p_2 _ f => Y f 1 fun _ f => eT (RR (Y f 3 fun _ f => ?_))
 rcases cE hF with ⟨h_7, hF_1⟩ | ⟨h_7, hF_2⟩
 ·have k_1 : ((mget d1_6 d0).isSome) = false := by simpa using h_7
  have f := f.st 16 (cB h_7)
  refine Y f 6 fun _ f => eT (wp_ret (E_ret1 f rfl (by kernel_rfl : Vc.look _ 4 = some (.bool true)) ?_))
  obtain rfl := sI hF_1
  exact ⟨_, rfl, M1, (mR _), (p_2.dropN 1), rfl⟩
 ·have k_2 : ((mget d1_6 d0).isSome) = true := by simpa using h_7
  have f := f.st 16 (cB h_7)
  refine Y f 2 fun _ f => Y14 f p_2 q2 0 rfl fun _ f => Z f (Y28 rfl (l := d0) (m := d2.fId)) fun _ f => Y f 2 fun _ f => eT (wp_ret (E_ret1 f rfl (by kernel_rfl : Vc.look _ 4 = some (.bool (decide (d0 = d2.fId)))) ?_))
  obtain rfl := sI hF_2
  exact ⟨_, rfl, M1, (mR _), (p_2.dropN 1), rfl⟩
def slices_IndexFuncstring_string_s1 (n : Nat) (d0 : List (List UInt8)) (d1_0_0 : List TD0) (d1_0_1 : List TF0) (d1_0_2 : List TB0) (d1_0_3 : List TC0) (d1_0_4 : List ((List UInt8) × Bool)) (d1_0_5 : List ((List UInt8) × Bool)) (d1_0_6 : List ((List UInt8) × TB0)) (d1_1 : TB0) (s_1 : Int) : Option (Lp Int (Sum Int Unit)) :=
    bif (decide (s_1 < ((d0.length : Nat) : Int))) then
      ((getI d0 s_1).bind fun x_1 =>
      (refs_scope_resource_4_1 n x_1 d1_0_0 d1_0_1 d1_0_2 d1_0_3 d1_0_4 d1_0_5 d1_0_6 d1_1).bind fun x_2 =>
      bif x_2 then
        (some (.br (.inl s_1)))
      else
        need (inR .i64 (s_1 + 1)) <|
        some (.nx (s_1 + 1)))
    else
      some (.br (.inr ()))
def slices_IndexFuncstring_string (n : Nat) (d0 : List (List UInt8)) (d1_0_0 : List TD0) (d1_0_1 : List TF0) (d1_0_2 : List TB0) (d1_0_3 : List TC0) (d1_0_4 : List ((List UInt8) × Bool)) (d1_0_5 : List ((List UInt8) × Bool)) (d1_0_6 : List ((List UInt8) × TB0)) (d1_1 : TB0) : Option Int :=
  (loopF (slices_IndexFuncstring_string_s1 n d0 d1_0_0 d1_0_1 d1_0_2 d1_0_3 d1_0_4 d1_0_5 d1_0_6 d1_1) n (0 : Int)).bind fun b_1 =>
  (match b_1 with 
  | .inl y_1 => some (y_1) 
  | .inr y_2 => some ((-1 : Int)))
theorem slices_IndexFuncstring_string_ok (n : Nat) (M : Mem) (A0 : Option Addr) (cap0 : Nat) (d0 : List (List UInt8)) (h0 : Sli M 1 Dat.str A0 cap0 d0) (A1_0_0 : Option Addr) (cap1_0_0 : Nat) (d1_0_0 : List TD0) (h1_0_0 : Sli M 10 emb_TD0 A1_0_0 cap1_0_0 d1_0_0) (A1_0_1 : Option Addr) (cap1_0_1 : Nat) (d1_0_1 : List TF0) (h1_0_1 : Sli M 15 emb_TF0 A1_0_1 cap1_0_1 d1_0_1) (A1_0_2 : Option Addr) (cap1_0_2 : Nat) (d1_0_2 : List TB0) (h1_0_2 : Sli M 7 emb_TB0 A1_0_2 cap1_0_2 d1_0_2) (A1_0_3 : Option Addr) (cap1_0_3 : Nat) (d1_0_3 : List TC0) (h1_0_3 : Sli M 8 emb_TC0 A1_0_3 cap1_0_3 d1_0_3) (b1_0_4 : Nat) (d1_0_4 : List ((List UInt8) × Bool)) (h01_0_4 : M b1_0_4 = some (mapO S Value.bool d1_0_4)) (b1_0_5 : Nat) (d1_0_5 : List ((List UInt8) × Bool)) (h01_0_5 : M b1_0_5 = some (mapO S Value.bool d1_0_5)) (b1_0_6 : Nat) (d1_0_6 : List ((List UInt8) × TB0)) (m1_0_6 : List ((List UInt8) × Value)) (h01_0_6 : M b1_0_6 = some (mapO S idV m1_0_6)) (h1_0_6 : RepMap M emb_TB0 d1_0_6 m1_0_6) (ad1_0 : Addr) (q1_0 : ∀ j v, [(.slice A1_0_0 d1_0_0.length cap1_0_0 : Value), .slice A1_0_1 d1_0_1.length cap1_0_1, .slice A1_0_2 d1_0_2.length cap1_0_2, .slice A1_0_3 d1_0_3.length cap1_0_3, .map (some b1_0_4), .map (some b1_0_5), .map (some b1_0_6)][j]? = some v → M.cell? (ad1_0.add j) = some v) (ad1_1 : Addr) (c1_1 : List Value) (d1_1 : TB0) (h1_1 : Rep M (emb_TB0 d1_1) c1_1) (q1_1 : ∀ j v, c1_1[j]? = some v → M.cell? (ad1_1.add j) = some v) (r : Int) (hF : slices_IndexFuncstring_string n d0 d1_0_0 d1_0_1 d1_0_2 d1_0_3 d1_0_4 d1_0_5 d1_0_6 d1_1 = some r) : Ok Try.prog M 52 [.slice A0 d0.length cap0, .func (.func 36) #[] #[.pointer (some ad1_0), .pointer (some ad1_1)]] (fun _ v => v = .int .i64 r) := by
 unfold slices_IndexFuncstring_string at hF
 intro M1 hM0 w0 H w p0
 replace h0 := h0.mono hM0
 replace h1_0_0 := h1_0_0.mono hM0
 replace h1_0_1 := h1_0_1.mono hM0
 replace h1_0_2 := h1_0_2.mono hM0
 replace h1_0_3 := h1_0_3.mono hM0
 replace h01_0_4 := hM0 _ _ h01_0_4
 replace h01_0_5 := hM0 _ _ h01_0_5
 replace h01_0_6 := hM0 _ _ h01_0_6
 replace h1_0_6 := RepMap.mono hM0 h1_0_6
 replace q1_0 := fun j v h => hM0.cell (q1_0 j v h)
 replace h1_1 := Rep.mono hM0 _ _ h1_1
 replace q1_1 := fun j v h => hM0.cell (q1_1 j v h)
 obtain ⟨A_1, cap_1, A_2, cap_2, A_3, cap_3, rfl, h_1, h_2, h_3⟩ := TB0.opn h1_1
 refine R_enter 19 Try.func52 rfl rfl (by simp) fun a0 f0 => RR (Y f0 1 fun _ f => eT (R_seq (RR (Y f 3 fun _ f => eT (wp_block ?_)))))
 obtain ⟨b_1, hL_1, hF_1⟩ := bS hF
 refine wp_mono (Q := fun e a w => (e = .ret ∧ (∃ y_1 : Int, b_1 = .inl y_1 ∧ ∃ M_2 : Mem, M1.le M_2 ∧ Frm 19 [(4, .int .i64 y_1)] a ∧ Hp w0 M_2 (H) w)) ∨ (e = .exit 0 ∧ (∃ y_2 : Unit, b_1 = .inr y_2 ∧ ∃ M_3 : Mem, M1.le M_3 ∧ Frm 19 [] a ∧ Hp w0 M_3 (H) w))) (R_loop (n := 19) (w0 := w0) (M := M1) (fun (x : Nat × Int) => match x with | (m_1, s_1) => [(0, .slice A0 d0.length cap0), (1, .func (.func 36) #[] #[.pointer (some ad1_0), .pointer (some ad1_1)]), (7, .int .i64 ((d0.length : Nat) : Int)), (8, .int .i64 s_1)]) (fun (x : Nat × Int) => match x with | (m_1, s_1) => (H)) (fun (x : Nat × Int) (MM : Mem) => match x with | (m_1, s_1) => loopF (slices_IndexFuncstring_string_s1 n d0 d1_0_0 d1_0_1 d1_0_2 d1_0_3 d1_0_4 d1_0_5 d1_0_6 d1_1) m_1 s_1 = some b_1) (fun (x : Nat × Int) => match x with | (m_1, s_1) => m_1) (n, (0 : Int)) (f.kp) p0 hL_1 ?_) ?_
 ·rintro ⟨m_1, s_1⟩ M_1 _ w_1 hM_1 I_1 f p_1
  have I_1L := I_1
  obtain ⟨m_2, r_1, rfl, hs_1, hn_1⟩ := loop_step I_1L
  unfold slices_IndexFuncstring_string_s1 at hs_1
  refine RR (Y f 1 fun _ f => eT (R_seq (RcF f hs_1 (fun h_4 hF_2 => ?_) fun h_4 hF_8 => ?_)))
  ·have k_1 := dI.1 h_4
   refine wp_skip (T_n (R_seq (wp_block (RR (Y f 2 fun _ f => eT (RR (Y f 3 fun _ f => ?_)))))))
   obtain ⟨x_1, hx_1, hF_3⟩ := bS hF_2
   obtain ⟨ad_1, c_1, e_1, -, hr_1, hc_1⟩ := Sli.at_ (h0.mono hM_1) hx_1
   obtain rfl : c_1 = [S x_1] := hr_1
   refine Z f (Y25 e_1 rfl (len := d0.length) (cap := cap0) (k := .i64) (i := s_1) (e := 9) (sz := 1) (getI_nn hx_1) (getI_lt hx_1)) fun _ f => Y14 f p_1 hc_1 0 rfl fun _ f => ?_
   obtain ⟨x_2, hx_2, hF_4⟩ := bS hF_3
   refine Y17 f p_1 (refs_scope_resource_4_1_ok n _ x_1 A1_0_0 cap1_0_0 d1_0_0 (h1_0_0.mono hM_1) A1_0_1 cap1_0_1 d1_0_1 (h1_0_1.mono hM_1) A1_0_2 cap1_0_2 d1_0_2 (h1_0_2.mono hM_1) A1_0_3 cap1_0_3 d1_0_3 (h1_0_3.mono hM_1) b1_0_4 d1_0_4 (hM_1 _ _ h01_0_4) b1_0_5 d1_0_5 (hM_1 _ _ h01_0_5) b1_0_6 d1_0_6 m1_0_6 (hM_1 _ _ h01_0_6) (h1_0_6.mono hM_1) ad1_0 ((fzu hM_1 q1_0)) ad1_1 [S d1_1.fId, S d1_1.fType, S d1_1.fCond, .slice A_1 d1_1.fProps.length cap_1, .slice A_2 d1_1.fDepends.length cap_2, .bool d1_1.fRetain, .slice A_3 d1_1.fInner.length cap_3] d1_1 (TB0.shutx (x := d1_1) (h_1.mono hM_1) (h_2.mono hM_1) (h_3.mono hM_1)) (fz_at ((fzu hM_1 q1_1)) 0 rfl) x_2 hx_2) fun w_2 p_2 _ f => eT (RcF f hF_4 (fun h_5 hF_5 => ?_) fun h_5 hF_6 => ?_)
   ·refine RR (Y f 2 fun _ f => eT (wp_ret (B_r (T_r (T_r ?_)))))
    obtain rfl := sI hF_5
    exact .inl ⟨rfl, s_1, (sI hn_1).symm, M_1, hM_1, f.kp, p_2⟩
   ·refine wp_skip (B_n (T_n (R_reg ?_)))
    obtain ⟨g_1, hF_7⟩ := nS hF_6
    refine Y f 1 fun _ f => ?_
    have f := f.st 18 (congrArg (Value.int .i64) (inR_wrap g_1))
    refine Y f 1 fun _ f => eT ?_
    obtain rfl := sI hF_7
    exact ⟨⟨m_2, s_1 + 1⟩, Nat.lt_succ_self _, M_1, hM_1, hn_1, f.kp, p_2⟩
  ·have k_4 := iff_f dI h_4
   refine wp_exit (T_x (T_x ?_))
   obtain rfl := sI hF_8
   exact .inr ⟨rfl, (), (sI hn_1).symm, M_1, hM_1, f.kp, p_1⟩
 ·rintro _ _ w_5 (⟨rfl, y_1, rfl, M_2, hM_2, f, p_3⟩ | ⟨rfl, y_2, rfl, M_3, hM_3, f, p_4⟩)
  ·refine B_r (T_r (E_ret1 f rfl (by kernel_rfl : Vc.look _ 4 = some (.int .i64 y_1)) ?_))
   obtain rfl := sI hF_1
   exact ⟨_, rfl, M_2, hM_2, p_3, rfl⟩
  ·refine B_x (T_n (RR (Y f 1 fun _ f => eT (wp_ret (E_ret1 f rfl (by kernel_rfl : Vc.look _ 4 = some (.int .i64 (-1))) ?_)))))
   obtain rfl := sI hF_1
   exact ⟨_, rfl, M_3, hM_3, p_4, rfl⟩
def slices_ContainsFuncstring_string (n : Nat) (d0 : List (List UInt8)) (d1_0_0 : List TD0) (d1_0_1 : List TF0) (d1_0_2 : List TB0) (d1_0_3 : List TC0) (d1_0_4 : List ((List UInt8) × Bool)) (d1_0_5 : List ((List UInt8) × Bool)) (d1_0_6 : List ((List UInt8) × TB0)) (d1_1 : TB0) : Option Bool :=
  (slices_IndexFuncstring_string n d0 d1_0_0 d1_0_1 d1_0_2 d1_0_3 d1_0_4 d1_0_5 d1_0_6 d1_1).bind fun x_1 =>
  some ((decide ((0 : Int) ≤ x_1)))
theorem slices_ContainsFuncstring_string_ok (n : Nat) (M : Mem) (A0 : Option Addr) (cap0 : Nat) (d0 : List (List UInt8)) (h0 : Sli M 1 Dat.str A0 cap0 d0) (A1_0_0 : Option Addr) (cap1_0_0 : Nat) (d1_0_0 : List TD0) (h1_0_0 : Sli M 10 emb_TD0 A1_0_0 cap1_0_0 d1_0_0) (A1_0_1 : Option Addr) (cap1_0_1 : Nat) (d1_0_1 : List TF0) (h1_0_1 : Sli M 15 emb_TF0 A1_0_1 cap1_0_1 d1_0_1) (A1_0_2 : Option Addr) (cap1_0_2 : Nat) (d1_0_2 : List TB0) (h1_0_2 : Sli M 7 emb_TB0 A1_0_2 cap1_0_2 d1_0_2) (A1_0_3 : Option Addr) (cap1_0_3 : Nat) (d1_0_3 : List TC0) (h1_0_3 : Sli M 8 emb_TC0 A1_0_3 cap1_0_3 d1_0_3) (b1_0_4 : Nat) (d1_0_4 : List ((List UInt8) × Bool)) (h01_0_4 : M b1_0_4 = some (mapO S Value.bool d1_0_4)) (b1_0_5 : Nat) (d1_0_5 : List ((List UInt8) × Bool)) (h01_0_5 : M b1_0_5 = some (mapO S Value.bool d1_0_5)) (b1_0_6 : Nat) (d1_0_6 : List ((List UInt8) × TB0)) (m1_0_6 : List ((List UInt8) × Value)) (h01_0_6 : M b1_0_6 = some (mapO S idV m1_0_6)) (h1_0_6 : RepMap M emb_TB0 d1_0_6 m1_0_6) (ad1_0 : Addr) (q1_0 : ∀ j v, [(.slice A1_0_0 d1_0_0.length cap1_0_0 : Value), .slice A1_0_1 d1_0_1.length cap1_0_1, .slice A1_0_2 d1_0_2.length cap1_0_2, .slice A1_0_3 d1_0_3.length cap1_0_3, .map (some b1_0_4), .map (some b1_0_5), .map (some b1_0_6)][j]? = some v → M.cell? (ad1_0.add j) = some v) (ad1_1 : Addr) (c1_1 : List Value) (d1_1 : TB0) (h1_1 : Rep M (emb_TB0 d1_1) c1_1) (q1_1 : ∀ j v, c1_1[j]? = some v → M.cell? (ad1_1.add j) = some v) (r : Bool) (hF : slices_ContainsFuncstring_string n d0 d1_0_0 d1_0_1 d1_0_2 d1_0_3 d1_0_4 d1_0_5 d1_0_6 d1_1 = some r) : Ok Try.prog M 35 [.slice A0 d0.length cap0, .func (.func 36) #[] #[.pointer (some ad1_0), .pointer (some ad1_1)]] (fun _ v => v = .bool r) := by
 unfold slices_ContainsFuncstring_string at hF
 intro M1 hM0 w0 H w p0
 replace h0 := h0.mono hM0
 replace h1_0_0 := h1_0_0.mono hM0
 replace h1_0_1 := h1_0_1.mono hM0
 replace h1_0_2 := h1_0_2.mono hM0
 replace h1_0_3 := h1_0_3.mono hM0
 replace h01_0_4 := hM0 _ _ h01_0_4
 replace h01_0_5 := hM0 _ _ h01_0_5
 replace h01_0_6 := hM0 _ _ h01_0_6
 replace h1_0_6 := RepMap.mono hM0 h1_0_6
 replace q1_0 := fun j v h => hM0.cell (q1_0 j v h)
 replace h1_1 := Rep.mono hM0 _ _ h1_1
 replace q1_1 := fun j v h => hM0.cell (q1_1 j v h)
 obtain ⟨A_1, cap_1, A_2, cap_2, A_3, cap_3, rfl, h_1, h_2, h_3⟩ := TB0.opn h1_1
 refine R_enter 9 Try.func35 rfl rfl (by simp) fun a0 f0 => RR (Y f0 1 fun _ f => eT (RR (Y f 2 fun _ f => ?_)))
 obtain ⟨x_1, hx_1, hF_1⟩ := bS hF
 refine Y17 f p0 (slices_IndexFuncstring_string_ok n _ A0 cap0 d0 h0 A1_0_0 cap1_0_0 d1_0_0 h1_0_0 A1_0_1 cap1_0_1 d1_0_1 h1_0_1 A1_0_2 cap1_0_2 d1_0_2 h1_0_2 A1_0_3 cap1_0_3 d1_0_3 h1_0_3 b1_0_4 d1_0_4 h01_0_4 b1_0_5 d1_0_5 h01_0_5 b1_0_6 d1_0_6 m1_0_6 h01_0_6 h1_0_6 ad1_0 (q1_0) ad1_1 [S d1_1.fId, S d1_1.fType, S d1_1.fCond, .slice A_1 d1_1.fProps.length cap_1, .slice A_2 d1_1.fDepends.length cap_2, .bool d1_1.fRetain, .slice A_3 d1_1.fInner.length cap_3] d1_1 (TB0.shutx (x := d1_1) h_1 h_2 h_3) (fz_at (q1_1) 0 rfl) x_1 hx_1) fun w_1 p_1 _ f => Y f 2 fun _ f => eT (wp_ret (E_ret1 f rfl (by kernel_rfl : Vc.look _ 4 = some (.bool (decide ((0 : Int) ≤ x_1)))) ?_))
 obtain rfl := sI hF_1
 exact ⟨_, rfl, M1, (mR _), p_1, rfl⟩
def refs_scope_resource_4 (n : Nat) (d0 : TB0) (d1_0 : List TD0) (d1_1 : List TF0) (d1_2 : List TB0) (d1_3 : List TC0) (d1_4 : List ((List UInt8) × Bool)) (d1_5 : List ((List UInt8) × Bool)) (d1_6 : List ((List UInt8) × TB0)) : Option Int :=
  (slices_ContainsFuncstring_string n d0.fDepends d1_0 d1_1 d1_2 d1_3 d1_4 d1_5 d1_6 d0).bind fun x_1 =>
  (refs_yes n (!x_1) (160 : Int)).bind fun x_2 =>
  some (x_2)
theorem refs_scope_resource_4_ok (n : Nat) (M : Mem) (ad0 : Addr) (c0 : List Value) (d0 : TB0) (h0 : Rep M (emb_TB0 d0) c0) (q0 : ∀ j v, c0[j]? = some v → M.cell? (ad0.add j) = some v) (A1_0 : Option Addr) (cap1_0 : Nat) (d1_0 : List TD0) (h1_0 : Sli M 10 emb_TD0 A1_0 cap1_0 d1_0) (A1_1 : Option Addr) (cap1_1 : Nat) (d1_1 : List TF0) (h1_1 : Sli M 15 emb_TF0 A1_1 cap1_1 d1_1) (A1_2 : Option Addr) (cap1_2 : Nat) (d1_2 : List TB0) (h1_2 : Sli M 7 emb_TB0 A1_2 cap1_2 d1_2) (A1_3 : Option Addr) (cap1_3 : Nat) (d1_3 : List TC0) (h1_3 : Sli M 8 emb_TC0 A1_3 cap1_3 d1_3) (b1_4 : Nat) (d1_4 : List ((List UInt8) × Bool)) (h01_4 : M b1_4 = some (mapO S Value.bool d1_4)) (b1_5 : Nat) (d1_5 : List ((List UInt8) × Bool)) (h01_5 : M b1_5 = some (mapO S Value.bool d1_5)) (b1_6 : Nat) (d1_6 : List ((List UInt8) × TB0)) (m1_6 : List ((List UInt8) × Value)) (h01_6 : M b1_6 = some (mapO S idV m1_6)) (h1_6 : RepMap M emb_TB0 d1_6 m1_6) (ad1 : Addr) (q1 : ∀ j v, [(.slice A1_0 d1_0.length cap1_0 : Value), .slice A1_1 d1_1.length cap1_1, .slice A1_2 d1_2.length cap1_2, .slice A1_3 d1_3.length cap1_3, .map (some b1_4), .map (some b1_5), .map (some b1_6)][j]? = some v → M.cell? (ad1.add j) = some v) (r : Int) (hF : refs_scope_resource_4 n d0 d1_0 d1_1 d1_2 d1_3 d1_4 d1_5 d1_6 = some r) : Ok Try.prog M 34 [.pointer (some ad0), .pointer (some ad1)] (fun _ v => v = .int .i64 r) := by
 unfold refs_scope_resource_4 at hF
 intro M1 hM0 w0 H w p0
 replace h0 := Rep.mono hM0 _ _ h0
 replace q0 := fun j v h => hM0.cell (q0 j v h)
 replace h1_0 := h1_0.mono hM0
 replace h1_1 := h1_1.mono hM0
 replace h1_2 := h1_2.mono hM0
 replace h1_3 := h1_3.mono hM0
 replace h01_4 := hM0 _ _ h01_4
 replace h01_5 := hM0 _ _ h01_5
 replace h01_6 := hM0 _ _ h01_6
 replace h1_6 := RepMap.mono hM0 h1_6
 replace q1 := fun j v h => hM0.cell (q1 j v h)
 obtain ⟨A_1, cap_1, A_2, cap_2, A_3, cap_3, rfl, h_1, h_2, h_3⟩ := TB0.opn h0
 refine R_enter 9 Try.func34 rfl rfl (by simp) fun a0 f0 => RR (Y f0 1 fun _ f => eT (RR (Y f 1 fun _ f => Y14 f p0 q0 4 rfl fun _ f => Y f 1 fun _ f => ?_)))
 obtain ⟨x_1, hx_1, hF_1⟩ := bS hF
 refine Y17 f p0 (slices_ContainsFuncstring_string_ok n _ A_2 cap_2 d0.fDepends h_2 A1_0 cap1_0 d1_0 h1_0 A1_1 cap1_1 d1_1 h1_1 A1_2 cap1_2 d1_2 h1_2 A1_3 cap1_3 d1_3 h1_3 b1_4 d1_4 h01_4 b1_5 d1_5 h01_5 b1_6 d1_6 m1_6 h01_6 h1_6 ad1 (q1) ad0 [S d0.fId, S d0.fType, S d0.fCond, .slice A_1 d0.fProps.length cap_1, .slice A_2 d0.fDepends.length cap_2, .bool d0.fRetain, .slice A_3 d0.fInner.length cap_3] d0 (TB0.shutx (x := d0) h_1 h_2 h_3) (fz_at (q0) 0 rfl) x_1 hx_1) fun w_1 p_1 _ f => Y f 1 fun _ f => ?_
 obtain ⟨x_2, hx_2, hF_2⟩ := bS hF_1
 refine Y17 f p_1 (refs_yes_ok n _ (!x_1) (160 : Int) x_2 hx_2) fun w_2 p_2 _ f => Y f 1 fun _ f => eT (wp_ret (E_ret1 f rfl (by kernel_rfl : Vc.look _ 2 = some (.int .i64 x_2)) ?_))
 obtain rfl := sI hF_2
 exact ⟨_, rfl, M1, (mR _), p_2, rfl⟩
def internal_stringslite_HasPrefix (n : Nat) (d0 : List UInt8) (d1 : List UInt8) : Option Bool :=
  bif (decide ((d1.length : Int) ≤ (d0.length : Int))) then
    (need (0 ≤ (d1.length : Int) ∧ (d1.length : Int) ≤ d0.length) <|
    some ((decide ((d0.take (d1.length : Int).toNat) = d1))))
  else
    some ((false))
theorem internal_stringslite_HasPrefix_ok (n : Nat) (M : Mem) (d0 : List UInt8) (d1 : List UInt8) (r : Bool) (hF : internal_stringslite_HasPrefix n d0 d1 = some r) : Ok Try.prog M 88 [S d0, S d1] (fun _ v => v = .bool r) := by
 unfold internal_stringslite_HasPrefix at hF
 intro M1 hM0 w0 H w p0
 refine R_enter 18 Try.func88 rfl rfl (by simp) fun a0 f0 => RR (Y f0 1 fun _ f => eT (RR (Y f 6 fun _ f => ?_)))
 rcases cE hF with ⟨h_1, hF_1⟩ | ⟨h_1, hF_3⟩
 ·have k_1 := dI.1 h_1
  have f := f.st 10 (cB h_1)
  refine Y f 3 fun _ f => ?_
  obtain ⟨g_1, hF_2⟩ := nS hF_1
  refine Z (v := S (d0.take (d1.length : Int).toNat)) f (X_strTo rfl (l := d0) (k' := .i64) (b := (d1.length : Int)) (by kernel_rfl) (by kernel_rfl) (by kernel_rfl) g_1.1 g_1.2) fun _ f => Y f 1 fun _ f => Z f (Y28 rfl (l := d0.take (d1.length : Int).toNat) (m := d1)) fun _ f => Y f 2 fun _ f => eT (wp_ret (E_ret1 f rfl (by kernel_rfl : Vc.look _ 4 = some (.bool (decide ((d0.take (d1.length : Int).toNat) = d1)))) ?_))
  obtain rfl := sI hF_2
  exact ⟨_, rfl, M1, (mR _), p0, rfl⟩
 ·have k_2 := iff_f dI h_1
  have f := f.st 10 (cB h_1)
  refine Y f 8 fun _ f => eT (wp_ret (E_ret1 f rfl (by kernel_rfl : Vc.look _ 4 = some (.bool false)) ?_))
  obtain rfl := sI hF_3
  exact ⟨_, rfl, M1, (mR _), p0, rfl⟩
def internal_stringslite_CutPrefix (n : Nat) (d0 : List UInt8) (d1 : List UInt8) : Option (List UInt8 × Bool) :=
  (internal_stringslite_HasPrefix n d0 d1).bind fun x_1 =>
  bif !x_1 then
    (some ((d0, (false))))
  else
    need (0 ≤ (d1.length : Int) ∧ (d1.length : Int) ≤ d0.length) <|
    some ((d0.drop (d1.length : Int).toNat, (true)))
theorem internal_stringslite_CutPrefix_ok (n : Nat) (M : Mem) (d0 : List UInt8) (d1 : List UInt8) (r : List UInt8 × Bool) (hF : internal_stringslite_CutPrefix n d0 d1 = some r) : Ok Try.prog M 70 [S d0, S d1] (fun _ v => v = .tuple #[S r.1, .bool r.2]) := by
 unfold internal_stringslite_CutPrefix at hF
 intro M1 hM0 w0 H w p0
 refine R_enter 15 Try.func70 rfl rfl (by simp) fun a0 f0 => RR (Y f0 2 fun _ f => eT (R_seq (RR (Y f 2 fun _ f => ?_))))
 obtain ⟨x_1, hx_1, hF_1⟩ := bS hF
 refine Y17 f p0 (internal_stringslite_HasPrefix_ok n _ d0 d1 x_1 hx_1) fun w_1 p_1 _ f => Y f 1 fun _ f => eT (RcF f hF_1 (fun h_1 hF_2 => ?_) fun h_1 hF_3 => ?_)
 ·have k_1 : (x_1) = false := by simpa using h_1
  refine RR (Y f 3 fun _ f => eT (wp_ret (T_r (E_ret2 f rfl (by kernel_rfl : Vc.look _ 4 = some (S d0)) (by kernel_rfl : Vc.look _ 5 = some (.bool false)) ?_))))
  obtain rfl := sI hF_2
  exact ⟨_, rfl, M1, (mR _), p_1, rfl⟩
 ·have k_2 : (x_1) = true := by simpa using h_1
  refine wp_skip (T_n (RR (Y f 3 fun _ f => ?_)))
  obtain ⟨g_1, hF_4⟩ := nS hF_3
  refine Z (v := S (d0.drop (d1.length : Int).toNat)) f (X_strFrom rfl (l := d0) (k := .i64) (a := (d1.length : Int)) (by kernel_rfl) (by kernel_rfl) (by kernel_rfl) g_1.1 g_1.2) fun _ f => Y f 2 fun _ f => eT (wp_ret (E_ret2 f rfl (by kernel_rfl : Vc.look _ 4 = some (S (d0.drop (d1.length : Int).toNat))) (by kernel_rfl : Vc.look _ 5 = some (.bool true)) ?_))
  obtain rfl := sI hF_4
  exact ⟨_, rfl, M1, (mR _), p_1, rfl⟩
def strings_CutPrefix (n : Nat) (d0 : List UInt8) (d1 : List UInt8) : Option (List UInt8 × Bool) :=
  (internal_stringslite_CutPrefix n d0 d1).bind fun x_1 =>
  some ((x_1.1, (x_1.2)))
theorem strings_CutPrefix_ok (n : Nat) (M : Mem) (d0 : List UInt8) (d1 : List UInt8) (r : List UInt8 × Bool) (hF : strings_CutPrefix n d0 d1 = some r) : Ok Try.prog M 59 [S d0, S d1] (fun _ v => v = .tuple #[S r.1, .bool r.2]) := by
 unfold strings_CutPrefix at hF
 intro M1 hM0 w0 H w p0
 refine R_enter 11 Try.func59 rfl rfl (by simp) fun a0 f0 => RR (Y f0 2 fun _ f => eT (RR (Y f 2 fun _ f => ?_)))
 obtain ⟨x_1, hx_1, hF_1⟩ := bS hF
 refine Y17 f p0 (internal_stringslite_CutPrefix_ok n _ d0 d1 x_1 hx_1) fun w_1 p_1 _ f => Y f 4 fun _ f => eT (wp_ret (E_ret2 f rfl (by kernel_rfl : Vc.look _ 4 = some (S x_1.1)) (by kernel_rfl : Vc.look _ 5 = some (.bool x_1.2)) ?_))
 obtain rfl := sI hF_1
 exact ⟨_, rfl, M1, (mR _), p_1, rfl⟩
def refs_Output_1 (n : Nat) (d0 : TC0) (d1 : List UInt8) : Option Bool :=
  some ((decide (d0.fName = d1)))
theorem refs_Output_1_ok (n : Nat) (M : Mem) (c0 : List Value) (d0 : TC0) (h0 : Rep M (emb_TC0 d0) c0) (ad1 : Addr) (c1 : List Value) (d1 : List UInt8) (h1 : Rep M (Dat.str d1) c1) (q1 : ∀ j v, c1[j]? = some v → M.cell? (ad1.add j) = some v) (r : Bool) (hF : refs_Output_1 n d0 d1 = some r) : Ok Try.prog M 72 [.agg c0.toArray, .pointer (some ad1)] (fun _ v => v = .bool r) := by
 unfold refs_Output_1 at hF
 intro M1 hM0 w0 H w p0
 replace h0 := Rep.mono hM0 _ _ h0
 replace h1 := Rep.mono hM0 _ _ h1
 replace q1 := fun j v h => hM0.cell (q1 j v h)
 obtain ⟨A_1, cap_1, rfl, h_1⟩ := TC0.opn h0
 obtain rfl : c1 = [S d1] := h1
 refine R_enter 8 Try.func72 rfl rfl (by simp) fun a0 f0 => RR (Y12 (cs := #[S d0.fName, S d0.fCond, .int .i8 d0.fE.fKind, S d0.fE.fText, .int .i64 d0.fE.fNum, S d0.fE.fName, S d0.fE.fAttr, .slice A_1 d0.fE.fL.length cap_1]) (T := 51) f0 p0 fun b_1 M_1 w_1 hM_1 hc_1 p_1 _ f => ?_)
 have hc_2 := fz_box hc_1
 refine Y f 1 fun _ f => eT (RR (Y f 1 fun _ f => Y14 f p_1 hc_2 0 rfl fun _ f => Y14 f p_1 (fzu hM_1 q1) 0 rfl fun _ f => Z f (Y28 rfl (l := d0.fName) (m := d1)) fun _ f => Y f 1 fun _ f => eT (wp_ret (E_ret1 f rfl (by kernel_rfl : Vc.look _ 3 = some (.bool (decide (d0.fName = d1)))) ?_))))
 obtain rfl := sI hF
 exact ⟨_, rfl, M_1, hM_1, p_1, rfl⟩
def slices_IndexFuncapi_Output_api_Output_s1 (n : Nat) (d0 : List TC0) (d1_0 : List UInt8) (s_1 : Int) : Option (Lp Int (Sum Int Unit)) :=
    bif (decide (s_1 < ((d0.length : Nat) : Int))) then
      ((getI d0 s_1).bind fun x_1 =>
      (refs_Output_1 n x_1 d1_0).bind fun x_2 =>
      bif x_2 then
        (some (.br (.inl s_1)))
      else
        need (inR .i64 (s_1 + 1)) <|
        some (.nx (s_1 + 1)))
    else
      some (.br (.inr ()))
def slices_IndexFuncapi_Output_api_Output (n : Nat) (d0 : List TC0) (d1_0 : List UInt8) : Option Int :=
  (loopF (slices_IndexFuncapi_Output_api_Output_s1 n d0 d1_0) n (0 : Int)).bind fun b_1 =>
  (match b_1 with 
  | .inl y_1 => some (y_1) 
  | .inr y_2 => some ((-1 : Int)))
theorem slices_IndexFuncapi_Output_api_Output_ok (n : Nat) (M : Mem) (A0 : Option Addr) (cap0 : Nat) (d0 : List TC0) (h0 : Sli M 8 emb_TC0 A0 cap0 d0) (ad1_0 : Addr) (c1_0 : List Value) (d1_0 : List UInt8) (h1_0 : Rep M (Dat.str d1_0) c1_0) (q1_0 : ∀ j v, c1_0[j]? = some v → M.cell? (ad1_0.add j) = some v) (r : Int) (hF : slices_IndexFuncapi_Output_api_Output n d0 d1_0 = some r) : Ok Try.prog M 71 [.slice A0 d0.length cap0, .func (.func 72) #[] #[.pointer (some ad1_0)]] (fun _ v => v = .int .i64 r) := by
 unfold slices_IndexFuncapi_Output_api_Output at hF
 intro M1 hM0 w0 H w p0
 replace h0 := h0.mono hM0
 replace h1_0 := Rep.mono hM0 _ _ h1_0
 replace q1_0 := fun j v h => hM0.cell (q1_0 j v h)
 obtain rfl : c1_0 = [S d1_0] := h1_0
 refine R_enter 19 Try.func71 rfl rfl (by simp) fun a0 f0 => RR (Y f0 1 fun _ f => eT (R_seq (RR (Y f 3 fun _ f => eT (wp_block ?_)))))
 obtain ⟨b_1, hL_1, hF_1⟩ := bS hF
 refine wp_mono (Q := fun e a w => (e = .ret ∧ (∃ y_1 : Int, b_1 = .inl y_1 ∧ ∃ M_2 : Mem, M1.le M_2 ∧ Frm 19 [(4, .int .i64 y_1)] a ∧ Hp w0 M_2 (H) w)) ∨ (e = .exit 0 ∧ (∃ y_2 : Unit, b_1 = .inr y_2 ∧ ∃ M_3 : Mem, M1.le M_3 ∧ Frm 19 [] a ∧ Hp w0 M_3 (H) w))) (R_loop (n := 19) (w0 := w0) (M := M1) (fun (x : Nat × Int) => match x with | (m_1, s_1) => [(0, .slice A0 d0.length cap0), (1, .func (.func 72) #[] #[.pointer (some ad1_0)]), (7, .int .i64 ((d0.length : Nat) : Int)), (8, .int .i64 s_1)]) (fun (x : Nat × Int) => match x with | (m_1, s_1) => (H)) (fun (x : Nat × Int) (MM : Mem) => match x with | (m_1, s_1) => loopF (slices_IndexFuncapi_Output_api_Output_s1 n d0 d1_0) m_1 s_1 = some b_1) (fun (x : Nat × Int) => match x with | (m_1, s_1) => m_1) (n, (0 : Int)) (f.kp) p0 hL_1 ?_) ?_
 ·rintro ⟨m_1, s_1⟩ M_1 _ w_1 hM_1 I_1 f p_1
  have I_1L := I_1
  obtain ⟨m_2, r_1, rfl, hs_1, hn_1⟩ := loop_step I_1L
  unfold slices_IndexFuncapi_Output_api_Output_s1 at hs_1
  refine RR (Y f 1 fun _ f => eT (R_seq (RcF f hs_1 (fun h_1 hF_2 => ?_) fun h_1 hF_8 => ?_)))
  ·have k_1 := dI.1 h_1
   refine wp_skip (T_n (R_seq (wp_block (RR (Y f 2 fun _ f => eT (RR (Y f 3 fun _ f => ?_)))))))
   obtain ⟨x_1, hx_1, hF_3⟩ := bS hF_2
   obtain ⟨ad_1, c_1, e_1, -, hr_1, hc_1⟩ := Sli.at_ (h0.mono hM_1) hx_1
   obtain ⟨A_1, cap_1, rfl, h_2⟩ := TC0.opn hr_1
   refine Z f (Y25 e_1 rfl (len := d0.length) (cap := cap0) (k := .i64) (i := s_1) (e := 51) (sz := 8) (getI_nn hx_1) (getI_lt hx_1)) fun _ f => Z (v := .agg #[S x_1.fName, S x_1.fCond, .int .i8 x_1.fE.fKind, S x_1.fE.fText, .int .i64 x_1.fE.fNum, S x_1.fE.fName, S x_1.fE.fAttr, .slice A_1 x_1.fE.fL.length cap_1]) f (Y27 (cs := [S x_1.fName, S x_1.fCond, .int .i8 x_1.fE.fKind, S x_1.fE.fText, .int .i64 x_1.fE.fNum, S x_1.fE.fName, S x_1.fE.fAttr, .slice A_1 x_1.fE.fL.length cap_1]) rfl (ad := ad_1.add (s_1.toNat * 8)) (fun j v h => p_1.cell (hc_1 j v h))) fun _ f => ?_
   obtain ⟨x_2, hx_2, hF_4⟩ := bS hF_3
   refine Y17 f p_1 (refs_Output_1_ok n _ _ x_1 (TC0.shutx (x := x_1) h_2) ad1_0 [S d1_0] d1_0 (rfl) (fz_at ((fzu hM_1 q1_0)) 0 rfl) x_2 hx_2) fun w_2 p_2 _ f => eT (RcF f hF_4 (fun h_3 hF_5 => ?_) fun h_3 hF_6 => ?_)
   ·refine RR (Y f 2 fun _ f => eT (wp_ret (B_r (T_r (T_r ?_)))))
    obtain rfl := sI hF_5
    exact .inl ⟨rfl, s_1, (sI hn_1).symm, M_1, hM_1, f.kp, p_2⟩
   ·refine wp_skip (B_n (T_n (R_reg ?_)))
    obtain ⟨g_1, hF_7⟩ := nS hF_6
    refine Y f 1 fun _ f => ?_
    have f := f.st 18 (congrArg (Value.int .i64) (inR_wrap g_1))
    refine Y f 1 fun _ f => eT ?_
    obtain rfl := sI hF_7
    exact ⟨⟨m_2, s_1 + 1⟩, Nat.lt_succ_self _, M_1, hM_1, hn_1, f.kp, p_2⟩
  ·have k_4 := iff_f dI h_1
   refine wp_exit (T_x (T_x ?_))
   obtain rfl := sI hF_8
   exact .inr ⟨rfl, (), (sI hn_1).symm, M_1, hM_1, f.kp, p_1⟩
 ·rintro _ _ w_5 (⟨rfl, y_1, rfl, M_2, hM_2, f, p_3⟩ | ⟨rfl, y_2, rfl, M_3, hM_3, f, p_4⟩)
  ·refine B_r (T_r (E_ret1 f rfl (by kernel_rfl : Vc.look _ 4 = some (.int .i64 y_1)) ?_))
   obtain rfl := sI hF_1
   exact ⟨_, rfl, M_2, hM_2, p_3, rfl⟩
  ·refine B_x (T_n (RR (Y f 1 fun _ f => eT (wp_ret (E_ret1 f rfl (by kernel_rfl : Vc.look _ 4 = some (.int .i64 (-1))) ?_)))))
   obtain rfl := sI hF_1
   exact ⟨_, rfl, M_3, hM_3, p_4, rfl⟩
def refs_Output (n : Nat) (d0 : TA0) (d1 : List UInt8) : Option (TC0 × Bool) :=
  (slices_IndexFuncapi_Output_api_Output n d0.fOuts d1).bind fun x_1 =>
  bif (decide ((0 : Int) ≤ x_1)) then
    ((getI d0.fOuts x_1).bind fun x_2 =>
    some ((x_2, (true))))
  else
    some (((⟨([] : List UInt8), ([] : List UInt8), z_TH0⟩ : TC0), (false)))
theorem refs_Output_ok (n : Nat) (M : Mem) (c0 : List Value) (d0 : TA0) (h0 : Rep M (emb_TA0 d0) c0) (d1 : List UInt8) (r : TC0 × Bool) (hF : refs_Output n d0 d1 = some r) : Ok Try.prog M 60 [.agg c0.toArray, S d1] (fun M' v => ∃ (c0 : List Value), v = .tuple #[.agg c0.toArray, .bool r.2] ∧ Rep M' (emb_TC0 r.1) c0) := by
 unfold refs_Output at hF
 intro M1 hM0 w0 H w p0
 replace h0 := Rep.mono hM0 _ _ h0
 obtain ⟨A_1, cap_1, A_2, cap_2, A_3, cap_3, A_4, cap_4, rfl, h_1, h_2, h_3, h_4⟩ := TA0.opn h0
 refine R_enter 19 Try.func60 rfl rfl (by simp) fun a0 f0 => RR (Y12 (cs := #[.slice A_1 d0.fParams.length cap_1, .slice A_2 d0.fConds.length cap_2, .slice A_3 d0.fRes.length cap_3, .slice A_4 d0.fOuts.length cap_4]) (T := 27) f0 p0 fun b_1 M_1 w_1 hM_1 hc_1 p_1 _ f => ?_)
 have hc_2 := fz_box hc_1
 refine Y12 (cs := #[S d1]) (T := 9) f p_1 fun b_2 M_2 w_2 hM_2 hc_3 p_2 _ f => ?_
 have hc_4 := fz_box hc_3
 refine Y11 f p_2 (.cells #[S [], S [], .int .i8 0, S [], .int .i64 0, S [], S [], .slice none 0 0] 51 (0, 0)) fun b_3 w_3 p_3 _ f => Y f 1 fun _ f => eT (R_seq (RR (Y f 1 fun _ f => Y14 f p_3 (fzu hM_2 hc_2) 3 rfl fun _ f => Y f 1 fun _ f => ?_)))
 obtain ⟨x_1, hx_1, hF_1⟩ := bS hF
 refine Y17 f p_3 (slices_IndexFuncapi_Output_api_Output_ok n _ A_4 cap_4 d0.fOuts (h_4.mono (hM_1.trans hM_2)) (⟨b_2, 0, none⟩) [S d1] d1 (rfl) (fz_at (hc_4) 0 rfl) x_1 hx_1) fun w_4 p_4 _ f => Y f 1 fun _ f => eT (RR (Y f 2 fun _ f => eT (RcF f hF_1 (fun h_5 hF_2 => ?_) fun h_5 hF_4 => ?_)))
 ·have k_1 := dI.1 h_5
  refine RR (Y f 1 fun _ f => Y14 f p_4 (fzu hM_2 hc_2) 3 rfl fun _ f => Y f 1 fun _ f => ?_)
  obtain ⟨x_2, hx_2, hF_3⟩ := bS hF_2
  obtain ⟨ad_1, c_1, e_1, -, hr_1, hc_5⟩ := Sli.at_ (h_4.mono (hM_1.trans hM_2)) hx_2
  obtain ⟨A_5, cap_5, rfl, h_6⟩ := TC0.opn hr_1
  refine Z f (Y25 e_1 rfl (len := d0.fOuts.length) (cap := cap_4) (k := .i64) (i := x_1) (e := 51) (sz := 8) (getI_nn hx_2) (getI_lt hx_2)) fun _ f => Z (v := .agg #[S x_2.fName, S x_2.fCond, .int .i8 x_2.fE.fKind, S x_2.fE.fText, .int .i64 x_2.fE.fNum, S x_2.fE.fName, S x_2.fE.fAttr, .slice A_5 x_2.fE.fL.length cap_5]) f (Y27 (cs := [S x_2.fName, S x_2.fCond, .int .i8 x_2.fE.fKind, S x_2.fE.fText, .int .i64 x_2.fE.fNum, S x_2.fE.fName, S x_2.fE.fAttr, .slice A_5 x_2.fE.fL.length cap_5]) rfl (ad := ad_1.add (x_1.toNat * 8)) (fun j v h => p_4.cell (hc_5 j v h))) fun _ f => Y22 (vs := [S x_2.fName, S x_2.fCond, .int .i8 x_2.fE.fKind, S x_2.fE.fText, .int .i64 x_2.fE.fNum, S x_2.fE.fName, S x_2.fE.fAttr, .slice A_5 x_2.fE.fL.length cap_5]) (j := 0) f p_4 rfl rfl (by simp [Value.oneCell', S]) (by simp) (by decide) (cs' := #[S x_2.fName, S x_2.fCond, .int .i8 x_2.fE.fKind, S x_2.fE.fText, .int .i64 x_2.fE.fNum, S x_2.fE.fName, S x_2.fE.fAttr, .slice A_5 x_2.fE.fL.length cap_5]) (by kernel_rfl) fun w_5 p_5 _ f => Y f 1 fun _ f => eT (wp_ret (T_r (E_rv2 f rfl (Y9 (cs := [S x_2.fName, S x_2.fCond, .int .i8 x_2.fE.fKind, S x_2.fE.fText, .int .i64 x_2.fE.fNum, S x_2.fE.fName, S x_2.fE.fAttr, .slice A_5 x_2.fE.fL.length cap_5]) (ad := ⟨b_3, 0, none⟩) f (own_cells (p_5.ownCell 0 rfl) 0 rfl)) (Y10 (v := .bool true) f) ?_)))
  obtain rfl := sI hF_3
  exact ⟨_, rfl, M_2, (hM_1.trans hM_2), (p_5.dropN 1), ⟨[S x_2.fName, S x_2.fCond, .int .i8 x_2.fE.fKind, S x_2.fE.fText, .int .i64 x_2.fE.fNum, S x_2.fE.fName, S x_2.fE.fAttr, .slice A_5 x_2.fE.fL.length cap_5], rfl, (TC0.shutx (x := x_2) h_6)⟩⟩
 ·have k_2 := iff_f dI h_5
  refine wp_skip (T_n (RR (Z (v := .agg #[S [], S [], .int .i8 0, S [], .int .i64 0, S [], S [], .slice none 0 0]) f (Y27 (cs := [S [], S [], .int .i8 0, S [], .int .i64 0, S [], S [], .slice none 0 0]) rfl (ad := ⟨b_3, 0, none⟩) (own_cells (p_4.ownCell 0 rfl) 0 rfl)) fun _ f => Y22 (vs := [S [], S [], .int .i8 0, S [], .int .i64 0, S [], S [], .slice none 0 0]) (j := 0) f p_4 rfl rfl (by simp [Value.oneCell', S]) (by simp) (by decide) (cs' := #[S [], S [], .int .i8 0, S [], .int .i64 0, S [], S [], .slice none 0 0]) (by kernel_rfl) fun w_6 p_6 _ f => Y f 1 fun _ f => eT (wp_ret (E_rv2 f rfl (Y9 (cs := [S [], S [], .int .i8 0, S [], .int .i64 0, S [], S [], .slice none 0 0]) (ad := ⟨b_3, 0, none⟩) f (own_cells (p_6.ownCell 0 rfl) 0 rfl)) (Y10 (v := .bool false) f) ?_)))))
  obtain rfl := sI hF_4
  exact ⟨_, rfl, M_2, (hM_1.trans hM_2), (p_6.dropN 1), ⟨[S [], S [], .int .i8 0, S [], .int .i64 0, S [], S [], .slice none 0 0], rfl, (TC0.shut Sli.nil)⟩⟩
def refs_scope_use (n : Nat) (d0_0 : List TD0) (d0_1 : List TF0) (d0_2 : List TB0) (d0_3 : List TC0) (d0_4 : List ((List UInt8) × Bool)) (d0_5 : List ((List UInt8) × Bool)) (d0_6 : List ((List UInt8) × TB0)) (d1 : TH0) : Option Int :=
  bif (decide (d1.fKind = 6)) then
    ((refs_yes n ((mget d0_5 d1.fName).getD false) (150 : Int)).bind fun x_1 =>
    some (x_1))
  else
    bif (decide (d1.fKind = 3)) then
      (((bif ((mget d0_4 d1.fName).getD false) then
          ((refs_yes n (true) (160 : Int)).bind fun x_2 =>
          some (x_2))
        else
          bif (mget d0_6 d1.fName).isSome then
            ((refs_nested n ((mget d0_6 d1.fName).getD z_TB0)).bind fun x_3 =>
            (refs_yes n (!x_3) (160 : Int)).bind fun x_4 =>
            some (x_4))
          else
            (refs_yes n (false) (160 : Int)).bind fun x_5 =>
            some (x_5) : Option Int)).bind fun y_1 =>
      some (y_1))
    else
      (refs_nested n ((mget d0_6 d1.fName).getD z_TB0)).bind fun x_6 =>
      bif !x_6 then
        (((bif (mget d0_6 d1.fName).isSome then
            (bif (decide (d1.fAttr = [65, 114, 110])) then
              ((refs_yes n (true) (160 : Int)).bind fun x_7 =>
              some (x_7))
            else
              (refs_yes n (decide (d1.fAttr = [90, 111, 110, 101])) (160 : Int)).bind fun x_8 =>
              some (x_8))
          else
            (refs_yes n (false) (160 : Int)).bind fun x_9 =>
            some (x_9) : Option Int)).bind fun y_2 =>
        some (y_2))
      else
        (strings_CutPrefix n d1.fAttr [79, 117, 116, 112, 117, 116, 115, 46]).bind fun x_10 =>
        ((bif x_10.2 then
            (some ((decide (((((mget d0_6 d1.fName).getD z_TB0).fInner.length : Nat) : Int) = 1))))
          else
            some ((false)) : Option Bool)).bind fun y_3 =>
        bif y_3 then
          ((getI ((mget d0_6 d1.fName).getD z_TB0).fInner (0 : Int)).bind fun x_11 =>
          (refs_Output n x_11 x_10.1).bind fun x_12 =>
          (refs_yes n (x_12.2) (160 : Int)).bind fun x_13 =>
          some (x_13))
        else
          (refs_yes n (y_3) (160 : Int)).bind fun x_14 =>
          some (x_14)
set_option maxRecDepth 20000 in
theorem refs_scope_use_ok (n : Nat) (M : Mem) (A0_0 : Option Addr) (cap0_0 : Nat) (d0_0 : List TD0) (h0_0 : Sli M 10 emb_TD0 A0_0 cap0_0 d0_0) (A0_1 : Option Addr) (cap0_1 : Nat) (d0_1 : List TF0) (h0_1 : Sli M 15 emb_TF0 A0_1 cap0_1 d0_1) (A0_2 : Option Addr) (cap0_2 : Nat) (d0_2 : List TB0) (h0_2 : Sli M 7 emb_TB0 A0_2 cap0_2 d0_2) (A0_3 : Option Addr) (cap0_3 : Nat) (d0_3 : List TC0) (h0_3 : Sli M 8 emb_TC0 A0_3 cap0_3 d0_3) (b0_4 : Nat) (d0_4 : List ((List UInt8) × Bool)) (h00_4 : M b0_4 = some (mapO S Value.bool d0_4)) (b0_5 : Nat) (d0_5 : List ((List UInt8) × Bool)) (h00_5 : M b0_5 = some (mapO S Value.bool d0_5)) (b0_6 : Nat) (d0_6 : List ((List UInt8) × TB0)) (m0_6 : List ((List UInt8) × Value)) (h00_6 : M b0_6 = some (mapO S idV m0_6)) (h0_6 : RepMap M emb_TB0 d0_6 m0_6) (c1 : List Value) (d1 : TH0) (h1 : Rep M (emb_TH0 d1) c1) (r : Int) (hF : refs_scope_use n d0_0 d0_1 d0_2 d0_3 d0_4 d0_5 d0_6 d1 = some r) : Ok Try.prog M 44 [.agg #[.slice A0_0 d0_0.length cap0_0, .slice A0_1 d0_1.length cap0_1, .slice A0_2 d0_2.length cap0_2, .slice A0_3 d0_3.length cap0_3, .map (some b0_4), .map (some b0_5), .map (some b0_6)], .agg c1.toArray] (fun _ v => v = .int .i64 r) := by
 unfold refs_scope_use at hF
 intro M1 hM0 w0 H w p0
 replace h0_0 := h0_0.mono hM0
 replace h0_1 := h0_1.mono hM0
 replace h0_2 := h0_2.mono hM0
 replace h0_3 := h0_3.mono hM0
 replace h00_4 := hM0 _ _ h00_4
 replace h00_5 := hM0 _ _ h00_5
 replace h00_6 := hM0 _ _ h00_6
 replace h0_6 := RepMap.mono hM0 h0_6
 replace h1 := Rep.mono hM0 _ _ h1
 obtain ⟨A_1, cap_1, rfl, h_1⟩ := TH0.opn h1
 refine R_enter 83 Try.func44 rfl rfl (by simp) fun a0 f0 => RR (Y12 (cs := #[.slice A0_0 d0_0.length cap0_0, .slice A0_1 d0_1.length cap0_1, .slice A0_2 d0_2.length cap0_2, .slice A0_3 d0_3.length cap0_3, .map (some b0_4), .map (some b0_5), .map (some b0_6)]) (T := 62) f0 p0 fun b_1 M_1 w_1 hM_1 hc_1 p_1 _ f => ?_)
 have hc_2 := fz_box hc_1
 refine Y12 (cs := #[.int .i8 d1.fKind, S d1.fText, .int .i64 d1.fNum, S d1.fName, S d1.fAttr, .slice A_1 d1.fL.length cap_1]) (T := 37) f p_1 fun b_2 M_2 w_2 hM_2 hc_3 p_2 _ f => ?_
 have hc_4 := fz_box hc_3
 refine Y f 1 fun _ f => eT (RR (Y f 1 fun _ f => Y14 f p_2 (fzu hM_2 hc_2) 6 rfl fun _ f => Y f 1 fun _ f => Y14 f p_2 hc_4 3 rfl fun _ f => ?_))
 obtain ⟨c_1, hc_5, hr_1⟩ := RepMap.get (k := d1.fName) (z := z_TB0) (zc := [S [], S [], S [], .slice none 0 0, .slice none 0 0, .bool false, .slice none 0 0]) (TB0.shutx (x := z_TB0) Sli.nil Sli.nil Sli.nil) (h0_6.mono (hM_1.trans hM_2))
 obtain ⟨A_2, cap_2, A_3, cap_3, A_4, cap_4, rfl, h_2, h_3, h_4⟩ := TB0.opn hr_1
 refine Z (v := .tuple #[.agg #[S ((mget d0_6 d1.fName).getD z_TB0).fId, S ((mget d0_6 d1.fName).getD z_TB0).fType, S ((mget d0_6 d1.fName).getD z_TB0).fCond, .slice A_2 ((mget d0_6 d1.fName).getD z_TB0).fProps.length cap_2, .slice A_3 ((mget d0_6 d1.fName).getD z_TB0).fDepends.length cap_3, .bool ((mget d0_6 d1.fName).getD z_TB0).fRetain, .slice A_4 ((mget d0_6 d1.fName).getD z_TB0).fInner.length cap_4], .bool (mget d0_6 d1.fName).isSome]) f (X_lookupR2 (ek := S) (kt := 9) (et := 49) hc_5 (RepMap.isSome (h0_6.mono (hM_1.trans hM_2))) rfl (by kernel_rfl) (by kernel_rfl) (by kernel_rfl) (strKey (by kernel_rfl)) (by kernel_rfl) (p_2.mem _ _ ((hM_1.trans hM_2) _ _ h00_6))) fun _ f => Y f 3 fun _ f => Y11 f p_2 (.cells #[S [], S [], S [], .slice none 0 0, .slice none 0 0, .bool false, .slice none 0 0] 49 (0, 0)) fun b_3 w_3 p_3 _ f => Y22 (vs := [S ((mget d0_6 d1.fName).getD z_TB0).fId, S ((mget d0_6 d1.fName).getD z_TB0).fType, S ((mget d0_6 d1.fName).getD z_TB0).fCond, .slice A_2 ((mget d0_6 d1.fName).getD z_TB0).fProps.length cap_2, .slice A_3 ((mget d0_6 d1.fName).getD z_TB0).fDepends.length cap_3, .bool ((mget d0_6 d1.fName).getD z_TB0).fRetain, .slice A_4 ((mget d0_6 d1.fName).getD z_TB0).fInner.length cap_4]) (j := 0) f p_3 rfl rfl (by simp [Value.oneCell', S]) (by simp) (by decide) (cs' := #[S ((mget d0_6 d1.fName).getD z_TB0).fId, S ((mget d0_6 d1.fName).getD z_TB0).fType, S ((mget d0_6 d1.fName).getD z_TB0).fCond, .slice A_2 ((mget d0_6 d1.fName).getD z_TB0).fProps.length cap_2, .slice A_3 ((mget d0_6 d1.fName).getD z_TB0).fDepends.length cap_3, .bool ((mget d0_6 d1.fName).getD z_TB0).fRetain, .slice A_4 ((mget d0_6 d1.fName).getD z_TB0).fInner.length cap_4]) (by kernel_rfl) fun w_4 p_4 _ f => Y f 1 fun _ f => eT (R_seq (RR (Y f 1 fun _ f => Y14 f p_4 hc_4 0 rfl fun _ f => eT (wp_block (RR (Y f 2 fun _ f => eT ?_))))))
 refine RcF f hF (fun h_5 hF_1 => ?_) fun h_5 hF_3 => ?_
 ·have k_1 := dI.1 h_5
  refine RR (Y f 1 fun _ f => Y14 f p_4 (fzu hM_2 hc_2) 5 rfl fun _ f => Y f 1 fun _ f => Y14 f p_4 hc_4 3 rfl fun _ f => Z (v := .bool ((mget d0_5 d1.fName).getD false)) f (X_lookup1 (ek := S) (ev := Value.bool) (m := d0_5) (k := d1.fName) (z := false) (kt := 9) (et := 4) rfl (by kernel_rfl) (by kernel_rfl) (by kernel_rfl) (strKey (by kernel_rfl)) (by kernel_rfl) (p_4.mem _ _ ((hM_1.trans hM_2) _ _ h00_5))) fun _ f => ?_)
  obtain ⟨x_1, hx_1, hF_2⟩ := bS hF_1
  refine Y17 f p_4 (refs_yes_ok n _ ((mget d0_5 d1.fName).getD false) (150 : Int) x_1 hx_1) fun w_5 p_5 _ f => Y f 1 fun _ f => eT (wp_ret (B_r (T_r (E_ret1 f rfl (by kernel_rfl : Vc.look _ 4 = some (.int .i64 x_1)) ?_))))
  obtain rfl := sI hF_2
  exact ⟨_, rfl, M_2, (hM_1.trans hM_2), (p_5.dropN 1), rfl⟩
 ·have k_2 := iff_f dI h_5
  refine RR (Y f 2 fun _ f => eT (RcF f hF_3 (fun h_6 hF_4 => ?_) fun h_6 hF_14 => ?_))
  ·have k_3 := dI.1 h_6
   refine R_seq ?_
   obtain ⟨j_1, hj_1, hF_5⟩ := bS hF_4
   refine R_mid (fun a_42 w_10 => ∃ y_1 : Int, j_1 = y_1 ∧ ∃ M_3 : Mem, M_2.le M_3 ∧ Frm 83 [(4, .int .i64 y_1)] a_42 ∧ Hp w0 M_3 ((Ent.obj b_3 (.cells #[S ((mget d0_6 d1.fName).getD z_TB0).fId, S ((mget d0_6 d1.fName).getD z_TB0).fType, S ((mget d0_6 d1.fName).getD z_TB0).fCond, .slice A_2 ((mget d0_6 d1.fName).getD z_TB0).fProps.length cap_2, .slice A_3 ((mget d0_6 d1.fName).getD z_TB0).fDepends.length cap_3, .bool ((mget d0_6 d1.fName).getD z_TB0).fRetain, .slice A_4 ((mget d0_6 d1.fName).getD z_TB0).fInner.length cap_4] 49 (0, 0))) :: H) w_10) ?_ ?_
   ·refine R_reg (Y f 1 fun _ f => Y14 f p_4 (fzu hM_2 hc_2) 4 rfl fun _ f => Y f 1 fun _ f => Y14 f p_4 hc_4 3 rfl fun _ f => Z (v := .bool ((mget d0_4 d1.fName).getD false)) f (X_lookup1 (ek := S) (ev := Value.bool) (m := d0_4) (k := d1.fName) (z := false) (kt := 9) (et := 4) rfl (by kernel_rfl) (by kernel_rfl) (by kernel_rfl) (strKey (by kernel_rfl)) (by kernel_rfl) (p_4.mem _ _ ((hM_1.trans hM_2) _ _ h00_4))) fun _ f => Y f 1 fun _ f => ?_)
    rcases cE hj_1 with ⟨h_7, hF_6⟩ | ⟨h_7, hF_8⟩
    ·have f := f.st 34 (cB h_7)
     refine Y f 7 fun _ f => ?_
     obtain ⟨x_2, hx_2, hF_7⟩ := bS hF_6
     refine Y17 f p_4 (refs_yes_ok n _ (true) (160 : Int) x_2 hx_2) fun w_6 p_6 _ f => Y f 1 fun _ f => eT ?_
     exact ⟨x_2, (sI hF_7).symm, M_2, (mR _), f.kp, p_6⟩
    ·have f := f.st 34 (cB h_7)
     refine Y f 2 fun _ f => ?_
     rcases cE hF_8 with ⟨h_8, hF_9⟩ | ⟨h_8, hF_12⟩
     ·have f := f.st 36 (cB h_8)
      refine Z (v := .agg #[S ((mget d0_6 d1.fName).getD z_TB0).fId, S ((mget d0_6 d1.fName).getD z_TB0).fType, S ((mget d0_6 d1.fName).getD z_TB0).fCond, .slice A_2 ((mget d0_6 d1.fName).getD z_TB0).fProps.length cap_2, .slice A_3 ((mget d0_6 d1.fName).getD z_TB0).fDepends.length cap_3, .bool ((mget d0_6 d1.fName).getD z_TB0).fRetain, .slice A_4 ((mget d0_6 d1.fName).getD z_TB0).fInner.length cap_4]) f (Y27 (cs := [S ((mget d0_6 d1.fName).getD z_TB0).fId, S ((mget d0_6 d1.fName).getD z_TB0).fType, S ((mget d0_6 d1.fName).getD z_TB0).fCond, .slice A_2 ((mget d0_6 d1.fName).getD z_TB0).fProps.length cap_2, .slice A_3 ((mget d0_6 d1.fName).getD z_TB0).fDepends.length cap_3, .bool ((mget d0_6 d1.fName).getD z_TB0).fRetain, .slice A_4 ((mget d0_6 d1.fName).getD z_TB0).fInner.length cap_4]) rfl (ad := ⟨b_3, 0, none⟩) (own_cells (p_4.ownCell 0 rfl) 0 rfl)) fun _ f => ?_
      obtain ⟨x_3, hx_3, hF_10⟩ := bS hF_9
      refine Y17 f p_4 (refs_nested_ok n _ _ ((mget d0_6 d1.fName).getD z_TB0) (TB0.shutx (x := ((mget d0_6 d1.fName).getD z_TB0)) h_2 h_3 h_4) x_3 hx_3) fun w_7 p_7 _ f => Y f 3 fun _ f => ?_
      obtain ⟨x_4, hx_4, hF_11⟩ := bS hF_10
      refine Y17 f p_7 (refs_yes_ok n _ (!x_3) (160 : Int) x_4 hx_4) fun w_8 p_8 _ f => Y f 1 fun _ f => eT ?_
      exact ⟨x_4, (sI hF_11).symm, M_2, (mR _), f.kp, p_8⟩
     ·have f := f.st 36 (cB h_8)
      refine Y f 5 fun _ f => ?_
      obtain ⟨x_5, hx_5, hF_13⟩ := bS hF_12
      refine Y17 f p_4 (refs_yes_ok n _ (false) (160 : Int) x_5 hx_5) fun w_9 p_9 _ f => Y f 1 fun _ f => eT ?_
      exact ⟨x_5, (sI hF_13).symm, M_2, (mR _), f.kp, p_9⟩
   ·rintro a_42 w_10 ⟨y_1, hq_1, M_3, hM_3, f, p_10⟩
    subst j_1
    refine T_n (wp_ret (B_r (T_r (E_ret1 f rfl (by kernel_rfl : Vc.look _ 4 = some (.int .i64 y_1)) ?_))))
    obtain rfl := sI hF_5
    exact ⟨_, rfl, M_3, ((hM_1.trans hM_2).trans hM_3), (p_10.dropN 1), rfl⟩
  ·have k_8 := iff_f dI h_6
   refine wp_skip (B_n (T_n (R_seq (RR (Z (v := .agg #[S ((mget d0_6 d1.fName).getD z_TB0).fId, S ((mget d0_6 d1.fName).getD z_TB0).fType, S ((mget d0_6 d1.fName).getD z_TB0).fCond, .slice A_2 ((mget d0_6 d1.fName).getD z_TB0).fProps.length cap_2, .slice A_3 ((mget d0_6 d1.fName).getD z_TB0).fDepends.length cap_3, .bool ((mget d0_6 d1.fName).getD z_TB0).fRetain, .slice A_4 ((mget d0_6 d1.fName).getD z_TB0).fInner.length cap_4]) f (Y27 (cs := [S ((mget d0_6 d1.fName).getD z_TB0).fId, S ((mget d0_6 d1.fName).getD z_TB0).fType, S ((mget d0_6 d1.fName).getD z_TB0).fCond, .slice A_2 ((mget d0_6 d1.fName).getD z_TB0).fProps.length cap_2, .slice A_3 ((mget d0_6 d1.fName).getD z_TB0).fDepends.length cap_3, .bool ((mget d0_6 d1.fName).getD z_TB0).fRetain, .slice A_4 ((mget d0_6 d1.fName).getD z_TB0).fInner.length cap_4]) rfl (ad := ⟨b_3, 0, none⟩) (own_cells (p_4.ownCell 0 rfl) 0 rfl)) fun _ f => ?_)))))
   obtain ⟨x_6, hx_6, hF_15⟩ := bS hF_14
   refine Y17 f p_4 (refs_nested_ok n _ _ ((mget d0_6 d1.fName).getD z_TB0) (TB0.shutx (x := ((mget d0_6 d1.fName).getD z_TB0)) h_2 h_3 h_4) x_6 hx_6) fun w_11 p_11 _ f => Y f 1 fun _ f => eT (RcF f hF_15 (fun h_9 hF_16 => ?_) fun h_9 hF_25 => ?_)
   ·have k_9 : (x_6) = false := by simpa using h_9
    refine R_seq ?_
    obtain ⟨j_2, hj_2, hF_17⟩ := bS hF_16
    refine R_mid (fun a_63 w_15 => ∃ y_2 : Int, j_2 = y_2 ∧ ∃ M_4 : Mem, M_2.le M_4 ∧ Frm 83 [(4, .int .i64 y_2)] a_63 ∧ Hp w0 M_4 ((Ent.obj b_3 (.cells #[S ((mget d0_6 d1.fName).getD z_TB0).fId, S ((mget d0_6 d1.fName).getD z_TB0).fType, S ((mget d0_6 d1.fName).getD z_TB0).fCond, .slice A_2 ((mget d0_6 d1.fName).getD z_TB0).fProps.length cap_2, .slice A_3 ((mget d0_6 d1.fName).getD z_TB0).fDepends.length cap_3, .bool ((mget d0_6 d1.fName).getD z_TB0).fRetain, .slice A_4 ((mget d0_6 d1.fName).getD z_TB0).fInner.length cap_4] 49 (0, 0))) :: H) w_15) ?_ ?_
    ·refine R_reg (Y f 2 fun _ f => ?_)
     rcases cE hj_2 with ⟨h_10, hF_18⟩ | ⟨h_10, hF_23⟩
     ·have f := f.st 47 (cB h_10)
      refine Y f 1 fun _ f => Y14 f p_11 hc_4 4 rfl fun _ f => Z f (Y28 rfl (l := d1.fAttr) (m := [65, 114, 110])) fun _ f => Y f 1 fun _ f => ?_
      rcases cE hF_18 with ⟨h_11, hF_19⟩ | ⟨h_11, hF_21⟩
      ·have k_11 := dI.1 h_11
       have f := f.st 51 (cB h_11)
       refine Y f 5 fun _ f => ?_
       obtain ⟨x_7, hx_7, hF_20⟩ := bS hF_19
       refine Y17 f p_11 (refs_yes_ok n _ (true) (160 : Int) x_7 hx_7) fun w_12 p_12 _ f => Y f 1 fun _ f => eT ?_
       exact ⟨x_7, (sI hF_20).symm, M_2, (mR _), f.kp, p_12⟩
      ·have k_12 := iff_f dI h_11
       have f := f.st 51 (cB h_11)
       refine Y f 1 fun _ f => Y14 f p_11 hc_4 4 rfl fun _ f => Z f (Y28 rfl (l := d1.fAttr) (m := [90, 111, 110, 101])) fun _ f => Y f 2 fun _ f => ?_
       obtain ⟨x_8, hx_8, hF_22⟩ := bS hF_21
       refine Y17 f p_11 (refs_yes_ok n _ (decide (d1.fAttr = [90, 111, 110, 101])) (160 : Int) x_8 hx_8) fun w_13 p_13 _ f => Y f 1 fun _ f => eT ?_
       exact ⟨x_8, (sI hF_22).symm, M_2, (mR _), f.kp, p_13⟩
     ·have f := f.st 47 (cB h_10)
      refine Y f 9 fun _ f => ?_
      obtain ⟨x_9, hx_9, hF_24⟩ := bS hF_23
      refine Y17 f p_11 (refs_yes_ok n _ (false) (160 : Int) x_9 hx_9) fun w_14 p_14 _ f => Y f 1 fun _ f => eT ?_
      exact ⟨x_9, (sI hF_24).symm, M_2, (mR _), f.kp, p_14⟩
    ·rintro a_63 w_15 ⟨y_2, hq_2, M_4, hM_4, f, p_15⟩
     subst j_2
     refine T_n (wp_ret (T_r (E_ret1 f rfl (by kernel_rfl : Vc.look _ 4 = some (.int .i64 y_2)) ?_)))
     obtain rfl := sI hF_17
     exact ⟨_, rfl, M_4, ((hM_1.trans hM_2).trans hM_4), (p_15.dropN 1), rfl⟩
   ·have k_14 : (x_6) = true := by simpa using h_9
    refine wp_skip (T_n (RR (Y f 1 fun _ f => Y14 f p_11 hc_4 4 rfl fun _ f => ?_)))
    obtain ⟨x_10, hx_10, hF_26⟩ := bS hF_25
    refine Y17 f p_11 (strings_CutPrefix_ok n _ d1.fAttr [79, 117, 116, 112, 117, 116, 115, 46] x_10 hx_10) fun w_16 p_16 _ f => Y f 5 fun _ f => eT (R_seq (R_seq ?_))
    obtain ⟨j_3, hj_3, hF_27⟩ := bS hF_26
    refine R_mid (fun a_73 w_17 => ∃ y_3 : Bool, j_3 = y_3 ∧ ∃ M_5 : Mem, M_2.le M_5 ∧ Frm 83 [(5, .pointer (some (⟨b_3, 0, none⟩))), (7, S x_10.1), (8, .bool y_3)] a_73 ∧ Hp w0 M_5 ((Ent.obj b_3 (.cells #[S ((mget d0_6 d1.fName).getD z_TB0).fId, S ((mget d0_6 d1.fName).getD z_TB0).fType, S ((mget d0_6 d1.fName).getD z_TB0).fCond, .slice A_2 ((mget d0_6 d1.fName).getD z_TB0).fProps.length cap_2, .slice A_3 ((mget d0_6 d1.fName).getD z_TB0).fDepends.length cap_3, .bool ((mget d0_6 d1.fName).getD z_TB0).fRetain, .slice A_4 ((mget d0_6 d1.fName).getD z_TB0).fInner.length cap_4] 49 (0, 0))) :: H) w_17) ?_ ?_
    ·refine R_reg (Y f 2 fun _ f => ?_)
     rcases cE hj_3 with ⟨h_12, hF_28⟩ | ⟨h_12, hF_29⟩
     ·have f := f.st 65 (cB h_12)
      refine Y f 1 fun _ f => Z f (Y26 (v := .slice A_4 ((mget d0_6 d1.fName).getD z_TB0).fInner.length cap_4) rfl (ad := ⟨b_3, 6, none⟩) (p_16.ownCell 0 rfl 6)) fun _ f => Y f 4 fun _ f => eT ?_
      exact ⟨(decide (((((mget d0_6 d1.fName).getD z_TB0).fInner.length : Nat) : Int) = 1)), (sI hF_28).symm, M_2, (mR _), f.kp, p_16⟩
     ·have f := f.st 65 (cB h_12)
      refine Y f 6 fun _ f => eT ?_
      exact ⟨(false), (sI hF_29).symm, M_2, (mR _), f.kp, p_16⟩
    ·rintro a_73 w_17 ⟨y_3, hq_3, M_5, hM_5, f, p_17⟩
     subst j_3
     refine T_n (RR (Y f 1 fun _ f => eT (RcF f hF_27 (fun h_13 hF_30 => ?_) fun h_13 hF_34 => ?_)))
     ·refine R_reg (Y f 1 fun _ f => Z f (Y26 (v := .slice A_4 ((mget d0_6 d1.fName).getD z_TB0).fInner.length cap_4) rfl (ad := ⟨b_3, 6, none⟩) (p_17.ownCell 0 rfl 6)) fun _ f => ?_)
      obtain ⟨x_11, hx_11, hF_31⟩ := bS hF_30
      obtain ⟨ad_1, c_2, e_1, -, hr_2, hc_6⟩ := Sli.at_ (h_4.mono hM_5) hx_11
      obtain ⟨A_5, cap_5, A_6, cap_6, A_7, cap_7, A_8, cap_8, rfl, h_14, h_15, h_16, h_17⟩ := TA0.opn hr_2
      refine Z f (Y25 e_1 rfl (len := ((mget d0_6 d1.fName).getD z_TB0).fInner.length) (cap := cap_4) (k := .i64) (i := (0 : Int)) (e := 27) (sz := 4) (getI_nn hx_11) (getI_lt hx_11)) fun _ f => Z (v := .agg #[.slice A_5 x_11.fParams.length cap_5, .slice A_6 x_11.fConds.length cap_6, .slice A_7 x_11.fRes.length cap_7, .slice A_8 x_11.fOuts.length cap_8]) f (Y27 (cs := [.slice A_5 x_11.fParams.length cap_5, .slice A_6 x_11.fConds.length cap_6, .slice A_7 x_11.fRes.length cap_7, .slice A_8 x_11.fOuts.length cap_8]) rfl (ad := ad_1.add ((0 : Int).toNat * 4)) (fun j v h => p_17.cell (hc_6 j v h))) fun _ f => Y f 1 fun _ f => ?_
      obtain ⟨x_12, hx_12, hF_32⟩ := bS hF_31
      refine Y15 f p_17 (refs_Output_ok n _ _ x_11 (TA0.shutx (x := x_11) h_14 h_15 h_16 h_17) x_10.1 x_12 hx_12) fun _ M_6 w_18 hM_6 p_18 q_1 _ f => ?_
      obtain ⟨c_3, rfl, hr_3⟩ := q_1
      obtain ⟨A_9, cap_9, rfl, h_18⟩ := TC0.opn hr_3
      refine Y f 4 fun _ f => eT (RR (Y f 1 fun _ f => ?_))
      obtain ⟨x_13, hx_13, hF_33⟩ := bS hF_32
      refine Y17 f p_18 (refs_yes_ok n _ (x_12.2) (160 : Int) x_13 hx_13) fun w_19 p_19 _ f => Y f 1 fun _ f => eT (wp_ret (E_ret1 f rfl (by kernel_rfl : Vc.look _ 4 = some (.int .i64 x_13)) ?_))
      obtain rfl := sI hF_33
      exact ⟨_, rfl, M_6, (((hM_1.trans hM_2).trans hM_5).trans hM_6), (p_19.dropN 1), rfl⟩
     ·refine wp_skip (T_n (RR (Y f 1 fun _ f => ?_)))
      obtain ⟨x_14, hx_14, hF_35⟩ := bS hF_34
      refine Y17 f p_17 (refs_yes_ok n _ (y_3) (160 : Int) x_14 hx_14) fun w_20 p_20 _ f => Y f 1 fun _ f => eT (wp_ret (E_ret1 f rfl (by kernel_rfl : Vc.look _ 4 = some (.int .i64 x_14)) ?_))
      obtain rfl := sI hF_35
      exact ⟨_, rfl, M_5, ((hM_1.trans hM_2).trans hM_5), (p_20.dropN 1), rfl⟩
def refs_scope_uses_s1 (n : Nat) (d0_0 : List TD0) (d0_1 : List TF0) (d0_2 : List TB0) (d0_3 : List TC0) (d0_4 : List ((List UInt8) × Bool)) (d0_5 : List ((List UInt8) × Bool)) (d0_6 : List ((List UInt8) × TB0)) (_ : Unit) (x_1 : TH0) : Option (Lp Unit Int) :=
    (refs_scope_use n d0_0 d0_1 d0_2 d0_3 d0_4 d0_5 d0_6 x_1).bind fun x_2 =>
    bif (!(decide (x_2 = 0))) then
      (some (.br x_2))
    else
      some (.nx ())
def refs_scope_uses (n : Nat) (d0_0 : List TD0) (d0_1 : List TF0) (d0_2 : List TB0) (d0_3 : List TC0) (d0_4 : List ((List UInt8) × Bool)) (d0_5 : List ((List UInt8) × Bool)) (d0_6 : List ((List UInt8) × TB0)) (d1 : TH0) : Option Int :=
  need (sizeX d1 ≤ 9223372036854775806) <|
  (foldY (refs_scope_uses_s1 n d0_0 d0_1 d0_2 d0_3 d0_4 d0_5 d0_6) (usesV d1) ()).bind fun j_1 =>
  (match j_1 with 
  | .nx _ => some ((0 : Int)) 
  | .br b_5 => some (b_5))
theorem refs_scope_uses_ok (n : Nat) (M : Mem) (A0_0 : Option Addr) (cap0_0 : Nat) (d0_0 : List TD0) (h0_0 : Sli M 10 emb_TD0 A0_0 cap0_0 d0_0) (A0_1 : Option Addr) (cap0_1 : Nat) (d0_1 : List TF0) (h0_1 : Sli M 15 emb_TF0 A0_1 cap0_1 d0_1) (A0_2 : Option Addr) (cap0_2 : Nat) (d0_2 : List TB0) (h0_2 : Sli M 7 emb_TB0 A0_2 cap0_2 d0_2) (A0_3 : Option Addr) (cap0_3 : Nat) (d0_3 : List TC0) (h0_3 : Sli M 8 emb_TC0 A0_3 cap0_3 d0_3) (b0_4 : Nat) (d0_4 : List ((List UInt8) × Bool)) (h00_4 : M b0_4 = some (mapO S Value.bool d0_4)) (b0_5 : Nat) (d0_5 : List ((List UInt8) × Bool)) (h00_5 : M b0_5 = some (mapO S Value.bool d0_5)) (b0_6 : Nat) (d0_6 : List ((List UInt8) × TB0)) (m0_6 : List ((List UInt8) × Value)) (h00_6 : M b0_6 = some (mapO S idV m0_6)) (h0_6 : RepMap M emb_TB0 d0_6 m0_6) (c1 : List Value) (d1 : TH0) (h1 : Rep M (emb_TH0 d1) c1) (r : Int) (hF : refs_scope_uses n d0_0 d0_1 d0_2 d0_3 d0_4 d0_5 d0_6 d1 = some r) : Ok Try.prog M 18 [.agg #[.slice A0_0 d0_0.length cap0_0, .slice A0_1 d0_1.length cap0_1, .slice A0_2 d0_2.length cap0_2, .slice A0_3 d0_3.length cap0_3, .map (some b0_4), .map (some b0_5), .map (some b0_6)], .agg c1.toArray] (fun _ v => v = .int .i64 r) := by
 unfold refs_scope_uses at hF
 intro M1 hM0 w0 H w p0
 replace h0_0 := h0_0.mono hM0
 replace h0_1 := h0_1.mono hM0
 replace h0_2 := h0_2.mono hM0
 replace h0_3 := h0_3.mono hM0
 replace h00_4 := hM0 _ _ h00_4
 replace h00_5 := hM0 _ _ h00_5
 replace h00_6 := hM0 _ _ h00_6
 replace h0_6 := RepMap.mono hM0 h0_6
 replace h1 := Rep.mono hM0 _ _ h1
 obtain ⟨A_1, cap_1, rfl, h_1⟩ := TH0.opn h1
 refine R_enterM 16 Try.func18 rfl rfl (by simp) fun a0 f0 => RR (Y12 (cs := #[.slice A0_0 d0_0.length cap0_0, .slice A0_1 d0_1.length cap0_1, .slice A0_2 d0_2.length cap0_2, .slice A0_3 d0_3.length cap0_3, .map (some b0_4), .map (some b0_5), .map (some b0_6)]) (T := 62) f0 p0 fun b_1 M_1 w_1 hM_1 hc_1 p_1 _ f => ?_)
 have hc_2 := fz_box hc_1
 refine Y12 (cs := #[.int .i8 d1.fKind, S d1.fText, .int .i64 d1.fNum, S d1.fName, S d1.fAttr, .slice A_1 d1.fL.length cap_1]) (T := 37) f p_1 fun b_2 M_2 w_2 hM_2 hc_3 p_2 _ f => ?_
 have hc_4 := fz_box hc_3
 refine Y11 f p_2 (.cells #[.int .i64 0] 31 (0, 0)) fun b_3 w_3 p_3 _ f => eT (R_seq (RR (Z (v := .agg #[.int .i8 d1.fKind, S d1.fText, .int .i64 d1.fNum, S d1.fName, S d1.fAttr, .slice A_1 d1.fL.length cap_1]) f (Y27 (cs := [.int .i8 d1.fKind, S d1.fText, .int .i64 d1.fNum, S d1.fName, S d1.fAttr, .slice A_1 d1.fL.length cap_1]) rfl (ad := ⟨b_2, 0, none⟩) (fun j v h => p_3.cell (hc_4 j v h))) fun _ f => ?_)))
 obtain ⟨g_1, hF_1⟩ := nS hF
 refine Y15 f p_3 (all_it d1 g_1 _ [.int .i8 d1.fKind, S d1.fText, .int .i64 d1.fNum, S d1.fName, S d1.fAttr, .slice A_1 d1.fL.length cap_1] (TH0.shutx (x := d1) (h_1.mono (hM_1.trans hM_2)))) fun _ M_3 w_4 hM_3 p_4 q_1 a_5 f => ?_
 obtain ⟨fv_1, cp_1, rfl, hit_1⟩ := q_1
 refine eT (wp_block ?_)
 have f : Frm 16 [(2, .pointer (some (⟨b_1, 0, none⟩))), (4, .pointer (some (⟨b_3, 0, none⟩))), (8, .func (.func fv_1) #[] cp_1.toArray)] a_5 := f.kp
 obtain ⟨j_1, hL_1, hF_2⟩ := bS hF_1
 refine R_range (σ := Unit) (β := Int) (vals := valsX) (Y := (refs_scope_uses_s1 n d0_0 d0_1 d0_2 d0_3 d0_4 d0_5 d0_6)) (E0 := [Ent.obj b_3 (.cells #[.int .i64 0] 31 (0, 0))]) (H := H) (w0 := w0) (M := M_3) (f := fv_1) (caps := cp_1) f p_4 (by kernel_rfl) (by kernel_rfl) (by kernel_rfl) hit_1.1 (fun (s_1 : Unit) M' E1 => E1 = [Ent.obj b_3 (.cells #[.int .i64 0] 31 (0, 0))]) (fun (y_1 : Int) M' E1 => E1 = [Ent.obj b_3 (.cells #[.int .i64 y_1] 31 (0, 0))]) (fun (_ : Int) => Jmp.ret) () j_1 rfl (fun s_ M_ M2_ E_ hM h => h) (fun s_ M_ M2_ E_ hM h => h) (fun M_ x_ vs_ h => by obtain ⟨c_, h, _⟩ := h; exact ⟨_, h⟩) (hit_1.2 _ _ _ _ _ hL_1) ?_ ?_ ?_
 ·rintro s_1 x_1 r_1 hs_1 l_1 w0 M_4 E_1 H w_5 _ v_1 hM_4 rfl ⟨cc_1, hv_1, hr_1⟩ p_5 f
  obtain rfl : v_1 = .agg cc_1.toArray := by simpa using hv_1
  unfold refs_scope_uses_s1 at hs_1
  obtain ⟨A_2, cap_2, rfl, h_2⟩ := TH0.opn hr_1
  refine RI_reg (then_out F_out) (by kernel_rfl) (Y11 f p_5 (.cells #[.int .i8 0, S [], .int .i64 0, S [], S [], .slice none 0 0] 37 (0, 0)) fun b_4 w_6 p_6 _ f => Y22 (vs := [.int .i8 x_1.fKind, S x_1.fText, .int .i64 x_1.fNum, S x_1.fName, S x_1.fAttr, .slice A_2 x_1.fL.length cap_2]) (j := 0) f p_6 rfl rfl (by simp [Value.oneCell', S]) (by simp) (by decide) (cs' := #[.int .i8 x_1.fKind, S x_1.fText, .int .i64 x_1.fNum, S x_1.fName, S x_1.fAttr, .slice A_2 x_1.fL.length cap_2]) (by kernel_rfl) fun w_7 p_7 _ f => eT (⟨M_4, [Ent.obj b_4 (.cells #[.int .i8 x_1.fKind, S x_1.fText, .int .i64 x_1.fNum, S x_1.fName, S x_1.fAttr, .slice A_2 x_1.fL.length cap_2] 37 (0, 0)), Ent.obj b_3 (.cells #[.int .i64 0] 31 (0, 0))], (mR _), p_7, fun H w_8 p_8 => ?_⟩))
  refine RI_block (RI_seq (RI_reg (then_out (block_out (RB_out))) (by kernel_rfl) (Z (v := .agg #[.slice A0_0 d0_0.length cap0_0, .slice A0_1 d0_1.length cap0_1, .slice A0_2 d0_2.length cap0_2, .slice A0_3 d0_3.length cap0_3, .map (some b0_4), .map (some b0_5), .map (some b0_6)]) f (Y27 (cs := [.slice A0_0 d0_0.length cap0_0, .slice A0_1 d0_1.length cap0_1, .slice A0_2 d0_2.length cap0_2, .slice A0_3 d0_3.length cap0_3, .map (some b0_4), .map (some b0_5), .map (some b0_6)]) rfl (ad := ⟨b_1, 0, none⟩) (fun j v h => p_8.cell ((fzu ((hM_2.trans hM_3).trans hM_4) hc_2) j v h))) fun _ f => Z (v := .agg #[.int .i8 x_1.fKind, S x_1.fText, .int .i64 x_1.fNum, S x_1.fName, S x_1.fAttr, .slice A_2 x_1.fL.length cap_2]) f (Y27 (cs := [.int .i8 x_1.fKind, S x_1.fText, .int .i64 x_1.fNum, S x_1.fName, S x_1.fAttr, .slice A_2 x_1.fL.length cap_2]) rfl (ad := ⟨b_4, 0, none⟩) (own_cells (p_8.ownCell 0 rfl) 0 rfl)) fun _ f => ?_)))
  obtain ⟨x_2, hx_1, hF_3⟩ := bS hs_1
  refine Y17 f p_8 (refs_scope_use_ok n _ A0_0 cap0_0 d0_0 (h0_0.mono (((hM_1.trans hM_2).trans hM_3).trans hM_4)) A0_1 cap0_1 d0_1 (h0_1.mono (((hM_1.trans hM_2).trans hM_3).trans hM_4)) A0_2 cap0_2 d0_2 (h0_2.mono (((hM_1.trans hM_2).trans hM_3).trans hM_4)) A0_3 cap0_3 d0_3 (h0_3.mono (((hM_1.trans hM_2).trans hM_3).trans hM_4)) b0_4 d0_4 ((((hM_1.trans hM_2).trans hM_3).trans hM_4) _ _ h00_4) b0_5 d0_5 ((((hM_1.trans hM_2).trans hM_3).trans hM_4) _ _ h00_5) b0_6 d0_6 m0_6 ((((hM_1.trans hM_2).trans hM_3).trans hM_4) _ _ h00_6) (h0_6.mono (((hM_1.trans hM_2).trans hM_3).trans hM_4)) _ x_1 (TH0.shutx (x := x_1) h_2) x_2 hx_1) fun w_9 p_9 _ f => Y f 1 fun _ f => eT (RI_seq (RI_reg (then_out (block_out (RB_out))) (by kernel_rfl) (Y f 2 fun _ f => eT (RI_cond f (b := !(decide (x_2 = 0))) (by kernel_rfl) (by kernel_rfl) (fun h_3 => ?_) fun h_3 => ?_))))
  ·have k_1 : ¬ (x_2 = 0) := (not_iff dI).1 h_3
   have hF_4 := cnd_t h_3 hF_3
   refine RI_seq (RI_reg (then_out (block_out (RB_out))) (by kernel_rfl) (Y f 1 fun _ f => Y21 f p_9 1 rfl rfl (b := b_3) (j := 0) (v := .int .i64 x_2) rfl (by exact rfl) (by simp) (by simp) ((Ent.obj b_4 (.cells #[.int .i8 x_1.fKind, S x_1.fText, .int .i64 x_1.fNum, S x_1.fName, S x_1.fAttr, .slice A_2 x_1.fL.length cap_2] 37 (0, 0))) :: (Ent.obj b_3 (.cells #[.int .i64 x_2] 31 (0, 0))) :: H) rfl fun w_10 p_10 _ f => eT (RI_ret (B_r ?_))))
   obtain rfl := sI hF_4
   exact RB_x rfl ⟨M_4, [Ent.obj b_3 (.cells #[.int .i64 x_2] 31 (0, 0))], (mR _), (p_10.dropN 1), rfl⟩
  ·have k_2 : ¬ (¬ (x_2 = 0)) := iff_f (not_iff dI) h_3
   have hF_5 := cnd_f h_3 hF_3
   refine RI_skip (B_n ?_)
   obtain rfl := sI hF_5
   exact RB_n ⟨M_4, [Ent.obj b_3 (.cells #[.int .i64 0] 31 (0, 0))], (mR _), (p_9.dropN 1), rfl⟩
 ·rintro s_2 rfl l_2 D_1 rr_1 M_5 E_2 w_11 _ hM_5 rfl p_11 f
  replace p_11 : Hp w0 M_5 ((Ent.obj D_1 (.deferred (some []))) :: (Ent.obj b_3 (.cells #[.int .i64 0] 31 (0, 0))) :: H) w_11 := p_11.drop
  replace hF_2 : (_ : Option _) = some _ := hF_2
  refine B_n (T_n (RR (Y21 f p_11 1 rfl rfl (b := b_3) (j := 0) (v := .int .i64 0) rfl (by exact rfl) (by simp) (by simp) ((Ent.obj D_1 (.deferred (some []))) :: (Ent.obj b_3 (.cells #[.int .i64 0] 31 (0, 0))) :: H) rfl fun w_12 p_12 _ f => eT (wp_ret (E_M1 f p_12 fun w_13 p_13 => V_rv1 rfl (Y8 (v := .int .i64 0) (ad := ⟨b_3, 0, none⟩) f (p_13.ownCell 0 rfl 0)) ?_)))))
  obtain rfl := sI hF_2
  exact ⟨_, rfl, M_5, (((hM_1.trans hM_2).trans hM_3).trans hM_5), (p_13.dropN 1), rfl⟩
 ·rintro b_5 rfl l_3 D_2 rr_2 M_6 E_3 w_14 _ hM_6 hx_2 p_14 f
  obtain rfl := hx_2
  replace p_14 : Hp w0 M_6 ((Ent.obj D_2 (.deferred (some []))) :: (Ent.obj b_3 (.cells #[.int .i64 b_5] 31 (0, 0))) :: H) w_14 := p_14.drop
  refine B_r (T_r (E_M1 f p_14 fun w_15 p_15 => V_rv1 rfl (Y8 (v := .int .i64 b_5) (ad := ⟨b_3, 0, none⟩) f (p_15.ownCell 0 rfl 0)) ?_))
  obtain rfl := sI hF_2
  exact ⟨_, rfl, M_6, (((hM_1.trans hM_2).trans hM_3).trans hM_6), (p_15.dropN 1), rfl⟩
def refs_scope_props_s1 (n : Nat) (d0_0 : List TD0) (d0_1 : List TF0) (d0_2 : List TB0) (d0_3 : List TC0) (d0_4 : List ((List UInt8) × Bool)) (d0_5 : List ((List UInt8) × Bool)) (d0_6 : List ((List UInt8) × TB0)) (d1 : TB0) (s_1 : Int) : Option (Lp Int (Sum Int Unit)) :=
    bif (decide (s_1 < ((d1.fProps.length : Nat) : Int))) then
      ((getI d1.fProps s_1).bind fun x_1 =>
      (schema_Find n d1.fType x_1.fName).bind fun x_2 =>
      (refs_nested n d1).bind fun x_3 =>
      ((bif x_3 then
          ((getI d1.fInner (0 : Int)).bind fun x_4 =>
          (refs_open n x_4).bind fun x_5 =>
          some (((170 : Int), ((mget x_5.2.2.2.2.1 x_1.fName).getD false))))
        else
          some (((91 : Int), (x_2.2))) : Option (Int × Bool))).bind fun y_1 =>
      bif !y_1.2 then
        (some (.br (.inl y_1.1)))
      else
        (refs_scope_uses n d0_0 d0_1 d0_2 d0_3 d0_4 d0_5 d0_6 (⟨x_1.fE.fKind, x_1.fE.fText, x_1.fE.fNum, x_1.fE.fName, x_1.fE.fAttr, x_1.fE.fL⟩ : TH0)).bind fun x_6 =>
        bif (!(decide (x_6 = 0))) then
          (some (.br (.inl x_6)))
        else
          need (inR .i64 (s_1 + 1)) <|
          some (.nx (s_1 + 1)))
    else
      some (.br (.inr ()))
def refs_scope_props (n : Nat) (d0_0 : List TD0) (d0_1 : List TF0) (d0_2 : List TB0) (d0_3 : List TC0) (d0_4 : List ((List UInt8) × Bool)) (d0_5 : List ((List UInt8) × Bool)) (d0_6 : List ((List UInt8) × TB0)) (d1 : TB0) : Option Int :=
  (loopF (refs_scope_props_s1 n d0_0 d0_1 d0_2 d0_3 d0_4 d0_5 d0_6 d1) n (0 : Int)).bind fun b_3 =>
  (match b_3 with 
  | .inl y_2 => some (y_2) 
  | .inr y_3 => some ((0 : Int)))
set_option maxRecDepth 20000 in
theorem refs_scope_props_ok (n : Nat) (M : Mem) (A0_0 : Option Addr) (cap0_0 : Nat) (d0_0 : List TD0) (h0_0 : Sli M 10 emb_TD0 A0_0 cap0_0 d0_0) (A0_1 : Option Addr) (cap0_1 : Nat) (d0_1 : List TF0) (h0_1 : Sli M 15 emb_TF0 A0_1 cap0_1 d0_1) (A0_2 : Option Addr) (cap0_2 : Nat) (d0_2 : List TB0) (h0_2 : Sli M 7 emb_TB0 A0_2 cap0_2 d0_2) (A0_3 : Option Addr) (cap0_3 : Nat) (d0_3 : List TC0) (h0_3 : Sli M 8 emb_TC0 A0_3 cap0_3 d0_3) (b0_4 : Nat) (d0_4 : List ((List UInt8) × Bool)) (h00_4 : M b0_4 = some (mapO S Value.bool d0_4)) (b0_5 : Nat) (d0_5 : List ((List UInt8) × Bool)) (h00_5 : M b0_5 = some (mapO S Value.bool d0_5)) (b0_6 : Nat) (d0_6 : List ((List UInt8) × TB0)) (m0_6 : List ((List UInt8) × Value)) (h00_6 : M b0_6 = some (mapO S idV m0_6)) (h0_6 : RepMap M emb_TB0 d0_6 m0_6) (c1 : List Value) (d1 : TB0) (h1 : Rep M (emb_TB0 d1) c1) (r : Int) (hF : refs_scope_props n d0_0 d0_1 d0_2 d0_3 d0_4 d0_5 d0_6 d1 = some r) : Ok Try.prog M 38 [.agg #[.slice A0_0 d0_0.length cap0_0, .slice A0_1 d0_1.length cap0_1, .slice A0_2 d0_2.length cap0_2, .slice A0_3 d0_3.length cap0_3, .map (some b0_4), .map (some b0_5), .map (some b0_6)], .agg c1.toArray] (fun _ v => v = .int .i64 r) := by
 unfold refs_scope_props at hF
 intro M1 hM0 w0 H w p0
 replace h0_0 := h0_0.mono hM0
 replace h0_1 := h0_1.mono hM0
 replace h0_2 := h0_2.mono hM0
 replace h0_3 := h0_3.mono hM0
 replace h00_4 := hM0 _ _ h00_4
 replace h00_5 := hM0 _ _ h00_5
 replace h00_6 := hM0 _ _ h00_6
 replace h0_6 := RepMap.mono hM0 h0_6
 replace h1 := Rep.mono hM0 _ _ h1
 obtain ⟨A_1, cap_1, A_2, cap_2, A_3, cap_3, rfl, h_1, h_2, h_3⟩ := TB0.opn h1
 refine R_enter 48 Try.func38 rfl rfl (by simp) fun a0 f0 => RR (Y12 (cs := #[.slice A0_0 d0_0.length cap0_0, .slice A0_1 d0_1.length cap0_1, .slice A0_2 d0_2.length cap0_2, .slice A0_3 d0_3.length cap0_3, .map (some b0_4), .map (some b0_5), .map (some b0_6)]) (T := 62) f0 p0 fun b_1 M_1 w_1 hM_1 hc_1 p_1 _ f => ?_)
 have hc_2 := fz_box hc_1
 refine Y12 (cs := #[S d1.fId, S d1.fType, S d1.fCond, .slice A_1 d1.fProps.length cap_1, .slice A_2 d1.fDepends.length cap_2, .bool d1.fRetain, .slice A_3 d1.fInner.length cap_3]) (T := 49) f p_1 fun b_2 M_2 w_2 hM_2 hc_3 p_2 _ f => ?_
 have hc_4 := fz_box hc_3
 refine Y f 1 fun _ f => eT (R_seq (RR (Y f 1 fun _ f => Y14 f p_2 hc_4 3 rfl fun _ f => Y f 2 fun _ f => eT (wp_block ?_))))
 obtain ⟨b_3, hL_1, hF_1⟩ := bS hF
 refine wp_mono (Q := fun e a w => (e = .ret ∧ (∃ y_2 : Int, b_3 = .inl y_2 ∧ ∃ M_7 : Mem, M_2.le M_7 ∧ Frm 48 [(4, .int .i64 y_2)] a ∧ Hp w0 M_7 (H) w)) ∨ (e = .exit 0 ∧ (∃ y_3 : Unit, b_3 = .inr y_3 ∧ ∃ M_8 : Mem, M_2.le M_8 ∧ Frm 48 [] a ∧ Hp w0 M_8 (H) w))) (R_loop (n := 48) (w0 := w0) (M := M_2) (fun (x : Nat × Int) => match x with | (m_1, s_1) => [(2, .pointer (some (⟨b_1, 0, none⟩))), (3, .pointer (some (⟨b_2, 0, none⟩))), (12, .slice A_1 d1.fProps.length cap_1), (13, .int .i64 ((d1.fProps.length : Nat) : Int)), (14, .int .i64 s_1)]) (fun (x : Nat × Int) => match x with | (m_1, s_1) => (H)) (fun (x : Nat × Int) (MM : Mem) => match x with | (m_1, s_1) => loopF (refs_scope_props_s1 n d0_0 d0_1 d0_2 d0_3 d0_4 d0_5 d0_6 d1) m_1 s_1 = some b_3) (fun (x : Nat × Int) => match x with | (m_1, s_1) => m_1) (n, (0 : Int)) (f.kp) p_2 hL_1 ?_) ?_
 ·rintro ⟨m_1, s_1⟩ M_3 _ w_3 hM_3 I_1 f p_3
  have I_1L := I_1
  obtain ⟨m_2, r_1, rfl, hs_1, hn_1⟩ := loop_step I_1L
  unfold refs_scope_props_s1 at hs_1
  refine RR (Y f 1 fun _ f => eT (R_seq (RcF f hs_1 (fun h_4 hF_2 => ?_) fun h_4 hF_17 => ?_)))
  ·have k_1 := dI.1 h_4
   refine wp_skip (T_n (R_seq (wp_block (RR ?_))))
   obtain ⟨x_1, hx_1, hF_3⟩ := bS hF_2
   obtain ⟨ad_1, c_1, e_1, -, hr_1, hc_5⟩ := Sli.at_ (h_1.mono ((hM_1.trans hM_2).trans hM_3)) hx_1
   obtain ⟨A_4, cap_4, rfl, h_5⟩ := TI0.opn hr_1
   refine Z f (Y25 e_1 rfl (len := d1.fProps.length) (cap := cap_1) (k := .i64) (i := s_1) (e := 70) (sz := 7) (getI_nn hx_1) (getI_lt hx_1)) fun _ f => Z (v := .agg #[S x_1.fName, .int .i8 x_1.fE.fKind, S x_1.fE.fText, .int .i64 x_1.fE.fNum, S x_1.fE.fName, S x_1.fE.fAttr, .slice A_4 x_1.fE.fL.length cap_4]) f (Y27 (cs := [S x_1.fName, .int .i8 x_1.fE.fKind, S x_1.fE.fText, .int .i64 x_1.fE.fNum, S x_1.fE.fName, S x_1.fE.fAttr, .slice A_4 x_1.fE.fL.length cap_4]) rfl (ad := ad_1.add (s_1.toNat * 7)) (fun j v h => p_3.cell (hc_5 j v h))) fun _ f => Y11 f p_3 (.cells #[S [], .int .i8 0, S [], .int .i64 0, S [], S [], .slice none 0 0] 70 (0, 0)) fun b_4 w_4 p_4 _ f => Y22 (vs := [S x_1.fName, .int .i8 x_1.fE.fKind, S x_1.fE.fText, .int .i64 x_1.fE.fNum, S x_1.fE.fName, S x_1.fE.fAttr, .slice A_4 x_1.fE.fL.length cap_4]) (j := 0) f p_4 rfl rfl (by simp [Value.oneCell', S]) (by simp) (by decide) (cs' := #[S x_1.fName, .int .i8 x_1.fE.fKind, S x_1.fE.fText, .int .i64 x_1.fE.fNum, S x_1.fE.fName, S x_1.fE.fAttr, .slice A_4 x_1.fE.fL.length cap_4]) (by kernel_rfl) fun w_5 p_5 _ f => eT (RR (Y f 1 fun _ f => eT (RR (Y f 1 fun _ f => Y14 f p_5 (fzu hM_3 hc_4) 1 rfl fun _ f => Y f 1 fun _ f => Z f (Y26 (v := S x_1.fName) rfl (ad := ⟨b_4, 0, none⟩) (p_5.ownCell 0 rfl 0)) fun _ f => ?_))))
   obtain ⟨x_2, hx_2, hF_4⟩ := bS hF_3
   refine Y15 f p_5 (schema_Find_ok n _ d1.fType x_1.fName x_2 hx_2) fun _ M_4 w_6 hM_4 p_6 q_1 _ f => ?_
   obtain ⟨c_2, rfl, hr_2⟩ := q_1
   obtain rfl := TG0.opn hr_2
   refine Y f 3 fun _ f => Y11 f p_6 (.cells #[S [], .int .i8 0, .bool false] 102 (0, 0)) fun b_5 w_7 p_7 _ f => Y22 (vs := [S x_2.1.fName, .int .i8 x_2.1.fKind, .bool x_2.1.fReplace]) (j := 0) f p_7 rfl rfl (by simp [Value.oneCell', S]) (by simp) (by decide) (cs' := #[S x_2.1.fName, .int .i8 x_2.1.fKind, .bool x_2.1.fReplace]) (by kernel_rfl) fun w_8 p_8 _ f => Y f 1 fun _ f => eT (R_seq (RR (Z (v := .agg #[S d1.fId, S d1.fType, S d1.fCond, .slice A_1 d1.fProps.length cap_1, .slice A_2 d1.fDepends.length cap_2, .bool d1.fRetain, .slice A_3 d1.fInner.length cap_3]) f (Y27 (cs := [S d1.fId, S d1.fType, S d1.fCond, .slice A_1 d1.fProps.length cap_1, .slice A_2 d1.fDepends.length cap_2, .bool d1.fRetain, .slice A_3 d1.fInner.length cap_3]) rfl (ad := ⟨b_2, 0, none⟩) (fun j v h => p_8.cell ((fzu (hM_3.trans hM_4) hc_4) j v h))) fun _ f => ?_)))
   obtain ⟨x_3, hx_3, hF_5⟩ := bS hF_4
   refine Y17 f p_8 (refs_nested_ok n _ _ d1 (TB0.shutx (x := d1) (h_1.mono (((hM_1.trans hM_2).trans hM_3).trans hM_4)) (h_2.mono (((hM_1.trans hM_2).trans hM_3).trans hM_4)) (h_3.mono (((hM_1.trans hM_2).trans hM_3).trans hM_4))) x_3 hx_3) fun w_9 p_9 _ f => eT ?_
   obtain ⟨j_1, hj_1, hF_6⟩ := bS hF_5
   refine R_mid (fun a_35 w_14 => ∃ y_1 : Int × Bool, j_1 = y_1 ∧ ∃ M_6 : Mem, M_4.le M_6 ∧ Frm 48 [(2, .pointer (some (⟨b_1, 0, none⟩))), (3, .pointer (some (⟨b_2, 0, none⟩))), (6, .pointer (some (⟨b_4, 0, none⟩))), (7, .int .i64 y_1.1), (9, .bool y_1.2), (12, .slice A_1 d1.fProps.length cap_1), (13, .int .i64 ((d1.fProps.length : Nat) : Int)), (14, .int .i64 s_1)] a_35 ∧ Hp w0 M_6 ((Ent.obj b_5 (.cells #[S x_2.1.fName, .int .i8 x_2.1.fKind, .bool x_2.1.fReplace] 102 (0, 0))) :: (Ent.obj b_4 (.cells #[S x_1.fName, .int .i8 x_1.fE.fKind, S x_1.fE.fText, .int .i64 x_1.fE.fNum, S x_1.fE.fName, S x_1.fE.fAttr, .slice A_4 x_1.fE.fL.length cap_4] 70 (0, 0))) :: H) w_14) ?_ ?_
   ·refine RcF f hj_1 (fun h_6 hF_7 => ?_) fun h_6 hF_10 => ?_
    ·refine R_mix (E := []) (Hr := ((Ent.obj b_5 (.cells #[S x_2.1.fName, .int .i8 x_2.1.fKind, .bool x_2.1.fReplace] 102 (0, 0))) :: (Ent.obj b_4 (.cells #[S x_1.fName, .int .i8 x_1.fE.fKind, S x_1.fE.fText, .int .i64 x_1.fE.fNum, S x_1.fE.fName, S x_1.fE.fAttr, .slice A_4 x_1.fE.fL.length cap_4] 70 (0, 0))) :: H)) [(0, true), (1, true), (2, true), (3, true), (6, true), (7, true), (4, false), (5, true), (9, true), (8, false), (10, true)] p_9 (by kernel_rfl) (by kernel_rfl) rfl (by kernel_rfl) (Y0 default f 1 fun _ f => M_eq (v := .slice A_3 d1.fInner.length cap_3) f (by kernel_rfl) (by kernel_rfl) rfl rfl (fun _ pq => Y26 (v := .slice A_3 d1.fInner.length cap_3) rfl (ad := (⟨b_2, 0, none⟩ : Addr).add 6) (pq.cell ((fzu (hM_3.trans hM_4) hc_4) 6 _ rfl))) fun _ f => ?_)
     obtain ⟨x_4, hx_4, hF_8⟩ := bS hF_7
     obtain ⟨ad_2, c_3, e_2, -, hr_3, hc_6⟩ := Sli.at_ (h_3.mono (((hM_1.trans hM_2).trans hM_3).trans hM_4)) hx_4
     obtain ⟨A_5, cap_5, A_6, cap_6, A_7, cap_7, A_8, cap_8, rfl, h_7, h_8, h_9, h_10⟩ := TA0.opn hr_3
     refine M_eq (v := .pointer (some (ad_2.add ((0 : Int).toNat * 4)))) f (by kernel_rfl) (by kernel_rfl) rfl rfl (fun _ pq => Y25 e_2 rfl (len := d1.fInner.length) (cap := cap_3) (k := .i64) (i := (0 : Int)) (e := 27) (sz := 4) (getI_nn hx_4) (getI_lt hx_4)) fun _ f => M_eq (v := .agg #[.slice A_5 x_4.fParams.length cap_5, .slice A_6 x_4.fConds.length cap_6, .slice A_7 x_4.fRes.length cap_7, .slice A_8 x_4.fOuts.length cap_8]) f (by kernel_rfl) (by kernel_rfl) rfl rfl (fun _ pq => Y27 (cs := [.slice A_5 x_4.fParams.length cap_5, .slice A_6 x_4.fConds.length cap_6, .slice A_7 x_4.fRes.length cap_7, .slice A_8 x_4.fOuts.length cap_8]) rfl (ad := ad_2.add ((0 : Int).toNat * 4)) (fun j v h => pq.cell (hc_6 j v h))) fun _ f => Y0 default f 1 fun _ f => M_eq (v := S x_1.fName) f (by kernel_rfl) (by kernel_rfl) rfl rfl (fun _ pq => Y26 (v := S x_1.fName) rfl (ad := ⟨b_4, 0, none⟩) (pq.ownCell 1 rfl 0)) fun _ f => M_fix (E := []) fun w_10 p_10 => ?_
     obtain ⟨x_5, hx_5, hF_9⟩ := bS hF_8
     refine Y15 f p_10 (refs_open_ok n _ _ x_4 (TA0.shutx (x := x_4) h_7 h_8 h_9 h_10) x_5 hx_5) fun _ M_5 w_11 hM_5 p_11 q_2 _ f => ?_
     obtain ⟨A_9, cap_9, A_10, cap_10, A_11, cap_11, A_12, cap_12, bk_1, bk_2, bk_3, m_5, rfl, h_11, h_12, h_13, h_14, hz_1, hz_2, hz_3, hm_3⟩ := q_2
     refine W_end rfl (M_go (M1 := M_5) (E := []) hM_5 p_11 (Y0 default f 2 fun _ f => M_fix (E := []) fun w_12 p_12 => Z (v := .bool ((mget x_5.2.2.2.2.1 x_1.fName).getD false)) f (X_lookup1 (ek := S) (ev := Value.bool) (m := x_5.2.2.2.2.1) (k := x_1.fName) (z := false) (kt := 9) (et := 4) rfl (by kernel_rfl) (by kernel_rfl) (by kernel_rfl) (strKey (by kernel_rfl)) (by kernel_rfl) (p_12.mem _ _ hz_1)) fun _ f => W_end rfl (M_go (M1 := M_5) (E := []) hM_5 p_12 (Y0 default f 1 fun _ f => M_end rfl fun w_13 p_13 => T_n ?_))))
     exact ⟨((170 : Int), ((mget x_5.2.2.2.2.1 x_1.fName).getD false)), (sI hF_9).symm, M_5, hM_5, f.kp, p_13⟩
    ·refine wp_skip (T_n ?_)
     exact ⟨((91 : Int), (x_2.2)), (sI hF_10).symm, M_4, (mR _), f.kp, p_9⟩
   ·rintro a_35 w_14 ⟨y_1, hq_1, M_6, hM_6, f, p_14⟩
    subst j_1
    refine T_n (R_seq (RR (Y f 2 fun _ f => eT (RcF f hF_6 (fun h_15 hF_11 => ?_) fun h_15 hF_12 => ?_))))
    ·have k_4 : (y_1.2) = false := by simpa using h_15
     refine RR (Y f 2 fun _ f => eT (wp_ret (T_r (B_r (T_r (T_r ?_))))))
     obtain rfl := sI hF_11
     exact .inl ⟨rfl, y_1.1, (sI hn_1).symm, M_6, ((hM_3.trans hM_4).trans hM_6), f.kp, (p_14.dropN 2)⟩
    ·have k_5 : (y_1.2) = true := by simpa using h_15
     refine wp_skip (T_n (RR (Z (v := .agg #[.slice A0_0 d0_0.length cap0_0, .slice A0_1 d0_1.length cap0_1, .slice A0_2 d0_2.length cap0_2, .slice A0_3 d0_3.length cap0_3, .map (some b0_4), .map (some b0_5), .map (some b0_6)]) f (Y27 (cs := [.slice A0_0 d0_0.length cap0_0, .slice A0_1 d0_1.length cap0_1, .slice A0_2 d0_2.length cap0_2, .slice A0_3 d0_3.length cap0_3, .map (some b0_4), .map (some b0_5), .map (some b0_6)]) rfl (ad := ⟨b_1, 0, none⟩) (fun j v h => p_14.cell ((fzu (((hM_2.trans hM_3).trans hM_4).trans hM_6) hc_2) j v h))) fun _ f => Y f 1 fun _ f => Z (v := .agg #[.int .i8 x_1.fE.fKind, S x_1.fE.fText, .int .i64 x_1.fE.fNum, S x_1.fE.fName, S x_1.fE.fAttr, .slice A_4 x_1.fE.fL.length cap_4]) f (Y27 (cs := [.int .i8 x_1.fE.fKind, S x_1.fE.fText, .int .i64 x_1.fE.fNum, S x_1.fE.fName, S x_1.fE.fAttr, .slice A_4 x_1.fE.fL.length cap_4]) rfl (ad := ⟨b_4, 1, none⟩) (own_cells (p_14.ownCell 1 rfl) 1 rfl)) fun _ f => ?_)))
     obtain ⟨x_6, hx_6, hF_13⟩ := bS hF_12
     refine Y17 f p_14 (refs_scope_uses_ok n _ A0_0 cap0_0 d0_0 (h0_0.mono ((((hM_1.trans hM_2).trans hM_3).trans hM_4).trans hM_6)) A0_1 cap0_1 d0_1 (h0_1.mono ((((hM_1.trans hM_2).trans hM_3).trans hM_4).trans hM_6)) A0_2 cap0_2 d0_2 (h0_2.mono ((((hM_1.trans hM_2).trans hM_3).trans hM_4).trans hM_6)) A0_3 cap0_3 d0_3 (h0_3.mono ((((hM_1.trans hM_2).trans hM_3).trans hM_4).trans hM_6)) b0_4 d0_4 (((((hM_1.trans hM_2).trans hM_3).trans hM_4).trans hM_6) _ _ h00_4) b0_5 d0_5 (((((hM_1.trans hM_2).trans hM_3).trans hM_4).trans hM_6) _ _ h00_5) b0_6 d0_6 m0_6 (((((hM_1.trans hM_2).trans hM_3).trans hM_4).trans hM_6) _ _ h00_6) (h0_6.mono ((((hM_1.trans hM_2).trans hM_3).trans hM_4).trans hM_6)) _ (⟨x_1.fE.fKind, x_1.fE.fText, x_1.fE.fNum, x_1.fE.fName, x_1.fE.fAttr, x_1.fE.fL⟩ : TH0) (TH0.shut (h_5.mono (hM_4.trans hM_6))) x_6 hx_6) fun w_15 p_15 _ f => Y f 1 fun _ f => eT (RR (Y f 2 fun _ f => eT (RcF f hF_13 (fun h_16 hF_14 => ?_) fun h_16 hF_15 => ?_)))
     ·have k_6 : ¬ (x_6 = 0) := (not_iff dI).1 h_16
      refine RR (Y f 2 fun _ f => eT (wp_ret (B_r (T_r (T_r ?_)))))
      obtain rfl := sI hF_14
      exact .inl ⟨rfl, x_6, (sI hn_1).symm, M_6, ((hM_3.trans hM_4).trans hM_6), f.kp, (p_15.dropN 2)⟩
     ·have k_7 : ¬ (¬ (x_6 = 0)) := iff_f (not_iff dI) h_16
      refine wp_skip (B_n (T_n (R_reg ?_)))
      obtain ⟨g_1, hF_16⟩ := nS hF_15
      refine Y f 1 fun _ f => ?_
      have f := f.st 47 (congrArg (Value.int .i64) (inR_wrap g_1))
      refine Y f 1 fun _ f => eT ?_
      obtain rfl := sI hF_16
      exact ⟨⟨m_2, s_1 + 1⟩, Nat.lt_succ_self _, M_6, ((hM_3.trans hM_4).trans hM_6), hn_1, f.kp, (p_15.dropN 2)⟩
  ·have k_8 := iff_f dI h_4
   refine wp_exit (T_x (T_x ?_))
   obtain rfl := sI hF_17
   exact .inr ⟨rfl, (), (sI hn_1).symm, M_3, hM_3, f.kp, p_3⟩
 ·rintro _ _ w_18 (⟨rfl, y_2, rfl, M_7, hM_7, f, p_16⟩ | ⟨rfl, y_3, rfl, M_8, hM_8, f, p_17⟩)
  ·refine B_r (T_r (E_ret1 f rfl (by kernel_rfl : Vc.look _ 4 = some (.int .i64 y_2)) ?_))
   obtain rfl := sI hF_1
   exact ⟨_, rfl, M_7, ((hM_1.trans hM_2).trans hM_7), p_16, rfl⟩
  ·refine B_x (T_n (RR (Y f 1 fun _ f => eT (wp_ret (E_ret1 f rfl (by kernel_rfl : Vc.look _ 4 = some (.int .i64 0)) ?_)))))
   obtain rfl := sI hF_1
   exact ⟨_, rfl, M_8, ((hM_1.trans hM_2).trans hM_8), p_17, rfl⟩
def refs_scope_resource_5 (n : Nat) (d0_0 : List TD0) (d0_1 : List TF0) (d0_2 : List TB0) (d0_3 : List TC0) (d0_4 : List ((List UInt8) × Bool)) (d0_5 : List ((List UInt8) × Bool)) (d0_6 : List ((List UInt8) × TB0)) (d1 : TB0) : Option Int :=
  (refs_scope_props n d0_0 d0_1 d0_2 d0_3 d0_4 d0_5 d0_6 d1).bind fun x_1 =>
  some (x_1)
theorem refs_scope_resource_5_ok (n : Nat) (M : Mem) (A0_0 : Option Addr) (cap0_0 : Nat) (d0_0 : List TD0) (h0_0 : Sli M 10 emb_TD0 A0_0 cap0_0 d0_0) (A0_1 : Option Addr) (cap0_1 : Nat) (d0_1 : List TF0) (h0_1 : Sli M 15 emb_TF0 A0_1 cap0_1 d0_1) (A0_2 : Option Addr) (cap0_2 : Nat) (d0_2 : List TB0) (h0_2 : Sli M 7 emb_TB0 A0_2 cap0_2 d0_2) (A0_3 : Option Addr) (cap0_3 : Nat) (d0_3 : List TC0) (h0_3 : Sli M 8 emb_TC0 A0_3 cap0_3 d0_3) (b0_4 : Nat) (d0_4 : List ((List UInt8) × Bool)) (h00_4 : M b0_4 = some (mapO S Value.bool d0_4)) (b0_5 : Nat) (d0_5 : List ((List UInt8) × Bool)) (h00_5 : M b0_5 = some (mapO S Value.bool d0_5)) (b0_6 : Nat) (d0_6 : List ((List UInt8) × TB0)) (m0_6 : List ((List UInt8) × Value)) (h00_6 : M b0_6 = some (mapO S idV m0_6)) (h0_6 : RepMap M emb_TB0 d0_6 m0_6) (ad0 : Addr) (q0 : ∀ j v, [(.slice A0_0 d0_0.length cap0_0 : Value), .slice A0_1 d0_1.length cap0_1, .slice A0_2 d0_2.length cap0_2, .slice A0_3 d0_3.length cap0_3, .map (some b0_4), .map (some b0_5), .map (some b0_6)][j]? = some v → M.cell? (ad0.add j) = some v) (ad1 : Addr) (c1 : List Value) (d1 : TB0) (h1 : Rep M (emb_TB0 d1) c1) (q1 : ∀ j v, c1[j]? = some v → M.cell? (ad1.add j) = some v) (r : Int) (hF : refs_scope_resource_5 n d0_0 d0_1 d0_2 d0_3 d0_4 d0_5 d0_6 d1 = some r) : Ok Try.prog M 37 [.pointer (some ad0), .pointer (some ad1)] (fun _ v => v = .int .i64 r) := by
 unfold refs_scope_resource_5 at hF
 intro M1 hM0 w0 H w p0
 replace h0_0 := h0_0.mono hM0
 replace h0_1 := h0_1.mono hM0
 replace h0_2 := h0_2.mono hM0
 replace h0_3 := h0_3.mono hM0
 replace h00_4 := hM0 _ _ h00_4
 replace h00_5 := hM0 _ _ h00_5
 replace h00_6 := hM0 _ _ h00_6
 replace h0_6 := RepMap.mono hM0 h0_6
 replace q0 := fun j v h => hM0.cell (q0 j v h)
 replace h1 := Rep.mono hM0 _ _ h1
 replace q1 := fun j v h => hM0.cell (q1 j v h)
 obtain ⟨A_1, cap_1, A_2, cap_2, A_3, cap_3, rfl, h_1, h_2, h_3⟩ := TB0.opn h1
 refine R_enter 6 Try.func37 rfl rfl (by simp) fun a0 f0 => RR (Y f0 1 fun _ f => eT (RR (Z (v := .agg #[.slice A0_0 d0_0.length cap0_0, .slice A0_1 d0_1.length cap0_1, .slice A0_2 d0_2.length cap0_2, .slice A0_3 d0_3.length cap0_3, .map (some b0_4), .map (some b0_5), .map (some b0_6)]) f (Y27 (cs := [.slice A0_0 d0_0.length cap0_0, .slice A0_1 d0_1.length cap0_1, .slice A0_2 d0_2.length cap0_2, .slice A0_3 d0_3.length cap0_3, .map (some b0_4), .map (some b0_5), .map (some b0_6)]) rfl (ad := ad0) (fun j v h => p0.cell (q0 j v h))) fun _ f => Z (v := .agg #[S d1.fId, S d1.fType, S d1.fCond, .slice A_1 d1.fProps.length cap_1, .slice A_2 d1.fDepends.length cap_2, .bool d1.fRetain, .slice A_3 d1.fInner.length cap_3]) f (Y27 (cs := [S d1.fId, S d1.fType, S d1.fCond, .slice A_1 d1.fProps.length cap_1, .slice A_2 d1.fDepends.length cap_2, .bool d1.fRetain, .slice A_3 d1.fInner.length cap_3]) rfl (ad := ad1) (fun j v h => p0.cell (q1 j v h))) fun _ f => ?_)))
 obtain ⟨x_1, hx_1, hF_1⟩ := bS hF
 refine Y17 f p0 (refs_scope_props_ok n _ A0_0 cap0_0 d0_0 h0_0 A0_1 cap0_1 d0_1 h0_1 A0_2 cap0_2 d0_2 h0_2 A0_3 cap0_3 d0_3 h0_3 b0_4 d0_4 h00_4 b0_5 d0_5 h00_5 b0_6 d0_6 m0_6 h00_6 h0_6 _ d1 (TB0.shutx (x := d1) h_1 h_2 h_3) x_1 hx_1) fun w_1 p_1 _ f => Y f 1 fun _ f => eT (wp_ret (E_ret1 f rfl (by kernel_rfl : Vc.look _ 2 = some (.int .i64 x_1)) ?_))
 obtain rfl := sI hF_1
 exact ⟨_, rfl, M1, (mR _), p_1, rfl⟩
def refs_scope_resource_6_2 (n : Nat) (rec_refs_Check : TA0 → Option (List UInt8 × Int)) (d0 : TB0) (d1_0 : List UInt8) : Option (Int × List UInt8) :=
  (refs_nested n d0).bind fun x_1 =>
  bif x_1 then
    ((getI d0.fInner (0 : Int)).bind fun x_2 =>
    (rec_refs_Check x_2).bind fun x_3 =>
    some ((x_3.2, x_3.1)))
  else
    some (((0 : Int), d1_0))
theorem refs_scope_resource_6_2_ok (n : Nat) (rec_refs_Check : TA0 → Option (List UInt8 × Int)) (hrec_refs_Check : ∀ (M : Mem) (c0 : List Value) (d0 : TA0) (h0 : Rep M (emb_TA0 d0) c0) (r : List UInt8 × Int) (hF : rec_refs_Check d0 = some r), Ok Try.prog M 8 [.agg c0.toArray] (fun _ v => v = .tuple #[S r.1, .int .i64 r.2])) (M : Mem) (ad0 : Addr) (c0 : List Value) (d0 : TB0) (h0 : Rep M (emb_TB0 d0) c0) (q0 : ∀ j v, c0[j]? = some v → M.cell? (ad0.add j) = some v) (b1 : Nat) (d1_0 : List UInt8) (r : Int × List UInt8) (hF : refs_scope_resource_6_2 n rec_refs_Check d0 d1_0 = some r) : OkH Try.prog M [Ent.obj b1 (.cells #[S d1_0] 9 (0, 0))] 39 [.pointer (some ad0), .pointer (some (⟨b1, 0, none⟩))] (fun M' E' v => v = .int .i64 r.1 ∧ E' = [Ent.obj b1 (.cells #[S r.2] 9 (0, 0))]) := by
 unfold refs_scope_resource_6_2 at hF
 intro M1 hM0 w0 H w p0
 replace h0 := Rep.mono hM0 _ _ h0
 replace q0 := fun j v h => hM0.cell (q0 j v h)
 obtain ⟨A_1, cap_1, A_2, cap_2, A_3, cap_3, rfl, h_1, h_2, h_3⟩ := TB0.opn h0
 refine R_enter 14 Try.func39 rfl rfl (by simp) fun a0 f0 => RR (Y f0 1 fun _ f => eT (R_seq (RR (Z (v := .agg #[S d0.fId, S d0.fType, S d0.fCond, .slice A_1 d0.fProps.length cap_1, .slice A_2 d0.fDepends.length cap_2, .bool d0.fRetain, .slice A_3 d0.fInner.length cap_3]) f (Y27 (cs := [S d0.fId, S d0.fType, S d0.fCond, .slice A_1 d0.fProps.length cap_1, .slice A_2 d0.fDepends.length cap_2, .bool d0.fRetain, .slice A_3 d0.fInner.length cap_3]) rfl (ad := ad0) (fun j v h => p0.cell (q0 j v h))) fun _ f => ?_))))
 obtain ⟨x_1, hx_1, hF_1⟩ := bS hF
 refine Y17 f p0 (refs_nested_ok n _ _ d0 (TB0.shutx (x := d0) h_1 h_2 h_3) x_1 hx_1) fun w_1 p_1 _ f => eT (RcF f hF_1 (fun h_4 hF_2 => ?_) fun h_4 hF_5 => ?_)
 ·refine R_reg (Y f 1 fun _ f => Y14 f p_1 q0 6 rfl fun _ f => ?_)
  obtain ⟨x_2, hx_2, hF_3⟩ := bS hF_2
  obtain ⟨ad_1, c_1, e_1, -, hr_1, hc_1⟩ := Sli.at_ h_3 hx_2
  obtain ⟨A_4, cap_4, A_5, cap_5, A_6, cap_6, A_7, cap_7, rfl, h_5, h_6, h_7, h_8⟩ := TA0.opn hr_1
  refine Z f (Y25 e_1 rfl (len := d0.fInner.length) (cap := cap_3) (k := .i64) (i := (0 : Int)) (e := 27) (sz := 4) (getI_nn hx_2) (getI_lt hx_2)) fun _ f => Z (v := .agg #[.slice A_4 x_2.fParams.length cap_4, .slice A_5 x_2.fConds.length cap_5, .slice A_6 x_2.fRes.length cap_6, .slice A_7 x_2.fOuts.length cap_7]) f (Y27 (cs := [.slice A_4 x_2.fParams.length cap_4, .slice A_5 x_2.fConds.length cap_5, .slice A_6 x_2.fRes.length cap_6, .slice A_7 x_2.fOuts.length cap_7]) rfl (ad := ad_1.add ((0 : Int).toNat * 4)) (fun j v h => p_1.cell (hc_1 j v h))) fun _ f => ?_
  obtain ⟨x_3, hx_3, hF_4⟩ := bS hF_3
  refine Y17 f p_1 (hrec_refs_Check _ _ x_2 (TA0.shutx (x := x_2) h_5 h_6 h_7 h_8) x_3 hx_3) fun w_2 p_2 _ f => Y f 3 fun _ f => Y21 f p_2 0 rfl rfl (b := b1) (j := 0) (v := S x_3.1) rfl (by exact rfl) (by simp) (by simp) ((Ent.obj b1 (.cells #[S x_3.1] 9 (0, 0))) :: H) rfl fun w_3 p_3 _ f => Y f 1 fun _ f => eT (RR (Y f 2 fun _ f => eT (wp_ret (E_ret1 f rfl (by kernel_rfl : Vc.look _ 2 = some (.int .i64 x_3.2)) ?_))))
  obtain rfl := sI hF_4
  exact ⟨_, rfl, M1, _, (mR _), p_3, ⟨rfl, rfl⟩⟩
 ·refine wp_skip (T_n (RR (Y f 2 fun _ f => eT (wp_ret (E_ret1 f rfl (by kernel_rfl : Vc.look _ 2 = some (.int .i64 0)) ?_)))))
  obtain rfl := sI hF_5
  exact ⟨_, rfl, M1, _, (mR _), p_1, ⟨rfl, rfl⟩⟩
def refs_first_3 (n : Nat) (rec_refs_Check : TA0 → Option (List UInt8 × Int)) (d0_0_0_0 : List TD0) (d0_0_0_1 : List TF0) (d0_0_0_2 : List TB0) (d0_0_0_3 : List TC0) (d0_0_0_4 : List ((List UInt8) × Bool)) (d0_0_0_5 : List ((List UInt8) × Bool)) (d0_0_0_6 : List ((List UInt8) × TB0)) (d0_0_1 : TB0) (d0_1_0 : TB0) (d0_1_1_0 : Int) (d0_1_2_0 : Int) (d0_2_0 : TB0) (d0_2_1_0 : List TD0) (d0_2_1_1 : List TF0) (d0_2_1_2 : List TB0) (d0_2_1_3 : List TC0) (d0_2_1_4 : List ((List UInt8) × Bool)) (d0_2_1_5 : List ((List UInt8) × Bool)) (d0_2_1_6 : List ((List UInt8) × TB0)) (d0_3_0 : TB0) (d0_3_1_0 : List TD0) (d0_3_1_1 : List TF0) (d0_3_1_2 : List TB0) (d0_3_1_3 : List TC0) (d0_3_1_4 : List ((List UInt8) × Bool)) (d0_3_1_5 : List ((List UInt8) × Bool)) (d0_3_1_6 : List ((List UInt8) × TB0)) (d0_4_0_0 : List TD0) (d0_4_0_1 : List TF0) (d0_4_0_2 : List TB0) (d0_4_0_3 : List TC0) (d0_4_0_4 : List ((List UInt8) × Bool)) (d0_4_0_5 : List ((List UInt8) × Bool)) (d0_4_0_6 : List ((List UInt8) × TB0)) (d0_4_1 : TB0) (d0_5_0 : TB0) (d0_5_1_0 : List UInt8) : Option (Int × Int × Int × List UInt8) :=
  (refs_scope_resource_1 n d0_0_0_0 d0_0_0_1 d0_0_0_2 d0_0_0_3 d0_0_0_4 d0_0_0_5 d0_0_0_6 d0_0_1).bind fun x_1 =>
  bif (!(decide (x_1 = 0))) then
    (some ((x_1, d0_1_1_0, d0_1_2_0, d0_5_1_0)))
  else
    (refs_scope_resource_2 n d0_1_0 d0_1_1_0 d0_1_2_0).bind fun x_2 =>
    bif (!(decide (x_2.1 = 0))) then
      (some ((x_2.1, x_2.2.1, x_2.2.2, d0_5_1_0)))
    else
      (refs_scope_resource_3 n d0_2_0 d0_2_1_0 d0_2_1_1 d0_2_1_2 d0_2_1_3 d0_2_1_4 d0_2_1_5 d0_2_1_6).bind fun x_3 =>
      bif (!(decide (x_3 = 0))) then
        (some ((x_3, x_2.2.1, x_2.2.2, d0_5_1_0)))
      else
        (refs_scope_resource_4 n d0_3_0 d0_3_1_0 d0_3_1_1 d0_3_1_2 d0_3_1_3 d0_3_1_4 d0_3_1_5 d0_3_1_6).bind fun x_4 =>
        bif (!(decide (x_4 = 0))) then
          (some ((x_4, x_2.2.1, x_2.2.2, d0_5_1_0)))
        else
          (refs_scope_resource_5 n d0_4_0_0 d0_4_0_1 d0_4_0_2 d0_4_0_3 d0_4_0_4 d0_4_0_5 d0_4_0_6 d0_4_1).bind fun x_5 =>
          bif (!(decide (x_5 = 0))) then
            (some ((x_5, x_2.2.1, x_2.2.2, d0_5_1_0)))
          else
            (refs_scope_resource_6_2 n rec_refs_Check d0_5_0 d0_5_1_0).bind fun x_6 =>
            bif (!(decide (x_6.1 = 0))) then
              (some ((x_6.1, x_2.2.1, x_2.2.2, x_6.2)))
            else
              some (((0 : Int), x_2.2.1, x_2.2.2, x_6.2))
set_option maxRecDepth 20000 in
theorem refs_first_3_ok (n : Nat) (rec_refs_Check : TA0 → Option (List UInt8 × Int)) (hrec_refs_Check : ∀ (M : Mem) (c0 : List Value) (d0 : TA0) (h0 : Rep M (emb_TA0 d0) c0) (r : List UInt8 × Int) (hF : rec_refs_Check d0 = some r), Ok Try.prog M 8 [.agg c0.toArray] (fun _ v => v = .tuple #[S r.1, .int .i64 r.2])) (M : Mem) (A0_0_0_0 : Option Addr) (cap0_0_0_0 : Nat) (d0_0_0_0 : List TD0) (h0_0_0_0 : Sli M 10 emb_TD0 A0_0_0_0 cap0_0_0_0 d0_0_0_0) (A0_0_0_1 : Option Addr) (cap0_0_0_1 : Nat) (d0_0_0_1 : List TF0) (h0_0_0_1 : Sli M 15 emb_TF0 A0_0_0_1 cap0_0_0_1 d0_0_0_1) (A0_0_0_2 : Option Addr) (cap0_0_0_2 : Nat) (d0_0_0_2 : List TB0) (h0_0_0_2 : Sli M 7 emb_TB0 A0_0_0_2 cap0_0_0_2 d0_0_0_2) (A0_0_0_3 : Option Addr) (cap0_0_0_3 : Nat) (d0_0_0_3 : List TC0) (h0_0_0_3 : Sli M 8 emb_TC0 A0_0_0_3 cap0_0_0_3 d0_0_0_3) (b0_0_0_4 : Nat) (d0_0_0_4 : List ((List UInt8) × Bool)) (h00_0_0_4 : M b0_0_0_4 = some (mapO S Value.bool d0_0_0_4)) (b0_0_0_5 : Nat) (d0_0_0_5 : List ((List UInt8) × Bool)) (h00_0_0_5 : M b0_0_0_5 = some (mapO S Value.bool d0_0_0_5)) (b0_0_0_6 : Nat) (d0_0_0_6 : List ((List UInt8) × TB0)) (m0_0_0_6 : List ((List UInt8) × Value)) (h00_0_0_6 : M b0_0_0_6 = some (mapO S idV m0_0_0_6)) (h0_0_0_6 : RepMap M emb_TB0 d0_0_0_6 m0_0_0_6) (ad0_0_0 : Addr) (q0_0_0 : ∀ j v, [(.slice A0_0_0_0 d0_0_0_0.length cap0_0_0_0 : Value), .slice A0_0_0_1 d0_0_0_1.length cap0_0_0_1, .slice A0_0_0_2 d0_0_0_2.length cap0_0_0_2, .slice A0_0_0_3 d0_0_0_3.length cap0_0_0_3, .map (some b0_0_0_4), .map (some b0_0_0_5), .map (some b0_0_0_6)][j]? = some v → M.cell? (ad0_0_0.add j) = some v) (ad0_0_1 : Addr) (c0_0_1 : List Value) (d0_0_1 : TB0) (h0_0_1 : Rep M (emb_TB0 d0_0_1) c0_0_1) (q0_0_1 : ∀ j v, c0_0_1[j]? = some v → M.cell? (ad0_0_1.add j) = some v) (ad0_1_0 : Addr) (c0_1_0 : List Value) (d0_1_0 : TB0) (h0_1_0 : Rep M (emb_TB0 d0_1_0) c0_1_0) (q0_1_0 : ∀ j v, c0_1_0[j]? = some v → M.cell? (ad0_1_0.add j) = some v) (b0_1_1 : Nat) (d0_1_1_0 : Int) (b0_1_2 : Nat) (d0_1_2_0 : Int) (ad0_2_0 : Addr) (c0_2_0 : List Value) (d0_2_0 : TB0) (h0_2_0 : Rep M (emb_TB0 d0_2_0) c0_2_0) (q0_2_0 : ∀ j v, c0_2_0[j]? = some v → M.cell? (ad0_2_0.add j) = some v) (A0_2_1_0 : Option Addr) (cap0_2_1_0 : Nat) (d0_2_1_0 : List TD0) (h0_2_1_0 : Sli M 10 emb_TD0 A0_2_1_0 cap0_2_1_0 d0_2_1_0) (A0_2_1_1 : Option Addr) (cap0_2_1_1 : Nat) (d0_2_1_1 : List TF0) (h0_2_1_1 : Sli M 15 emb_TF0 A0_2_1_1 cap0_2_1_1 d0_2_1_1) (A0_2_1_2 : Option Addr) (cap0_2_1_2 : Nat) (d0_2_1_2 : List TB0) (h0_2_1_2 : Sli M 7 emb_TB0 A0_2_1_2 cap0_2_1_2 d0_2_1_2) (A0_2_1_3 : Option Addr) (cap0_2_1_3 : Nat) (d0_2_1_3 : List TC0) (h0_2_1_3 : Sli M 8 emb_TC0 A0_2_1_3 cap0_2_1_3 d0_2_1_3) (b0_2_1_4 : Nat) (d0_2_1_4 : List ((List UInt8) × Bool)) (h00_2_1_4 : M b0_2_1_4 = some (mapO S Value.bool d0_2_1_4)) (b0_2_1_5 : Nat) (d0_2_1_5 : List ((List UInt8) × Bool)) (h00_2_1_5 : M b0_2_1_5 = some (mapO S Value.bool d0_2_1_5)) (b0_2_1_6 : Nat) (d0_2_1_6 : List ((List UInt8) × TB0)) (m0_2_1_6 : List ((List UInt8) × Value)) (h00_2_1_6 : M b0_2_1_6 = some (mapO S idV m0_2_1_6)) (h0_2_1_6 : RepMap M emb_TB0 d0_2_1_6 m0_2_1_6) (ad0_2_1 : Addr) (q0_2_1 : ∀ j v, [(.slice A0_2_1_0 d0_2_1_0.length cap0_2_1_0 : Value), .slice A0_2_1_1 d0_2_1_1.length cap0_2_1_1, .slice A0_2_1_2 d0_2_1_2.length cap0_2_1_2, .slice A0_2_1_3 d0_2_1_3.length cap0_2_1_3, .map (some b0_2_1_4), .map (some b0_2_1_5), .map (some b0_2_1_6)][j]? = some v → M.cell? (ad0_2_1.add j) = some v) (ad0_3_0 : Addr) (c0_3_0 : List Value) (d0_3_0 : TB0) (h0_3_0 : Rep M (emb_TB0 d0_3_0) c0_3_0) (q0_3_0 : ∀ j v, c0_3_0[j]? = some v → M.cell? (ad0_3_0.add j) = some v) (A0_3_1_0 : Option Addr) (cap0_3_1_0 : Nat) (d0_3_1_0 : List TD0) (h0_3_1_0 : Sli M 10 emb_TD0 A0_3_1_0 cap0_3_1_0 d0_3_1_0) (A0_3_1_1 : Option Addr) (cap0_3_1_1 : Nat) (d0_3_1_1 : List TF0) (h0_3_1_1 : Sli M 15 emb_TF0 A0_3_1_1 cap0_3_1_1 d0_3_1_1) (A0_3_1_2 : Option Addr) (cap0_3_1_2 : Nat) (d0_3_1_2 : List TB0) (h0_3_1_2 : Sli M 7 emb_TB0 A0_3_1_2 cap0_3_1_2 d0_3_1_2) (A0_3_1_3 : Option Addr) (cap0_3_1_3 : Nat) (d0_3_1_3 : List TC0) (h0_3_1_3 : Sli M 8 emb_TC0 A0_3_1_3 cap0_3_1_3 d0_3_1_3) (b0_3_1_4 : Nat) (d0_3_1_4 : List ((List UInt8) × Bool)) (h00_3_1_4 : M b0_3_1_4 = some (mapO S Value.bool d0_3_1_4)) (b0_3_1_5 : Nat) (d0_3_1_5 : List ((List UInt8) × Bool)) (h00_3_1_5 : M b0_3_1_5 = some (mapO S Value.bool d0_3_1_5)) (b0_3_1_6 : Nat) (d0_3_1_6 : List ((List UInt8) × TB0)) (m0_3_1_6 : List ((List UInt8) × Value)) (h00_3_1_6 : M b0_3_1_6 = some (mapO S idV m0_3_1_6)) (h0_3_1_6 : RepMap M emb_TB0 d0_3_1_6 m0_3_1_6) (ad0_3_1 : Addr) (q0_3_1 : ∀ j v, [(.slice A0_3_1_0 d0_3_1_0.length cap0_3_1_0 : Value), .slice A0_3_1_1 d0_3_1_1.length cap0_3_1_1, .slice A0_3_1_2 d0_3_1_2.length cap0_3_1_2, .slice A0_3_1_3 d0_3_1_3.length cap0_3_1_3, .map (some b0_3_1_4), .map (some b0_3_1_5), .map (some b0_3_1_6)][j]? = some v → M.cell? (ad0_3_1.add j) = some v) (A0_4_0_0 : Option Addr) (cap0_4_0_0 : Nat) (d0_4_0_0 : List TD0) (h0_4_0_0 : Sli M 10 emb_TD0 A0_4_0_0 cap0_4_0_0 d0_4_0_0) (A0_4_0_1 : Option Addr) (cap0_4_0_1 : Nat) (d0_4_0_1 : List TF0) (h0_4_0_1 : Sli M 15 emb_TF0 A0_4_0_1 cap0_4_0_1 d0_4_0_1) (A0_4_0_2 : Option Addr) (cap0_4_0_2 : Nat) (d0_4_0_2 : List TB0) (h0_4_0_2 : Sli M 7 emb_TB0 A0_4_0_2 cap0_4_0_2 d0_4_0_2) (A0_4_0_3 : Option Addr) (cap0_4_0_3 : Nat) (d0_4_0_3 : List TC0) (h0_4_0_3 : Sli M 8 emb_TC0 A0_4_0_3 cap0_4_0_3 d0_4_0_3) (b0_4_0_4 : Nat) (d0_4_0_4 : List ((List UInt8) × Bool)) (h00_4_0_4 : M b0_4_0_4 = some (mapO S Value.bool d0_4_0_4)) (b0_4_0_5 : Nat) (d0_4_0_5 : List ((List UInt8) × Bool)) (h00_4_0_5 : M b0_4_0_5 = some (mapO S Value.bool d0_4_0_5)) (b0_4_0_6 : Nat) (d0_4_0_6 : List ((List UInt8) × TB0)) (m0_4_0_6 : List ((List UInt8) × Value)) (h00_4_0_6 : M b0_4_0_6 = some (mapO S idV m0_4_0_6)) (h0_4_0_6 : RepMap M emb_TB0 d0_4_0_6 m0_4_0_6) (ad0_4_0 : Addr) (q0_4_0 : ∀ j v, [(.slice A0_4_0_0 d0_4_0_0.length cap0_4_0_0 : Value), .slice A0_4_0_1 d0_4_0_1.length cap0_4_0_1, .slice A0_4_0_2 d0_4_0_2.length cap0_4_0_2, .slice A0_4_0_3 d0_4_0_3.length cap0_4_0_3, .map (some b0_4_0_4), .map (some b0_4_0_5), .map (some b0_4_0_6)][j]? = some v → M.cell? (ad0_4_0.add j) = some v) (ad0_4_1 : Addr) (c0_4_1 : List Value) (d0_4_1 : TB0) (h0_4_1 : Rep M (emb_TB0 d0_4_1) c0_4_1) (q0_4_1 : ∀ j v, c0_4_1[j]? = some v → M.cell? (ad0_4_1.add j) = some v) (ad0_5_0 : Addr) (c0_5_0 : List Value) (d0_5_0 : TB0) (h0_5_0 : Rep M (emb_TB0 d0_5_0) c0_5_0) (q0_5_0 : ∀ j v, c0_5_0[j]? = some v → M.cell? (ad0_5_0.add j) = some v) (b0_5_1 : Nat) (d0_5_1_0 : List UInt8) (ad0 : Addr) (q0 : ∀ j v, [(.func (.func 30) #[] #[.pointer (some ad0_0_0), .pointer (some ad0_0_1)] : Value), .func (.func 32) #[] #[.pointer (some ad0_1_0), .pointer (some (⟨b0_1_1, 0, none⟩)), .pointer (some (⟨b0_1_2, 0, none⟩))], .func (.func 33) #[] #[.pointer (some ad0_2_0), .pointer (some ad0_2_1)], .func (.func 34) #[] #[.pointer (some ad0_3_0), .pointer (some ad0_3_1)], .func (.func 37) #[] #[.pointer (some ad0_4_0), .pointer (some ad0_4_1)], .func (.func 39) #[] #[.pointer (some ad0_5_0), .pointer (some (⟨b0_5_1, 0, none⟩))]][j]? = some v → M.cell? (ad0.add j) = some v) (r : Int × Int × Int × List UInt8) (hF : refs_first_3 n rec_refs_Check d0_0_0_0 d0_0_0_1 d0_0_0_2 d0_0_0_3 d0_0_0_4 d0_0_0_5 d0_0_0_6 d0_0_1 d0_1_0 d0_1_1_0 d0_1_2_0 d0_2_0 d0_2_1_0 d0_2_1_1 d0_2_1_2 d0_2_1_3 d0_2_1_4 d0_2_1_5 d0_2_1_6 d0_3_0 d0_3_1_0 d0_3_1_1 d0_3_1_2 d0_3_1_3 d0_3_1_4 d0_3_1_5 d0_3_1_6 d0_4_0_0 d0_4_0_1 d0_4_0_2 d0_4_0_3 d0_4_0_4 d0_4_0_5 d0_4_0_6 d0_4_1 d0_5_0 d0_5_1_0 = some r) : OkH Try.prog M [Ent.obj b0_1_1 (.cells #[.int .i64 d0_1_1_0] 3 (0, 0)), Ent.obj b0_1_2 (.cells #[.int .i64 d0_1_2_0] 31 (0, 0)), Ent.obj b0_5_1 (.cells #[S d0_5_1_0] 9 (0, 0))] 24 [.slice (some ad0) 6 6] (fun M' E' v => v = .int .i64 r.1 ∧ E' = [Ent.obj b0_1_1 (.cells #[.int .i64 r.2.1] 3 (0, 0)), Ent.obj b0_1_2 (.cells #[.int .i64 r.2.2.1] 31 (0, 0)), Ent.obj b0_5_1 (.cells #[S r.2.2.2] 9 (0, 0))]) := by
 unfold refs_first_3 at hF
 intro M1 hM0 w0 H w p0
 replace h0_0_0_0 := h0_0_0_0.mono hM0
 replace h0_0_0_1 := h0_0_0_1.mono hM0
 replace h0_0_0_2 := h0_0_0_2.mono hM0
 replace h0_0_0_3 := h0_0_0_3.mono hM0
 replace h00_0_0_4 := hM0 _ _ h00_0_0_4
 replace h00_0_0_5 := hM0 _ _ h00_0_0_5
 replace h00_0_0_6 := hM0 _ _ h00_0_0_6
 replace h0_0_0_6 := RepMap.mono hM0 h0_0_0_6
 replace q0_0_0 := fun j v h => hM0.cell (q0_0_0 j v h)
 replace h0_0_1 := Rep.mono hM0 _ _ h0_0_1
 replace q0_0_1 := fun j v h => hM0.cell (q0_0_1 j v h)
 replace h0_1_0 := Rep.mono hM0 _ _ h0_1_0
 replace q0_1_0 := fun j v h => hM0.cell (q0_1_0 j v h)
 replace h0_2_0 := Rep.mono hM0 _ _ h0_2_0
 replace q0_2_0 := fun j v h => hM0.cell (q0_2_0 j v h)
 replace h0_2_1_0 := h0_2_1_0.mono hM0
 replace h0_2_1_1 := h0_2_1_1.mono hM0
 replace h0_2_1_2 := h0_2_1_2.mono hM0
 replace h0_2_1_3 := h0_2_1_3.mono hM0
 replace h00_2_1_4 := hM0 _ _ h00_2_1_4
 replace h00_2_1_5 := hM0 _ _ h00_2_1_5
 replace h00_2_1_6 := hM0 _ _ h00_2_1_6
 replace h0_2_1_6 := RepMap.mono hM0 h0_2_1_6
 replace q0_2_1 := fun j v h => hM0.cell (q0_2_1 j v h)
 replace h0_3_0 := Rep.mono hM0 _ _ h0_3_0
 replace q0_3_0 := fun j v h => hM0.cell (q0_3_0 j v h)
 replace h0_3_1_0 := h0_3_1_0.mono hM0
 replace h0_3_1_1 := h0_3_1_1.mono hM0
 replace h0_3_1_2 := h0_3_1_2.mono hM0
 replace h0_3_1_3 := h0_3_1_3.mono hM0
 replace h00_3_1_4 := hM0 _ _ h00_3_1_4
 replace h00_3_1_5 := hM0 _ _ h00_3_1_5
 replace h00_3_1_6 := hM0 _ _ h00_3_1_6
 replace h0_3_1_6 := RepMap.mono hM0 h0_3_1_6
 replace q0_3_1 := fun j v h => hM0.cell (q0_3_1 j v h)
 replace h0_4_0_0 := h0_4_0_0.mono hM0
 replace h0_4_0_1 := h0_4_0_1.mono hM0
 replace h0_4_0_2 := h0_4_0_2.mono hM0
 replace h0_4_0_3 := h0_4_0_3.mono hM0
 replace h00_4_0_4 := hM0 _ _ h00_4_0_4
 replace h00_4_0_5 := hM0 _ _ h00_4_0_5
 replace h00_4_0_6 := hM0 _ _ h00_4_0_6
 replace h0_4_0_6 := RepMap.mono hM0 h0_4_0_6
 replace q0_4_0 := fun j v h => hM0.cell (q0_4_0 j v h)
 replace h0_4_1 := Rep.mono hM0 _ _ h0_4_1
 replace q0_4_1 := fun j v h => hM0.cell (q0_4_1 j v h)
 replace h0_5_0 := Rep.mono hM0 _ _ h0_5_0
 replace q0_5_0 := fun j v h => hM0.cell (q0_5_0 j v h)
 replace q0 := fun j v h => hM0.cell (q0 j v h)
 obtain ⟨A_1, cap_1, A_2, cap_2, A_3, cap_3, rfl, h_1, h_2, h_3⟩ := TB0.opn h0_0_1
 obtain ⟨A_4, cap_4, A_5, cap_5, A_6, cap_6, rfl, h_4, h_5, h_6⟩ := TB0.opn h0_1_0
 obtain ⟨A_7, cap_7, A_8, cap_8, A_9, cap_9, rfl, h_7, h_8, h_9⟩ := TB0.opn h0_2_0
 obtain ⟨A_10, cap_10, A_11, cap_11, A_12, cap_12, rfl, h_10, h_11, h_12⟩ := TB0.opn h0_3_0
 obtain ⟨A_13, cap_13, A_14, cap_14, A_15, cap_15, rfl, h_13, h_14, h_15⟩ := TB0.opn h0_4_1
 obtain ⟨A_16, cap_16, A_17, cap_17, A_18, cap_18, rfl, h_16, h_17, h_18⟩ := TB0.opn h0_5_0
 refine R_enter 18 Try.func24 rfl rfl (by simp) fun a0 f0 => RR (Y f0 1 fun _ f => eT (R_seq (RR (Y f 3 fun _ f => eT (wp_block (wp_loop_rounds 7 (rounds_go (RR (Y f 1 fun _ f => eT (R_seq ?_))))))))))
 refine Y7 f (wp_skip (T_n (R_seq (wp_block (RR (Z f (Y24 rfl (ad := ad0) (len := 6) (cap := 6) (k := .i64) (i := 0) (e := 76) (sz := 1) (by decide) (by decide)) fun _ f => Y14 f p0 q0 0 rfl fun _ f => Y f 1 fun _ f => eT (RR (Y f 1 fun _ f => ?_))))))))
 obtain ⟨x_1, hx_1, hF_1⟩ := bS hF
 refine Y17 f p0 (refs_scope_resource_1_ok n _ A0_0_0_0 cap0_0_0_0 d0_0_0_0 h0_0_0_0 A0_0_0_1 cap0_0_0_1 d0_0_0_1 h0_0_0_1 A0_0_0_2 cap0_0_0_2 d0_0_0_2 h0_0_0_2 A0_0_0_3 cap0_0_0_3 d0_0_0_3 h0_0_0_3 b0_0_0_4 d0_0_0_4 h00_0_0_4 b0_0_0_5 d0_0_0_5 h00_0_0_5 b0_0_0_6 d0_0_0_6 m0_0_0_6 h00_0_0_6 h0_0_0_6 ad0_0_0 (q0_0_0) ad0_0_1 [S d0_0_1.fId, S d0_0_1.fType, S d0_0_1.fCond, .slice A_1 d0_0_1.fProps.length cap_1, .slice A_2 d0_0_1.fDepends.length cap_2, .bool d0_0_1.fRetain, .slice A_3 d0_0_1.fInner.length cap_3] d0_0_1 (TB0.shutx (x := d0_0_1) h_1 h_2 h_3) (fz_at (q0_0_1) 0 rfl) x_1 hx_1) fun w_1 p_1 _ f => Y f 1 fun _ f => eT (RR (Y f 2 fun _ f => eT (RcF f hF_1 (fun h_19 hF_2 => ?_) fun h_19 hF_3 => ?_)))
 ·have k_1 : ¬ (x_1 = 0) := (not_iff dI).1 h_19
  refine RR (Y f 2 fun _ f => eT (wp_ret (B_r (T_r (T_r (B_r (T_r (E_ret1 f rfl (by kernel_rfl : Vc.look _ 2 = some (.int .i64 x_1)) ?_))))))))
  obtain rfl := sI hF_2
  exact ⟨_, rfl, M1, _, (mR _), p_1, ⟨rfl, rfl⟩⟩
 ·have k_2 : ¬ (¬ (x_1 = 0)) := iff_f (not_iff dI) h_19
  refine wp_skip (B_n (T_n (R_reg (Y f 2 fun _ f => eT (rounds_go (RR (Y f 1 fun _ f => eT (R_seq (Y7 f (wp_skip (T_n (R_seq (wp_block (RR (Z f (Y24 rfl (ad := ad0) (len := 6) (cap := 6) (k := .i64) (i := 1) (e := 76) (sz := 1) (by decide) (by decide)) fun _ f => Y14 f p_1 q0 1 rfl fun _ f => ?_)))))))))))))))
  refine Y f 1 fun _ f => eT (RR (Y f 1 fun _ f => ?_))
  obtain ⟨x_2, hx_2, hF_4⟩ := bS hF_3
  refine Y16 (E := [Ent.obj b0_1_1 (.cells #[.int .i64 d0_1_1_0] 3 (0, 0)), Ent.obj b0_1_2 (.cells #[.int .i64 d0_1_2_0] 31 (0, 0))]) (H := ((Ent.obj b0_5_1 (.cells #[S d0_5_1_0] 9 (0, 0))) :: H)) f p_1 (refs_scope_resource_2_ok n _ ad0_1_0 [S d0_1_0.fId, S d0_1_0.fType, S d0_1_0.fCond, .slice A_4 d0_1_0.fProps.length cap_4, .slice A_5 d0_1_0.fDepends.length cap_5, .bool d0_1_0.fRetain, .slice A_6 d0_1_0.fInner.length cap_6] d0_1_0 (TB0.shutx (x := d0_1_0) h_4 h_5 h_6) (fz_at (q0_1_0) 0 rfl) b0_1_1 d0_1_1_0 b0_1_2 d0_1_2_0 x_2 hx_2) fun _ M_1 E_1 w_2 hM_1 p_2 q_1 _ f => ?_
  obtain ⟨rfl, rfl⟩ := q_1
  refine Y f 1 fun _ f => eT (RR (Y f 2 fun _ f => eT (RcF f hF_4 (fun h_20 hF_5 => ?_) fun h_20 hF_6 => ?_)))
  ·have k_3 : ¬ (x_2.1 = 0) := (not_iff dI).1 h_20
   refine RR (Y f 2 fun _ f => eT (wp_ret (B_r (T_r (T_r (B_r (T_r (E_ret1 f rfl (by kernel_rfl : Vc.look _ 2 = some (.int .i64 x_2.1)) ?_))))))))
   obtain rfl := sI hF_5
   exact ⟨_, rfl, M_1, _, hM_1, p_2, ⟨rfl, rfl⟩⟩
  ·have k_4 : ¬ (¬ (x_2.1 = 0)) := iff_f (not_iff dI) h_20
   refine wp_skip (B_n (T_n (R_reg (Y f 2 fun _ f => eT (rounds_go (RR (Y f 1 fun _ f => eT (R_seq (Y7 f (wp_skip (T_n (R_seq (wp_block (RR (Z f (Y24 rfl (ad := ad0) (len := 6) (cap := 6) (k := .i64) (i := 2) (e := 76) (sz := 1) (by decide) (by decide)) fun _ f => Y14 f p_2 (fzu hM_1 q0) 2 rfl fun _ f => ?_)))))))))))))))
   refine Y f 1 fun _ f => eT (RR (Y f 1 fun _ f => ?_))
   obtain ⟨x_3, hx_3, hF_7⟩ := bS hF_6
   refine Y17 f p_2 (refs_scope_resource_3_ok n _ ad0_2_0 [S d0_2_0.fId, S d0_2_0.fType, S d0_2_0.fCond, .slice A_7 d0_2_0.fProps.length cap_7, .slice A_8 d0_2_0.fDepends.length cap_8, .bool d0_2_0.fRetain, .slice A_9 d0_2_0.fInner.length cap_9] d0_2_0 (TB0.shutx (x := d0_2_0) (h_7.mono hM_1) (h_8.mono hM_1) (h_9.mono hM_1)) (fz_at ((fzu hM_1 q0_2_0)) 0 rfl) A0_2_1_0 cap0_2_1_0 d0_2_1_0 (h0_2_1_0.mono hM_1) A0_2_1_1 cap0_2_1_1 d0_2_1_1 (h0_2_1_1.mono hM_1) A0_2_1_2 cap0_2_1_2 d0_2_1_2 (h0_2_1_2.mono hM_1) A0_2_1_3 cap0_2_1_3 d0_2_1_3 (h0_2_1_3.mono hM_1) b0_2_1_4 d0_2_1_4 (hM_1 _ _ h00_2_1_4) b0_2_1_5 d0_2_1_5 (hM_1 _ _ h00_2_1_5) b0_2_1_6 d0_2_1_6 m0_2_1_6 (hM_1 _ _ h00_2_1_6) (h0_2_1_6.mono hM_1) ad0_2_1 ((fzu hM_1 q0_2_1)) x_3 hx_3) fun w_3 p_3 _ f => Y f 1 fun _ f => eT (RR (Y f 2 fun _ f => eT (RcF f hF_7 (fun h_21 hF_8 => ?_) fun h_21 hF_9 => ?_)))
   ·have k_5 : ¬ (x_3 = 0) := (not_iff dI).1 h_21
    refine RR (Y f 2 fun _ f => eT (wp_ret (B_r (T_r (T_r (B_r (T_r (E_ret1 f rfl (by kernel_rfl : Vc.look _ 2 = some (.int .i64 x_3)) ?_))))))))
    obtain rfl := sI hF_8
    exact ⟨_, rfl, M_1, _, hM_1, p_3, ⟨rfl, rfl⟩⟩
   ·have k_6 : ¬ (¬ (x_3 = 0)) := iff_f (not_iff dI) h_21
    refine wp_skip (B_n (T_n (R_reg (Y f 2 fun _ f => eT (rounds_go (RR (Y f 1 fun _ f => eT (R_seq (Y7 f (wp_skip (T_n (R_seq (wp_block (RR (Z f (Y24 rfl (ad := ad0) (len := 6) (cap := 6) (k := .i64) (i := 3) (e := 76) (sz := 1) (by decide) (by decide)) fun _ f => Y14 f p_3 (fzu hM_1 q0) 3 rfl fun _ f => ?_)))))))))))))))
    refine Y f 1 fun _ f => eT (RR (Y f 1 fun _ f => ?_))
    obtain ⟨x_4, hx_4, hF_10⟩ := bS hF_9
    refine Y17 f p_3 (refs_scope_resource_4_ok n _ ad0_3_0 [S d0_3_0.fId, S d0_3_0.fType, S d0_3_0.fCond, .slice A_10 d0_3_0.fProps.length cap_10, .slice A_11 d0_3_0.fDepends.length cap_11, .bool d0_3_0.fRetain, .slice A_12 d0_3_0.fInner.length cap_12] d0_3_0 (TB0.shutx (x := d0_3_0) (h_10.mono hM_1) (h_11.mono hM_1) (h_12.mono hM_1)) (fz_at ((fzu hM_1 q0_3_0)) 0 rfl) A0_3_1_0 cap0_3_1_0 d0_3_1_0 (h0_3_1_0.mono hM_1) A0_3_1_1 cap0_3_1_1 d0_3_1_1 (h0_3_1_1.mono hM_1) A0_3_1_2 cap0_3_1_2 d0_3_1_2 (h0_3_1_2.mono hM_1) A0_3_1_3 cap0_3_1_3 d0_3_1_3 (h0_3_1_3.mono hM_1) b0_3_1_4 d0_3_1_4 (hM_1 _ _ h00_3_1_4) b0_3_1_5 d0_3_1_5 (hM_1 _ _ h00_3_1_5) b0_3_1_6 d0_3_1_6 m0_3_1_6 (hM_1 _ _ h00_3_1_6) (h0_3_1_6.mono hM_1) ad0_3_1 ((fzu hM_1 q0_3_1)) x_4 hx_4) fun w_4 p_4 _ f => Y f 1 fun _ f => eT (RR (Y f 2 fun _ f => eT (RcF f hF_10 (fun h_22 hF_11 => ?_) fun h_22 hF_12 => ?_)))
    ·have k_7 : ¬ (x_4 = 0) := (not_iff dI).1 h_22
     refine RR (Y f 2 fun _ f => eT (wp_ret (B_r (T_r (T_r (B_r (T_r (E_ret1 f rfl (by kernel_rfl : Vc.look _ 2 = some (.int .i64 x_4)) ?_))))))))
     obtain rfl := sI hF_11
     exact ⟨_, rfl, M_1, _, hM_1, p_4, ⟨rfl, rfl⟩⟩
    ·have k_8 : ¬ (¬ (x_4 = 0)) := iff_f (not_iff dI) h_22
     refine wp_skip (B_n (T_n (R_reg (Y f 2 fun _ f => eT (rounds_go (RR (Y f 1 fun _ f => eT (R_seq (Y7 f (wp_skip (T_n (R_seq (wp_block (RR (Z f (Y24 rfl (ad := ad0) (len := 6) (cap := 6) (k := .i64) (i := 4) (e := 76) (sz := 1) (by decide) (by decide)) fun _ f => Y14 f p_4 (fzu hM_1 q0) 4 rfl fun _ f => ?_)))))))))))))))
     refine Y f 1 fun _ f => eT (RR (Y f 1 fun _ f => ?_))
     obtain ⟨x_5, hx_5, hF_13⟩ := bS hF_12
     refine Y17 f p_4 (refs_scope_resource_5_ok n _ A0_4_0_0 cap0_4_0_0 d0_4_0_0 (h0_4_0_0.mono hM_1) A0_4_0_1 cap0_4_0_1 d0_4_0_1 (h0_4_0_1.mono hM_1) A0_4_0_2 cap0_4_0_2 d0_4_0_2 (h0_4_0_2.mono hM_1) A0_4_0_3 cap0_4_0_3 d0_4_0_3 (h0_4_0_3.mono hM_1) b0_4_0_4 d0_4_0_4 (hM_1 _ _ h00_4_0_4) b0_4_0_5 d0_4_0_5 (hM_1 _ _ h00_4_0_5) b0_4_0_6 d0_4_0_6 m0_4_0_6 (hM_1 _ _ h00_4_0_6) (h0_4_0_6.mono hM_1) ad0_4_0 ((fzu hM_1 q0_4_0)) ad0_4_1 [S d0_4_1.fId, S d0_4_1.fType, S d0_4_1.fCond, .slice A_13 d0_4_1.fProps.length cap_13, .slice A_14 d0_4_1.fDepends.length cap_14, .bool d0_4_1.fRetain, .slice A_15 d0_4_1.fInner.length cap_15] d0_4_1 (TB0.shutx (x := d0_4_1) (h_13.mono hM_1) (h_14.mono hM_1) (h_15.mono hM_1)) (fz_at ((fzu hM_1 q0_4_1)) 0 rfl) x_5 hx_5) fun w_5 p_5 _ f => Y f 1 fun _ f => eT (RR (Y f 2 fun _ f => eT (RcF f hF_13 (fun h_23 hF_14 => ?_) fun h_23 hF_15 => ?_)))
     ·have k_9 : ¬ (x_5 = 0) := (not_iff dI).1 h_23
      refine RR (Y f 2 fun _ f => eT (wp_ret (B_r (T_r (T_r (B_r (T_r (E_ret1 f rfl (by kernel_rfl : Vc.look _ 2 = some (.int .i64 x_5)) ?_))))))))
      obtain rfl := sI hF_14
      exact ⟨_, rfl, M_1, _, hM_1, p_5, ⟨rfl, rfl⟩⟩
     ·have k_10 : ¬ (¬ (x_5 = 0)) := iff_f (not_iff dI) h_23
      refine wp_skip (B_n (T_n (R_reg (Y f 2 fun _ f => eT (rounds_go (RR (Y f 1 fun _ f => eT (R_seq (Y7 f (wp_skip (T_n (R_seq (wp_block (RR (Z f (Y24 rfl (ad := ad0) (len := 6) (cap := 6) (k := .i64) (i := 5) (e := 76) (sz := 1) (by decide) (by decide)) fun _ f => Y14 f p_5 (fzu hM_1 q0) 5 rfl fun _ f => ?_)))))))))))))))
      refine Y f 1 fun _ f => eT (RR (Y f 1 fun _ f => ?_))
      obtain ⟨x_6, hx_6, hF_16⟩ := bS hF_15
      have p_7 := p_5.pl [2]
      refine Y16 (E := [Ent.obj b0_5_1 (.cells #[S d0_5_1_0] 9 (0, 0))]) (H := ((Ent.obj b0_1_1 (.cells #[.int .i64 x_2.2.1] 3 (0, 0))) :: (Ent.obj b0_1_2 (.cells #[.int .i64 x_2.2.2] 31 (0, 0))) :: H)) f p_7 (refs_scope_resource_6_2_ok n rec_refs_Check hrec_refs_Check _ ad0_5_0 [S d0_5_0.fId, S d0_5_0.fType, S d0_5_0.fCond, .slice A_16 d0_5_0.fProps.length cap_16, .slice A_17 d0_5_0.fDepends.length cap_17, .bool d0_5_0.fRetain, .slice A_18 d0_5_0.fInner.length cap_18] d0_5_0 (TB0.shutx (x := d0_5_0) (h_16.mono hM_1) (h_17.mono hM_1) (h_18.mono hM_1)) (fz_at ((fzu hM_1 q0_5_0)) 0 rfl) b0_5_1 d0_5_1_0 x_6 hx_6) fun _ M_2 E_2 w_6 hM_2 p_6 q_2 _ f => ?_
      obtain ⟨rfl, rfl⟩ := q_2
      refine Y f 1 fun _ f => eT (RR (Y f 2 fun _ f => eT (RcF f hF_16 (fun h_24 hF_17 => ?_) fun h_24 hF_18 => ?_)))
      ·have k_11 : ¬ (x_6.1 = 0) := (not_iff dI).1 h_24
       refine RR (Y f 2 fun _ f => eT (wp_ret (B_r (T_r (T_r (B_r (T_r (E_ret1 f rfl (by kernel_rfl : Vc.look _ 2 = some (.int .i64 x_6.1)) ?_))))))))
       obtain rfl := sI hF_17
       have p_9 := p_6.pl [2, 2]
       exact ⟨_, rfl, M_2, _, (hM_1.trans hM_2), p_9, ⟨rfl, rfl⟩⟩
      ·have k_12 : ¬ (¬ (x_6.1 = 0)) := iff_f (not_iff dI) h_24
       refine wp_skip (B_n (T_n (R_reg (Y f 2 fun _ f => eT (rounds_go (RR (Y f 1 fun _ f => eT (R_seq (Y6 f (wp_exit (T_x (T_x (B_x (T_n (RR (Y f 1 fun _ f => eT (wp_ret ?_)))))))))))))))))
       refine E_ret1 f rfl (by kernel_rfl : Vc.look _ 2 = some (.int .i64 0)) ?_
       obtain rfl := sI hF_18
       have p_11 := p_6.pl [2, 2]
       exact ⟨_, rfl, M_2, _, (hM_1.trans hM_2), p_11, ⟨rfl, rfl⟩⟩
def refs_scope_resource_7 (n : Nat) (rec_refs_Check : TA0 → Option (List UInt8 × Int)) (d0_0 : List TD0) (d0_1 : List TF0) (d0_2 : List TB0) (d0_3 : List TC0) (d0_4 : List ((List UInt8) × Bool)) (d0_5 : List ((List UInt8) × Bool)) (d0_6 : List ((List UInt8) × TB0)) (d1 : TB0) : Option (List UInt8 × Int) :=
  (refs_nested n d1).bind fun x_1 =>
  ((bif x_1 then
      (some ((1 : Int)))
    else
      some ((0 : Int)) : Option Int)).bind fun y_1 =>
  (schema_Specs n d1.fType).bind fun x_2 =>
  (refs_first_3 n rec_refs_Check d0_0 d0_1 d0_2 d0_3 d0_4 d0_5 d0_6 d1 d1 y_1 x_2.2 d1 d0_0 d0_1 d0_2 d0_3 d0_4 d0_5 d0_6 d1 d0_0 d0_1 d0_2 d0_3 d0_4 d0_5 d0_6 d0_0 d0_1 d0_2 d0_3 d0_4 d0_5 d0_6 d1 d1 ([] : List UInt8)).bind fun x_3 =>
  some ((x_3.2.2.2, x_3.1))
theorem refs_scope_resource_7_ok (n : Nat) (rec_refs_Check : TA0 → Option (List UInt8 × Int)) (hrec_refs_Check : ∀ (M : Mem) (c0 : List Value) (d0 : TA0) (h0 : Rep M (emb_TA0 d0) c0) (r : List UInt8 × Int) (hF : rec_refs_Check d0 = some r), Ok Try.prog M 8 [.agg c0.toArray] (fun _ v => v = .tuple #[S r.1, .int .i64 r.2])) (M : Mem) (A0_0 : Option Addr) (cap0_0 : Nat) (d0_0 : List TD0) (h0_0 : Sli M 10 emb_TD0 A0_0 cap0_0 d0_0) (A0_1 : Option Addr) (cap0_1 : Nat) (d0_1 : List TF0) (h0_1 : Sli M 15 emb_TF0 A0_1 cap0_1 d0_1) (A0_2 : Option Addr) (cap0_2 : Nat) (d0_2 : List TB0) (h0_2 : Sli M 7 emb_TB0 A0_2 cap0_2 d0_2) (A0_3 : Option Addr) (cap0_3 : Nat) (d0_3 : List TC0) (h0_3 : Sli M 8 emb_TC0 A0_3 cap0_3 d0_3) (b0_4 : Nat) (d0_4 : List ((List UInt8) × Bool)) (h00_4 : M b0_4 = some (mapO S Value.bool d0_4)) (b0_5 : Nat) (d0_5 : List ((List UInt8) × Bool)) (h00_5 : M b0_5 = some (mapO S Value.bool d0_5)) (b0_6 : Nat) (d0_6 : List ((List UInt8) × TB0)) (m0_6 : List ((List UInt8) × Value)) (h00_6 : M b0_6 = some (mapO S idV m0_6)) (h0_6 : RepMap M emb_TB0 d0_6 m0_6) (c1 : List Value) (d1 : TB0) (h1 : Rep M (emb_TB0 d1) c1) (r : List UInt8 × Int) (hF : refs_scope_resource_7 n rec_refs_Check d0_0 d0_1 d0_2 d0_3 d0_4 d0_5 d0_6 d1 = some r) : Ok Try.prog M 16 [.agg #[.slice A0_0 d0_0.length cap0_0, .slice A0_1 d0_1.length cap0_1, .slice A0_2 d0_2.length cap0_2, .slice A0_3 d0_3.length cap0_3, .map (some b0_4), .map (some b0_5), .map (some b0_6)], .agg c1.toArray] (fun _ v => v = .tuple #[S r.1, .int .i64 r.2]) := by
 unfold refs_scope_resource_7 at hF
 intro M1 hM0 w0 H w p0
 replace h0_0 := h0_0.mono hM0
 replace h0_1 := h0_1.mono hM0
 replace h0_2 := h0_2.mono hM0
 replace h0_3 := h0_3.mono hM0
 replace h00_4 := hM0 _ _ h00_4
 replace h00_5 := hM0 _ _ h00_5
 replace h00_6 := hM0 _ _ h00_6
 replace h0_6 := RepMap.mono hM0 h0_6
 replace h1 := Rep.mono hM0 _ _ h1
 obtain ⟨A_1, cap_1, A_2, cap_2, A_3, cap_3, rfl, h_1, h_2, h_3⟩ := TB0.opn h1
 refine R_enter 27 Try.func16 rfl rfl (by simp) fun a0 f0 => RR (Y12 (cs := #[.slice A0_0 d0_0.length cap0_0, .slice A0_1 d0_1.length cap0_1, .slice A0_2 d0_2.length cap0_2, .slice A0_3 d0_3.length cap0_3, .map (some b0_4), .map (some b0_5), .map (some b0_6)]) (T := 62) f0 p0 fun b_1 M_1 w_1 hM_1 hc_1 p_1 _ f => ?_)
 have hc_2 := fz_box hc_1
 refine Y12 (cs := #[S d1.fId, S d1.fType, S d1.fCond, .slice A_1 d1.fProps.length cap_1, .slice A_2 d1.fDepends.length cap_2, .bool d1.fRetain, .slice A_3 d1.fInner.length cap_3]) (T := 49) f p_1 fun b_2 M_2 w_2 hM_2 hc_3 p_2 _ f => ?_
 have hc_4 := fz_box hc_3
 refine Y11 f p_2 (.cells #[S []] 9 (0, 0)) fun b_3 w_3 p_3 _ f => Y f 1 fun _ f => eT (RR (Y11 f p_3 (.cells #[.int .i64 0] 3 (0, 0)) fun b_4 w_4 p_4 _ f => Y21 f p_4 0 rfl rfl (b := b_4) (j := 0) (v := .int .i64 0) rfl (by exact rfl) (by simp) (by simp) ((Ent.obj b_4 (.cells #[.int .i64 0] 3 (0, 0))) :: (Ent.obj b_3 (.cells #[S []] 9 (0, 0))) :: H) rfl fun w_5 p_5 _ f => eT (R_seq (RR (Z (v := .agg #[S d1.fId, S d1.fType, S d1.fCond, .slice A_1 d1.fProps.length cap_1, .slice A_2 d1.fDepends.length cap_2, .bool d1.fRetain, .slice A_3 d1.fInner.length cap_3]) f (Y27 (cs := [S d1.fId, S d1.fType, S d1.fCond, .slice A_1 d1.fProps.length cap_1, .slice A_2 d1.fDepends.length cap_2, .bool d1.fRetain, .slice A_3 d1.fInner.length cap_3]) rfl (ad := ⟨b_2, 0, none⟩) (fun j v h => p_5.cell (hc_4 j v h))) fun _ f => ?_)))))
 obtain ⟨x_1, hx_1, hF_1⟩ := bS hF
 refine Y17 f p_5 (refs_nested_ok n _ _ d1 (TB0.shutx (x := d1) (h_1.mono (hM_1.trans hM_2)) (h_2.mono (hM_1.trans hM_2)) (h_3.mono (hM_1.trans hM_2))) x_1 hx_1) fun w_6 p_6 _ f => eT ?_
 obtain ⟨j_1, hj_1, hF_2⟩ := bS hF_1
 refine R_mid (fun a_10 w_8 => ∃ y_1 : Int, j_1 = y_1 ∧ ∃ M_3 : Mem, M_2.le M_3 ∧ Frm 27 [(2, .pointer (some (⟨b_1, 0, none⟩))), (3, .pointer (some (⟨b_2, 0, none⟩))), (4, .pointer (some (⟨b_3, 0, none⟩))), (6, .pointer (some (⟨b_4, 0, none⟩)))] a_10 ∧ Hp w0 M_3 ((Ent.obj b_4 (.cells #[.int .i64 y_1] 3 (0, 0))) :: (Ent.obj b_3 (.cells #[S []] 9 (0, 0))) :: H) w_8) ?_ ?_
 ·refine RcF f hj_1 (fun h_4 hF_3 => ?_) fun h_4 hF_4 => ?_
  ·refine R_reg (Y21 f p_6 0 rfl rfl (b := b_4) (j := 0) (v := .int .i64 1) rfl (by exact rfl) (by simp) (by simp) ((Ent.obj b_4 (.cells #[.int .i64 1] 3 (0, 0))) :: (Ent.obj b_3 (.cells #[S []] 9 (0, 0))) :: H) rfl fun w_7 p_7 _ f => eT ?_)
   exact ⟨(1 : Int), (sI hF_3).symm, M_2, (mR _), f.kp, p_7⟩
  ·refine wp_skip (T_n ?_)
   exact ⟨(0 : Int), (sI hF_4).symm, M_2, (mR _), f.kp, p_6⟩
 ·rintro a_10 w_8 ⟨y_1, hq_1, M_3, hM_3, f, p_8⟩
  subst j_1
  refine T_n (RR (Y f 1 fun _ f => Y14 f p_8 (fzu hM_3 hc_4) 1 rfl fun _ f => ?_))
  obtain ⟨x_2, hx_2, hF_5⟩ := bS hF_2
  refine Y16 (E := []) (H := ((Ent.obj b_4 (.cells #[.int .i64 y_1] 3 (0, 0))) :: (Ent.obj b_3 (.cells #[S []] 9 (0, 0))) :: H)) f p_8 (schema_Specs_ok n _ d1.fType x_2 hx_2) fun _ M_4 E_1 w_9 hM_4 p_9 q_1 _ f => ?_
  obtain ⟨A_4, cap_4, cs_1, rfl, rfl, hr_1⟩ := q_1
  refine Y f 3 fun _ f => Y11 f p_9 (.cells #[.int .i64 0] 31 (0, 0)) fun b_5 w_10 p_10 _ f => Y f 1 fun _ f => Y21 f p_10 0 rfl rfl (b := b_5) (j := 0) (v := .int .i64 x_2.2) rfl (by exact rfl) (by simp) (by simp) ((Ent.obj b_5 (.cells #[.int .i64 x_2.2] 31 (0, 0))) :: (Ent.row 102 3 (.slice A_4 x_2.1.length cap_4) x_2.1.length cs_1) :: (Ent.obj b_4 (.cells #[.int .i64 y_1] 3 (0, 0))) :: (Ent.obj b_3 (.cells #[S []] 9 (0, 0))) :: H) rfl fun w_11 p_11 _ f => eT (RR (Y f 6 fun _ f => V_allocS (k := 6) (c := 6) f p_11 (.cells #[.func (.func 30) #[] #[.pointer (some (⟨b_1, 0, none⟩)), .pointer (some (⟨b_2, 0, none⟩))], .func (.func 32) #[] #[.pointer (some (⟨b_2, 0, none⟩)), .pointer (some (⟨b_4, 0, none⟩)), .pointer (some (⟨b_5, 0, none⟩))], .func (.func 33) #[] #[.pointer (some (⟨b_2, 0, none⟩)), .pointer (some (⟨b_1, 0, none⟩))], .func (.func 34) #[] #[.pointer (some (⟨b_2, 0, none⟩)), .pointer (some (⟨b_1, 0, none⟩))], .func (.func 37) #[] #[.pointer (some (⟨b_1, 0, none⟩)), .pointer (some (⟨b_2, 0, none⟩))], .func (.func 39) #[] #[.pointer (some (⟨b_2, 0, none⟩)), .pointer (some (⟨b_3, 0, none⟩))]] 76 (0, 0)) (by kernel_rfl) (fun _ => by kernel_rfl) fun b_6 w_12 p_12 _ f => ?_))
  obtain ⟨M_5, hM_5, p_13, hc_5⟩ := p_12.fzOwn
  obtain ⟨x_3, hx_3, hF_6⟩ := bS hF_5
  have p_17 := p_13.pl [3, 1, 3]
  refine Y16 (E := [Ent.obj b_4 (.cells #[.int .i64 y_1] 3 (0, 0)), Ent.obj b_5 (.cells #[.int .i64 x_2.2] 31 (0, 0)), Ent.obj b_3 (.cells #[S []] 9 (0, 0))]) (H := ((Ent.row 102 3 (.slice A_4 x_2.1.length cap_4) x_2.1.length cs_1) :: H)) f p_17 (refs_first_3_ok n rec_refs_Check hrec_refs_Check _ A0_0 cap0_0 d0_0 (h0_0.mono ((((hM_1.trans hM_2).trans hM_3).trans hM_4).trans hM_5)) A0_1 cap0_1 d0_1 (h0_1.mono ((((hM_1.trans hM_2).trans hM_3).trans hM_4).trans hM_5)) A0_2 cap0_2 d0_2 (h0_2.mono ((((hM_1.trans hM_2).trans hM_3).trans hM_4).trans hM_5)) A0_3 cap0_3 d0_3 (h0_3.mono ((((hM_1.trans hM_2).trans hM_3).trans hM_4).trans hM_5)) b0_4 d0_4 (((((hM_1.trans hM_2).trans hM_3).trans hM_4).trans hM_5) _ _ h00_4) b0_5 d0_5 (((((hM_1.trans hM_2).trans hM_3).trans hM_4).trans hM_5) _ _ h00_5) b0_6 d0_6 m0_6 (((((hM_1.trans hM_2).trans hM_3).trans hM_4).trans hM_5) _ _ h00_6) (h0_6.mono ((((hM_1.trans hM_2).trans hM_3).trans hM_4).trans hM_5)) (⟨b_1, 0, none⟩) ((fzu (((hM_2.trans hM_3).trans hM_4).trans hM_5) hc_2)) (⟨b_2, 0, none⟩) [S d1.fId, S d1.fType, S d1.fCond, .slice A_1 d1.fProps.length cap_1, .slice A_2 d1.fDepends.length cap_2, .bool d1.fRetain, .slice A_3 d1.fInner.length cap_3] d1 (TB0.shutx (x := d1) (h_1.mono ((((hM_1.trans hM_2).trans hM_3).trans hM_4).trans hM_5)) (h_2.mono ((((hM_1.trans hM_2).trans hM_3).trans hM_4).trans hM_5)) (h_3.mono ((((hM_1.trans hM_2).trans hM_3).trans hM_4).trans hM_5))) (fz_at ((fzu ((hM_3.trans hM_4).trans hM_5) hc_4)) 0 rfl) (⟨b_2, 0, none⟩) [S d1.fId, S d1.fType, S d1.fCond, .slice A_1 d1.fProps.length cap_1, .slice A_2 d1.fDepends.length cap_2, .bool d1.fRetain, .slice A_3 d1.fInner.length cap_3] d1 (TB0.shutx (x := d1) (h_1.mono ((((hM_1.trans hM_2).trans hM_3).trans hM_4).trans hM_5)) (h_2.mono ((((hM_1.trans hM_2).trans hM_3).trans hM_4).trans hM_5)) (h_3.mono ((((hM_1.trans hM_2).trans hM_3).trans hM_4).trans hM_5))) (fz_at ((fzu ((hM_3.trans hM_4).trans hM_5) hc_4)) 0 rfl) b_4 y_1 b_5 x_2.2 (⟨b_2, 0, none⟩) [S d1.fId, S d1.fType, S d1.fCond, .slice A_1 d1.fProps.length cap_1, .slice A_2 d1.fDepends.length cap_2, .bool d1.fRetain, .slice A_3 d1.fInner.length cap_3] d1 (TB0.shutx (x := d1) (h_1.mono ((((hM_1.trans hM_2).trans hM_3).trans hM_4).trans hM_5)) (h_2.mono ((((hM_1.trans hM_2).trans hM_3).trans hM_4).trans hM_5)) (h_3.mono ((((hM_1.trans hM_2).trans hM_3).trans hM_4).trans hM_5))) (fz_at ((fzu ((hM_3.trans hM_4).trans hM_5) hc_4)) 0 rfl) A0_0 cap0_0 d0_0 (h0_0.mono ((((hM_1.trans hM_2).trans hM_3).trans hM_4).trans hM_5)) A0_1 cap0_1 d0_1 (h0_1.mono ((((hM_1.trans hM_2).trans hM_3).trans hM_4).trans hM_5)) A0_2 cap0_2 d0_2 (h0_2.mono ((((hM_1.trans hM_2).trans hM_3).trans hM_4).trans hM_5)) A0_3 cap0_3 d0_3 (h0_3.mono ((((hM_1.trans hM_2).trans hM_3).trans hM_4).trans hM_5)) b0_4 d0_4 (((((hM_1.trans hM_2).trans hM_3).trans hM_4).trans hM_5) _ _ h00_4) b0_5 d0_5 (((((hM_1.trans hM_2).trans hM_3).trans hM_4).trans hM_5) _ _ h00_5) b0_6 d0_6 m0_6 (((((hM_1.trans hM_2).trans hM_3).trans hM_4).trans hM_5) _ _ h00_6) (h0_6.mono ((((hM_1.trans hM_2).trans hM_3).trans hM_4).trans hM_5)) (⟨b_1, 0, none⟩) ((fzu (((hM_2.trans hM_3).trans hM_4).trans hM_5) hc_2)) (⟨b_2, 0, none⟩) [S d1.fId, S d1.fType, S d1.fCond, .slice A_1 d1.fProps.length cap_1, .slice A_2 d1.fDepends.length cap_2, .bool d1.fRetain, .slice A_3 d1.fInner.length cap_3] d1 (TB0.shutx (x := d1) (h_1.mono ((((hM_1.trans hM_2).trans hM_3).trans hM_4).trans hM_5)) (h_2.mono ((((hM_1.trans hM_2).trans hM_3).trans hM_4).trans hM_5)) (h_3.mono ((((hM_1.trans hM_2).trans hM_3).trans hM_4).trans hM_5))) (fz_at ((fzu ((hM_3.trans hM_4).trans hM_5) hc_4)) 0 rfl) A0_0 cap0_0 d0_0 (h0_0.mono ((((hM_1.trans hM_2).trans hM_3).trans hM_4).trans hM_5)) A0_1 cap0_1 d0_1 (h0_1.mono ((((hM_1.trans hM_2).trans hM_3).trans hM_4).trans hM_5)) A0_2 cap0_2 d0_2 (h0_2.mono ((((hM_1.trans hM_2).trans hM_3).trans hM_4).trans hM_5)) A0_3 cap0_3 d0_3 (h0_3.mono ((((hM_1.trans hM_2).trans hM_3).trans hM_4).trans hM_5)) b0_4 d0_4 (((((hM_1.trans hM_2).trans hM_3).trans hM_4).trans hM_5) _ _ h00_4) b0_5 d0_5 (((((hM_1.trans hM_2).trans hM_3).trans hM_4).trans hM_5) _ _ h00_5) b0_6 d0_6 m0_6 (((((hM_1.trans hM_2).trans hM_3).trans hM_4).trans hM_5) _ _ h00_6) (h0_6.mono ((((hM_1.trans hM_2).trans hM_3).trans hM_4).trans hM_5)) (⟨b_1, 0, none⟩) ((fzu (((hM_2.trans hM_3).trans hM_4).trans hM_5) hc_2)) A0_0 cap0_0 d0_0 (h0_0.mono ((((hM_1.trans hM_2).trans hM_3).trans hM_4).trans hM_5)) A0_1 cap0_1 d0_1 (h0_1.mono ((((hM_1.trans hM_2).trans hM_3).trans hM_4).trans hM_5)) A0_2 cap0_2 d0_2 (h0_2.mono ((((hM_1.trans hM_2).trans hM_3).trans hM_4).trans hM_5)) A0_3 cap0_3 d0_3 (h0_3.mono ((((hM_1.trans hM_2).trans hM_3).trans hM_4).trans hM_5)) b0_4 d0_4 (((((hM_1.trans hM_2).trans hM_3).trans hM_4).trans hM_5) _ _ h00_4) b0_5 d0_5 (((((hM_1.trans hM_2).trans hM_3).trans hM_4).trans hM_5) _ _ h00_5) b0_6 d0_6 m0_6 (((((hM_1.trans hM_2).trans hM_3).trans hM_4).trans hM_5) _ _ h00_6) (h0_6.mono ((((hM_1.trans hM_2).trans hM_3).trans hM_4).trans hM_5)) (⟨b_1, 0, none⟩) ((fzu (((hM_2.trans hM_3).trans hM_4).trans hM_5) hc_2)) (⟨b_2, 0, none⟩) [S d1.fId, S d1.fType, S d1.fCond, .slice A_1 d1.fProps.length cap_1, .slice A_2 d1.fDepends.length cap_2, .bool d1.fRetain, .slice A_3 d1.fInner.length cap_3] d1 (TB0.shutx (x := d1) (h_1.mono ((((hM_1.trans hM_2).trans hM_3).trans hM_4).trans hM_5)) (h_2.mono ((((hM_1.trans hM_2).trans hM_3).trans hM_4).trans hM_5)) (h_3.mono ((((hM_1.trans hM_2).trans hM_3).trans hM_4).trans hM_5))) (fz_at ((fzu ((hM_3.trans hM_4).trans hM_5) hc_4)) 0 rfl) (⟨b_2, 0, none⟩) [S d1.fId, S d1.fType, S d1.fCond, .slice A_1 d1.fProps.length cap_1, .slice A_2 d1.fDepends.length cap_2, .bool d1.fRetain, .slice A_3 d1.fInner.length cap_3] d1 (TB0.shutx (x := d1) (h_1.mono ((((hM_1.trans hM_2).trans hM_3).trans hM_4).trans hM_5)) (h_2.mono ((((hM_1.trans hM_2).trans hM_3).trans hM_4).trans hM_5)) (h_3.mono ((((hM_1.trans hM_2).trans hM_3).trans hM_4).trans hM_5))) (fz_at ((fzu ((hM_3.trans hM_4).trans hM_5) hc_4)) 0 rfl) b_3 ([] : List UInt8) (⟨b_6, 0, none⟩ : Addr) (hc_5) x_3 hx_3) fun _ M_6 E_2 w_13 hM_6 p_14 q_2 _ f => ?_
  obtain ⟨rfl, rfl⟩ := q_2
  refine Y f 1 fun _ f => eT (RR (Z f (Y26 (v := S x_3.2.2.2) rfl (ad := ⟨b_3, 0, none⟩) (p_14.ownCell 2 rfl 0)) fun _ f => Y f 1 fun _ f => Y21 f p_14 2 rfl rfl (b := b_3) (j := 0) (v := S x_3.2.2.2) rfl (by exact rfl) (by simp) (by simp) ((Ent.obj b_4 (.cells #[.int .i64 x_3.2.1] 3 (0, 0))) :: (Ent.obj b_5 (.cells #[.int .i64 x_3.2.2.1] 31 (0, 0))) :: (Ent.obj b_3 (.cells #[S x_3.2.2.2] 9 (0, 0))) :: (Ent.row 102 3 (.slice A_4 x_2.1.length cap_4) x_2.1.length cs_1) :: H) rfl fun w_14 p_18 _ f => Y f 1 fun _ f => eT (wp_ret (E_rv2 f rfl (Y8 (v := S x_3.2.2.2) (ad := ⟨b_3, 0, none⟩) f (p_18.ownCell 2 rfl 0)) (Y10 (v := .int .i64 x_3.1) f) ?_))))
  obtain rfl := sI hF_6
  exact ⟨_, rfl, M_6, (((((hM_1.trans hM_2).trans hM_3).trans hM_4).trans hM_5).trans hM_6), (p_18.dropN 4), rfl⟩
def refs_place_1 (n : Nat) (d0 : List UInt8) : Option Bool :=
  some ((decide (d0 = [])))
theorem refs_place_1_ok (n : Nat) (M : Mem) (d0 : List UInt8) (r : Bool) (hF : refs_place_1 n d0 = some r) : Ok Try.prog M 42 [S d0] (fun _ v => v = .bool r) := by
 unfold refs_place_1 at hF
 intro M1 hM0 w0 H w p0
 refine R_enter 5 Try.func42 rfl rfl (by simp) fun a0 f0 => RR (Y f0 1 fun _ f => eT (RR (Y f 1 fun _ f => Z f (Y28 rfl (l := d0) (m := [])) fun _ f => Y f 1 fun _ f => eT (wp_ret (E_ret1 f rfl (by kernel_rfl : Vc.look _ 2 = some (.bool (decide (d0 = [])))) ?_)))))
 obtain rfl := sI hF
 exact ⟨_, rfl, M1, (mR _), p0, rfl⟩
def slices_IndexFuncstring_string_2_s1 (n : Nat) (d0 : List (List UInt8)) (s_1 : Int) : Option (Lp Int (Sum Int Unit)) :=
    bif (decide (s_1 < ((d0.length : Nat) : Int))) then
      ((getI d0 s_1).bind fun x_1 =>
      (refs_place_1 n x_1).bind fun x_2 =>
      bif x_2 then
        (some (.br (.inl s_1)))
      else
        need (inR .i64 (s_1 + 1)) <|
        some (.nx (s_1 + 1)))
    else
      some (.br (.inr ()))
def slices_IndexFuncstring_string_2 (n : Nat) (d0 : List (List UInt8)) : Option Int :=
  (loopF (slices_IndexFuncstring_string_2_s1 n d0) n (0 : Int)).bind fun b_1 =>
  (match b_1 with 
  | .inl y_1 => some (y_1) 
  | .inr y_2 => some ((-1 : Int)))
theorem slices_IndexFuncstring_string_2_ok (n : Nat) (M : Mem) (A0 : Option Addr) (cap0 : Nat) (d0 : List (List UInt8)) (h0 : Sli M 1 Dat.str A0 cap0 d0) (r : Int) (hF : slices_IndexFuncstring_string_2 n d0 = some r) : Ok Try.prog M 52 [.slice A0 d0.length cap0, .func (.func 42) #[] #[]] (fun _ v => v = .int .i64 r) := by
 unfold slices_IndexFuncstring_string_2 at hF
 intro M1 hM0 w0 H w p0
 replace h0 := h0.mono hM0
 refine R_enter 19 Try.func52 rfl rfl (by simp) fun a0 f0 => RR (Y f0 1 fun _ f => eT (R_seq (RR (Y f 3 fun _ f => eT (wp_block ?_)))))
 obtain ⟨b_1, hL_1, hF_1⟩ := bS hF
 refine wp_mono (Q := fun e a w => (e = .ret ∧ (∃ y_1 : Int, b_1 = .inl y_1 ∧ ∃ M_2 : Mem, M1.le M_2 ∧ Frm 19 [(4, .int .i64 y_1)] a ∧ Hp w0 M_2 (H) w)) ∨ (e = .exit 0 ∧ (∃ y_2 : Unit, b_1 = .inr y_2 ∧ ∃ M_3 : Mem, M1.le M_3 ∧ Frm 19 [] a ∧ Hp w0 M_3 (H) w))) (R_loop (n := 19) (w0 := w0) (M := M1) (fun (x : Nat × Int) => match x with | (m_1, s_1) => [(0, .slice A0 d0.length cap0), (1, .func (.func 42) #[] #[]), (7, .int .i64 ((d0.length : Nat) : Int)), (8, .int .i64 s_1)]) (fun (x : Nat × Int) => match x with | (m_1, s_1) => (H)) (fun (x : Nat × Int) (MM : Mem) => match x with | (m_1, s_1) => loopF (slices_IndexFuncstring_string_2_s1 n d0) m_1 s_1 = some b_1) (fun (x : Nat × Int) => match x with | (m_1, s_1) => m_1) (n, (0 : Int)) (f.kp) p0 hL_1 ?_) ?_
 ·rintro ⟨m_1, s_1⟩ M_1 _ w_1 hM_1 I_1 f p_1
  have I_1L := I_1
  obtain ⟨m_2, r_1, rfl, hs_1, hn_1⟩ := loop_step I_1L
  unfold slices_IndexFuncstring_string_2_s1 at hs_1
  refine RR (Y f 1 fun _ f => eT (R_seq (RcF f hs_1 (fun h_1 hF_2 => ?_) fun h_1 hF_8 => ?_)))
  ·have k_1 := dI.1 h_1
   refine wp_skip (T_n (R_seq (wp_block (RR (Y f 2 fun _ f => eT (RR (Y f 3 fun _ f => ?_)))))))
   obtain ⟨x_1, hx_1, hF_3⟩ := bS hF_2
   obtain ⟨ad_1, c_1, e_1, -, hr_1, hc_1⟩ := Sli.at_ (h0.mono hM_1) hx_1
   obtain rfl : c_1 = [S x_1] := hr_1
   refine Z f (Y25 e_1 rfl (len := d0.length) (cap := cap0) (k := .i64) (i := s_1) (e := 9) (sz := 1) (getI_nn hx_1) (getI_lt hx_1)) fun _ f => Y14 f p_1 hc_1 0 rfl fun _ f => ?_
   obtain ⟨x_2, hx_2, hF_4⟩ := bS hF_3
   refine Y17 f p_1 (refs_place_1_ok n _ x_1 x_2 hx_2) fun w_2 p_2 _ f => eT (RcF f hF_4 (fun h_2 hF_5 => ?_) fun h_2 hF_6 => ?_)
   ·refine RR (Y f 2 fun _ f => eT (wp_ret (B_r (T_r (T_r ?_)))))
    obtain rfl := sI hF_5
    exact .inl ⟨rfl, s_1, (sI hn_1).symm, M_1, hM_1, f.kp, p_2⟩
   ·refine wp_skip (B_n (T_n (R_reg ?_)))
    obtain ⟨g_1, hF_7⟩ := nS hF_6
    refine Y f 1 fun _ f => ?_
    have f := f.st 18 (congrArg (Value.int .i64) (inR_wrap g_1))
    refine Y f 1 fun _ f => eT ?_
    obtain rfl := sI hF_7
    exact ⟨⟨m_2, s_1 + 1⟩, Nat.lt_succ_self _, M_1, hM_1, hn_1, f.kp, p_2⟩
  ·have k_4 := iff_f dI h_1
   refine wp_exit (T_x (T_x ?_))
   obtain rfl := sI hF_8
   exact .inr ⟨rfl, (), (sI hn_1).symm, M_1, hM_1, f.kp, p_1⟩
 ·rintro _ _ w_5 (⟨rfl, y_1, rfl, M_2, hM_2, f, p_3⟩ | ⟨rfl, y_2, rfl, M_3, hM_3, f, p_4⟩)
  ·refine B_r (T_r (E_ret1 f rfl (by kernel_rfl : Vc.look _ 4 = some (.int .i64 y_1)) ?_))
   obtain rfl := sI hF_1
   exact ⟨_, rfl, M_2, hM_2, p_3, rfl⟩
  ·refine B_x (T_n (RR (Y f 1 fun _ f => eT (wp_ret (E_ret1 f rfl (by kernel_rfl : Vc.look _ 4 = some (.int .i64 (-1))) ?_)))))
   obtain rfl := sI hF_1
   exact ⟨_, rfl, M_3, hM_3, p_4, rfl⟩
def slices_DeleteFuncstring_string (n : Nat) (d0 : List (List UInt8)) : Option (List (List UInt8)) :=
  (slices_IndexFuncstring_string_2 n d0).bind fun x_1 =>
  need ((decide (x_1 = (-1))) = true) <|
  some (d0)
theorem slices_DeleteFuncstring_string_ok (n : Nat) (M : Mem) (A0 : Option Addr) (cap0 : Nat) (d0 : List (List UInt8)) (h0 : Sli M 1 Dat.str A0 cap0 d0) (r : List (List UInt8)) (hF : slices_DeleteFuncstring_string n d0 = some r) : Ok Try.prog M 41 [.slice A0 d0.length cap0, .func (.func 42) #[] #[]] (fun M' v => ∃ (A0 : Option Addr) (k0 : Nat), v = .slice A0 r.length k0 ∧ Sli M' 1 Dat.str A0 k0 r) := by
 unfold slices_DeleteFuncstring_string at hF
 intro M1 hM0 w0 H w p0
 replace h0 := h0.mono hM0
 refine R_enter 42 Try.func41 rfl rfl (by simp) fun a0 f0 => RR (Y f0 1 fun _ f => eT (RR (Y f 2 fun _ f => ?_)))
 obtain ⟨x_1, hx_1, hF_1⟩ := bS hF
 refine Y17 f p0 (slices_IndexFuncstring_string_2_ok n _ A0 cap0 d0 h0 x_1 hx_1) fun w_1 p_1 _ f => Y f 1 fun _ f => eT (R_seq (RR (Y f 2 fun _ f => eT ?_)))
 obtain ⟨g_1, hF_2⟩ := nS hF_1
 have f := Frm.set f 12 (v := .bool (decide (x_1 = (-1)))) (v' := .bool true) (by kernel_rfl) (cB g_1)
 refine Y7 f (RR (Y f 2 fun _ f => eT (wp_ret (T_r (E_ret1 f rfl (by kernel_rfl : Vc.look _ 4 = some (.slice A0 d0.length cap0)) ?_)))))
 obtain rfl := sI hF_2
 exact ⟨_, rfl, M1, (mR _), p_1, ⟨A0, cap0, rfl, h0⟩⟩
def refs_place (n : Nat) (d0 : List (List UInt8)) : Option (List UInt8) :=
  (slices_DeleteFuncstring_string n d0).bind fun x_1 =>
  (h_Join n x_1 [47]).bind fun x_2 =>
  some (x_2)
theorem refs_place_ok (n : Nat) (M : Mem) (A0 : Option Addr) (cap0 : Nat) (d0 : List (List UInt8)) (h0 : Sli M 1 Dat.str A0 cap0 d0) (r : List UInt8) (hF : refs_place n d0 = some r) : Ok Try.prog M 17 [.slice A0 d0.length cap0] (fun _ v => v = S r) := by
 unfold refs_place at hF
 intro M1 hM0 w0 H w p0
 replace h0 := h0.mono hM0
 refine R_enter 6 Try.func17 rfl rfl (by simp) fun a0 f0 => RR (Y f0 1 fun _ f => eT (RR (Y f 1 fun _ f => ?_)))
 obtain ⟨x_1, hx_1, hF_1⟩ := bS hF
 refine Y15 f p0 (slices_DeleteFuncstring_string_ok n _ A0 cap0 d0 h0 x_1 hx_1) fun _ M_1 w_1 hM_1 p_1 q_1 _ f => ?_
 obtain ⟨A_1, cap_1, rfl, h_1⟩ := q_1
 obtain ⟨x_2, hx_2, hF_2⟩ := bS hF_1
 refine Y17 f p_1 (h_Join_ok n _ A_1 cap_1 x_1 h_1 [47] x_2 hx_2) fun w_2 p_2 _ f => Y f 1 fun _ f => eT (wp_ret (E_ret1 f rfl (by kernel_rfl : Vc.look _ 2 = some (S x_2)) ?_))
 obtain rfl := sI hF_2
 exact ⟨_, rfl, M_1, hM_1, p_2, rfl⟩
def refs_Check_s1 (n : Nat) (d0 : TA0) (x_1 : (List TD0 × List TF0 × List TB0 × List TC0 × (List ((List UInt8) × Bool)) × (List ((List UInt8) × Bool)) × (List ((List UInt8) × TB0)))) (s_1 : Int) : Option (Lp Int (Sum (List UInt8 × Int) Unit)) :=
    bif (decide (s_1 < ((d0.fConds.length : Nat) : Int))) then
      ((getI d0.fConds s_1).bind fun x_2 =>
      (refs_scope_cond n x_1.1 x_1.2.1 x_1.2.2.1 x_1.2.2.2.1 x_1.2.2.2.2.1 x_1.2.2.2.2.2.1 x_1.2.2.2.2.2.2 x_2).bind fun x_3 =>
      bif (!(decide (x_3 = 0))) then
        (need ([67, 111, 110, 100, 105, 116, 105, 111, 110, 115, 47].length + x_2.fName.length ≤ 9223372036854775807) <|
        some (.br (.inl ([67, 111, 110, 100, 105, 116, 105, 111, 110, 115, 47] ++ x_2.fName, x_3))))
      else
        need (inR .i64 (s_1 + 1)) <|
        some (.nx (s_1 + 1)))
    else
      some (.br (.inr ()))
def refs_Check_s2 (n : Nat) (rec_refs_Check : TA0 → Option (List UInt8 × Int)) (d0 : TA0) (x_1 : (List TD0 × List TF0 × List TB0 × List TC0 × (List ((List UInt8) × Bool)) × (List ((List UInt8) × Bool)) × (List ((List UInt8) × TB0)))) (s_2 : Int) : Option (Lp Int (Sum (List UInt8 × Int) Unit)) :=
    bif (decide (s_2 < ((d0.fRes.length : Nat) : Int))) then
      ((getI d0.fRes s_2).bind fun x_4 =>
      (refs_scope_resource_7 n rec_refs_Check x_1.1 x_1.2.1 x_1.2.2.1 x_1.2.2.2.1 x_1.2.2.2.2.1 x_1.2.2.2.2.2.1 x_1.2.2.2.2.2.2 x_4).bind fun x_5 =>
      bif (!(decide (x_5.2 = 0))) then
        (bif (decide (x_5.1 = [])) then
          (need ([82, 101, 115, 111, 117, 114, 99, 101, 115, 47].length + x_4.fId.length ≤ 9223372036854775807) <|
          some (.br (.inl ([82, 101, 115, 111, 117, 114, 99, 101, 115, 47] ++ x_4.fId, x_5.2))))
        else
          need ([82, 101, 115, 111, 117, 114, 99, 101, 115, 47].length + x_4.fId.length ≤ 9223372036854775807) <|
          (refs_place n ([[82, 101, 115, 111, 117, 114, 99, 101, 115, 47] ++ x_4.fId, x_5.1] : List (List UInt8))).bind fun x_6 =>
          some (.br (.inl (x_6, x_5.2))))
      else
        need (inR .i64 (s_2 + 1)) <|
        some (.nx (s_2 + 1)))
    else
      some (.br (.inr ()))
def refs_Check_s3 (n : Nat) (d0 : TA0) (x_1 : (List TD0 × List TF0 × List TB0 × List TC0 × (List ((List UInt8) × Bool)) × (List ((List UInt8) × Bool)) × (List ((List UInt8) × TB0)))) (s_3 : Int) : Option (Lp Int (Sum (List UInt8 × Int) Unit)) :=
    bif (decide (s_3 < ((d0.fOuts.length : Nat) : Int))) then
      ((getI d0.fOuts s_3).bind fun x_7 =>
      (refs_scope_uses n x_1.1 x_1.2.1 x_1.2.2.1 x_1.2.2.2.1 x_1.2.2.2.2.1 x_1.2.2.2.2.2.1 x_1.2.2.2.2.2.2 (⟨x_7.fE.fKind, x_7.fE.fText, x_7.fE.fNum, x_7.fE.fName, x_7.fE.fAttr, x_7.fE.fL⟩ : TH0)).bind fun x_8 =>
      ((bif (!(decide (x_7.fCond = []))) then
          (some ((!((mget x_1.2.2.2.2.2.1 x_7.fCond).getD false))))
        else
          some ((false)) : Option Bool)).bind fun y_5 =>
      ((bif y_5 then
          (some ((150 : Int)))
        else
          some (x_8) : Option Int)).bind fun y_6 =>
      bif (!(decide (y_6 = 0))) then
        (need ([79, 117, 116, 112, 117, 116, 115, 47].length + x_7.fName.length ≤ 9223372036854775807) <|
        some (.br (.inl ([79, 117, 116, 112, 117, 116, 115, 47] ++ x_7.fName, y_6))))
      else
        need (inR .i64 (s_3 + 1)) <|
        some (.nx (s_3 + 1)))
    else
      some (.br (.inr ()))
def refs_Check_b (n : Nat) (rec_refs_Check : TA0 → Option (List UInt8 × Int)) (d0 : TA0) : Option (List UInt8 × Int) :=
  (refs_open n d0).bind fun x_1 =>
  (loopF (refs_Check_s1 n d0 x_1) n (0 : Int)).bind fun b_3 =>
  (match b_3 with 
  | .inl y_1 => some ((y_1.1, y_1.2)) 
  | .inr y_2 => (loopF (refs_Check_s2 n rec_refs_Check d0 x_1) n (0 : Int)).bind fun b_5 =>
    (match b_5 with 
    | .inl y_3 => some ((y_3.1, y_3.2)) 
    | .inr y_4 => (loopF (refs_Check_s3 n d0 x_1) n (0 : Int)).bind fun b_8 =>
      (match b_8 with 
      | .inl y_7 => some ((y_7.1, y_7.2)) 
      | .inr y_8 => some ((([] : List UInt8), (0 : Int))))))
set_option maxRecDepth 20000 in
theorem refs_Check_b_ok (n : Nat) (rec_refs_Check : TA0 → Option (List UInt8 × Int)) (hrec_refs_Check : ∀ (M : Mem) (c0 : List Value) (d0 : TA0) (h0 : Rep M (emb_TA0 d0) c0) (r : List UInt8 × Int) (hF : rec_refs_Check d0 = some r), Ok Try.prog M 8 [.agg c0.toArray] (fun _ v => v = .tuple #[S r.1, .int .i64 r.2])) (M : Mem) (c0 : List Value) (d0 : TA0) (h0 : Rep M (emb_TA0 d0) c0) (r : List UInt8 × Int) (hF : refs_Check_b n rec_refs_Check d0 = some r) : Ok Try.prog M 8 [.agg c0.toArray] (fun _ v => v = .tuple #[S r.1, .int .i64 r.2]) := by
 unfold refs_Check_b at hF
 intro M1 hM0 w0 H w p0
 replace h0 := Rep.mono hM0 _ _ h0
 obtain ⟨A_1, cap_1, A_2, cap_2, A_3, cap_3, A_4, cap_4, rfl, h_1, h_2, h_3, h_4⟩ := TA0.opn h0
 refine R_enter 92 Try.func8 rfl rfl (by simp) fun a0 f0 => RR (Y12 (cs := #[.slice A_1 d0.fParams.length cap_1, .slice A_2 d0.fConds.length cap_2, .slice A_3 d0.fRes.length cap_3, .slice A_4 d0.fOuts.length cap_4]) (T := 27) f0 p0 fun b_1 M_1 w_1 hM_1 hc_1 p_1 _ f => ?_)
 have hc_2 := fz_box hc_1
 refine Y f 2 fun _ f => eT (RR (Z (v := .agg #[.slice A_1 d0.fParams.length cap_1, .slice A_2 d0.fConds.length cap_2, .slice A_3 d0.fRes.length cap_3, .slice A_4 d0.fOuts.length cap_4]) f (Y27 (cs := [.slice A_1 d0.fParams.length cap_1, .slice A_2 d0.fConds.length cap_2, .slice A_3 d0.fRes.length cap_3, .slice A_4 d0.fOuts.length cap_4]) rfl (ad := ⟨b_1, 0, none⟩) (fun j v h => p_1.cell (hc_2 j v h))) fun _ f => ?_))
 obtain ⟨x_1, hx_1, hF_1⟩ := bS hF
 refine Y15 f p_1 (refs_open_ok n _ _ d0 (TA0.shutx (x := d0) (h_1.mono hM_1) (h_2.mono hM_1) (h_3.mono hM_1) (h_4.mono hM_1)) x_1 hx_1) fun _ M_2 w_2 hM_2 p_2 q_1 _ f => ?_
 obtain ⟨A_5, cap_5, A_6, cap_6, A_7, cap_7, A_8, cap_8, bk_1, bk_2, bk_3, m_3, rfl, h_5, h_6, h_7, h_8, hz_1, hz_2, hz_3, hm_3⟩ := q_1
 refine Y11 f p_2 (.cells #[.slice none 0 0, .slice none 0 0, .slice none 0 0, .slice none 0 0, .map none, .map none, .map none] 62 (0, 0)) fun b_2 w_3 p_3 _ f => Y22 (vs := [.slice A_5 x_1.1.length cap_5, .slice A_6 x_1.2.1.length cap_6, .slice A_7 x_1.2.2.1.length cap_7, .slice A_8 x_1.2.2.2.1.length cap_8, .map (some bk_1), .map (some bk_2), .map (some bk_3)]) (j := 0) f p_3 rfl rfl (by simp [Value.oneCell', S]) (by simp) (by decide) (cs' := #[.slice A_5 x_1.1.length cap_5, .slice A_6 x_1.2.1.length cap_6, .slice A_7 x_1.2.2.1.length cap_7, .slice A_8 x_1.2.2.2.1.length cap_8, .map (some bk_1), .map (some bk_2), .map (some bk_3)]) (by kernel_rfl) fun w_4 p_4 _ f => eT (R_seq (RR (Y f 1 fun _ f => Y14 f p_4 (fzu hM_2 hc_2) 1 rfl fun _ f => Y f 2 fun _ f => eT (wp_block ?_))))
 obtain ⟨b_3, hL_1, hF_2⟩ := bS hF_1
 refine wp_mono (Q := fun e a w => (e = .ret ∧ (∃ y_1 : List UInt8 × Int, b_3 = .inl y_1 ∧ ∃ M_4 : Mem, M_2.le M_4 ∧ Frm 92 [(2, S y_1.1), (3, .int .i64 y_1.2)] a ∧ Hp w0 M_4 ((Ent.obj b_2 (.cells #[.slice A_5 x_1.1.length cap_5, .slice A_6 x_1.2.1.length cap_6, .slice A_7 x_1.2.2.1.length cap_7, .slice A_8 x_1.2.2.2.1.length cap_8, .map (some bk_1), .map (some bk_2), .map (some bk_3)] 62 (0, 0))) :: H) w)) ∨ (e = .exit 0 ∧ (∃ y_2 : Unit, b_3 = .inr y_2 ∧ ∃ M_5 : Mem, M_2.le M_5 ∧ Frm 92 [(1, .pointer (some (⟨b_1, 0, none⟩))), (4, .pointer (some (⟨b_2, 0, none⟩)))] a ∧ Hp w0 M_5 ((Ent.obj b_2 (.cells #[.slice A_5 x_1.1.length cap_5, .slice A_6 x_1.2.1.length cap_6, .slice A_7 x_1.2.2.1.length cap_7, .slice A_8 x_1.2.2.2.1.length cap_8, .map (some bk_1), .map (some bk_2), .map (some bk_3)] 62 (0, 0))) :: H) w))) (R_loop (n := 92) (w0 := w0) (M := M_2) (fun (x : Nat × Int) => match x with | (m_4, s_1) => [(1, .pointer (some (⟨b_1, 0, none⟩))), (4, .pointer (some (⟨b_2, 0, none⟩))), (18, .slice A_2 d0.fConds.length cap_2), (19, .int .i64 ((d0.fConds.length : Nat) : Int)), (20, .int .i64 s_1)]) (fun (x : Nat × Int) => match x with | (m_4, s_1) => ((Ent.obj b_2 (.cells #[.slice A_5 x_1.1.length cap_5, .slice A_6 x_1.2.1.length cap_6, .slice A_7 x_1.2.2.1.length cap_7, .slice A_8 x_1.2.2.2.1.length cap_8, .map (some bk_1), .map (some bk_2), .map (some bk_3)] 62 (0, 0))) :: H)) (fun (x : Nat × Int) (MM : Mem) => match x with | (m_4, s_1) => loopF (refs_Check_s1 n d0 x_1) m_4 s_1 = some b_3) (fun (x : Nat × Int) => match x with | (m_4, s_1) => m_4) (n, (0 : Int)) (f.kp) p_4 hL_1 ?_) ?_
 ·rintro ⟨m_4, s_1⟩ M_3 _ w_5 hM_3 I_1 f p_5
  have I_1L := I_1
  obtain ⟨m_5, r_1, rfl, hs_1, hn_1⟩ := loop_step I_1L
  unfold refs_Check_s1 at hs_1
  refine RR (Y f 1 fun _ f => eT (R_seq (RcF f hs_1 (fun h_9 hF_3 => ?_) fun h_9 hF_10 => ?_)))
  ·have k_1 := dI.1 h_9
   refine wp_skip (T_n (R_seq (wp_block (RR ?_))))
   obtain ⟨x_2, hx_2, hF_4⟩ := bS hF_3
   obtain ⟨ad_1, c_1, e_1, -, hr_1, hc_3⟩ := Sli.at_ (h_2.mono ((hM_1.trans hM_2).trans hM_3)) hx_2
   obtain ⟨A_9, cap_9, A_10, cap_10, A_11, cap_11, rfl, h_10, h_11, h_12⟩ := TF0.opn hr_1
   refine Z f (Y25 e_1 rfl (len := d0.fConds.length) (cap := cap_2) (k := .i64) (i := s_1) (e := 45) (sz := 15) (getI_nn hx_2) (getI_lt hx_2)) fun _ f => Z (v := .agg #[S x_2.fName, .int .i8 x_2.fKind, .int .i8 x_2.fA.fKind, S x_2.fA.fText, .int .i64 x_2.fA.fNum, S x_2.fA.fName, S x_2.fA.fAttr, .slice A_9 x_2.fA.fL.length cap_9, .int .i8 x_2.fB.fKind, S x_2.fB.fText, .int .i64 x_2.fB.fNum, S x_2.fB.fName, S x_2.fB.fAttr, .slice A_10 x_2.fB.fL.length cap_10, .slice A_11 x_2.fL.length cap_11]) f (Y27 (cs := [S x_2.fName, .int .i8 x_2.fKind, .int .i8 x_2.fA.fKind, S x_2.fA.fText, .int .i64 x_2.fA.fNum, S x_2.fA.fName, S x_2.fA.fAttr, .slice A_9 x_2.fA.fL.length cap_9, .int .i8 x_2.fB.fKind, S x_2.fB.fText, .int .i64 x_2.fB.fNum, S x_2.fB.fName, S x_2.fB.fAttr, .slice A_10 x_2.fB.fL.length cap_10, .slice A_11 x_2.fL.length cap_11]) rfl (ad := ad_1.add (s_1.toNat * 15)) (fun j v h => p_5.cell (hc_3 j v h))) fun _ f => Y11 f p_5 (.cells #[S [], .int .i8 0, .int .i8 0, S [], .int .i64 0, S [], S [], .slice none 0 0, .int .i8 0, S [], .int .i64 0, S [], S [], .slice none 0 0, .slice none 0 0] 45 (0, 0)) fun b_4 w_6 p_6 _ f => Y22 (vs := [S x_2.fName, .int .i8 x_2.fKind, .int .i8 x_2.fA.fKind, S x_2.fA.fText, .int .i64 x_2.fA.fNum, S x_2.fA.fName, S x_2.fA.fAttr, .slice A_9 x_2.fA.fL.length cap_9, .int .i8 x_2.fB.fKind, S x_2.fB.fText, .int .i64 x_2.fB.fNum, S x_2.fB.fName, S x_2.fB.fAttr, .slice A_10 x_2.fB.fL.length cap_10, .slice A_11 x_2.fL.length cap_11]) (j := 0) f p_6 rfl rfl (by simp [Value.oneCell', S]) (by simp) (by decide) (cs' := #[S x_2.fName, .int .i8 x_2.fKind, .int .i8 x_2.fA.fKind, S x_2.fA.fText, .int .i64 x_2.fA.fNum, S x_2.fA.fName, S x_2.fA.fAttr, .slice A_9 x_2.fA.fL.length cap_9, .int .i8 x_2.fB.fKind, S x_2.fB.fText, .int .i64 x_2.fB.fNum, S x_2.fB.fName, S x_2.fB.fAttr, .slice A_10 x_2.fB.fL.length cap_10, .slice A_11 x_2.fL.length cap_11]) (by kernel_rfl) fun w_7 p_7 _ f => eT (RR (Z (v := .agg #[.slice A_5 x_1.1.length cap_5, .slice A_6 x_1.2.1.length cap_6, .slice A_7 x_1.2.2.1.length cap_7, .slice A_8 x_1.2.2.2.1.length cap_8, .map (some bk_1), .map (some bk_2), .map (some bk_3)]) f (Y27 (cs := [.slice A_5 x_1.1.length cap_5, .slice A_6 x_1.2.1.length cap_6, .slice A_7 x_1.2.2.1.length cap_7, .slice A_8 x_1.2.2.2.1.length cap_8, .map (some bk_1), .map (some bk_2), .map (some bk_3)]) rfl (ad := ⟨b_2, 0, none⟩) (own_cells (p_7.ownCell 1 rfl) 0 rfl)) fun _ f => Z (v := .agg #[S x_2.fName, .int .i8 x_2.fKind, .int .i8 x_2.fA.fKind, S x_2.fA.fText, .int .i64 x_2.fA.fNum, S x_2.fA.fName, S x_2.fA.fAttr, .slice A_9 x_2.fA.fL.length cap_9, .int .i8 x_2.fB.fKind, S x_2.fB.fText, .int .i64 x_2.fB.fNum, S x_2.fB.fName, S x_2.fB.fAttr, .slice A_10 x_2.fB.fL.length cap_10, .slice A_11 x_2.fL.length cap_11]) f (Y27 (cs := [S x_2.fName, .int .i8 x_2.fKind, .int .i8 x_2.fA.fKind, S x_2.fA.fText, .int .i64 x_2.fA.fNum, S x_2.fA.fName, S x_2.fA.fAttr, .slice A_9 x_2.fA.fL.length cap_9, .int .i8 x_2.fB.fKind, S x_2.fB.fText, .int .i64 x_2.fB.fNum, S x_2.fB.fName, S x_2.fB.fAttr, .slice A_10 x_2.fB.fL.length cap_10, .slice A_11 x_2.fL.length cap_11]) rfl (ad := ⟨b_4, 0, none⟩) (own_cells (p_7.ownCell 0 rfl) 0 rfl)) fun _ f => ?_))
   obtain ⟨x_3, hx_3, hF_5⟩ := bS hF_4
   refine Y17 f p_7 (refs_scope_cond_ok n _ A_5 cap_5 x_1.1 (h_5.mono hM_3) A_6 cap_6 x_1.2.1 (h_6.mono hM_3) A_7 cap_7 x_1.2.2.1 (h_7.mono hM_3) A_8 cap_8 x_1.2.2.2.1 (h_8.mono hM_3) bk_1 x_1.2.2.2.2.1 (hM_3 _ _ hz_1) bk_2 x_1.2.2.2.2.2.1 (hM_3 _ _ hz_2) bk_3 x_1.2.2.2.2.2.2 m_3 (hM_3 _ _ hz_3) (hm_3.mono hM_3) _ x_2 (TF0.shutx (x := x_2) h_10 h_11 h_12) x_3 hx_3) fun w_8 p_8 _ f => Y f 1 fun _ f => eT (RR (Y f 2 fun _ f => eT (RcF f hF_5 (fun h_13 hF_6 => ?_) fun h_13 hF_8 => ?_)))
   ·have k_2 : ¬ (x_3 = 0) := (not_iff dI).1 h_13
    refine RR (Y f 1 fun _ f => Z f (Y26 (v := S x_2.fName) rfl (ad := ⟨b_4, 0, none⟩) (p_8.ownCell 0 rfl 0)) fun _ f => ?_)
    obtain ⟨g_1, hF_7⟩ := nS hF_6
    refine Z f (Y23 rfl (l := [67, 111, 110, 100, 105, 116, 105, 111, 110, 115, 47]) (m := x_2.fName) g_1) fun _ f => Y f 3 fun _ f => eT (wp_ret (B_r (T_r (T_r ?_))))
    obtain rfl := sI hF_7
    exact .inl ⟨rfl, ([67, 111, 110, 100, 105, 116, 105, 111, 110, 115, 47] ++ x_2.fName, x_3), (sI hn_1).symm, M_3, hM_3, f.kp, (p_8.dropN 1)⟩
   ·have k_3 : ¬ (¬ (x_3 = 0)) := iff_f (not_iff dI) h_13
    refine wp_skip (B_n (T_n (R_reg ?_)))
    obtain ⟨g_2, hF_9⟩ := nS hF_8
    refine Y f 1 fun _ f => ?_
    have f := f.st 33 (congrArg (Value.int .i64) (inR_wrap g_2))
    refine Y f 1 fun _ f => eT ?_
    obtain rfl := sI hF_9
    exact ⟨⟨m_5, s_1 + 1⟩, Nat.lt_succ_self _, M_3, hM_3, hn_1, f.kp, (p_8.dropN 1)⟩
  ·have k_4 := iff_f dI h_9
   refine wp_exit (T_x (T_x ?_))
   obtain rfl := sI hF_10
   exact .inr ⟨rfl, (), (sI hn_1).symm, M_3, hM_3, f.kp, p_5⟩
 ·rintro _ _ w_11 (⟨rfl, y_1, rfl, M_4, hM_4, f, p_9⟩ | ⟨rfl, y_2, rfl, M_5, hM_5, f, p_10⟩)
  ·refine B_r (T_r (E_ret2 f rfl (by kernel_rfl : Vc.look _ 2 = some (S y_1.1)) (by kernel_rfl : Vc.look _ 3 = some (.int .i64 y_1.2)) ?_))
   obtain rfl := sI hF_2
   exact ⟨_, rfl, M_4, ((hM_1.trans hM_2).trans hM_4), (p_9.dropN 1), rfl⟩
  ·refine B_x (T_n (R_seq (RR (Y f 1 fun _ f => Y14 f p_10 (fzu (hM_2.trans hM_5) hc_2) 2 rfl fun _ f => Y f 2 fun _ f => eT (wp_block ?_)))))
   obtain ⟨b_5, hL_2, hF_11⟩ := bS hF_2
   refine wp_mono (Q := fun e a w => (e = .ret ∧ (∃ y_3 : List UInt8 × Int, b_5 = .inl y_3 ∧ ∃ M_9 : Mem, M_5.le M_9 ∧ Frm 92 [(2, S y_3.1), (3, .int .i64 y_3.2)] a ∧ Hp w0 M_9 ((Ent.obj b_2 (.cells #[.slice A_5 x_1.1.length cap_5, .slice A_6 x_1.2.1.length cap_6, .slice A_7 x_1.2.2.1.length cap_7, .slice A_8 x_1.2.2.2.1.length cap_8, .map (some bk_1), .map (some bk_2), .map (some bk_3)] 62 (0, 0))) :: H) w)) ∨ (e = .exit 2 ∧ (∃ y_4 : Unit, b_5 = .inr y_4 ∧ ∃ M_10 : Mem, M_5.le M_10 ∧ Frm 92 [(1, .pointer (some (⟨b_1, 0, none⟩))), (4, .pointer (some (⟨b_2, 0, none⟩)))] a ∧ Hp w0 M_10 ((Ent.obj b_2 (.cells #[.slice A_5 x_1.1.length cap_5, .slice A_6 x_1.2.1.length cap_6, .slice A_7 x_1.2.2.1.length cap_7, .slice A_8 x_1.2.2.2.1.length cap_8, .map (some bk_1), .map (some bk_2), .map (some bk_3)] 62 (0, 0))) :: H) w))) (R_loop (n := 92) (w0 := w0) (M := M_5) (fun (x : Nat × Int) => match x with | (m_6, s_2) => [(1, .pointer (some (⟨b_1, 0, none⟩))), (4, .pointer (some (⟨b_2, 0, none⟩))), (35, .slice A_3 d0.fRes.length cap_3), (36, .int .i64 ((d0.fRes.length : Nat) : Int)), (37, .int .i64 s_2)]) (fun (x : Nat × Int) => match x with | (m_6, s_2) => ((Ent.obj b_2 (.cells #[.slice A_5 x_1.1.length cap_5, .slice A_6 x_1.2.1.length cap_6, .slice A_7 x_1.2.2.1.length cap_7, .slice A_8 x_1.2.2.2.1.length cap_8, .map (some bk_1), .map (some bk_2), .map (some bk_3)] 62 (0, 0))) :: H)) (fun (x : Nat × Int) (MM : Mem) => match x with | (m_6, s_2) => loopF (refs_Check_s2 n rec_refs_Check d0 x_1) m_6 s_2 = some b_5) (fun (x : Nat × Int) => match x with | (m_6, s_2) => m_6) (n, (0 : Int)) (f.kp) p_10 hL_2 ?_) ?_
   ·rintro ⟨m_6, s_2⟩ M_6 _ w_12 hM_6 I_2 f p_11
    have I_2L := I_2
    obtain ⟨m_7, r_2, rfl, hs_2, hn_2⟩ := loop_step I_2L
    unfold refs_Check_s2 at hs_2
    refine RR (Y f 1 fun _ f => eT (R_seq (RcF f hs_2 (fun h_14 hF_12 => ?_) fun h_14 hF_23 => ?_)))
    ·have k_5 := dI.1 h_14
     refine wp_skip (T_n (R_seq (wp_block (RR ?_))))
     obtain ⟨x_4, hx_4, hF_13⟩ := bS hF_12
     obtain ⟨ad_2, c_2, e_2, -, hr_2, hc_4⟩ := Sli.at_ (h_3.mono (((hM_1.trans hM_2).trans hM_5).trans hM_6)) hx_4
     obtain ⟨A_12, cap_12, A_13, cap_13, A_14, cap_14, rfl, h_15, h_16, h_17⟩ := TB0.opn hr_2
     refine Z f (Y25 e_2 rfl (len := d0.fRes.length) (cap := cap_3) (k := .i64) (i := s_2) (e := 49) (sz := 7) (getI_nn hx_4) (getI_lt hx_4)) fun _ f => Z (v := .agg #[S x_4.fId, S x_4.fType, S x_4.fCond, .slice A_12 x_4.fProps.length cap_12, .slice A_13 x_4.fDepends.length cap_13, .bool x_4.fRetain, .slice A_14 x_4.fInner.length cap_14]) f (Y27 (cs := [S x_4.fId, S x_4.fType, S x_4.fCond, .slice A_12 x_4.fProps.length cap_12, .slice A_13 x_4.fDepends.length cap_13, .bool x_4.fRetain, .slice A_14 x_4.fInner.length cap_14]) rfl (ad := ad_2.add (s_2.toNat * 7)) (fun j v h => p_11.cell (hc_4 j v h))) fun _ f => Y11 f p_11 (.cells #[S [], S [], S [], .slice none 0 0, .slice none 0 0, .bool false, .slice none 0 0] 49 (0, 0)) fun b_6 w_13 p_12 _ f => Y22 (vs := [S x_4.fId, S x_4.fType, S x_4.fCond, .slice A_12 x_4.fProps.length cap_12, .slice A_13 x_4.fDepends.length cap_13, .bool x_4.fRetain, .slice A_14 x_4.fInner.length cap_14]) (j := 0) f p_12 rfl rfl (by simp [Value.oneCell', S]) (by simp) (by decide) (cs' := #[S x_4.fId, S x_4.fType, S x_4.fCond, .slice A_12 x_4.fProps.length cap_12, .slice A_13 x_4.fDepends.length cap_13, .bool x_4.fRetain, .slice A_14 x_4.fInner.length cap_14]) (by kernel_rfl) fun w_14 p_13 _ f => eT (RR (Z (v := .agg #[.slice A_5 x_1.1.length cap_5, .slice A_6 x_1.2.1.length cap_6, .slice A_7 x_1.2.2.1.length cap_7, .slice A_8 x_1.2.2.2.1.length cap_8, .map (some bk_1), .map (some bk_2), .map (some bk_3)]) f (Y27 (cs := [.slice A_5 x_1.1.length cap_5, .slice A_6 x_1.2.1.length cap_6, .slice A_7 x_1.2.2.1.length cap_7, .slice A_8 x_1.2.2.2.1.length cap_8, .map (some bk_1), .map (some bk_2), .map (some bk_3)]) rfl (ad := ⟨b_2, 0, none⟩) (own_cells (p_13.ownCell 1 rfl) 0 rfl)) fun _ f => Z (v := .agg #[S x_4.fId, S x_4.fType, S x_4.fCond, .slice A_12 x_4.fProps.length cap_12, .slice A_13 x_4.fDepends.length cap_13, .bool x_4.fRetain, .slice A_14 x_4.fInner.length cap_14]) f (Y27 (cs := [S x_4.fId, S x_4.fType, S x_4.fCond, .slice A_12 x_4.fProps.length cap_12, .slice A_13 x_4.fDepends.length cap_13, .bool x_4.fRetain, .slice A_14 x_4.fInner.length cap_14]) rfl (ad := ⟨b_6, 0, none⟩) (own_cells (p_13.ownCell 0 rfl) 0 rfl)) fun _ f => ?_))
     obtain ⟨x_5, hx_5, hF_14⟩ := bS hF_13
     refine Y17 f p_13 (refs_scope_resource_7_ok n rec_refs_Check hrec_refs_Check _ A_5 cap_5 x_1.1 (h_5.mono (hM_5.trans hM_6)) A_6 cap_6 x_1.2.1 (h_6.mono (hM_5.trans hM_6)) A_7 cap_7 x_1.2.2.1 (h_7.mono (hM_5.trans hM_6)) A_8 cap_8 x_1.2.2.2.1 (h_8.mono (hM_5.trans hM_6)) bk_1 x_1.2.2.2.2.1 ((hM_5.trans hM_6) _ _ hz_1) bk_2 x_1.2.2.2.2.2.1 ((hM_5.trans hM_6) _ _ hz_2) bk_3 x_1.2.2.2.2.2.2 m_3 ((hM_5.trans hM_6) _ _ hz_3) (hm_3.mono (hM_5.trans hM_6)) _ x_4 (TB0.shutx (x := x_4) h_15 h_16 h_17) x_5 hx_5) fun w_15 p_14 _ f => Y f 5 fun _ f => eT (RR (Y f 2 fun _ f => eT (RcF f hF_14 (fun h_18 hF_15 => ?_) fun h_18 hF_21 => ?_)))
     ·have k_6 : ¬ (x_5.2 = 0) := (not_iff dI).1 h_18
      refine R_seq (RR (Y f 1 fun _ f => Z f (Y28 rfl (l := x_5.1) (m := [])) fun _ f => eT (RcF f hF_15 (fun h_19 hF_16 => ?_) fun h_19 hF_18 => ?_)))
      ·have k_7 := dI.1 h_19
       refine RR (Y f 1 fun _ f => Z f (Y26 (v := S x_4.fId) rfl (ad := ⟨b_6, 0, none⟩) (p_14.ownCell 0 rfl 0)) fun _ f => ?_)
       obtain ⟨g_3, hF_17⟩ := nS hF_16
       refine Z f (Y23 rfl (l := [82, 101, 115, 111, 117, 114, 99, 101, 115, 47]) (m := x_4.fId) g_3) fun _ f => Y f 3 fun _ f => eT (wp_ret (T_r (B_r (T_r (T_r ?_)))))
       obtain rfl := sI hF_17
       exact .inl ⟨rfl, ([82, 101, 115, 111, 117, 114, 99, 101, 115, 47] ++ x_4.fId, x_5.2), (sI hn_2).symm, M_6, hM_6, f.kp, (p_14.dropN 1)⟩
      ·have k_8 := iff_f dI h_19
       refine wp_skip (T_n (RR (Y f 1 fun _ f => Z f (Y26 (v := S x_4.fId) rfl (ad := ⟨b_6, 0, none⟩) (p_14.ownCell 0 rfl 0)) fun _ f => ?_)))
       obtain ⟨g_4, hF_19⟩ := nS hF_18
       refine Z f (Y23 rfl (l := [82, 101, 115, 111, 117, 114, 99, 101, 115, 47]) (m := x_4.fId) g_4) fun _ f => Y f 1 fun _ f => V_allocS (k := 2) (c := 2) f p_14 (.cells #[S ([82, 101, 115, 111, 117, 114, 99, 101, 115, 47] ++ x_4.fId), S x_5.1] 9 (0, 0)) (by kernel_rfl) (fun _ => by kernel_rfl) fun b_7 w_16 p_15 _ f => ?_
       have hr_3 : RepSeq M_6 (([[82, 101, 115, 111, 117, 114, 99, 101, 115, 47] ++ x_4.fId, x_5.1] : List (List UInt8)).map Dat.str) [S ([82, 101, 115, 111, 117, 114, 99, 101, 115, 47] ++ x_4.fId), S x_5.1] := ⟨_, _, rfl, rfl, ⟨_, _, rfl, rfl, rfl⟩⟩
       have p_16 : Hp w0 M_6 ((Ent.row 9 1 (.slice (some ⟨b_7, 0, none⟩) 2 2) ([[82, 101, 115, 111, 117, 114, 99, 101, 115, 47] ++ x_4.fId, x_5.1] : List (List UInt8)).length [S ([82, 101, 115, 111, 117, 114, 99, 101, 115, 47] ++ x_4.fId), S x_5.1]) :: (Ent.obj b_6 (.cells #[S x_4.fId, S x_4.fType, S x_4.fCond, .slice A_12 x_4.fProps.length cap_12, .slice A_13 x_4.fDepends.length cap_13, .bool x_4.fRetain, .slice A_14 x_4.fInner.length cap_14] 49 (0, 0))) :: (Ent.obj b_2 (.cells #[.slice A_5 x_1.1.length cap_5, .slice A_6 x_1.2.1.length cap_6, .slice A_7 x_1.2.2.1.length cap_7, .slice A_8 x_1.2.2.2.1.length cap_8, .map (some bk_1), .map (some bk_2), .map (some bk_3)] 62 (0, 0))) :: H) w_16 := p_15.objRow (n := 2) (cap := 2) (size := 1) (by decide) (by decide) (blk_eq (by decide) rfl) rfl rfl
       obtain ⟨M_7, A_15, cap_15, hM_7, hv_1, p_17, h_20, hb_1⟩ := p_16.lend (f := Dat.str) (xs := ([[82, 101, 115, 111, 117, 114, 99, 101, 115, 47] ++ x_4.fId, x_5.1] : List (List UInt8))) szd_str hr_3
       have f := f.st 59 (hv_1)
       obtain ⟨x_6, hx_6, hF_20⟩ := bS hF_19
       refine Y17 f p_17 (refs_place_ok n _ A_15 cap_15 ([[82, 101, 115, 111, 117, 114, 99, 101, 115, 47] ++ x_4.fId, x_5.1] : List (List UInt8)) h_20 x_6 hx_6) fun w_17 p_18 _ f => ?_
       obtain ⟨M_8, hM_8, p_19⟩ := hb_1 _ _ _ (mR _) p_18
       have f := f.st 59 (hv_1.symm)
       refine Y f 3 fun _ f => eT (wp_ret (B_r (T_r (T_r ?_))))
       obtain rfl := sI hF_20
       exact .inl ⟨rfl, (x_6, x_5.2), (sI hn_2).symm, M_8, (hM_6.trans hM_8), f.kp, (p_19.dropN 2)⟩
     ·have k_9 : ¬ (¬ (x_5.2 = 0)) := iff_f (not_iff dI) h_18
      refine wp_skip (B_n (T_n (R_reg ?_)))
      obtain ⟨g_5, hF_22⟩ := nS hF_21
      refine Y f 1 fun _ f => ?_
      have f := f.st 62 (congrArg (Value.int .i64) (inR_wrap g_5))
      refine Y f 1 fun _ f => eT ?_
      obtain rfl := sI hF_22
      exact ⟨⟨m_7, s_2 + 1⟩, Nat.lt_succ_self _, M_6, hM_6, hn_2, f.kp, (p_14.dropN 1)⟩
    ·have k_10 := iff_f dI h_14
     refine wp_exit (T_x (T_x ?_))
     obtain rfl := sI hF_23
     exact .inr ⟨rfl, (), (sI hn_2).symm, M_6, hM_6, f.kp, p_11⟩
   ·rintro _ _ w_20 (⟨rfl, y_3, rfl, M_9, hM_9, f, p_20⟩ | ⟨rfl, y_4, rfl, M_10, hM_10, f, p_21⟩)
    ·refine B_r (T_r (E_ret2 f rfl (by kernel_rfl : Vc.look _ 2 = some (S y_3.1)) (by kernel_rfl : Vc.look _ 3 = some (.int .i64 y_3.2)) ?_))
     obtain rfl := sI hF_11
     exact ⟨_, rfl, M_9, (((hM_1.trans hM_2).trans hM_5).trans hM_9), (p_20.dropN 1), rfl⟩
    ·refine B_x (T_n (R_seq (RR (Y f 1 fun _ f => Y14 f p_21 (fzu ((hM_2.trans hM_5).trans hM_10) hc_2) 3 rfl fun _ f => Y f 2 fun _ f => eT (wp_block ?_)))))
     obtain ⟨b_8, hL_3, hF_24⟩ := bS hF_11
     refine wp_mono (Q := fun e a w => (e = .ret ∧ (∃ y_7 : List UInt8 × Int, b_8 = .inl y_7 ∧ ∃ M_14 : Mem, M_10.le M_14 ∧ Frm 92 [(2, S y_7.1), (3, .int .i64 y_7.2)] a ∧ Hp w0 M_14 ((Ent.obj b_2 (.cells #[.slice A_5 x_1.1.length cap_5, .slice A_6 x_1.2.1.length cap_6, .slice A_7 x_1.2.2.1.length cap_7, .slice A_8 x_1.2.2.2.1.length cap_8, .map (some bk_1), .map (some bk_2), .map (some bk_3)] 62 (0, 0))) :: H) w)) ∨ (e = .exit 4 ∧ (∃ y_8 : Unit, b_8 = .inr y_8 ∧ ∃ M_15 : Mem, M_10.le M_15 ∧ Frm 92 [] a ∧ Hp w0 M_15 ((Ent.obj b_2 (.cells #[.slice A_5 x_1.1.length cap_5, .slice A_6 x_1.2.1.length cap_6, .slice A_7 x_1.2.2.1.length cap_7, .slice A_8 x_1.2.2.2.1.length cap_8, .map (some bk_1), .map (some bk_2), .map (some bk_3)] 62 (0, 0))) :: H) w))) (R_loop (n := 92) (w0 := w0) (M := M_10) (fun (x : Nat × Int) => match x with | (m_8, s_3) => [(4, .pointer (some (⟨b_2, 0, none⟩))), (64, .slice A_4 d0.fOuts.length cap_4), (65, .int .i64 ((d0.fOuts.length : Nat) : Int)), (66, .int .i64 s_3)]) (fun (x : Nat × Int) => match x with | (m_8, s_3) => ((Ent.obj b_2 (.cells #[.slice A_5 x_1.1.length cap_5, .slice A_6 x_1.2.1.length cap_6, .slice A_7 x_1.2.2.1.length cap_7, .slice A_8 x_1.2.2.2.1.length cap_8, .map (some bk_1), .map (some bk_2), .map (some bk_3)] 62 (0, 0))) :: H)) (fun (x : Nat × Int) (MM : Mem) => match x with | (m_8, s_3) => loopF (refs_Check_s3 n d0 x_1) m_8 s_3 = some b_8) (fun (x : Nat × Int) => match x with | (m_8, s_3) => m_8) (n, (0 : Int)) (f.kp) p_21 hL_3 ?_) ?_
     ·rintro ⟨m_8, s_3⟩ M_11 _ w_21 hM_11 I_3 f p_22
      have I_3L := I_3
      obtain ⟨m_9, r_3, rfl, hs_3, hn_3⟩ := loop_step I_3L
      unfold refs_Check_s3 at hs_3
      refine RR (Y f 1 fun _ f => eT (R_seq (RcF f hs_3 (fun h_21 hF_25 => ?_) fun h_21 hF_38 => ?_)))
      ·have k_11 := dI.1 h_21
       refine wp_skip (T_n (R_seq (wp_block (RR ?_))))
       obtain ⟨x_7, hx_7, hF_26⟩ := bS hF_25
       obtain ⟨ad_3, c_3, e_3, -, hr_4, hc_5⟩ := Sli.at_ (h_4.mono ((((hM_1.trans hM_2).trans hM_5).trans hM_10).trans hM_11)) hx_7
       obtain ⟨A_16, cap_16, rfl, h_22⟩ := TC0.opn hr_4
       refine Z f (Y25 e_3 rfl (len := d0.fOuts.length) (cap := cap_4) (k := .i64) (i := s_3) (e := 51) (sz := 8) (getI_nn hx_7) (getI_lt hx_7)) fun _ f => Z (v := .agg #[S x_7.fName, S x_7.fCond, .int .i8 x_7.fE.fKind, S x_7.fE.fText, .int .i64 x_7.fE.fNum, S x_7.fE.fName, S x_7.fE.fAttr, .slice A_16 x_7.fE.fL.length cap_16]) f (Y27 (cs := [S x_7.fName, S x_7.fCond, .int .i8 x_7.fE.fKind, S x_7.fE.fText, .int .i64 x_7.fE.fNum, S x_7.fE.fName, S x_7.fE.fAttr, .slice A_16 x_7.fE.fL.length cap_16]) rfl (ad := ad_3.add (s_3.toNat * 8)) (fun j v h => p_22.cell (hc_5 j v h))) fun _ f => Y11 f p_22 (.cells #[S [], S [], .int .i8 0, S [], .int .i64 0, S [], S [], .slice none 0 0] 51 (0, 0)) fun b_9 w_22 p_23 _ f => Y22 (vs := [S x_7.fName, S x_7.fCond, .int .i8 x_7.fE.fKind, S x_7.fE.fText, .int .i64 x_7.fE.fNum, S x_7.fE.fName, S x_7.fE.fAttr, .slice A_16 x_7.fE.fL.length cap_16]) (j := 0) f p_23 rfl rfl (by simp [Value.oneCell', S]) (by simp) (by decide) (cs' := #[S x_7.fName, S x_7.fCond, .int .i8 x_7.fE.fKind, S x_7.fE.fText, .int .i64 x_7.fE.fNum, S x_7.fE.fName, S x_7.fE.fAttr, .slice A_16 x_7.fE.fL.length cap_16]) (by kernel_rfl) fun w_23 p_24 _ f => eT (RR (Z (v := .agg #[.slice A_5 x_1.1.length cap_5, .slice A_6 x_1.2.1.length cap_6, .slice A_7 x_1.2.2.1.length cap_7, .slice A_8 x_1.2.2.2.1.length cap_8, .map (some bk_1), .map (some bk_2), .map (some bk_3)]) f (Y27 (cs := [.slice A_5 x_1.1.length cap_5, .slice A_6 x_1.2.1.length cap_6, .slice A_7 x_1.2.2.1.length cap_7, .slice A_8 x_1.2.2.2.1.length cap_8, .map (some bk_1), .map (some bk_2), .map (some bk_3)]) rfl (ad := ⟨b_2, 0, none⟩) (own_cells (p_24.ownCell 1 rfl) 0 rfl)) fun _ f => Y f 1 fun _ f => Z (v := .agg #[.int .i8 x_7.fE.fKind, S x_7.fE.fText, .int .i64 x_7.fE.fNum, S x_7.fE.fName, S x_7.fE.fAttr, .slice A_16 x_7.fE.fL.length cap_16]) f (Y27 (cs := [.int .i8 x_7.fE.fKind, S x_7.fE.fText, .int .i64 x_7.fE.fNum, S x_7.fE.fName, S x_7.fE.fAttr, .slice A_16 x_7.fE.fL.length cap_16]) rfl (ad := ⟨b_9, 2, none⟩) (own_cells (p_24.ownCell 0 rfl) 2 rfl)) fun _ f => ?_))
       obtain ⟨x_8, hx_8, hF_27⟩ := bS hF_26
       refine Y17 f p_24 (refs_scope_uses_ok n _ A_5 cap_5 x_1.1 (h_5.mono ((hM_5.trans hM_10).trans hM_11)) A_6 cap_6 x_1.2.1 (h_6.mono ((hM_5.trans hM_10).trans hM_11)) A_7 cap_7 x_1.2.2.1 (h_7.mono ((hM_5.trans hM_10).trans hM_11)) A_8 cap_8 x_1.2.2.2.1 (h_8.mono ((hM_5.trans hM_10).trans hM_11)) bk_1 x_1.2.2.2.2.1 (((hM_5.trans hM_10).trans hM_11) _ _ hz_1) bk_2 x_1.2.2.2.2.2.1 (((hM_5.trans hM_10).trans hM_11) _ _ hz_2) bk_3 x_1.2.2.2.2.2.2 m_3 (((hM_5.trans hM_10).trans hM_11) _ _ hz_3) (hm_3.mono ((hM_5.trans hM_10).trans hM_11)) _ (⟨x_7.fE.fKind, x_7.fE.fText, x_7.fE.fNum, x_7.fE.fName, x_7.fE.fAttr, x_7.fE.fL⟩ : TH0) (TH0.shut h_22) x_8 hx_8) fun w_24 p_25 _ f => Y f 1 fun _ f => eT (R_seq (R_seq ?_))
       obtain ⟨j_1, hj_1, hF_28⟩ := bS hF_27
       refine R_mid (fun a_87 w_25 => ∃ y_5 : Bool, j_1 = y_5 ∧ ∃ M_12 : Mem, M_11.le M_12 ∧ Frm 92 [(4, .pointer (some (⟨b_2, 0, none⟩))), (13, .pointer (some (⟨b_9, 0, none⟩))), (14, .int .i64 x_8), (64, .slice A_4 d0.fOuts.length cap_4), (65, .int .i64 ((d0.fOuts.length : Nat) : Int)), (66, .int .i64 s_3), (84, .bool y_5)] a_87 ∧ Hp w0 M_12 ((Ent.obj b_9 (.cells #[S x_7.fName, S x_7.fCond, .int .i8 x_7.fE.fKind, S x_7.fE.fText, .int .i64 x_7.fE.fNum, S x_7.fE.fName, S x_7.fE.fAttr, .slice A_16 x_7.fE.fL.length cap_16] 51 (0, 0))) :: (Ent.obj b_2 (.cells #[.slice A_5 x_1.1.length cap_5, .slice A_6 x_1.2.1.length cap_6, .slice A_7 x_1.2.2.1.length cap_7, .slice A_8 x_1.2.2.2.1.length cap_8, .map (some bk_1), .map (some bk_2), .map (some bk_3)] 62 (0, 0))) :: H) w_25) ?_ ?_
       ·refine R_reg (Y f 1 fun _ f => Z f (Y26 (v := S x_7.fCond) rfl (ad := ⟨b_9, 1, none⟩) (p_25.ownCell 0 rfl 1)) fun _ f => Z f (Y29 rfl (l := x_7.fCond) (m := [])) fun _ f => Y f 1 fun _ f => ?_)
        rcases cE hj_1 with ⟨h_23, hF_29⟩ | ⟨h_23, hF_30⟩
        ·have k_12 : ¬ (x_7.fCond = []) := (not_iff dI).1 h_23
         have f := f.st 77 (cB h_23)
         refine Y f 1 fun _ f => Z f (Y26 (v := .map (some bk_2)) rfl (ad := ⟨b_2, 5, none⟩) (p_25.ownCell 1 rfl 5)) fun _ f => Y f 1 fun _ f => Z f (Y26 (v := S x_7.fCond) rfl (ad := ⟨b_9, 1, none⟩) (p_25.ownCell 0 rfl 1)) fun _ f => Z (v := .bool ((mget x_1.2.2.2.2.2.1 x_7.fCond).getD false)) f (X_lookup1 (ek := S) (ev := Value.bool) (m := x_1.2.2.2.2.2.1) (k := x_7.fCond) (z := false) (kt := 9) (et := 4) rfl (by kernel_rfl) (by kernel_rfl) (by kernel_rfl) (strKey (by kernel_rfl)) (by kernel_rfl) (p_25.mem _ _ (((hM_5.trans hM_10).trans hM_11) _ _ hz_2))) fun _ f => Y f 2 fun _ f => eT ?_
         exact ⟨(!((mget x_1.2.2.2.2.2.1 x_7.fCond).getD false)), (sI hF_29).symm, M_11, (mR _), f.kp, p_25⟩
        ·have k_13 : ¬ (¬ (x_7.fCond = [])) := iff_f (not_iff dI) h_23
         have f := f.st 77 (cB h_23)
         refine Y f 7 fun _ f => eT ?_
         exact ⟨(false), (sI hF_30).symm, M_11, (mR _), f.kp, p_25⟩
       ·rintro a_87 w_25 ⟨y_5, hq_1, M_12, hM_12, f, p_26⟩
        subst j_1
        refine T_n ?_
        obtain ⟨j_2, hj_2, hF_31⟩ := bS hF_28
        refine R_mid (fun a_89 w_26 => ∃ y_6 : Int, j_2 = y_6 ∧ ∃ M_13 : Mem, M_12.le M_13 ∧ Frm 92 [(4, .pointer (some (⟨b_2, 0, none⟩))), (13, .pointer (some (⟨b_9, 0, none⟩))), (14, .int .i64 y_6), (64, .slice A_4 d0.fOuts.length cap_4), (65, .int .i64 ((d0.fOuts.length : Nat) : Int)), (66, .int .i64 s_3)] a_89 ∧ Hp w0 M_13 ((Ent.obj b_9 (.cells #[S x_7.fName, S x_7.fCond, .int .i8 x_7.fE.fKind, S x_7.fE.fText, .int .i64 x_7.fE.fNum, S x_7.fE.fName, S x_7.fE.fAttr, .slice A_16 x_7.fE.fL.length cap_16] 51 (0, 0))) :: (Ent.obj b_2 (.cells #[.slice A_5 x_1.1.length cap_5, .slice A_6 x_1.2.1.length cap_6, .slice A_7 x_1.2.2.1.length cap_7, .slice A_8 x_1.2.2.2.1.length cap_8, .map (some bk_1), .map (some bk_2), .map (some bk_3)] 62 (0, 0))) :: H) w_26) ?_ ?_
        ·refine RcF f hj_2 (fun h_24 hF_32 => ?_) fun h_24 hF_33 => ?_
         ·refine R_reg (Y f 1 fun _ f => eT ?_)
          exact ⟨(150 : Int), (sI hF_32).symm, M_12, (mR _), f.kp, p_26⟩
         ·refine wp_skip (T_n ?_)
          exact ⟨x_8, (sI hF_33).symm, M_12, (mR _), f.kp, p_26⟩
        ·rintro a_89 w_26 ⟨y_6, hq_2, M_13, hM_13, f, p_27⟩
         subst j_2
         refine T_n (RR (Y f 2 fun _ f => eT (RcF f hF_31 (fun h_25 hF_34 => ?_) fun h_25 hF_36 => ?_)))
         ·have k_16 : ¬ (y_6 = 0) := (not_iff dI).1 h_25
          refine RR (Y f 1 fun _ f => Z f (Y26 (v := S x_7.fName) rfl (ad := ⟨b_9, 0, none⟩) (p_27.ownCell 0 rfl 0)) fun _ f => ?_)
          obtain ⟨g_6, hF_35⟩ := nS hF_34
          refine Z f (Y23 rfl (l := [79, 117, 116, 112, 117, 116, 115, 47]) (m := x_7.fName) g_6) fun _ f => Y f 3 fun _ f => eT (wp_ret (B_r (T_r (T_r ?_))))
          obtain rfl := sI hF_35
          exact .inl ⟨rfl, ([79, 117, 116, 112, 117, 116, 115, 47] ++ x_7.fName, y_6), (sI hn_3).symm, M_13, ((hM_11.trans hM_12).trans hM_13), f.kp, (p_27.dropN 1)⟩
         ·have k_17 : ¬ (¬ (y_6 = 0)) := iff_f (not_iff dI) h_25
          refine wp_skip (B_n (T_n (R_reg ?_)))
          obtain ⟨g_7, hF_37⟩ := nS hF_36
          refine Y f 1 fun _ f => ?_
          have f := f.st 91 (congrArg (Value.int .i64) (inR_wrap g_7))
          refine Y f 1 fun _ f => eT ?_
          obtain rfl := sI hF_37
          exact ⟨⟨m_9, s_3 + 1⟩, Nat.lt_succ_self _, M_13, ((hM_11.trans hM_12).trans hM_13), hn_3, f.kp, (p_27.dropN 1)⟩
      ·have k_18 := iff_f dI h_21
       refine wp_exit (T_x (T_x ?_))
       obtain rfl := sI hF_38
       exact .inr ⟨rfl, (), (sI hn_3).symm, M_11, hM_11, f.kp, p_22⟩
     ·rintro _ _ w_29 (⟨rfl, y_7, rfl, M_14, hM_14, f, p_28⟩ | ⟨rfl, y_8, rfl, M_15, hM_15, f, p_29⟩)
      ·refine B_r (T_r (E_ret2 f rfl (by kernel_rfl : Vc.look _ 2 = some (S y_7.1)) (by kernel_rfl : Vc.look _ 3 = some (.int .i64 y_7.2)) ?_))
       obtain rfl := sI hF_24
       exact ⟨_, rfl, M_14, ((((hM_1.trans hM_2).trans hM_5).trans hM_10).trans hM_14), (p_28.dropN 1), rfl⟩
      ·refine B_x (T_n (RR (Y f 2 fun _ f => eT (wp_ret (E_ret2 f rfl (by kernel_rfl : Vc.look _ 2 = some (S [])) (by kernel_rfl : Vc.look _ 3 = some (.int .i64 0)) ?_)))))
       obtain rfl := sI hF_24
       exact ⟨_, rfl, M_15, ((((hM_1.trans hM_2).trans hM_5).trans hM_10).trans hM_15), (p_29.dropN 1), rfl⟩
def refs_Check_k (n : Nat) : Nat → TA0 → Option (List UInt8 × Int)
  | 0 => fun _ => none
  | k + 1 => refs_Check_b n (refs_Check_k n k)
def refs_Check (n : Nat) (d0 : TA0) : Option (List UInt8 × Int) := refs_Check_k n n d0
theorem refs_Check_ok (n : Nat) (M : Mem) (c0 : List Value) (d0 : TA0) (h0 : Rep M (emb_TA0 d0) c0) (r : List UInt8 × Int) (hF : refs_Check n d0 = some r) : Ok Try.prog M 8 [.agg c0.toArray] (fun _ v => v = .tuple #[S r.1, .int .i64 r.2]) := by
 have key : ∀ (k : Nat) (M : Mem) (c0 : List Value) (d0 : TA0) (h0 : Rep M (emb_TA0 d0) c0) (r : List UInt8 × Int) (hF : refs_Check_k n k d0 = some r), Ok Try.prog M 8 [.agg c0.toArray] (fun _ v => v = .tuple #[S r.1, .int .i64 r.2]) := by
  intro k
  induction k with
  | zero => intro M c0 d0 h0 r hF; simp [refs_Check_k] at hF
  | succ k ih => intro M c0 d0 h0 r hF; exact refs_Check_b_ok n (refs_Check_k n k) ih M c0 d0 h0 r hF
 exact key n M c0 d0 h0 r hF
theorem loop_idx {n : Nat} {step : Int → Option (Lp Int (Sum Int Unit))} (q : Nat → Bool) (len : Nat) (hs : ∀ k : Nat, k < len → step (k : Int) = some (bif q k then .br (.inl (k : Int)) else .nx ((k : Int) + 1))) (he : step (len : Int) = some (.br (.inr ()))) (hn : len < n) :
  ∃ b, loopF step n (0 : Int) = some b ∧ ((∃ i : Nat, i < len ∧ b = .inl (i : Int) ∧ q i = true) ∨ (b = .inr () ∧ ∀ i, i < len → q i = false)) :=
 loop_inv (step := step) (n := n) (s0 := (0 : Int)) (fun k s => s = (k : Int) ∧ ∀ i, i < k → q i = false) (fun b => (∃ i : Nat, i < len ∧ b = .inl (i : Int) ∧ q i = true) ∨ (b = .inr () ∧ ∀ i, i < len → q i = false)) len ⟨rfl, fun i h => absurd h (by omega)⟩
  (fun k s hk hI => by
   obtain ⟨rfl, hI⟩ := hI
   rw [hs k hk]
   cases h : q k with
   | true => rw [cT]; exact .inr ⟨_, rfl, .inl ⟨k, hk, rfl, h⟩⟩
   | false =>
    rw [cF]
    refine .inl ⟨_, rfl, by simp, fun i hi => ?_⟩
    by_cases e : i = k
    ·rw [e]; exact h
    ·exact hI i (by omega))
  (fun s hI => by obtain ⟨rfl, hI⟩ := hI; rw [he]; exact ⟨_, rfl, .inr ⟨rfl, hI⟩⟩) hn
def hasB (m : List (List UInt8 × Bool)) (k : List UInt8) : Bool := (mget m k).getD false
def stk (r : TB0) : Bool := decide (r.fType = [83, 116, 97, 99, 107])
def outHas (t : TA0) (nm : List UInt8) : Bool := t.fOuts.any fun o => decide (o.fName = nm)
def kOut : List UInt8 := [79, 117, 116, 112, 117, 116, 115, 46]
def preO (a : List UInt8) : Bool := decide (8 ≤ a.length) && decide (a.take 8 = kOut)
def outI : List TA0 → List UInt8 → Bool
  | [t], nm => outHas t nm
  | _, _ => false
def useV (P C : List (List UInt8 × Bool)) (R : List (List UInt8 × TB0)) (x : TH0) : Int :=
  bif decide (x.fKind = 6) then (bif hasB C x.fName then 0 else 150)
  else bif decide (x.fKind = 3) then (bif hasB P x.fName || ((mget R x.fName).isSome && !stk ((mget R x.fName).getD z_TB0)) then 0 else 160)
  else bif stk ((mget R x.fName).getD z_TB0) then (bif preO x.fAttr && outI ((mget R x.fName).getD z_TB0).fInner (x.fAttr.drop 8) then 0 else 160)
  else (bif (mget R x.fName).isSome && (decide (x.fAttr = [65, 114, 110]) || decide (x.fAttr = [90, 111, 110, 101])) then 0 else 160)
def BdR (R : List (List UInt8 × TB0)) : Prop := ∀ k r, mget R k = some r → dsz (emb_TB0 r) ≤ 1100000
theorem yes_run (n : Nat) (b : Bool) (e : Int) : refs_yes n b e = some (bif b then 0 else e) := by cases b <;> rfl
theorem nested_run (n : Nat) (r : TB0) : refs_nested n r = some (stk r) := rfl
theorem output_run {n : Nat} (hn : 2000000 ≤ n) (t : TA0) (nm : List UInt8) (hl : t.fOuts.length ≤ 1100000) : ∃ o, refs_Output n t nm = some (o, outHas t nm) := by
 unfold refs_Output slices_IndexFuncapi_Output_api_Output
 obtain ⟨b, hb, hc⟩ := loop_idx (n := n) (step := slices_IndexFuncapi_Output_api_Output_s1 n t.fOuts nm) (fun k => decide ((t.fOuts.getD k ⟨[], [], z_TH0⟩).fName = nm)) t.fOuts.length (fun k hk => by
  unfold slices_IndexFuncapi_Output_api_Output_s1 refs_Output_1
  rw [decide_eq_true (by omega), cT, getI_at ⟨[], [], z_TH0⟩ hk, bnd, bnd, need_i (by omega) (by omega)]
  cases decide ((t.fOuts.getD k ⟨[], [], z_TH0⟩).fName = nm) <;> rfl) (by
  unfold slices_IndexFuncapi_Output_api_Output_s1
  rw [decide_eq_false (by omega), cF]) (by omega)
 rw [hb, bnd]
 have hany : outHas t nm = (List.range t.fOuts.length).any fun k => decide ((t.fOuts.getD k ⟨[], [], z_TH0⟩).fName = nm) := by
  unfold outHas
  exact (any_range (⟨[], [], z_TH0⟩ : TC0) (fun o : TC0 => decide (o.fName = nm)) t.fOuts).symm
 rcases hc with ⟨i, hi, rfl, hq⟩ | ⟨rfl, hq⟩
 ·have : outHas t nm = true := by rw [hany]; exact List.any_eq_true.2 ⟨i, by simpa using hi, hq⟩
  rw [this]
  dsimp only
  rw [bnd, decide_eq_true (by omega), cT, getI_here hi, bnd]
  exact ⟨_, rfl⟩
 ·have : outHas t nm = false := by rw [hany]; exact List.any_eq_false.2 fun i hi => by rw [hq i (by simpa using hi)]; simp
  rw [this]
  dsimp only
  rw [bnd, decide_eq_false (by omega), cF]
  exact ⟨_, rfl⟩
theorem cut_run (n : Nat) (a : List UInt8) : strings_CutPrefix n a [79, 117, 116, 112, 117, 116, 115, 46] = some (bif preO a then (a.drop 8, true) else (a, false)) := by
 have e8 : (([79, 117, 116, 112, 117, 116, 115, 46] : List UInt8).length : Int) = 8 := rfl
 unfold strings_CutPrefix internal_stringslite_CutPrefix internal_stringslite_HasPrefix preO
 rw [e8]
 by_cases h : 8 ≤ a.length
 ·rw [decide_eq_true (show (8 : Int) ≤ (a.length : Int) by omega), cT, need_t (by omega), bnd, decide_eq_true h, Bool.true_and, show (8 : Int).toNat = 8 from rfl]
  by_cases h2 : a.take 8 = kOut
  ·rw [decide_eq_true (show a.take 8 = [79, 117, 116, 112, 117, 116, 115, 46] from h2), Bool.not_true, cF, need_t (by omega), bnd, decide_eq_true h2, cT]
  ·rw [decide_eq_false (show ¬ a.take 8 = [79, 117, 116, 112, 117, 116, 115, 46] from h2), Bool.not_false, cT, bnd, decide_eq_false h2, cF]
 ·rw [decide_eq_false (show ¬ (8 : Int) ≤ (a.length : Int) by omega), cF, bnd, Bool.not_false, cT, bnd, decide_eq_false h, Bool.false_and, cF]
theorem use_run {n : Nat} (hn : 2000000 ≤ n) (ps : List TD0) (cs : List TF0) (rs : List TB0) (os : List TC0) (P C : List (List UInt8 × Bool)) (R : List (List UInt8 × TB0)) (hR : BdR R) (x : TH0) :
  refs_scope_use n ps cs rs os P C R x = some (useV P C R x) := by
 unfold refs_scope_use useV
 by_cases h6 : x.fKind = 6
 ·rw [decide_eq_true h6, cT, cT, yes_run, bnd]; rfl
 rw [decide_eq_false h6, cF, cF]
 by_cases h3 : x.fKind = 3
 ·rw [decide_eq_true h3, cT, cT]
  cases hp : (mget P x.fName).getD false with
  | true =>
   have hp' : hasB P x.fName = true := hp
   rw [cT, yes_run, bnd, bnd, hp']; rfl
  | false =>
   have hp' : hasB P x.fName = false := hp
   rw [cF, hp', Bool.false_or]
   cases hr : (mget R x.fName).isSome with
   | true => rw [cT, nested_run, bnd, yes_run, bnd, bnd, Bool.true_and]
   | false => rw [cF, yes_run, bnd, bnd, Bool.false_and]
 rw [decide_eq_false h3, cF, cF, nested_run, bnd]
 cases hs : stk ((mget R x.fName).getD z_TB0) with
 | false =>
  rw [Bool.not_false, cT, cF]
  cases hr : (mget R x.fName).isSome with
  | false => rw [cF, yes_run, bnd, bnd, Bool.false_and]
  | true =>
   rw [cT, Bool.true_and]
   by_cases ha : x.fAttr = [65, 114, 110]
   ·rw [decide_eq_true ha, cT, yes_run, bnd, bnd, Bool.true_or]
   ·rw [decide_eq_false ha, cF, yes_run, bnd, bnd, Bool.false_or]
 | true =>
  rw [Bool.not_true, cF, cT, cut_run, bnd]
  cases hpr : preO x.fAttr with
  | false =>
   rw [cF]
   dsimp only
   rw [cF, bnd, cF, yes_run, bnd, Bool.false_and]
  | true =>
   rw [cT]
   dsimp only
   rw [cT, bnd, Bool.true_and]
   cases hm : mget R x.fName with
   | none => rw [hm] at hs; exact absurd hs (by decide)
   | some r =>
    have hb := hR _ _ hm
    rw [Option.getD_some]
    cases hin : r.fInner with
    | nil => rw [decide_eq_false (by simp), cF, yes_run, bnd]; rfl
    | cons t l =>
     cases l with
     | cons t2 l2 => rw [decide_eq_false (by simp only [List.length_cons]; omega), cF, yes_run, bnd]; rfl
     | nil =>
      have hsz := szR r
      rw [hin] at hsz
      have h1 : dsz (emb_TA0 t) ≤ 1100000 := by
       simp only [List.map_cons, List.map_nil, dszs] at hsz; omega
      have hst := szT t
      have hlo := len_sz (f := emb_TC0) t.fOuts
      obtain ⟨o, ho⟩ := output_run hn t (x.fAttr.drop 8) (by omega)
      rw [decide_eq_true (by simp), cT]
      have hg : getI [t] (0 : Int) = some t := rfl
      rw [hg, bnd, ho, bnd, yes_run, bnd]
      rfl
def usesI (P C : List (List UInt8 × Bool)) (R : List (List UInt8 × TB0)) (x : TH0) : Int := (((usesV x).map (useV P C R)).find? fun e => !decide (e = 0)).getD 0
theorem foldU {n : Nat} (hn : 2000000 ≤ n) (ps : List TD0) (cs : List TF0) (rs : List TB0) (os : List TC0) (P C : List (List UInt8 × Bool)) (R : List (List UInt8 × TB0)) (hR : BdR R) :
  ∀ l : List TH0, foldY (refs_scope_uses_s1 n ps cs rs os P C R) l () = some (match (l.map (useV P C R)).find? fun e => !decide (e = 0) with | none => .nx () | some e => .br e)
 | [] => rfl
 | x :: r => by
  unfold foldY refs_scope_uses_s1
  rw [use_run hn ps cs rs os P C R hR, bnd, List.map_cons, List.find?_cons]
  cases h : !decide (useV P C R x = 0) with
  | true => rw [cT, bnd]
  | false =>
   rw [cF, bnd]
   exact foldU hn ps cs rs os P C R hR r
theorem uses_run {n : Nat} (hn : 2000000 ≤ n) (ps : List TD0) (cs : List TF0) (rs : List TB0) (os : List TC0) (P C : List (List UInt8 × Bool)) (R : List (List UInt8 × TB0)) (hR : BdR R) (x : TH0) (hx : dsz (emb_TH0 x) ≤ 1100000) :
  refs_scope_uses n ps cs rs os P C R x = some (usesI P C R x) := by
 have hs := sizeX_sz x
 unfold refs_scope_uses usesI
 rw [need_t (by omega), foldU hn ps cs rs os P C R hR, bnd]
 cases ((usesV x).map (useV P C R)).find? fun e => !decide (e = 0) <;> rfl
theorem usesI_zero {P C : List (List UInt8 × Bool)} {R : List (List UInt8 × TB0)} {x : TH0} : usesI P C R x = 0 ↔ ∀ y ∈ usesV x, useV P C R y = 0 := by
 unfold usesI
 cases h : ((usesV x).map (useV P C R)).find? fun e => !decide (e = 0) with
 | none =>
  rw [List.find?_eq_none] at h
  refine ⟨fun _ y hy => ?_, fun _ => rfl⟩
  have := h _ (List.mem_map_of_mem hy)
  simpa using this
 | some e =>
  have h1 := List.find?_some h
  have h2 := List.mem_of_find?_eq_some h
  obtain ⟨y, hy, rfl⟩ := List.mem_map.1 h2
  rw [Option.getD_some]
  refine ⟨fun h0 => ?_, fun h0 => h0 y hy⟩
  rw [h0] at h1; simp at h1
def plainOK (P : List (List UInt8 × Bool)) (x : TH0) : Bool := (usesV x).all fun y => decide (y.fKind = 3) && hasB P y.fName
theorem foldP16 (n : Nat) (P : List (List UInt8 × Bool)) : ∀ l : List TH0, foldY (refs_scope_plain_s1 n P) l () = some (bif l.all fun y => decide (y.fKind = 3) && hasB P y.fName then .nx () else .br ())
 | [] => rfl
 | x :: r => by
  unfold foldY refs_scope_plain_s1
  rw [List.all_cons]
  by_cases h3 : x.fKind = 3
  ·rw [decide_eq_true h3, Bool.not_true, cF]
   cases hp : (mget P x.fName).getD false with
   | true =>
    have hp' : hasB P x.fName = true := hp
    rw [Bool.not_true, cF, bnd, hp', Bool.true_and, Bool.true_and]
    exact foldP16 n P r
   | false =>
    have hp' : hasB P x.fName = false := hp
    rw [Bool.not_false, cT, bnd, hp', Bool.true_and, Bool.false_and, cF]
  ·rw [decide_eq_false h3, Bool.not_false, cT, bnd, Bool.false_and, Bool.false_and, cF]
theorem plain_run (n : Nat) (ps : List TD0) (cs : List TF0) (rs : List TB0) (os : List TC0) (P C : List (List UInt8 × Bool)) (R : List (List UInt8 × TB0)) (x : TH0) (hx : dsz (emb_TH0 x) ≤ 1100000) :
  refs_scope_plain n ps cs rs os P C R x = some (bif plainOK P x then 0 else 160) := by
 have hs := sizeX_sz x
 unfold refs_scope_plain plainOK
 rw [need_t (by omega), foldP16, bnd]
 cases (usesV x).all fun y => decide (y.fKind = 3) && hasB P y.fName <;> rfl
mutual
def condOK (P C : List (List UInt8 × Bool)) : TF0 → Bool
  | ⟨nm, k, a, b, l⟩ => bif decide (k = 0) then plainOK P a && plainOK P b else (!decide (k = 4) || hasB C nm) && condsOK P C l
def condsOK (P C : List (List UInt8 × Bool)) : List TF0 → Bool
  | [] => true
  | x :: r => condOK P C x && condsOK P C r
end
theorem condOK_eq (P C : List (List UInt8 × Bool)) (c : TF0) : condOK P C c = bif decide (c.fKind = 0) then plainOK P c.fA && plainOK P c.fB else (!decide (c.fKind = 4) || hasB C c.fName) && condsOK P C c.fL := by cases c; rw [condOK]
theorem condsOK_all (P C : List (List UInt8 × Bool)) : ∀ l : List TF0, condsOK P C l = l.all (condOK P C)
 | [] => rfl
 | x :: r => by rw [condsOK, List.all_cons, condsOK_all P C r]
theorem cond_run {n : Nat} (hn : 2000000 ≤ n) (ps : List TD0) (cs : List TF0) (rs : List TB0) (os : List TC0) (P C : List (List UInt8 × Bool)) (R : List (List UInt8 × TB0)) :
  ∀ (k : Nat) (c : TF0), dsz (emb_TF0 c) < k → dsz (emb_TF0 c) ≤ 1100000 → ∃ e, refs_scope_cond_k n k ps cs rs os P C R c = some e ∧ (e = 0 ↔ condOK P C c = true)
 | 0, c, hk, hb => absurd hk (by omega)
 | k + 1, c, hk, hb => by
  have hs := szC c
  have hlen := len_sz (f := emb_TF0) c.fL
  unfold refs_scope_cond_k refs_scope_cond_b
  rw [condOK_eq]
  by_cases h0 : c.fKind = 0
  ·unfold refs_first refs_scope_cond_1 refs_scope_cond_2
   rw [eta_X, eta_X, decide_eq_true h0, cT, cT, plain_run n ps cs rs os P C R c.fA (by omega), plain_run n ps cs rs os P C R c.fB (by omega), bnd, bnd, bnd, bnd]
   cases hA : plainOK P c.fA with
   | false =>
    rw [cF, decide_eq_false (by decide), Bool.not_false, cT, bnd]
    exact ⟨160, rfl, by simp⟩
   | true =>
    rw [cT, decide_eq_true rfl, Bool.not_true, cF]
    cases hB : plainOK P c.fB with
    | false =>
     rw [cF, decide_eq_false (by decide), Bool.not_false, cT, bnd]
     exact ⟨160, rfl, by simp⟩
    | true =>
     rw [cT, decide_eq_true rfl, Bool.not_true, cF, bnd]
     exact ⟨0, rfl, by simp⟩
  rw [decide_eq_false h0, cF, cF]
  by_cases h4 : c.fKind = 4 ∧ hasB C c.fName = false
  ·obtain ⟨h4, hc⟩ := h4
   have hc' : (mget C c.fName).getD false = false := hc
   rw [decide_eq_true h4, cT, hc', Bool.not_false, cT, hc]
   exact ⟨150, rfl, by simp⟩
  have hgo : (!decide (c.fKind = 4) || hasB C c.fName) = true := by
   by_cases h : c.fKind = 4
   ·have : hasB C c.fName = true := by
     cases hh : hasB C c.fName with
     | true => rfl
     | false => exact absurd ⟨h, hh⟩ h4
    rw [this, Bool.or_true]
   ·rw [decide_eq_false h]; rfl
  have hskip : (bif decide (c.fKind = 4) then (bif !(mget C c.fName).getD false then ((some (150 : Int) : Option Int)).map Lp.br else some (.nx ())) else some (.nx ()) : Option (Lp Unit Int)) = some (.nx ()) := by
   by_cases h : c.fKind = 4
   ·have : (mget C c.fName).getD false = true := by
     cases hh : (mget C c.fName).getD false with
     | true => rfl
     | false => exact absurd ⟨h, hh⟩ h4
    rw [decide_eq_true h, cT, this, Bool.not_true, cF]
   ·rw [decide_eq_false h, cF]
  have hloop := loop_inv (n := n) (step := refs_scope_cond_s1 n (refs_scope_cond_k n k) ps cs rs os P C R c) (s0 := (0 : Int)) (fun j s => s = (j : Int) ∧ ∀ i (h : i < c.fL.length), i < j → condOK P C c.fL[i] = true)
   (fun b => (∃ e : Int, b = .inl e ∧ e ≠ 0 ∧ c.fL.all (condOK P C) = false) ∨ (b = .inr () ∧ c.fL.all (condOK P C) = true)) c.fL.length ⟨rfl, fun i _ h => absurd h (by omega)⟩
   (fun j s hj hI => by
    obtain ⟨rfl, hI⟩ := hI
    have hm := mem_sz (f := emb_TF0) (List.getElem_mem hj)
    obtain ⟨e, he, hz⟩ := cond_run hn ps cs rs os P C R k c.fL[j] (by omega) (by omega)
    unfold refs_scope_cond_s1
    rw [decide_eq_true (by omega), cT, getI_here hj, bnd, he, bnd]
    by_cases h0 : e = 0
    ·rw [decide_eq_true h0, Bool.not_true, cF, need_i (by omega) (by omega)]
     refine .inl ⟨_, rfl, by simp, fun i h hi => ?_⟩
     by_cases e2 : i = j
     ·subst e2; exact hz.1 h0
     ·exact hI i h (by omega)
    ·rw [decide_eq_false h0, Bool.not_false, cT]
     refine .inr ⟨_, rfl, .inl ⟨e, rfl, h0, ?_⟩⟩
     rw [List.all_eq_false]
     exact ⟨_, List.getElem_mem hj, fun h => h0 (hz.2 h)⟩)
   (fun s hI => by
    obtain ⟨rfl, hI⟩ := hI
    unfold refs_scope_cond_s1
    rw [decide_eq_false (by omega), cF]
    refine ⟨_, rfl, .inr ⟨rfl, ?_⟩⟩
    rw [List.all_eq_true]
    intro x hx
    obtain ⟨i, hi, rfl⟩ := List.getElem_of_mem hx
    exact hI i hi hi) (by omega)
  obtain ⟨b, hb1, hb2⟩ := hloop
  rw [hskip, bnd]
  dsimp only [joinF]
  rw [hb1, bnd, hgo, Bool.true_and, condsOK_all]
  rcases hb2 with ⟨e, rfl, h1, h2⟩ | ⟨rfl, h2⟩
  ·exact ⟨e, rfl, by rw [h2]; simp [h1]⟩
  ·exact ⟨0, rfl, by rw [h2]; simp⟩
def pM (t : TA0) : List (List UInt8 × Bool) := t.fParams.foldl (fun m p => mput m p.fName true) []
def cM (t : TA0) : List (List UInt8 × Bool) := t.fConds.foldl (fun m p => mput m p.fName true) []
def rM (t : TA0) : List (List UInt8 × TB0) := t.fRes.foldr (fun r m => mput m r.fId r) []
theorem foldl_take {α β : Type} (f : β → α → β) (b : β) {l : List α} {k : Nat} (h : k < l.length) : (l.take (k + 1)).foldl f b = f ((l.take k).foldl f b) l[k] := by
 rw [List.take_add_one, List.getElem?_eq_getElem h, List.foldl_append]; rfl
theorem open_run {n : Nat} (hn : 2000000 ≤ n) (t : TA0) (hb : dsz (emb_TA0 t) ≤ 1100000) : refs_open n t = some (t.fParams, t.fConds, t.fRes, t.fOuts, pM t, cM t, rM t) := by
 have hs := szT t
 have l1 := len_sz (f := emb_TD0) t.fParams
 have l2 := len_sz (f := emb_TF0) t.fConds
 have l3 := len_sz (f := emb_TB0) t.fRes
 have e1 : loopF (refs_open_s1 n t) n ((0 : Int), ([] : List ((List UInt8) × Bool))) = some (pM t) := by
  have := loop_all (n := n) (step := refs_open_s1 n t) (fun k => ((k : Int), (t.fParams.take k).foldl (fun m p => mput m p.fName true) [])) t.fParams.length (pM t) (fun k hk => by
   unfold refs_open_s1
   dsimp only
   rw [decide_eq_true (by omega), cT, getI_here hk, bnd, need_i (by omega) (by omega), foldl_take _ _ hk]
   rfl) (by
   unfold refs_open_s1 pM
   dsimp only
   rw [decide_eq_false (by omega), cF, List.take_length]) (by omega)
  exact this
 have e2 : loopF (refs_open_s2 n t) n ((0 : Int), ([] : List ((List UInt8) × Bool))) = some (cM t) := by
  have := loop_all (n := n) (step := refs_open_s2 n t) (fun k => ((k : Int), (t.fConds.take k).foldl (fun m p => mput m p.fName true) [])) t.fConds.length (cM t) (fun k hk => by
   unfold refs_open_s2
   dsimp only
   rw [decide_eq_true (by omega), cT, getI_here hk, bnd, need_i (by omega) (by omega), foldl_take _ _ hk]
   rfl) (by
   unfold refs_open_s2 cM
   dsimp only
   rw [decide_eq_false (by omega), cF, List.take_length]) (by omega)
  exact this
 have e3 : loopF (refs_open_s3 n t) n (((t.fRes.length : Nat) : Int) - 1, ([] : List ((List UInt8) × TB0))) = some (rM t) := by
  have := loop_all (n := n) (step := refs_open_s3 n t) (fun k => ((t.fRes.length : Int) - 1 - (k : Int), (t.fRes.drop (t.fRes.length - k)).foldr (fun r m => mput m r.fId r) [])) t.fRes.length (rM t) (fun k hk => by
   have hi : t.fRes.length - (k + 1) < t.fRes.length := by omega
   have e : (t.fRes.length : Int) - 1 - (k : Int) = ((t.fRes.length - (k + 1) : Nat) : Int) := by omega
   have ed : t.fRes.drop (t.fRes.length - (k + 1)) = t.fRes[t.fRes.length - (k + 1)] :: t.fRes.drop (t.fRes.length - k) := by
    rw [List.drop_eq_getElem_cons hi]
    congr 2
    omega
   unfold refs_open_s3
   dsimp only
   rw [decide_eq_true (by omega), cT, e, getI_here hi, bnd, bnd, need_i (by omega) (by omega), ed, List.foldr_cons]
   refine congrArg (fun z => some (Lp.nx (z, _))) ?_
   omega) (by
   unfold refs_open_s3 rM
   dsimp only
   rw [decide_eq_false (by omega), cF, Nat.sub_self, List.drop_zero]) (by omega)
  rw [Nat.sub_zero, List.drop_length, show ((t.fRes.length : Int) - 1 - ((0 : Nat) : Int)) = (t.fRes.length : Int) - 1 by omega] at this
  exact this
 unfold refs_open
 rw [e1, bnd, e2, bnd, need_i (by omega) (by omega), e3, bnd]
theorem hasB_put (m : List (List UInt8 × Bool)) (k j : List UInt8) : hasB (mput m k true) j = (decide (k = j) || hasB m j) := by
 unfold hasB
 rw [mget_mput]
 by_cases h : k = j
 ·rw [if_pos h, decide_eq_true h]; rfl
 ·rw [if_neg h, decide_eq_false h, Bool.false_or]
theorem hasB_fold {α : Type} (f : α → List UInt8) (k : List UInt8) : ∀ (l : List α) (m : List (List UInt8 × Bool)), hasB (l.foldl (fun m p => mput m (f p) true) m) k = (hasB m k || l.any fun p => decide (f p = k))
 | [], m => by simp
 | x :: r, m => by
  rw [List.foldl_cons, hasB_fold f k r, hasB_put, List.any_cons]
  cases decide (f x = k) <;> cases hasB m k <;> rfl
theorem hasB_pM (t : TA0) (k : List UInt8) : hasB (pM t) k = t.fParams.any fun p => decide (p.fName = k) := by
 unfold pM; rw [hasB_fold (fun p : TD0 => p.fName)]; rfl
theorem hasB_cM (t : TA0) (k : List UInt8) : hasB (cM t) k = t.fConds.any fun p => decide (p.fName = k) := by
 unfold cM; rw [hasB_fold (fun p : TF0 => p.fName)]; rfl
theorem mget_fold (k : List UInt8) : ∀ l : List TB0, mget (l.foldr (fun r m => mput m r.fId r) ([] : List (List UInt8 × TB0))) k = l.find? fun r => decide (r.fId = k)
 | [] => rfl
 | x :: r => by
  rw [List.foldr_cons, mget_mput, List.find?_cons, mget_fold k r]
  by_cases h : x.fId = k
  ·rw [if_pos h, decide_eq_true h]
  ·rw [if_neg h, decide_eq_false h]
theorem mget_rM (t : TA0) (k : List UInt8) : mget (rM t) k = t.fRes.find? fun r => decide (r.fId = k) := mget_fold k _
theorem bdR {t : TA0} (hb : dsz (emb_TA0 t) ≤ 1100000) : BdR (rM t) := fun k r h => by
 rw [mget_rM] at h
 have h1 := mem_sz (f := emb_TB0) (List.mem_of_find?_eq_some h)
 have hs := szT t
 omega
def typedB (x : TB0) : Bool := bif stk x then decide (x.fInner.length = 1) else decide (x.fInner.length = 0) && kindIn x.fType
def depsBad (R : List (List UInt8 × TB0)) (x : TB0) : Bool := x.fDepends.any fun d => !(mget R d).isSome || decide (d = x.fId)
def parI : List TA0 → List UInt8 → Bool
  | t :: _, nm => t.fParams.any fun p => decide (p.fName = nm)
  | [], _ => false
def propOK (P C : List (List UInt8 × Bool)) (R : List (List UInt8 × TB0)) (x : TB0) (p : TI0) : Bool := (bif stk x then parI x.fInner p.fName else (specAt x.fType p.fName).isSome) && decide (usesI P C R p.fE = 0)
def innerOK (chk : TA0 → Bool) : List TA0 → Bool
  | t :: _ => chk t
  | [] => false
def resOK (P C : List (List UInt8 × Bool)) (R : List (List UInt8 × TB0)) (chk : TA0 → Bool) (x : TB0) : Bool :=
  !hasB P x.fId && (typedB x && ((decide (x.fCond = []) || hasB C x.fCond) && (!depsBad R x && (x.fProps.all (propOK P C R x) && (!stk x || innerOK chk x.fInner)))))
theorem namesS_len (kind : List UInt8) : (namesS kind).length ≤ 4 := by
 unfold namesS
 generalize decide (kDisk = kind) = a
 generalize decide (kNet = kind) = b
 generalize decide (kNode = kind) = c
 generalize decide (kRule = kind) = d
 cases a <;> cases b <;> cases c <;> cases d <;> decide
theorem specs_run {n : Nat} (hn : 2000000 ≤ n) (kind : List UInt8) : ∃ l, schema_Specs n kind = some (l, bif kindIn kind then 0 else 90) := by
 unfold schema_Specs
 cases kindIn kind with
 | false => rw [Bool.not_false, cT, cF]; exact ⟨_, rfl⟩
 | true =>
  rw [Bool.not_true, cF, cT]
  have hl := namesS_len kind
  obtain ⟨b, hb, -⟩ := loop_inv (n := n) (step := schema_Specs_s1 n kind) (s0 := (([] : List TG0), (0 : Int))) (fun k s => s.2 = (k : Int) ∧ s.1.length = k) (fun _ => True) (namesS kind).length ⟨rfl, rfl⟩
   (fun k s hk hI => by
    obtain ⟨a, i⟩ := s
    obtain ⟨h1, h2⟩ := hI
    dsimp only at h1 h2
    subst h1
    unfold schema_Specs_s1
    dsimp only
    rw [decide_eq_true (by omega), cT, getI_here hk, bnd, need_t (by omega), need_i (by omega) (by omega)]
    exact .inl ⟨_, rfl, by dsimp only; omega, by dsimp only; rw [List.length_append, h2]; rfl⟩)
   (fun s hI => by
    obtain ⟨a, i⟩ := s
    obtain ⟨h1, h2⟩ := hI
    dsimp only at h1 h2
    subst h1
    unfold schema_Specs_s1
    dsimp only
    rw [decide_eq_false (by omega), cF]
    exact ⟨_, rfl, trivial⟩) (by omega)
  rw [hb, bnd]
  exact ⟨_, rfl⟩
theorem res2_run (n : Nat) (x : TB0) : refs_scope_resource_2 n x (bif stk x then 1 else 0) (bif kindIn x.fType then 0 else 90) = some (bif typedB x then 0 else 90, bif stk x then 1 else 0, bif kindIn x.fType then 0 else 90) := by
 unfold refs_scope_resource_2 typedB
 cases stk x with
 | true =>
  rw [cT, cT]
  by_cases h : x.fInner.length = 1
  ·rw [decide_eq_true (show ((x.fInner.length : Nat) : Int) = 1 by omega), cT, decide_eq_true rfl, cT, yes_run, bnd, decide_eq_true h]
  ·rw [decide_eq_false (show ¬ ((x.fInner.length : Nat) : Int) = 1 by omega), cF, yes_run, bnd, decide_eq_false h]
 | false =>
  rw [cF, cF]
  by_cases h : x.fInner.length = 0
  ·rw [decide_eq_true (show ((x.fInner.length : Nat) : Int) = 0 by omega), cT, decide_eq_false (by decide), cF, yes_run, bnd, decide_eq_true h, Bool.true_and]
   cases kindIn x.fType <;> rfl
  ·rw [decide_eq_false (show ¬ ((x.fInner.length : Nat) : Int) = 0 by omega), cF, yes_run, bnd, decide_eq_false h, Bool.false_and]
theorem res4_run {n : Nat} (hn : 2000000 ≤ n) (ps : List TD0) (cs : List TF0) (rs : List TB0) (os : List TC0) (P C : List (List UInt8 × Bool)) (R : List (List UInt8 × TB0)) (x : TB0) (hl : x.fDepends.length ≤ 1100000) :
  refs_scope_resource_4 n x ps cs rs os P C R = some (bif !depsBad R x then 0 else 160) := by
 unfold refs_scope_resource_4 slices_ContainsFuncstring_string slices_IndexFuncstring_string
 obtain ⟨b, hb, hc⟩ := loop_idx (n := n) (step := slices_IndexFuncstring_string_s1 n x.fDepends ps cs rs os P C R x) (fun k => (fun d => !(mget R d).isSome || decide (d = x.fId)) (x.fDepends.getD k [])) x.fDepends.length (fun k hk => by
  unfold slices_IndexFuncstring_string_s1 refs_scope_resource_4_1
  rw [decide_eq_true (by omega), cT, getI_at [] hk, bnd]
  dsimp only
  cases (mget R (x.fDepends.getD k [])).isSome with
  | false => rw [Bool.not_false, cT, bnd, cT, Bool.true_or, cT]
  | true =>
   rw [Bool.not_true, cF, bnd, Bool.false_or]
   cases decide (x.fDepends.getD k [] = x.fId) with
   | true => rw [cT, cT]
   | false => rw [cF, cF, need_i (by omega) (by omega)]) (by
  unfold slices_IndexFuncstring_string_s1
  rw [decide_eq_false (by omega), cF]) (by omega)
 have hany : depsBad R x = (List.range x.fDepends.length).any fun k => (fun d => !(mget R d).isSome || decide (d = x.fId)) (x.fDepends.getD k []) := by
  unfold depsBad
  exact (any_range ([] : List UInt8) (fun d => !(mget R d).isSome || decide (d = x.fId)) x.fDepends).symm
 rw [hb, bnd]
 rcases hc with ⟨i, hi, rfl, hq⟩ | ⟨rfl, hq⟩
 ·have : depsBad R x = true := by rw [hany]; exact List.any_eq_true.2 ⟨i, by simpa using hi, hq⟩
  rw [this]
  dsimp only
  rw [bnd, bnd, decide_eq_true (by omega), yes_run, bnd]
 ·have : depsBad R x = false := by rw [hany]; exact List.any_eq_false.2 fun i hi => by rw [hq i (by simpa using hi)]; simp
  rw [this]
  dsimp only
  rw [bnd, bnd, decide_eq_false (by omega), yes_run, bnd]
theorem props_run {n : Nat} (hn : 2000000 ≤ n) (ps : List TD0) (cs : List TF0) (rs : List TB0) (os : List TC0) (P C : List (List UInt8 × Bool)) (R : List (List UInt8 × TB0)) (hR : BdR R) (x : TB0) (hx : dsz (emb_TB0 x) ≤ 1100000) (hst : stk x = true → ∃ t, x.fInner = [t]) :
  ∃ e, refs_scope_resource_5 n ps cs rs os P C R x = some e ∧ (e = 0 ↔ x.fProps.all (propOK P C R x) = true) := by
 have hs := szR x
 have hlen := len_sz (f := emb_TI0) x.fProps
 have hloop := loop_inv (n := n) (step := refs_scope_props_s1 n ps cs rs os P C R x) (s0 := (0 : Int)) (fun j s => s = (j : Int) ∧ ∀ i (h : i < x.fProps.length), i < j → propOK P C R x x.fProps[i] = true)
  (fun b => (∃ e : Int, b = .inl e ∧ e ≠ 0 ∧ x.fProps.all (propOK P C R x) = false) ∨ (b = .inr () ∧ x.fProps.all (propOK P C R x) = true)) x.fProps.length ⟨rfl, fun i _ h => absurd h (by omega)⟩
  (fun j s hj hI => by
   obtain ⟨rfl, hI⟩ := hI
   have hm := mem_sz (f := emb_TI0) (List.getElem_mem hj)
   have hp := szPr x.fProps[j]
   have hbad : propOK P C R x x.fProps[j] = false → x.fProps.all (propOK P C R x) = false := fun h => by
    rw [List.all_eq_false]; exact ⟨_, List.getElem_mem hj, by rw [h]; simp⟩
   have hgood : propOK P C R x x.fProps[j] = true → ∀ i (h : i < x.fProps.length), i < j + 1 → propOK P C R x x.fProps[i] = true := fun hq i h hi => by
    by_cases e2 : i = j
    ·subst e2; exact hq
    ·exact hI i h (by omega)
   unfold refs_scope_props_s1
   rw [decide_eq_true (by omega), cT, getI_here hj, bnd]
   unfold schema_Find
   rw [bnd, nested_run, bnd, eta_X, uses_run hn ps cs rs os P C R hR x.fProps[j].fE (by omega)]
   have hy : ∃ c : Int, c ≠ 0 ∧ (bif stk x then (getI x.fInner (0 : Int)).bind fun x_4 => (refs_open n x_4).bind fun x_5 => some (((170 : Int), ((mget x_5.2.2.2.2.1 x.fProps[j].fName).getD false))) else some (((91 : Int), ((specAt x.fType x.fProps[j].fName).isSome))) : Option (Int × Bool)) = some (c, bif stk x then parI x.fInner x.fProps[j].fName else (specAt x.fType x.fProps[j].fName).isSome) := by
    cases hst2 : stk x with
    | false => exact ⟨91, by decide, by rw [cF, cF]⟩
    | true =>
     obtain ⟨t, ht⟩ := hst hst2
     rw [ht] at hs ⊢
     simp only [List.map_cons, List.map_nil, dszs] at hs
     have hg : getI [t] (0 : Int) = some t := rfl
     rw [cT, cT, hg, bnd, open_run hn t (by omega), bnd]
     have := hasB_pM t x.fProps[j].fName
     unfold hasB at this
     dsimp only
     rw [this]
     exact ⟨170, by decide, rfl⟩
   obtain ⟨c, hc0, hc⟩ := hy
   dsimp only at hc ⊢
   rw [hc, bnd]
   dsimp only
   cases hv : (bif stk x then parI x.fInner x.fProps[j].fName else (specAt x.fType x.fProps[j].fName).isSome) with
   | false =>
    rw [Bool.not_false, cT]
    exact .inr ⟨_, rfl, .inl ⟨c, rfl, hc0, hbad (by unfold propOK; rw [hv]; rfl)⟩⟩
   | true =>
    rw [Bool.not_true, cF, bnd]
    by_cases h0 : usesI P C R x.fProps[j].fE = 0
    ·rw [decide_eq_true h0, Bool.not_true, cF, need_i (by omega) (by omega)]
     exact .inl ⟨_, rfl, by simp, hgood (by unfold propOK; rw [hv, decide_eq_true h0]; rfl)⟩
    ·rw [decide_eq_false h0, Bool.not_false, cT]
     exact .inr ⟨_, rfl, .inl ⟨_, rfl, h0, hbad (by unfold propOK; rw [hv, decide_eq_false h0]; rfl)⟩⟩)
  (fun s hI => by
   obtain ⟨rfl, hI⟩ := hI
   unfold refs_scope_props_s1
   rw [decide_eq_false (by omega), cF]
   refine ⟨_, rfl, .inr ⟨rfl, ?_⟩⟩
   rw [List.all_eq_true]
   intro p hp
   obtain ⟨i, hi, rfl⟩ := List.getElem_of_mem hp
   exact hI i hi hi) (by omega)
 obtain ⟨b, hb1, hb2⟩ := hloop
 unfold refs_scope_resource_5 refs_scope_props
 rw [hb1, bnd]
 rcases hb2 with ⟨e, rfl, h1, h2⟩ | ⟨rfl, h2⟩
 ·exact ⟨e, rfl, by rw [h2]; simp [h1]⟩
 ·exact ⟨0, rfl, by rw [h2]; simp⟩
theorem resource_run {n : Nat} (hn : 2000000 ≤ n) (rc : TA0 → Option (List UInt8 × Int)) (chk : TA0 → Bool) (ps : List TD0) (cs : List TF0) (rs : List TB0) (os : List TC0) (P C : List (List UInt8 × Bool)) (R : List (List UInt8 × TB0)) (hR : BdR R) (x : TB0) (hx : dsz (emb_TB0 x) ≤ 1100000)
  (hrc : ∀ t ∈ x.fInner, ∃ at_ e, rc t = some (at_, e) ∧ (e = 0 ↔ chk t = true) ∧ at_.length ≤ 12 * dsz (emb_TA0 t)) :
  ∃ at_ e, refs_scope_resource_7 n rc ps cs rs os P C R x = some (at_, e) ∧ (e = 0 ↔ resOK P C R chk x = true) ∧ at_.length ≤ 12 * dszs (x.fInner.map emb_TA0) := by
 have hs := szR x
 have hl4 := len_sz (f := Dat.str) x.fDepends
 obtain ⟨sp, hsp⟩ := specs_run hn x.fType
 unfold refs_scope_resource_7 refs_first_3 refs_scope_resource_1 refs_scope_resource_3 refs_scope_resource_6_2 resOK
 have hbif : (bif stk x then some (1 : Int) else some (0 : Int) : Option Int) = some (bif stk x then 1 else 0) := by cases stk x <;> rfl
 rw [nested_run, bnd, hbif, bnd, hsp, bnd, yes_run, bnd, bnd]
 have hPid : (mget P x.fId).getD false = hasB P x.fId := rfl
 rw [hPid]
 cases h1 : hasB P x.fId with
 | true =>
  rw [Bool.not_true, cF, decide_eq_false (by decide), Bool.not_false, cT, bnd, Bool.false_and]
  exact ⟨_, _, rfl, by simp, by simp⟩
 | false =>
  rw [Bool.not_false, cT, decide_eq_true rfl, Bool.not_true, cF, Bool.true_and]
  dsimp only
  rw [res2_run, bnd]
  dsimp only
  cases h2 : typedB x with
  | false =>
   rw [cF, decide_eq_false (by decide), Bool.not_false, cT, bnd, Bool.false_and]
   exact ⟨_, _, rfl, by simp, by simp⟩
  | true =>
   rw [cT, decide_eq_true rfl, Bool.not_true, cF, Bool.true_and]
   have hcond : (bif decide (x.fCond = []) then (refs_yes n (true) (150 : Int)).bind fun x_1 => some (x_1) else (refs_yes n ((mget C x.fCond).getD false) (150 : Int)).bind fun x_2 => some (x_2)) = some (bif (decide (x.fCond = []) || hasB C x.fCond) then 0 else 150) := by
    have hcc : (mget C x.fCond).getD false = hasB C x.fCond := rfl
    rw [hcc, yes_run, yes_run, bnd, bnd]
    cases decide (x.fCond = []) <;> rfl
   rw [hcond, bnd]
   cases h3 : (decide (x.fCond = []) || hasB C x.fCond) with
   | false =>
    rw [cF, decide_eq_false (by decide), Bool.not_false, cT, bnd, Bool.false_and]
    exact ⟨_, _, rfl, by simp, by simp⟩
   | true =>
    rw [cT, decide_eq_true rfl, Bool.not_true, cF, Bool.true_and, res4_run hn ps cs rs os P C R x (by omega), bnd]
    cases h4 : depsBad R x with
    | true =>
     rw [Bool.not_true, cF, decide_eq_false (by decide), Bool.not_false, cT, bnd, Bool.false_and]
     exact ⟨_, _, rfl, by simp, by simp⟩
    | false =>
     rw [Bool.not_false, cT, decide_eq_true rfl, Bool.not_true, cF, Bool.true_and]
     have hst : stk x = true → ∃ t, x.fInner = [t] := fun h => by
      unfold typedB at h2
      rw [h, cond_true] at h2
      exact List.length_eq_one_iff.1 (of_decide_eq_true h2)
     obtain ⟨e5, h5, k5⟩ := props_run hn ps cs rs os P C R hR x hx hst
     rw [h5, bnd]
     by_cases he : e5 = 0
     ·rw [decide_eq_true he, Bool.not_true, cF, k5.1 he, Bool.true_and, bnd]
      cases hk : stk x with
      | false =>
       rw [cF, bnd]
       dsimp only
       rw [decide_eq_true rfl, Bool.not_true, cF, bnd]
       exact ⟨_, _, rfl, by simp, by simp⟩
      | true =>
       obtain ⟨t, ht⟩ := hst hk
       obtain ⟨at_, e, g1, g2, g3⟩ := hrc t (by rw [ht]; exact List.mem_singleton.2 rfl)
       have hg : getI [t] (0 : Int) = some t := rfl
       rw [ht, cT, hg, bnd, g1, bnd, bnd]
       dsimp only
       have hlen : at_.length ≤ 12 * dszs ([t].map emb_TA0) := by
        simp only [List.map_cons, List.map_nil, dszs]; omega
       have hfin : (!true || innerOK chk [t]) = chk t := rfl
       rw [hfin]
       by_cases h0 : e = 0
       ·rw [decide_eq_true h0, Bool.not_true, cF, bnd]
        exact ⟨_, _, rfl, by rw [← g2]; simp [h0], hlen⟩
       ·rw [decide_eq_false h0, Bool.not_false, cT, bnd]
        exact ⟨_, _, rfl, g2, hlen⟩
     ·have hf : x.fProps.all (propOK P C R x) = false := by
       cases hh : x.fProps.all (propOK P C R x) with
       | false => rfl
       | true => exact absurd (k5.2 hh) he
      rw [decide_eq_false he, Bool.not_false, cT, bnd, hf, Bool.false_and]
      exact ⟨_, _, rfl, by simp [he], by simp⟩
end Go.Proofs.Ytpjgpnfdadpkkaa
