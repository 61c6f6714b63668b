/-
  Texts of this claim, packed (what nothing names is left out): WalkIt, Vp, Vu, Q2f, Shelf, Lay, Hd, Sort1, Q2d, Q2e, Q3a, WalkIt2, Q4b, LayS, Sort2, Q4i, Q4g, TreeM, Num, Num2. Own work, partly printed by own programs. No condition.
-/
import Derived.Test.YtfaedhhjamaniaaDoorPkP1
import Derived.Test.YtfaedhhjamaniaaDoorRows
import Derived.Shelf.Abstract
import Derived.Lib.MapLaws
import Derived.Lib.ValidLaws
import Derived.Shelf.Strings.Builder1
import Derived.Shelf.Strings.Builder2
import Derived.Shelf.Small.Bits
import Derived.Shelf.Small.Strs
import Derived.Shelf.Strings.BuilderF
import Derived.Shelf.Strconv.Itoa0
import Derived.Shelf.Strings.Prefix
import Derived.Shelf.Bits.Mul64
import Derived.Shelf.Strings.Repeat
import Derived.Ground.SlsfProg
import Derived.Shelf.SlSortCmp.Insertion
import Derived.Shelf.SlSortCmp.SiftDown1
import Derived.Shelf.SlSortCmp.HeapSort1
import Derived.Shelf.SlSortCmp.Insertion1
import Derived.Shelf.SlSortCmp.Median1
import Derived.Shelf.SlSortCmp.Pivot1
import Derived.Shelf.SlSortCmp.ReverseRange1
import Derived.Shelf.SlSortCmp.PartialInsertion1
import Derived.Shelf.SlSortCmp.PartitionEqual1
import Derived.Shelf.SlSortCmp.Partition1
import Derived.Test.YtfaedhhjamaniaaDoorProg
import Derived.Shelf.Lays
import Derived.Shelf.Unicode.ValidAny
import Derived.Lib.Bytealg
import Derived.Shelf.SlLaysF
import Derived.Shelf.SlSortCmp.NoneTotal
import GoSem.Op.String
set_option linter.unusedVariables false
set_option linter.unusedSimpArgs false
set_option maxHeartbeats 2000000
section
namespace Go.Proofs.YtfaedhhjamaniaaDoor
open Go Go.Vc Go.RowKit
mutual
def walkV : TA0 → List TA0
  | ⟨k, b, n, t, l, ks⟩ => ⟨k, b, n, t, l, ks⟩ :: walkVs l
def walkVs : List TA0 → List TA0
  | [] => []
  | x :: r => walkV x ++ walkVs r
end
theorem walkV_eq (v : TA0) : walkV v = v :: walkVs v.fList := by cases v; rw [walkV]
theorem walkVs_drop {l : List TA0} {i : Nat} {x : TA0} (h : l[i]? = some x) : walkVs (l.drop i) = walkV x ++ walkVs (l.drop (i + 1)) := by
 obtain ⟨hi, hx⟩ := List.getElem?_eq_some_iff.1 h
 rw [List.drop_eq_getElem_cons hi, hx, walkVs]
theorem part_small {v x : TA0} (h : x ∈ v.fList) : SizeOf.sizeOf x < SizeOf.sizeOf v := by
 have := List.sizeOf_lt_of_mem h
 cases v
 simp only [TA0.mk.sizeOf_spec]
 dsimp only at this
 omega
theorem walkV_pos (v : TA0) : 1 ≤ (walkV v).length := by rw [walkV_eq, List.length_cons]; omega
theorem walkVs_len : ∀ l : List TA0, l.length ≤ (walkVs l).length
 | [] => Nat.zero_le _
 | x :: r => by
  have h1 := walkVs_len r
  have h2 := walkV_pos x
  rw [walkVs, List.length_append, List.length_cons]
  omega
theorem walkVs_mem : ∀ {l : List TA0} {x : TA0}, x ∈ l → (walkV x).length ≤ (walkVs l).length
 | y :: r, x, h => by
  rw [walkVs, List.length_append]
  rcases List.mem_cons.1 h with rfl | h
  ·omega
  ·have := walkVs_mem h
   omega
def valsV (M : Mem) (x : TA0) (vs : List Value) : Prop := ∃ cs, vs = [.agg cs.toArray] ∧ Rep M (emb_TA0 x) cs
def WalkPost {σ β : Type} (J : σ → Mem → List Ent → Prop) (Jx : β → Mem → List Ent → Prop) (r : Lp σ β) (w0 : World) (M1 : Mem) (H : List Ent) : Ending → World → Prop := fun e w' =>
  ∃ M' E', M1.le M' ∧ Hp w0 M' (E' ++ H) w' ∧ match r with
    | .nx s' => e = .returned (.bool true) ∧ J s' M' E'
    | .br b => e = .returned (.bool false) ∧ Jx b M' E'
theorem walkPost_out {σ β : Type} {J : σ → Mem → List Ent → Prop} {Jx : β → Mem → List Ent → Prop} {r : Lp σ β} {w0 : World} {M1 : Mem} {H : List Ent} : ¬ LetsOut (bodyPost Tryd.prog Tryd.f42 (WalkPost J Jx r w0 M1 H)) := by
 rintro ⟨a, w, M', E', _, _, h⟩
 cases r with
 | nx s => cases h.1
 | br b => cases h.1
set_option maxRecDepth 100000 in
theorem walkIns (by_ bs l : Nat) {σ β : Type} (Y : σ → TA0 → Option (Lp σ β)) (J : σ → Mem → List Ent → Prop) (Jx : β → Mem → List Ent → Prop) (hJ : Grows J) (hY : Yld Tryd.prog l valsV J Jx Y) :
  ∀ (m : Nat) (v : TA0), SizeOf.sizeOf v < m → (walkV v).length ≤ 9223372036854775806 → ∀ (s0 : σ) (r : Lp σ β), foldY Y (walkV v) s0 = some r → ∀ (M : Mem) (ad : Addr) (c0 : List Value), Rep M (emb_TA0 v) c0 → (∀ j u, c0[j]? = some u → M.cell? (ad.add j) = some u) →
   M.cell? ⟨by_, 0, none⟩ = some (.func (.yield l) #[] #[]) → M.cell? ⟨bs, 0, none⟩ = some (.func (.func 42) #[] #[.pointer (some ⟨by_, 0, none⟩), .pointer (some ⟨bs, 0, none⟩)]) →
   ∀ w0 M1 E H w, M.le M1 → J s0 M1 E → Hp w0 M1 (E ++ H) w → Calls Tryd.prog 42 [.pointer (some ad), .pointer (some ⟨by_, 0, none⟩), .pointer (some ⟨bs, 0, none⟩)].toArray w (WalkPost J Jx r w0 M1 H)
 | 0, v, hm => fun _ _ _ => absurd hm (by omega)
 | m + 1, v, hm => by
  intro hw0 s0 r hfold M ad c0 h0 q0 hby hbs w0 M1 E H w hM0 hj p0
  replace h0 := Rep.mono hM0 _ _ h0
  replace q0 := fun j u h => hM0.cell (q0 j u h)
  replace hby := hM0.cell hby
  replace hbs := hM0.cell hbs
  have hvl : v.fList.length < 9223372036854775806 := by
   have h1 := walkVs_len v.fList
   rw [walkV_eq, List.length_cons] at hw0
   omega
  rw [walkV_eq] at hfold
  obtain ⟨r1, hy1, hfold⟩ := Option.bind_eq_some_iff.1 hfold
  have hrep := h0
  obtain ⟨A_1, cap_1, A_2, cap_2, rfl, h_1, h_2⟩ := TA0.opn h0
  refine R_enter 30 Tryd.func42 rfl rfl (by simp) (fun a0 f0 => ?_)
  replace f0 : Frm 30 [(0, .pointer (some ad)), (1, .pointer (some ⟨by_, 0, none⟩)), (2, .pointer (some ⟨bs, 0, none⟩))] a0 := f0
  refine R_seq ?_
  refine R_reg ?_
  refine W_run (L' := [(0, .pointer (some ad)), (1, .pointer (some ⟨by_, 0, none⟩)), (2, .pointer (some ⟨bs, 0, none⟩))]) (w' := w) f0 1 [0, 1, 2] (by kernel_rfl) (fun a_1 f_1 => ?_)
  refine W_end rfl ?_
  refine T_n ?_
  refine R_seq ?_
  refine R_seq ?_
  -- the call of yield
  refine RI_out (RI_drawT 4 p0 (by kernel_rfl) (by kernel_rfl) (then_out (then_out walkPost_out)) (by kernel_rfl) (fun w p0 => ?_))
  refine ST_eq (v := .func (.yield l) #[] #[]) f_1 (by kernel_rfl) (by kernel_rfl) rfl rfl (X_load1 (v := .func (.yield l) #[] #[]) rfl (ad := ⟨by_, 0, none⟩) (by kernel_rfl) (by kernel_rfl) (p0.cell hby)) (fun a_2 f_2 => ?_)
  refine ST_eq (v := .pointer (some ad)) f_2 (by kernel_rfl) (by kernel_rfl) rfl rfl (by kernel_rfl) (fun a_3 f_3 => ?_)
  refine ST_eq (v := .pointer (some ad)) f_3 (by kernel_rfl) (by kernel_rfl) rfl rfl (by kernel_rfl) (fun a_4 f_4 => ?_)
  refine ST_eq (v := .agg #[.int .i8 v.fKind, .bool v.fBool, .int .i64 v.fNum, S v.fText, .slice A_1 v.fList.length cap_1, .slice A_2 v.fKeys.length cap_2]) f_4 (by kernel_rfl) (by kernel_rfl) rfl rfl
   (X_loadN (cs := [.int .i8 v.fKind, .bool v.fBool, .int .i64 v.fNum, S v.fText, .slice A_1 v.fList.length cap_1, .slice A_2 v.fKeys.length cap_2]) rfl (ad := ad) (by kernel_rfl) (by kernel_rfl) (fun j u h => p0.cell (q0 j u h))) (fun a_5 f_5 => ?_)
  refine ST_end rfl ?_
  obtain ⟨fn, tmps, asg, bd, hrun, hR⟩ := hY s0 v r1 hy1 w0 M1 E H w _ hj ⟨_, rfl, hrep⟩ p0
  refine WI_round f_5 (by kernel_rfl) (by kernel_rfl) rfl rfl (fun c e => by cases e) (hx := Eq.trans (by kernel_rfl) hrun) hR ?_
  rintro e w_1 ⟨M2, E2, hM2, p_1, hr⟩
  cases r1 with
  | br b =>
   obtain ⟨rfl, hjx⟩ := hr
   refine ⟨_, rfl, fun a_6 f_6 => ?_⟩
   refine list_in (ro := none) (then_out (then_out walkPost_out)) _ (by kernel_rfl) _ _ ?_
   refine W_run (L' := [(0, .pointer (some ad)), (1, .pointer (some ⟨by_, 0, none⟩)), (2, .pointer (some ⟨bs, 0, none⟩)), (11, .bool true)]) (w' := w_1) f_6 1 [0, 1, 2, 11] (by kernel_rfl) (fun a_7 f_7 => ?_)
   refine W_end rfl ?_
   refine T_n ?_
   refine R_cond_t f_7 (by kernel_rfl) (by kernel_rfl) ?_
   refine R_seq ?_
   refine R_reg ?_
   refine W_run (L' := [(4, .bool false)]) (w' := w_1) f_7 1 [4] (by kernel_rfl) (fun a_8 f_8 => ?_)
   refine W_end rfl ?_
   refine T_n ?_
   refine wp_ret ?_
   refine T_r ?_
   refine E_ret1 f_8 rfl (by kernel_rfl : Vc.look _ 4 = some (.bool false)) ?_
   obtain rfl := Option.some.inj hfold
   exact ⟨M2, E2, hM2, p_1, rfl, hjx⟩
  | nx s1 =>
   obtain ⟨rfl, hj1⟩ := hr
   refine ⟨_, rfl, fun a_6 f_6 => ?_⟩
   refine list_in (ro := none) (then_out (then_out walkPost_out)) _ (by kernel_rfl) _ _ ?_
   refine W_run (L' := [(0, .pointer (some ad)), (1, .pointer (some ⟨by_, 0, none⟩)), (2, .pointer (some ⟨bs, 0, none⟩)), (11, .bool false)]) (w' := w_1) f_6 1 [0, 1, 2, 11] (by kernel_rfl) (fun a_7 f_7 => ?_)
   refine W_end rfl ?_
   refine T_n ?_
   refine R_cond_f f_7 (by kernel_rfl) (by kernel_rfl) ?_
   refine wp_skip ?_
   refine T_n ?_
   replace q0 := fun j u h => hM2.cell (q0 j u h)
   replace hby := hM2.cell hby
   replace hbs := hM2.cell hbs
   replace h_1 := h_1.mono hM2
   replace hM0 := hM0.trans hM2
   replace hfold : foldY Y (walkVs v.fList) s1 = some r := hfold
   refine R_seq ?_
   refine R_seq ?_
   refine R_reg ?_
   refine W_run (L' := [(0, .pointer (some ad)), (1, .pointer (some ⟨by_, 0, none⟩)), (2, .pointer (some ⟨bs, 0, none⟩)), (14, .pointer (some (ad.add 4)))]) (w' := w_1) f_7 3 [0, 1, 2, 14] (by kernel_rfl) (fun a_8 f_8 => ?_)
   refine W_eq (v := .slice A_1 v.fList.length cap_1) f_8 (by kernel_rfl) (by kernel_rfl) rfl rfl (X_load1 (v := .slice A_1 v.fList.length cap_1) rfl (ad := ad.add 4) (by kernel_rfl) (by kernel_rfl) (p_1.cell (q0 4 _ rfl))) (fun a_9 f_9 => ?_)
   refine W_run (L' := [(0, .pointer (some ad)), (1, .pointer (some ⟨by_, 0, none⟩)), (2, .pointer (some ⟨bs, 0, none⟩)), (16, .int .i64 ((v.fList.length : Nat) : Int)), (17, .int .i64 0)]) (w' := w_1) f_9 2 [0, 1, 2, 16, 17] (by kernel_rfl) (fun a_10 f_10 => ?_)
   refine W_end rfl ?_
   refine T_n ?_
   refine wp_block ?_
   refine wp_mono (Q := fun e a w => (e = .exit 0 ∧ ∃ s' M' E', r = .nx s' ∧ M1.le M' ∧ J s' M' E' ∧ Frm 30 [(0, .pointer (some ad))] a ∧ Hp w0 M' (E' ++ H) w) ∨ (e = .ret ∧ ∃ b M' E', r = .br b ∧ M1.le M' ∧ Jx b M' E' ∧ Frm 30 [(4, .bool false)] a ∧ Hp w0 M' (E' ++ H) w))
    (R_loop (n := 30) (w0 := w0) (M := M2) (fun (x : Nat × σ × List Ent) => [(0, .pointer (some ad)), (1, .pointer (some ⟨by_, 0, none⟩)), (2, .pointer (some ⟨bs, 0, none⟩)), (16, .int .i64 ((v.fList.length : Nat) : Int)), (17, .int .i64 (x.1 : Int))]) (fun x => x.2.2 ++ H)
     (fun x (MM : Mem) => J x.2.1 MM x.2.2 ∧ foldY Y (walkVs (v.fList.drop x.1)) x.2.1 = some r ∧ x.1 ≤ v.fList.length) (fun x => v.fList.length - x.1) (0, s1, E2) (f_10.keep (ks := [0, 1, 2, 16, 17]) (by kernel_rfl)) p_1 ⟨hj1, by rw [List.drop_zero]; exact hfold, Nat.zero_le _⟩ ?_) ?_
   ·rintro ⟨i, s, Es⟩ M_3 a_11 w_2 hM3 ⟨hjs, hfs, hi⟩ f_11 p_2
    dsimp only at hjs hfs hi
    replace f_11 : Frm 30 [(0, .pointer (some ad)), (1, .pointer (some ⟨by_, 0, none⟩)), (2, .pointer (some ⟨bs, 0, none⟩)), (16, .int .i64 ((v.fList.length : Nat) : Int)), (17, .int .i64 (i : Int))] a_11 := f_11
    replace p_2 : Hp w0 M_3 (Es ++ H) w_2 := p_2
    refine R_seq ?_
    refine R_reg ?_
    refine W_run (L' := [(0, .pointer (some ad)), (1, .pointer (some ⟨by_, 0, none⟩)), (2, .pointer (some ⟨bs, 0, none⟩)), (16, .int .i64 ((v.fList.length : Nat) : Int)), (17, .int .i64 (i : Int)), (18, .bool (decide ((i : Int) < ((v.fList.length : Nat) : Int))))]) (w' := w_2) f_11 1 [0, 1, 2, 16, 17, 18] (by kernel_rfl) (fun a_12 f_12 => ?_)
    refine W_end rfl ?_
    refine T_n ?_
    refine R_seq ?_
    refine R_cond f_12 (b := decide ((i : Int) < ((v.fList.length : Nat) : Int))) (by kernel_rfl) (by kernel_rfl) (fun h_3 => ?_) (fun h_3 => ?_)
    ·have k_1 : i < v.fList.length := by have := of_decide_eq_true h_3; omega
     refine wp_skip ?_
     refine T_n ?_
     refine R_seq ?_
     refine wp_block ?_
     refine R_seq ?_
     refine R_reg ?_
     refine W_run (L' := [(0, .pointer (some ad)), (1, .pointer (some ⟨by_, 0, none⟩)), (2, .pointer (some ⟨bs, 0, none⟩)), (5, .int .i64 (i : Int)), (16, .int .i64 ((v.fList.length : Nat) : Int)), (17, .int .i64 (i : Int))]) (w' := w_2) f_12 2 [0, 1, 2, 5, 16, 17] (by kernel_rfl) (fun a_13 f_13 => ?_)
     refine W_end rfl ?_
     refine T_n ?_
     have hx : v.fList[i]? = some v.fList[i] := List.getElem?_eq_getElem k_1
     have hgx : getI v.fList (i : Int) = some v.fList[i] := by unfold getI; rw [if_pos (by omega)]; exact hx
     rw [walkVs_drop hx, foldY_app] at hfs
     obtain ⟨r2, hr2, hfs⟩ := Option.bind_eq_some_iff.1 hfs
     obtain ⟨ad_1, c_1, e_1, hl_1, hr_1, hc_1⟩ := Sli.at_ (h_1.mono hM3) hgx
     refine R_seq ?_
     refine R_drawT 7 p_2 (by kernel_rfl) (by kernel_rfl) (fun w_3 p_3 => ?_)
     refine ST_eq (v := .func (.func 42) #[] #[.pointer (some ⟨by_, 0, none⟩), .pointer (some ⟨bs, 0, none⟩)]) f_13 (by kernel_rfl) (by kernel_rfl) rfl rfl (X_load1 (v := .func (.func 42) #[] #[.pointer (some ⟨by_, 0, none⟩), .pointer (some ⟨bs, 0, none⟩)]) rfl (ad := ⟨bs, 0, none⟩) (by kernel_rfl) (by kernel_rfl) (p_3.cell (hM3.cell hbs))) (fun a_14 f_14 => ?_)
     refine ST_eq (v := .pointer (some ad)) f_14 (by kernel_rfl) (by kernel_rfl) rfl rfl (by kernel_rfl) (fun a_15 f_15 => ?_)
     refine ST_eq (v := .pointer (some ad)) f_15 (by kernel_rfl) (by kernel_rfl) rfl rfl (by kernel_rfl) (fun a_16 f_16 => ?_)
     refine ST_eq (v := .pointer (some (ad.add 4))) f_16 (by kernel_rfl) (by kernel_rfl) rfl rfl (by kernel_rfl) (fun a_17 f_17 => ?_)
     refine ST_eq (v := .slice A_1 v.fList.length cap_1) f_17 (by kernel_rfl) (by kernel_rfl) rfl rfl (X_load1 (v := .slice A_1 v.fList.length cap_1) rfl (ad := ad.add 4) (by kernel_rfl) (by kernel_rfl) (p_3.cell (hM3.cell (q0 4 _ rfl)))) (fun a_18 f_18 => ?_)
     refine ST_eq (v := .int .i64 (i : Int)) f_18 (by kernel_rfl) (by kernel_rfl) rfl rfl (by kernel_rfl) (fun a_19 f_19 => ?_)
     refine ST_eq (v := .pointer (some (ad_1.add ((i : Int).toNat * 6)))) f_19 (by kernel_rfl) (by kernel_rfl) rfl rfl (X_indexAddrA e_1 rfl (len := v.fList.length) (cap := cap_1) (k := .i64) (i := (i : Int)) (by kernel_rfl) (by kernel_rfl) (e := 26) (by kernel_rfl) (sz := 6) (by kernel_rfl) (getI_nn hgx) (getI_lt hgx)) (fun a_20 f_20 => ?_)
     refine ST_end rfl ?_
     have hcall := walkIns by_ bs l Y J Jx hJ hY m v.fList[i] (by have := part_small (v := v) (List.getElem_mem k_1); omega) (by
      have h1 := walkVs_mem (List.getElem_mem k_1)
      have h2 := hw0
      rw [walkV_eq, List.length_cons] at h2
      omega) s r2 hr2 M_3 _ c_1 hr_1 hc_1 (hM3.cell hby) (hM3.cell hbs) w0 M_3 Es H w_3 (Mem.le_refl _) hjs p_3
     refine W_call (R := fun v w' => ∃ M' E', M_3.le M' ∧ Hp w0 M' (E' ++ H) w' ∧ match r2 with
      | .nx s' => v = .bool true ∧ J s' M' E'
      | .br b => v = .bool false ∧ Jx b M' E') f_20 (by kernel_rfl) (by kernel_rfl) rfl rfl (by kernel_rfl) (hcall.mono fun e w' ⟨M', E', g1, g2, g3⟩ => ?_) ?_
     ·cases r2 with
      | nx s' => exact ⟨_, g3.1, M', E', g1, g2, rfl, g3.2⟩
      | br b => exact ⟨_, g3.1, M', E', g1, g2, rfl, g3.2⟩
     rintro v_1 w_4 ⟨M4, E4, hM4, p_4, g4⟩ a_21 f_21
     cases r2 with
     | br b =>
      obtain ⟨rfl, hjx⟩ := g4
      obtain rfl := Option.some.inj hfs
      refine W_run (L' := [(28, .bool true)]) (w' := w_4) f_21 1 [28] (by kernel_rfl) (fun a_22 f_22 => ?_)
      refine W_end rfl ?_
      refine T_n ?_
      refine R_cond_t f_22 (by kernel_rfl) (by kernel_rfl) ?_
      refine R_seq ?_
      refine R_reg ?_
      refine W_run (L' := [(4, .bool false)]) (w' := w_4) f_22 1 [4] (by kernel_rfl) (fun a_23 f_23 => ?_)
      refine W_end rfl ?_
      refine T_n ?_
      refine wp_ret ?_
      refine B_r ?_
      refine T_r ?_
      refine T_r ?_
      exact .inr ⟨rfl, b, M4, E4, rfl, hM2.trans (hM3.trans hM4), hjx, f_23, p_4⟩
     | nx s2 =>
      obtain ⟨rfl, hj2⟩ := g4
      replace hfs : foldY Y (walkVs (v.fList.drop (i + 1))) s2 = some r := hfs
      refine W_run (L' := [(0, .pointer (some ad)), (1, .pointer (some ⟨by_, 0, none⟩)), (2, .pointer (some ⟨bs, 0, none⟩)), (16, .int .i64 ((v.fList.length : Nat) : Int)), (17, .int .i64 (i : Int)), (28, .bool false)]) (w' := w_4) f_21 1 [0, 1, 2, 16, 17, 28] (by kernel_rfl) (fun a_22 f_22 => ?_)
      refine W_end rfl ?_
      refine T_n ?_
      refine R_cond_f f_22 (by kernel_rfl) (by kernel_rfl) ?_
      refine wp_skip ?_
      refine B_n ?_
      refine T_n ?_
      refine R_reg ?_
      have hin : inR .i64 ((i : Int) + 1) := inR_mk.2 ⟨by omega, by omega⟩
      refine W_run (L' := [(0, .pointer (some ad)), (1, .pointer (some ⟨by_, 0, none⟩)), (2, .pointer (some ⟨bs, 0, none⟩)), (16, .int .i64 ((v.fList.length : Nat) : Int)), (29, .int .i64 (IntKind.wrap .i64 ((i : Int) + 1)))]) (w' := w_4) f_22 1 [0, 1, 2, 16, 29] (by kernel_rfl) (fun a_23 f_23 => ?_)
      have f_24 := Frm.set f_23 29 (v := .int .i64 (IntKind.wrap .i64 ((i : Int) + 1))) (v' := .int .i64 (((i + 1 : Nat) : Int))) (by kernel_rfl) (congrArg (Value.int .i64) ((inR_wrap hin).trans (by omega)))
      have f_25 : Frm 30 [(0, .pointer (some ad)), (1, .pointer (some ⟨by_, 0, none⟩)), (2, .pointer (some ⟨bs, 0, none⟩)), (16, .int .i64 ((v.fList.length : Nat) : Int)), (29, .int .i64 (((i + 1 : Nat) : Int)))] a_23 := f_24.keep (ks := [0, 1, 2, 16, 29]) (by kernel_rfl)
      refine W_run (L' := [(0, .pointer (some ad)), (1, .pointer (some ⟨by_, 0, none⟩)), (2, .pointer (some ⟨bs, 0, none⟩)), (16, .int .i64 ((v.fList.length : Nat) : Int)), (17, .int .i64 (((i + 1 : Nat) : Int)))]) (w' := w_4) f_25 1 [0, 1, 2, 16, 17] (by kernel_rfl) (fun a_26 f_26 => ?_)
      refine W_end rfl ?_
      refine T_n ?_
      exact ⟨(i + 1, s2, E4), by dsimp only; omega, M4, hM3.trans hM4, ⟨hj2, hfs, by dsimp only; omega⟩, f_26, p_4⟩
    ·have k_1 : ¬ (i < v.fList.length) := fun h => by
      have := of_decide_eq_false h_3
      omega
     refine wp_exit ?_
     refine T_x ?_
     refine T_x ?_
     have : v.fList.drop i = [] := List.drop_eq_nil_of_le (by omega)
     rw [this] at hfs
     obtain rfl := Option.some.inj hfs
     exact .inl ⟨rfl, s, M_3, Es, rfl, hM2.trans hM3, hjs, f_12.keep (ks := [0]) (by kernel_rfl), p_2⟩
   ·rintro _ a_24 w_4 (⟨rfl, s', M', E', rfl, g1, g2, f_29, p_3⟩ | ⟨rfl, b, M', E', rfl, g1, g2, f_29, p_3⟩)
    ·refine B_x ?_
     refine T_n ?_
     refine R_seq ?_
     refine R_reg ?_
     refine W_run (L' := [(4, .bool true)]) (w' := w_4) f_29 1 [4] (by kernel_rfl) (fun a_25 f_30 => ?_)
     refine W_end rfl ?_
     refine T_n ?_
     refine wp_ret ?_
     refine E_ret1 f_30 rfl (by kernel_rfl : Vc.look _ 4 = some (.bool true)) ?_
     exact ⟨M', E', g1, p_3, rfl, g2⟩
    ·refine B_r ?_
     refine T_r ?_
     refine E_ret1 f_29 rfl (by kernel_rfl : Vc.look _ 4 = some (.bool false)) ?_
     exact ⟨M', E', g1, p_3, rfl, g2⟩
end Go.Proofs.YtfaedhhjamaniaaDoor
end

section
namespace Go.Vc
open Go
theorem bnd {α β : Type} (x : α) (f : α → Option β) : (some x).bind f = f x := (Option.bind_some x f).trans (Eq.refl _)
theorem cT {α : Type} (x y : α) : (bif true then x else y) = x := (cond_true x y).trans (Eq.refl _)
theorem cF {α : Type} (x y : α) : (bif false then x else y) = y := (cond_false x y).trans (Eq.refl _)
theorem getI_at {α : Type} {xs : List α} {k : Nat} (d : α) (h : k < xs.length) : getI xs (k : Int) = some (xs.getD k d) := by
 unfold getI
 rw [if_pos (by omega)]
 simp [List.getD, h]
theorem inR_small {x : Int} (h0 : -1000000000000 ≤ x) (h1 : x ≤ 1000000000000) : inR .i64 x := inR_mk.2 ⟨by omega, by omega⟩
theorem need_i {α : Type} {x : Int} {y : Option α} (h0 : -1000000000000 ≤ x) (h1 : x ≤ 1000000000000) : need (inR .i64 x) y = y := need_t (inR_small h0 h1)
section
variable {σ β : Type} {step : σ → Option (Lp σ β)} {n : Nat}
theorem loop_run (f : Nat → σ) (p : Nat → Option β) (len : Nat) (e : β) (hs : ∀ k, k < len → step (f k) = some (match p k with | some b => .br b | none => .nx (f (k + 1)))) (he : step (f len) = some (.br e)) (hn : len < n) :
  loopF step n (f 0) = some (((List.range len).findSome? p).getD e) := by
 have key : ∀ m k, k + m = len → ∀ n, m < n → loopF step n (f k) = some (((List.range' k m).findSome? p).getD e) := by
  intro m
  induction m with
  | zero =>
   intro k hk n hn
   obtain ⟨n, rfl⟩ : ∃ q, n = q + 1 := ⟨n - 1, by omega⟩
   have : k = len := by omega
   subst this
   simp [loopF, he]
  | succ m ih =>
   intro k hk n hn
   obtain ⟨n, rfl⟩ : ∃ q, n = q + 1 := ⟨n - 1, by omega⟩
   have h1 := hs k (by omega)
   rw [loopF, h1, Option.bind_some, List.range'_succ, List.findSome?_cons]
   cases p k with
   | some b => rfl
   | none => exact ih (k + 1) (by omega) n (by omega)
 have := key len 0 (by omega) n hn
 rwa [← List.range_eq_range'] at this
theorem loop_all (f : Nat → σ) (len : Nat) (e : β) (hs : ∀ k, k < len → step (f k) = some (.nx (f (k + 1)))) (he : step (f len) = some (.br e)) (hn : len < n) : loopF step n (f 0) = some e := by
 have := loop_run f (fun _ => none) len e hs he hn
 rw [this]
 have : (List.range len).findSome? (fun _ => (none : Option β)) = none := by simp
 rw [this]; rfl
theorem loop_any {step : Int → Option (Lp Int β)} (q : Nat → Bool) (len : Nat) (b e : β) (hs : ∀ k : Nat, k < len → step (k : Int) = if q k then some (.br b) else some (.nx ((k : Int) + 1))) (he : step (len : Int) = some (.br e)) (hn : len < n) :
  loopF step n 0 = some (bif (List.range len).any q then b else e) := by
 have := loop_run (n := n) (fun k => (k : Int)) (fun k => if q k then some b else none) len e (fun k hk => by
  rw [hs k hk]
  by_cases h : q k = true <;> simp [h]) he hn
 have e0 : ((0 : Nat) : Int) = 0 := rfl
 simp only [e0] at this
 rw [this]
 congr 1
 cases h : (List.range len).any q with
 | true =>
  cases h2 : (List.range len).findSome? (fun k => if q k = true then some b else none) with
  | some x =>
   obtain ⟨k, hk, hx⟩ := List.exists_of_findSome?_eq_some h2
   by_cases hq : q k = true
   ·simp [hq] at hx; simp [hx]
   ·simp [hq] at hx
  | none =>
   rw [List.findSome?_eq_none_iff] at h2
   obtain ⟨k, hk, hq⟩ := List.any_eq_true.1 h
   have := h2 k hk
   simp [hq] at this
 | false =>
  have : (List.range len).findSome? (fun k => if q k = true then some b else none) = none := by
   rw [List.findSome?_eq_none_iff]
   intro k hk
   have := List.any_eq_false.1 h k hk
   simp [this]
  rw [this]; rfl
theorem loop_inv (I : Nat → σ → Prop) (post : β → Prop) (len : Nat) {s0 : σ} (h0 : I 0 s0)
  (hs : ∀ k s, k < len → I k s → (∃ s', step s = some (.nx s') ∧ I (k + 1) s') ∨ ∃ b, step s = some (.br b) ∧ post b)
  (he : ∀ s, I len s → ∃ b, step s = some (.br b) ∧ post b) (hn : len < n) : ∃ b, loopF step n s0 = some b ∧ post b := by
 have key : ∀ m k s, k + m = len → I k s → ∀ n, m < n → ∃ b, loopF step n s = some b ∧ post b := by
  intro m
  induction m with
  | zero =>
   intro k s hk hI n hn
   obtain ⟨n, rfl⟩ : ∃ q, n = q + 1 := ⟨n - 1, by omega⟩
   have : k = len := by omega
   subst this
   obtain ⟨b, h1, h2⟩ := he s hI
   exact ⟨b, by simp [loopF, h1], h2⟩
  | succ m ih =>
   intro k s hk hI n hn
   obtain ⟨n, rfl⟩ : ∃ q, n = q + 1 := ⟨n - 1, by omega⟩
   rcases hs k s (by omega) hI with ⟨s', h1, h2⟩ | ⟨b, h1, h2⟩
   ·obtain ⟨b, h3, h4⟩ := ih (k + 1) s' (by omega) h2 n (by omega)
    exact ⟨b, by simp [loopF, h1, h3], h4⟩
   ·exact ⟨b, by simp [loopF, h1], h2⟩
 exact key len 0 s0 (by omega) h0 n hn
end
theorem any_range {α : Type} (d : α) (q : α → Bool) (xs : List α) : ((List.range xs.length).any fun k => q (xs.getD k d)) = xs.any q := by
 rw [Bool.eq_iff_iff, List.any_eq_true, List.any_eq_true]
 constructor
 ·rintro ⟨k, hk, h⟩
  have hk' : k < xs.length := by simpa using hk
  exact ⟨xs[k], List.getElem_mem hk', by simpa [List.getD, hk'] using h⟩
 ·rintro ⟨x, hx, h⟩
  obtain ⟨k, hk, rfl⟩ := List.mem_iff_getElem.1 hx
  exact ⟨k, by simpa using hk, by simpa [List.getD, hk] using h⟩
theorem mpS {α β : Type} (x : α) (f : α → β) : (some x).map f = some (f x) := (Option.map_some x f).trans (Eq.refl _)
theorem jN {τ Λ : Type} (x : τ) (k : τ → Option Λ) : joinF (.nx x) k = k x := (Eq.refl (joinF (.nx x) k)).trans (Eq.refl _)
theorem jB {τ Λ : Type} (l : Λ) (k : τ → Option Λ) : joinF (.br l) k = some l := (Eq.refl (joinF (.br l) k)).trans (Eq.refl _)
theorem dec_cases (l : List UInt8) (hne : l ≠ []) :
  (Lib.decodeL l = (65533, 1) ∧ 128 ≤ (l.getD 0 0).toNat) ∨
  ∃ r w, Lib.decodeL l = (r, w) ∧ w ≤ l.length ∧ 1 ≤ w ∧ w ≤ 4 ∧ (∀ j, 1 ≤ j → j < w → (l.getD j 0).toNat / 64 = 2) ∧ ((w = 1 ∧ (l.getD 0 0).toNat < 128 ∧ r = (l.getD 0 0).toNat) ∨ (1 < w ∧ 128 ≤ r ∧ 192 ≤ (l.getD 0 0).toNat)) ∧ r ≤ 1114111 := by
 have hl : 0 < l.length := List.length_pos_iff.2 hne
 rw [Lib.decodeL_N]
 rcases Lib.decodeN_shape l.length (l.getD 0 0).toNat (l.getD 1 0).toNat (l.getD 2 0).toNat (l.getD 3 0).toNat with ⟨c, e⟩ | ⟨c1, c2, c3, cv, e⟩ | ⟨c1, c2, c3, c4, cv, cs, e⟩ | ⟨c1, c2, c3, c4, c5, cv, cw, e⟩ | e
 ·exact .inr ⟨_, _, e, by omega, by omega, by omega, fun j h1 h2 => by omega, .inl ⟨rfl, c, rfl⟩, by omega⟩
 ·refine .inr ⟨_, _, e, by omega, by omega, by omega, fun j h1 h2 => ?_, .inr ⟨by omega, by omega, by omega⟩, by omega⟩
  obtain rfl : j = 1 := by omega
  exact c3
 ·refine .inr ⟨_, _, e, by omega, by omega, by omega, fun j h1 h2 => ?_, .inr ⟨by omega, by omega, by omega⟩, by omega⟩
  obtain rfl | rfl : j = 1 ∨ j = 2 := by omega
  ·exact c3
  ·exact c4
 ·refine .inr ⟨_, _, e, by omega, by omega, by omega, fun j h1 h2 => ?_, .inr ⟨by omega, by omega, by omega⟩, by omega⟩
  obtain rfl | rfl | rfl : j = 1 ∨ j = 2 ∨ j = 3 := by omega
  ·exact c3
  ·exact c4
  ·exact c5
 ·by_cases h : (l.getD 0 0).toNat < 128
  ·refine .inr ⟨_, _, Lib.decodeN_ascii _ _ _ _ _ h, by omega, by omega, by omega, fun j h1 h2 => by omega, .inl ⟨rfl, h, rfl⟩, by omega⟩
  ·exact .inl ⟨e, by omega⟩
end Go.Vc
end

section
namespace Go.Proofs.YtfaedhhjamaniaaDoor
open Go Go.Vc Go.RowKit
def ref03_Walk_s1 (n : Nat) (rec_ref03_Walk : TA0 → Option (List TA0)) (d0 : TA0) (s_1 : List TA0 × Int) : Option (Lp (List TA0 × Int) (List TA0)) :=
    bif (decide (s_1.2 < ((d0.fList.length : Nat) : Int))) then
      ((getI d0.fList s_1.2).bind fun x_1 =>
      (rec_ref03_Walk x_1).bind fun x_2 =>
      need ((s_1.1.length + x_2.length) * 80 ≤ 140737488355328) <|
      need (inR .i64 (s_1.2 + 1)) <|
      some (.nx (s_1.1 ++ x_2, s_1.2 + 1)))
    else
      some (.br s_1.1)
def ref03_Walk_b (n : Nat) (rec_ref03_Walk : TA0 → Option (List TA0)) (d0 : TA0) : Option (List TA0) :=
  (loopF (ref03_Walk_s1 n rec_ref03_Walk d0) n ([(⟨d0.fKind, (d0.fBool), d0.fNum, d0.fText, d0.fList, d0.fKeys⟩ : TA0)], (0 : Int))).bind fun y_1 =>
  some (y_1)
def ref03_Walk_k (n : Nat) : Nat → TA0 → Option (List TA0)
  | 0 => fun _ => none
  | k + 1 => ref03_Walk_b n (ref03_Walk_k n k)
end Go.Proofs.YtfaedhhjamaniaaDoor
end

section
namespace Go.Proofs
open Go.Shelf
def Tryd.lays106_ren : Go.Shelf.Ren := ⟨fun | 106 => 48 | 213 => 61 | 265 => 78 | n => n, fun | 9 => 9 | 3 => 3 | n => n, fun | n => n⟩
theorem Tryd.lays106 : Go.Proofs.Lays.n106 Tryd.prog Tryd.lays106_ren := {
 mixed := by kernel_rfl
 f106 := Tryd.func48.trans (congrArg some (by kernel_rfl))
 f213 := Tryd.func61.trans (congrArg some (by kernel_rfl))
 f265 := Tryd.func78.trans (congrArg some (by kernel_rfl))
 t3 := Tryd.underlying3
 a3 := Tryd.isAgg3
 z3 := Tryd.sizeOf3
 v3 := Tryd.zeroValue3
 t9 := Tryd.underlying9
 a9 := Tryd.isAgg9
 z9 := Tryd.sizeOf9
 v9 := Tryd.zeroValue9 }
open Go.RowKit in
theorem Tryd.strings_Compare (a b : ByteArray) (w : World) :
  Calls Tryd.prog 48 #[.string a, .string b] w fun e w' => e = .returned (.int .i64 (Lib.compareBytes a.data.toList b.data.toList)) ∧ w' = w := Any.strings_Compare Tryd.lays106 a b w
def Tryd.lays105_ren : Go.Shelf.Ren := ⟨fun | 105 => 81 | 212 => 87 | 99 => 88 | 165 => 89 | 166 => 49 | 170 => 24 | 169 => 25 | 263 => 91 | 264 => 92 | 206 => 93 | 240 => 62 | 241 => 94 | 276 => 79 | 277 => 95 | n => n, fun | 9 => 9 | 3 => 3 | 4 => 4 | 20 => 20 | 0 => 0 | 46 => 86 | 109 => 118 | 5 => 5 | 72 => 48 | 76 => 74 | 51 => 103 | 146 => 123 | 53 => 105 | 148 => 125 | 70 => 46 | 37 => 35 | 75 => 73 | 127 => 64 | 164 => 106 | 80 => 53 | n => n, fun | n => n⟩
theorem Tryd.lays105 : Go.Proofs.Lays.n105 Tryd.prog Tryd.lays105_ren := {
 mixed := by kernel_rfl
 f99 := Tryd.func88.trans (congrArg some (by kernel_rfl))
 f105 := Tryd.func81.trans (congrArg some (by kernel_rfl))
 f165 := Tryd.func89.trans (congrArg some (by kernel_rfl))
 f166 := Tryd.func49.trans (congrArg some (by kernel_rfl))
 f169 := Tryd.func25.trans (congrArg some (by kernel_rfl))
 f170 := Tryd.func24.trans (congrArg some (by kernel_rfl))
 f206 := Tryd.func93.trans (congrArg some (by kernel_rfl))
 f212 := Tryd.func87.trans (congrArg some (by kernel_rfl))
 f240 := Tryd.func62.trans (congrArg some (by kernel_rfl))
 f241 := Tryd.func94.trans (congrArg some (by kernel_rfl))
 f263 := Tryd.func91.trans (congrArg some (by kernel_rfl))
 f264 := Tryd.func92.trans (congrArg some (by kernel_rfl))
 f276 := Tryd.func79.trans (congrArg some (by kernel_rfl))
 f277 := Tryd.func95.trans (congrArg some (by kernel_rfl))
 t0 := Tryd.underlying0
 a0 := Tryd.isAgg0
 z0 := Tryd.sizeOf0
 v0 := Tryd.zeroValue0
 t3 := Tryd.underlying3
 a3 := Tryd.isAgg3
 z3 := Tryd.sizeOf3
 v3 := Tryd.zeroValue3
 t4 := Tryd.underlying4
 a4 := Tryd.isAgg4
 z4 := Tryd.sizeOf4
 v4 := Tryd.zeroValue4
 t5 := Tryd.underlying5
 a5 := Tryd.isAgg5
 z5 := Tryd.sizeOf5
 v5 := Tryd.zeroValue5
 t9 := Tryd.underlying9
 a9 := Tryd.isAgg9
 z9 := Tryd.sizeOf9
 v9 := Tryd.zeroValue9
 t20 := Tryd.underlying20
 a20 := Tryd.isAgg20
 z20 := Tryd.sizeOf20
 v20 := Tryd.zeroValue20
 t37 := Tryd.underlying35
 a37 := Tryd.isAgg35
 z37 := Tryd.sizeOf35
 v37 := Tryd.zeroValue35
 t46 := Tryd.underlying86
 a46 := Tryd.isAgg86
 z46 := Tryd.sizeOf86
 v46 := Tryd.zeroValue86
 t51 := Tryd.underlying103
 a51 := Tryd.isAgg103
 z51 := Tryd.sizeOf103
 v51 := Tryd.zeroValue103
 t53 := Tryd.underlying105
 a53 := Tryd.isAgg105
 z53 := Tryd.sizeOf105
 v53 := Tryd.zeroValue105
 t70 := Tryd.underlying46
 a70 := Tryd.isAgg46
 z70 := Tryd.sizeOf46
 v70 := Tryd.zeroValue46
 t72 := Tryd.underlying48
 a72 := Tryd.isAgg48
 z72 := Tryd.sizeOf48
 v72 := Tryd.zeroValue48
 t75 := Tryd.underlying73
 a75 := Tryd.isAgg73
 z75 := Tryd.sizeOf73
 v75 := Tryd.zeroValue73
 t76 := Tryd.underlying74
 a76 := Tryd.isAgg74
 z76 := Tryd.sizeOf74
 v76 := Tryd.zeroValue74
 t109 := Tryd.underlying118
 a109 := Tryd.isAgg118
 z109 := Tryd.sizeOf118
 v109 := Tryd.zeroValue118
 t127 := Tryd.underlying64
 a127 := Tryd.isAgg64
 z127 := Tryd.sizeOf64
 v127 := Tryd.zeroValue64
 t146 := Tryd.underlying123
 a146 := Tryd.isAgg123
 z146 := Tryd.sizeOf123
 v146 := Tryd.zeroValue123
 t148 := Tryd.underlying125
 a148 := Tryd.isAgg125
 z148 := Tryd.sizeOf125
 v148 := Tryd.zeroValue125
 t164 := Tryd.underlying106
 a164 := Tryd.isAgg106
 z164 := Tryd.sizeOf106
 v164 := Tryd.zeroValue106 }
theorem Tryd.Builder_Extra_105 : Builder.Extra Tryd.prog Tryd.lays105_ren := {
 sizeBuilder := by kernel_rfl
 liesBuilder := by kernel_rfl
 t5 := Tryd.underlying5
 a5 := Tryd.isAgg5
 z5 := Tryd.sizeOf5
 v5 := Tryd.zeroValue5
 infoByte := by kernel_rfl
 cellsByte := by kernel_rfl
 sizeByte := by kernel_rfl
 neB5 := by decide }
open Go.RowKit Go.Lib in
theorem Tryd.strings_Repeat (s : ByteArray) (c : Nat) (w : World) (hc : c ≤ 9223372036854775807) (hlen : s.size * c ≤ 140737488355328) :
  Calls Tryd.prog 81 #[.string s, .int .i64 c] w fun e w' => e = .returned (.string ⟨(Lib.repeatL s.data.toList c).toArray⟩) ∧ Below w.heap.size w w' := Any.strings_Repeat Tryd.lays105 Tryd.Builder_Extra_105 s c w hc hlen
end Go.Proofs
end

section
namespace Go.Proofs
open Go Go.Shelf
def Tryd.lays196_ren : Go.Shelf.Ren := ⟨fun | 196 => 57 | 259 => 67 | n => n, fun | 46 => 86 | 53 => 105 | 119 => 90 | 138 => 92 | 139 => 93 | n => n, fun | 3 => 0 | 4 => 1 | n => n⟩
theorem Tryd.lays196 : Go.Proofs.Lays.n196 Tryd.prog Tryd.lays196_ren := {
 mixed := by kernel_rfl
 f196 := Tryd.func57.trans (congrArg some (by kernel_rfl))
 f259 := Tryd.func67.trans (congrArg some (by kernel_rfl))
 t0 := Tryd.underlying0
 a0 := Tryd.isAgg0
 z0 := Tryd.sizeOf0
 v0 := Tryd.zeroValue0
 t3 := Tryd.underlying3
 a3 := Tryd.isAgg3
 z3 := Tryd.sizeOf3
 v3 := Tryd.zeroValue3
 t4 := Tryd.underlying4
 a4 := Tryd.isAgg4
 z4 := Tryd.sizeOf4
 v4 := Tryd.zeroValue4
 t5 := Tryd.underlying5
 a5 := Tryd.isAgg5
 z5 := Tryd.sizeOf5
 v5 := Tryd.zeroValue5
 t9 := Tryd.underlying9
 a9 := Tryd.isAgg9
 z9 := Tryd.sizeOf9
 v9 := Tryd.zeroValue9
 t12 := Tryd.underlying12
 a12 := Tryd.isAgg12
 z12 := Tryd.sizeOf12
 v12 := Tryd.zeroValue12
 t46 := Tryd.underlying86
 a46 := Tryd.isAgg86
 z46 := Tryd.sizeOf86
 v46 := Tryd.zeroValue86
 t53 := Tryd.underlying105
 a53 := Tryd.isAgg105
 z53 := Tryd.sizeOf105
 v53 := Tryd.zeroValue105
 t119 := Tryd.underlying90
 a119 := Tryd.isAgg90
 z119 := Tryd.sizeOf90
 t138 := Tryd.underlying92
 a138 := Tryd.isAgg92
 z138 := Tryd.sizeOf92
 v138 := Tryd.zeroValue92
 t139 := Tryd.underlying93
 a139 := Tryd.isAgg93
 z139 := Tryd.sizeOf93
 v139 := Tryd.zeroValue93
 g3 := by kernel_rfl
 g4 := by kernel_rfl }
end Go.Proofs
end

section
namespace Go.Proofs.YtfaedhhjamaniaaDoor
open Go Go.Vc Go.RowKit
def GL (M : Mem) : Prop := Tabs 0 1 M ∧ IntVar 2 M
theorem GL.mono {M M' : Mem} (hM : M.le M') (h : GL M) : GL M' := ⟨h.1.mono hM, h.2.mono hM⟩
def h_ValidString (_ : Nat) (d0 : List UInt8) : Option Bool := need ((d0.length : Int) ≤ 9223372036854775807) (some (Lib.validD d0))
theorem h_ValidString_ok (n : Nat) (M : Mem) (hG : GL M) (d0 : List UInt8) (r : Bool) (hF : h_ValidString n d0 = some r) : Ok Tryd.prog M 57 [S d0] (fun _ v => v = .bool r) := by
 unfold h_ValidString at hF
 obtain ⟨g, hF⟩ := need_some hF
 obtain rfl := Option.some.inj hF
 refine Ok.ofBelow fun M2 w0 H w hM hp => ?_
 exact Any.utf8_ValidString Tryd.lays196 (mkS d0) w (by have : (mkS d0).size = d0.length := rfl; omega) ((hG.1.mono hM).at hp)
theorem cb_self : ∀ a : List UInt8, Lib.compareBytes a a = 0
 | [] => rfl
 | x :: r => by simp [Lib.compareBytes, cb_self r]
theorem cb_eq : ∀ a b : List UInt8, Lib.compareBytes a b = 0 → a = b
 | [], [], _ => rfl
 | [], _ :: _, h => by simp [Lib.compareBytes] at h
 | _ :: _, [], h => by simp [Lib.compareBytes] at h
 | x :: r, y :: s, h => by
  unfold Lib.compareBytes at h
  by_cases h1 : x < y
  ·simp [h1] at h
  ·by_cases h2 : y < x
   ·simp [h1, h2] at h
   ·simp only [h1, h2, if_false] at h
    have hxy : x = y := UInt8.toNat_inj.1 (by rw [UInt8.lt_iff_toNat_lt] at h1 h2; omega)
    rw [hxy, cb_eq r s h]
theorem cb_anti : ∀ a b : List UInt8, Lib.compareBytes b a = - Lib.compareBytes a b
 | [], [] => rfl
 | [], _ :: _ => rfl
 | _ :: _, [] => rfl
 | x :: r, y :: s => by
  unfold Lib.compareBytes
  by_cases h1 : x < y
  ·have h2 : ¬ y < x := by rw [UInt8.lt_iff_toNat_lt] at h1 ⊢; omega
   simp [h1, h2]
  ·by_cases h2 : y < x
   ·simp [h1, h2]
   ·simp [h1, h2, cb_anti r s]
theorem cb_trans : ∀ a b c : List UInt8, Lib.compareBytes a b ≤ 0 → Lib.compareBytes b c ≤ 0 → Lib.compareBytes a c ≤ 0 ∧ (Lib.compareBytes a b < 0 ∨ Lib.compareBytes b c < 0 → Lib.compareBytes a c < 0)
 | [], [], c, h1, h2 => ⟨h2, fun h => h.elim (fun h => absurd h (by simp [Lib.compareBytes])) id⟩
 | [], _ :: _, [], h1, h2 => absurd h2 (by simp [Lib.compareBytes])
 | [], _ :: _, _ :: _, h1, h2 => by simp [Lib.compareBytes]
 | _ :: _, [], _, h1, h2 => absurd h1 (by simp [Lib.compareBytes])
 | _ :: _, _ :: _, [], h1, h2 => absurd h2 (by simp [Lib.compareBytes])
 | x :: r, y :: s, z :: t, h1, h2 => by
  have ih := cb_trans r s t
  unfold Lib.compareBytes at h1 h2 ⊢
  by_cases a1 : x < y
  ·by_cases b1 : y < z
   ·have : x < z := by rw [UInt8.lt_iff_toNat_lt] at *; omega
    simp [this]
   ·by_cases b2 : z < y
    ·simp [b1, b2] at h2
    ·have : x < z := by rw [UInt8.lt_iff_toNat_lt] at *; omega
     simp [this]
  ·by_cases a2 : y < x
   ·simp [a1, a2] at h1
   ·have hxy : x = y := UInt8.toNat_inj.1 (by rw [UInt8.lt_iff_toNat_lt] at a1 a2; omega)
    subst hxy
    by_cases b1 : x < z
    ·simp [b1]
    ·by_cases b2 : z < x
     ·simp [b1, b2] at h2
     ·simp only [a1, b1, b2, if_false] at h1 h2 ⊢
      exact ih h1 h2
theorem repInts {M : Mem} {k : IntKind} : ∀ {d : List Int} {cs : List Value}, RepSeq M (d.map (Dat.int k)) cs → cs = d.map (Value.int k)
 | [], cs, h => h
 | x :: r, cs, h => by
  obtain ⟨c1, c2, rfl, h1, h2⟩ := h
  have h1' : c1 = [.int k x] := h1
  rw [h1', repInts h2]
  rfl
theorem intsRep {M : Mem} {k : IntKind} : ∀ d : List Int, RepSeq M (d.map (Dat.int k)) (d.map (Value.int k))
 | [] => rfl
 | x :: r => ⟨[.int k x], r.map (Value.int k), rfl, rfl, intsRep r⟩
section
variable {P : Program} {ops : Array Oper} {K : Act → Prop} {C : World → Prop} {L : Fr} {n : Nat} {dd : List Deferred} {a : Act}
theorem Q_pure {o : Oper} {rest : List Oper} {d : Nat} {f : FuncId} {args : List Value} {v : Value} (hf : Frm n L a dd) (hw : wantedL ops L o = some true) (hr : readyL L o = true)
  (hd : o.dst = some d) (hdn : Nat.blt d n = true) (hx : ∀ w, (execOp (ev L) o).run P w = .ok (.enter f args.toArray) w) (hc : ∀ w, Calls P f args.toArray w fun e w' => e = .returned v ∧ w' = w)
  (hk : ∀ a', Frm n ((d, v) :: L) a' dd → wpQuiet P ops C K rest a') : wpQuiet P ops C K (o :: rest) a := by
 simp only [wpQuiet]
 rw [hf.wanted hw, if_pos rfl]
 refine ⟨v, fun w hC => ?_, ?_⟩
 ·unfold Oper.quietAt
  rw [hf.exec hr, hx w]
  exact ⟨rfl, (hc w).mono fun e w' ⟨he, hw'⟩ => ⟨he, hw' ▸ hC⟩⟩
 ·rw [hd]; exact hk _ (hf.put (by simpa [Nat.blt_eq] using hdn) v)
end
set_option maxRecDepth 100000 in
theorem order1_calls {w0 : World} {M : Mem} {H : List Ent} {W : World} (hp : Hp w0 M H W) {bA ad0 : Addr} {v : TA0} {c0 : List Value} (h0 : Rep M (emb_TA0 v) c0) (q0 : ∀ j u, c0[j]? = some u → M.cell? (ad0.add j) = some u)
  (hb : M.cell? bA = some (.pointer (some ad0))) (x y : Int) (kx ky : List UInt8) (hx : getI v.fKeys x = some kx) (hy : getI v.fKeys y = some ky) :
  Calls Tryd.prog 47 [.int .i64 x, .int .i64 y, .pointer (some bA)].toArray W fun e w' => e = .returned (.int .i64 (Lib.compareBytes kx ky)) ∧ ∃ q, w' = W.drewN q := by
 obtain ⟨A_1, cap_1, A_2, cap_2, rfl, h_1, h_2⟩ := TA0.opn h0
 refine R_enter 21 Tryd.func47 rfl rfl (by simp) (fun a0 f0 => ?_)
 replace f0 : Frm 21 [(0, .int .i64 x), (1, .int .i64 y), (2, .pointer (some bA))] a0 := f0
 refine R_seq ?_
 refine R_reg ?_
 refine W_run (L' := [(0, .int .i64 x), (1, .int .i64 y), (2, .pointer (some bA)), (5, .int .i64 0)]) (w' := W) f0 1 [0, 1, 2, 5] (by kernel_rfl) (fun a_1 f_1 => ?_)
 refine W_end rfl ?_
 refine T_n ?_
 refine R_seq ?_
 refine wp_region_quiet (C := fun w' => ∃ n, w' = W.drewN n) (by kernel_rfl) (by kernel_rfl) ⟨1, rfl⟩ ?_
 refine Q_eq (v := .pointer (some ad0)) f_1 (by kernel_rfl) (by kernel_rfl) rfl rfl (fun _ pq => by obtain ⟨n, rfl⟩ := pq; exact X_load1 (v := .pointer (some ad0)) rfl (ad := bA) (by kernel_rfl) (by kernel_rfl) ((hp.drewN n).cell hb)) (fun a_2 f_2 => ?_)
 refine Q_eq (v := .pointer (some ad0)) f_2 (by kernel_rfl) (by kernel_rfl) rfl rfl (fun _ _ => by kernel_rfl) (fun a_3 f_3 => ?_)
 refine Q_eq (v := .pointer (some (ad0.add 5))) f_3 (by kernel_rfl) (by kernel_rfl) rfl rfl (fun _ _ => by kernel_rfl) (fun a_4 f_4 => ?_)
 refine Q_eq (v := .slice A_2 v.fKeys.length cap_2) f_4 (by kernel_rfl) (by kernel_rfl) rfl rfl (fun _ pq => by obtain ⟨n, rfl⟩ := pq; exact X_load1 (v := .slice A_2 v.fKeys.length cap_2) rfl (ad := ad0.add 5) (by kernel_rfl) (by kernel_rfl) ((hp.drewN n).cell (q0 5 _ rfl))) (fun a_5 f_5 => ?_)
 refine Q_eq (v := .int .i64 x) f_5 (by kernel_rfl) (by kernel_rfl) rfl rfl (fun _ _ => by kernel_rfl) (fun a_6 f_6 => ?_)
 obtain ⟨ad_1, c_1, e_1, hl_1, hr_1, hc_1⟩ := Sli.at_ h_2 hx
 obtain rfl : c_1 = [S kx] := hr_1
 refine Q_eq (v := .pointer (some (ad_1.add (x.toNat * 1)))) f_6 (by kernel_rfl) (by kernel_rfl) rfl rfl (fun _ pq => X_indexAddrA e_1 rfl (len := v.fKeys.length) (cap := cap_2) (k := .i64) (i := x) (by kernel_rfl) (by kernel_rfl) (e := 9) (by kernel_rfl) (sz := 1) (by kernel_rfl) (getI_nn hx) (getI_lt hx)) (fun a_7 f_7 => ?_)
 refine Q_eq (v := S kx) f_7 (by kernel_rfl) (by kernel_rfl) rfl rfl (fun _ pq => by obtain ⟨n, rfl⟩ := pq; exact X_load1 (v := S kx) rfl (ad := ad_1.add (x.toNat * 1)) (by kernel_rfl) (by kernel_rfl) ((hp.drewN n).cell (hc_1 0 _ rfl))) (fun a_8 f_8 => ?_)
 refine Q_eq (v := .pointer (some ad0)) f_8 (by kernel_rfl) (by kernel_rfl) rfl rfl (fun _ pq => by obtain ⟨n, rfl⟩ := pq; exact X_load1 (v := .pointer (some ad0)) rfl (ad := bA) (by kernel_rfl) (by kernel_rfl) ((hp.drewN n).cell hb)) (fun a_9 f_9 => ?_)
 refine Q_eq (v := .pointer (some ad0)) f_9 (by kernel_rfl) (by kernel_rfl) rfl rfl (fun _ _ => by kernel_rfl) (fun a_10 f_10 => ?_)
 refine Q_eq (v := .pointer (some (ad0.add 5))) f_10 (by kernel_rfl) (by kernel_rfl) rfl rfl (fun _ _ => by kernel_rfl) (fun a_11 f_11 => ?_)
 refine Q_eq (v := .slice A_2 v.fKeys.length cap_2) f_11 (by kernel_rfl) (by kernel_rfl) rfl rfl (fun _ pq => by obtain ⟨n, rfl⟩ := pq; exact X_load1 (v := .slice A_2 v.fKeys.length cap_2) rfl (ad := ad0.add 5) (by kernel_rfl) (by kernel_rfl) ((hp.drewN n).cell (q0 5 _ rfl))) (fun a_12 f_12 => ?_)
 refine Q_eq (v := .int .i64 y) f_12 (by kernel_rfl) (by kernel_rfl) rfl rfl (fun _ _ => by kernel_rfl) (fun a_13 f_13 => ?_)
 obtain ⟨ad_2, c_2, e_2, hl_2, hr_2, hc_2⟩ := Sli.at_ h_2 hy
 obtain rfl : c_2 = [S ky] := hr_2
 refine Q_eq (v := .pointer (some (ad_2.add (y.toNat * 1)))) f_13 (by kernel_rfl) (by kernel_rfl) rfl rfl (fun _ pq => X_indexAddrA e_2 rfl (len := v.fKeys.length) (cap := cap_2) (k := .i64) (i := y) (by kernel_rfl) (by kernel_rfl) (e := 9) (by kernel_rfl) (sz := 1) (by kernel_rfl) (getI_nn hy) (getI_lt hy)) (fun a_14 f_14 => ?_)
 refine Q_eq (v := S ky) f_14 (by kernel_rfl) (by kernel_rfl) rfl rfl (fun _ pq => by obtain ⟨n, rfl⟩ := pq; exact X_load1 (v := S ky) rfl (ad := ad_2.add (y.toNat * 1)) (by kernel_rfl) (by kernel_rfl) ((hp.drewN n).cell (hc_2 0 _ rfl))) (fun a_15 f_15 => ?_)
 refine Q_pure (v := .int .i64 (Lib.compareBytes kx ky)) (args := [S kx, S ky]) f_15 (by kernel_rfl) (by kernel_rfl) rfl rfl (fun _ => by kernel_rfl) (fun w => Tryd.strings_Compare (mkS kx) (mkS ky) w) (fun a_16 f_16 => ?_)
 refine Q_eq (v := .int .i64 (Lib.compareBytes kx ky)) f_16 (by kernel_rfl) (by kernel_rfl) rfl rfl (fun _ _ => by kernel_rfl) (fun a_17 f_17 => ?_)
 refine Q_end rfl ?_
 rintro w' ⟨q, rfl⟩
 refine T_n ?_
 refine wp_ret ?_
 refine E_ret1 f_17 rfl (by kernel_rfl : Vc.look _ 5 = some (.int .i64 (Lib.compareBytes kx ky))) ?_
 exact ⟨rfl, q, rfl⟩
def ref03_Count_s1 (n : Nat) (rec_ref03_Count : TA0 → Option Int) (d0 : TA0) (s_1 : Int × Int) : Option (Lp (Int × Int) Int) :=
    bif (decide (s_1.2 < ((d0.fList.length : Nat) : Int))) then
      ((getI d0.fList s_1.2).bind fun x_1 =>
      (rec_ref03_Count x_1).bind fun x_2 =>
      need (inR .i64 (s_1.1 + x_2)) <|
      need (inR .i64 (s_1.2 + 1)) <|
      some (.nx (s_1.1 + x_2, s_1.2 + 1)))
    else
      some (.br s_1.1)
def ref03_Count_b (n : Nat) (rec_ref03_Count : TA0 → Option Int) (d0 : TA0) : Option Int :=
  (loopF (ref03_Count_s1 n rec_ref03_Count d0) n ((1 : Int), (0 : Int))).bind fun y_1 =>
  some (y_1)
def ref03_Count_k (n : Nat) : Nat → TA0 → Option Int
  | 0 => fun _ => none
  | k + 1 => ref03_Count_b n (ref03_Count_k n k)
def ref03_Count (n : Nat) (d0 : TA0) : Option Int := ref03_Count_k n n d0
def ref03_deeper_s1 (n : Nat) (rec_ref03_deeper : TA0 → Int → Option Bool) (d0 : TA0) (d1 : Int) (s_1 : Int) : Option (Lp Int (Sum Unit Unit)) :=
    bif (decide (s_1 < ((d0.fList.length : Nat) : Int))) then
      ((getI d0.fList s_1).bind fun x_1 =>
      need (inR .i64 (d1 - 1)) <|
      (rec_ref03_deeper x_1 (d1 - 1)).bind fun x_2 =>
      bif x_2 then
        (some (.br (.inl ())))
      else
        need (inR .i64 (s_1 + 1)) <|
        some (.nx (s_1 + 1)))
    else
      some (.br (.inr ()))
def ref03_deeper_b (n : Nat) (rec_ref03_deeper : TA0 → Int → Option Bool) (d0 : TA0) (d1 : Int) : Option Bool :=
  bif (decide (d1 = 0)) then
    (some ((true)))
  else
    (loopF (ref03_deeper_s1 n rec_ref03_deeper d0 d1) n (0 : Int)).bind fun b_2 =>
    (match b_2 with 
    | .inl y_1 => some ((true)) 
    | .inr y_2 => some ((false)))
def ref03_deeper_k (n : Nat) : Nat → TA0 → Int → Option Bool
  | 0 => fun _ _ => none
  | k + 1 => ref03_deeper_b n (ref03_deeper_k n k)
def ref03_deeper (n : Nat) (d0 : TA0) (d1 : Int) : Option Bool := ref03_deeper_k n n d0 d1
def ref03_plain (n : Nat) (d0 : TA0) : Option Bool :=
  ((bif (decide (d0.fKind < 0)) then
      (some ((true)))
    else
      some ((decide ((5 : Int) < d0.fKind))) : Option Bool)).bind fun y_1 =>
  bif y_1 then
    (some ((false)))
  else
    ((bif d0.fBool then
        (bif (!(decide (d0.fKind = 1))) then
          (some ((true)))
        else
          bif (!(decide (d0.fNum = 0))) then
            (bif (!(decide (d0.fKind = 2))) then
              (some ((true)))
            else
              bif (!(decide (d0.fText = []))) then
                (some ((!(decide (d0.fKind = 3)))))
              else
                some ((false)))
          else
            bif (!(decide (d0.fText = []))) then
              (some ((!(decide (d0.fKind = 3)))))
            else
              some ((false)))
      else
        bif (!(decide (d0.fNum = 0))) then
          (bif (!(decide (d0.fKind = 2))) then
            (some ((true)))
          else
            bif (!(decide (d0.fText = []))) then
              (some ((!(decide (d0.fKind = 3)))))
            else
              some ((false)))
        else
          bif (!(decide (d0.fText = []))) then
            (some ((!(decide (d0.fKind = 3)))))
          else
            some ((false)) : Option Bool)).bind fun y_2 =>
    bif y_2 then
      (some ((false)))
    else
      ((bif (decide ((0 : Int) < ((d0.fList.length : Nat) : Int))) then
          (bif (!(decide (d0.fKind = 4))) then
            (some ((!(decide (d0.fKind = 5)))))
          else
            some ((false)))
        else
          some ((false)) : Option Bool)).bind fun y_3 =>
      bif y_3 then
        (some ((false)))
      else
        bif (decide (d0.fKind = 5)) then
          (some ((decide (((d0.fKeys.length : Nat) : Int) = ((d0.fList.length : Nat) : Int)))))
        else
          some ((decide (((d0.fKeys.length : Nat) : Int) = 0)))
def ref03_wrong_s1 (n : Nat) (d0 : TA0) (s_1 : Int) : Option (Lp Int (Sum Unit Unit)) :=
    bif (decide (s_1 < ((d0.fKeys.length : Nat) : Int))) then
      ((getI d0.fKeys s_1).bind fun x_3 =>
      (ref01_Valid n x_3).bind fun x_4 =>
      bif !x_4 then
        (some (.br (.inl ())))
      else
        need (inR .i64 (s_1 + 1)) <|
        some (.nx (s_1 + 1)))
    else
      some (.br (.inr ()))
def ref03_wrong_s3 (n : Nat) (d0 : TA0) (s_2 : Int) (s_3 : Int) : Option (Lp Int (Sum Unit Unit)) :=
    bif (decide (s_3 < s_2)) then
      ((getI d0.fKeys s_3).bind fun x_5 =>
      (getI d0.fKeys s_2).bind fun x_6 =>
      bif (decide (x_5 = x_6)) then
        (some (.br (.inl ())))
      else
        need (inR .i64 (s_3 + 1)) <|
        some (.nx (s_3 + 1)))
    else
      some (.br (.inr ()))
def ref03_wrong_s2 (n : Nat) (d0 : TA0) (s_2 : Int) : Option (Lp Int (Sum Unit Unit)) :=
    bif (decide (s_2 < ((d0.fKeys.length : Nat) : Int))) then
      ((loopF (ref03_wrong_s3 n d0 s_2) n (0 : Int)).bind fun b_4 =>
      (match b_4 with 
      | .inl y_4 => some (.br (.inl ())) 
      | .inr y_5 => need (inR .i64 (s_2 + 1)) <|
        some (.nx (s_2 + 1))))
    else
      some (.br (.inr ()))
def ref03_wrong_s4 (n : Nat) (rec_ref03_wrong : TA0 → Option Int) (d0 : TA0) (s_4 : Int) : Option (Lp Int (Sum Int Unit)) :=
    bif (decide (s_4 < ((d0.fList.length : Nat) : Int))) then
      ((getI d0.fList s_4).bind fun x_7 =>
      (rec_ref03_wrong x_7).bind fun x_8 =>
      bif (!(decide (x_8 = 0))) then
        (some (.br (.inl x_8)))
      else
        need (inR .i64 (s_4 + 1)) <|
        some (.nx (s_4 + 1)))
    else
      some (.br (.inr ()))
def ref03_wrong_b (n : Nat) (rec_ref03_wrong : TA0 → Option Int) (d0 : TA0) : Option Int :=
  (ref03_plain n d0).bind fun x_1 =>
  bif !x_1 then
    (some ((2 : Int)))
  else
    ((bif (decide (d0.fNum < (-9007199254740992))) then
        (some ((true)))
      else
        some ((decide ((9007199254740992 : Int) < d0.fNum))) : Option Bool)).bind fun y_1 =>
    bif y_1 then
      (some ((20 : Int)))
    else
      (ref01_Valid n d0.fText).bind fun x_2 =>
      bif !x_2 then
        (some ((10 : Int)))
      else
        (loopF (ref03_wrong_s1 n d0) n (0 : Int)).bind fun b_2 =>
        (match b_2 with 
        | .inl y_2 => some ((10 : Int)) 
        | .inr y_3 => (loopF (ref03_wrong_s2 n d0) n (0 : Int)).bind fun b_3 =>
          (match b_3 with 
          | .inl y_6 => some ((41 : Int)) 
          | .inr y_7 => (loopF (ref03_wrong_s4 n rec_ref03_wrong d0) n (0 : Int)).bind fun b_5 =>
            (match b_5 with 
            | .inl y_8 => some (y_8) 
            | .inr y_9 => some ((0 : Int)))))
def ref03_wrong_k (n : Nat) : Nat → TA0 → Option Int
  | 0 => fun _ => none
  | k + 1 => ref03_wrong_b n (ref03_wrong_k n k)
def ref03_wrong (n : Nat) (d0 : TA0) : Option Int := ref03_wrong_k n n d0
def ref03_Check (n : Nat) (d0 : TA0) : Option Int :=
  (ref03_deeper n d0 (24 : Int)).bind fun x_1 =>
  bif x_1 then
    (some ((30 : Int)))
  else
    (ref03_wrong n d0).bind fun x_2 =>
    bif (!(decide (x_2 = 0))) then
      (some (x_2))
    else
      (ref03_Count n d0).bind fun x_3 =>
      bif (decide ((4096 : Int) < x_3)) then
        (some ((3 : Int)))
      else
        some ((0 : Int))
def tree_depth_s1 (n : Nat) (rec_tree_depth : TA0 → Int → Option Int) (d0 : TA0) (d1 : Int) (s_1 : Int × Int) : Option (Lp (Int × Int) Int) :=
    bif (decide (s_1.2 < ((d0.fList.length : Nat) : Int))) then
      (bif (decide ((0 : Int) < d1)) then
        ((getI d0.fList s_1.2).bind fun x_1 =>
        need (inR .i64 (d1 - 1)) <|
        (rec_tree_depth x_1 (d1 - 1)).bind fun x_2 =>
        need (inR .i64 (s_1.2 + 1)) <|
        some (.nx (max s_1.1 x_2, s_1.2 + 1)))
      else
        need (inR .i64 (s_1.2 + 1)) <|
        some (.nx (s_1.1, s_1.2 + 1)))
    else
      some (.br s_1.1)
def tree_depth_b (n : Nat) (rec_tree_depth : TA0 → Int → Option Int) (d0 : TA0) (d1 : Int) : Option Int :=
  (loopF (tree_depth_s1 n rec_tree_depth d0 d1) n ((0 : Int), (0 : Int))).bind fun y_1 =>
  need (inR .i64 (y_1 + 1)) <|
  some (y_1 + 1)
set_option maxRecDepth 20000 in
theorem tree_depth_b_ok (n : Nat) (rec_tree_depth : TA0 → Int → Option Int) (hrec_tree_depth : ∀ (M : Mem) (ad0 : Addr) (c0 : List Value) (d0 : TA0) (h0 : Rep M (emb_TA0 d0) c0) (q0 : ∀ j v, c0[j]? = some v → M.cell? (ad0.add j) = some v) (d1 : Int) (r : Int) (hF : rec_tree_depth d0 d1 = some r), Ok Tryd.prog M 29 [.pointer (some ad0), .int .i64 d1] (fun _ v => v = .int .i64 r)) (M : Mem) (ad0 : Addr) (c0 : List Value) (d0 : TA0) (h0 : Rep M (emb_TA0 d0) c0) (q0 : ∀ j v, c0[j]? = some v → M.cell? (ad0.add j) = some v) (d1 : Int) (r : Int) (hF : tree_depth_b n rec_tree_depth d0 d1 = some r) : Ok Tryd.prog M 29 [.pointer (some ad0), .int .i64 d1] (fun _ v => v = .int .i64 r) := by
 unfold tree_depth_b at hF
 intro M1 hM0 w0 H w p0
 replace h0 := Rep.mono hM0 _ _ h0
 replace q0 := fun j v h => hM0.cell (q0 j v h)
 obtain ⟨A_1, cap_1, A_2, cap_2, rfl, h_1, h_2⟩ := TA0.opn h0
 refine R_enter 31 Tryd.func29 rfl rfl (by simp) fun a0 f0 => RR (Y f0 1 fun _ f => eT (RR (Y f 1 fun _ f => eT (R_seq (RR (Y f 3 fun _ f => Y12 f p0 q0 4 rfl fun _ f => Y f 2 fun _ f => eT (wp_block ?_)))))))
 obtain ⟨b_1, hL_1, hF_1⟩ := bS hF
 refine wp_mono (Q := fun e a w => (e = .exit 0 ∧ (∃ y_1 : Int, b_1 = y_1 ∧ ∃ M_2 : Mem, M1.le M_2 ∧ Frm 31 [(5, .int .i64 y_1)] a ∧ Hp w0 M_2 (H) w))) (R_loop (n := 31) (w0 := w0) (M := M1) (fun (x : Nat × (Int × Int)) => match x with | (m_1, s_1) => [(0, .pointer (some ad0)), (1, .int .i64 d1), (5, .int .i64 s_1.1), (11, .int .i64 ((d0.fList.length : Nat) : Int)), (12, .int .i64 s_1.2)]) (fun (x : Nat × (Int × Int)) => match x with | (m_1, s_1) => (H)) (fun (x : Nat × (Int × Int)) (MM : Mem) => match x with | (m_1, s_1) => loopF (tree_depth_s1 n rec_tree_depth d0 d1) m_1 s_1 = some b_1) (fun (x : Nat × (Int × Int)) => match x with | (m_1, s_1) => m_1) (n, ((0 : Int), (0 : Int))) (f.kp) p0 hL_1 ?_) ?_
 ·rintro ⟨m_1, s_1⟩ M_1 _ w_1 hM_1 I_1 f p_1
  have I_1L := I_1
  obtain ⟨m_2, r_1, rfl, hs_1, hn_1⟩ := loop_step I_1L
  unfold tree_depth_s1 at hs_1
  refine RR (Y f 1 fun _ f => eT (R_seq (RcF f hs_1 (fun h_3 hF_2 => ?_) fun h_3 hF_10 => ?_)))
  ·have k_1 := dI.1 h_3
   refine wp_skip (T_n (R_seq (wp_block (RR (Y f 2 fun _ f => eT (RR (Y f 2 fun _ f => eT (RcF f hF_2 (fun h_4 hF_3 => ?_) fun h_4 hF_8 => ?_))))))))
   ·have k_2 := dI.1 h_4
    refine R_reg (Y f 4 fun _ f => Y12 f p_1 (fzu hM_1 q0) 4 rfl fun _ f => Y f 1 fun _ f => ?_)
    obtain ⟨x_1, hx_1, hF_4⟩ := bS hF_3
    obtain ⟨ad_1, c_1, e_1, -, hr_1, hc_1⟩ := Sli.at_ (h_1.mono hM_1) hx_1
    obtain ⟨A_3, cap_3, A_4, cap_4, rfl, h_5, h_6⟩ := TA0.opn hr_1
    refine Z f (Y26 e_1 rfl (len := d0.fList.length) (cap := cap_1) (k := .i64) (i := s_1.2) (e := 26) (sz := 6) (getI_nn hx_1) (getI_lt hx_1)) fun _ f => Y f 1 fun _ f => ?_
    obtain ⟨g_1, hF_5⟩ := nS hF_4
    refine Y f 1 fun _ f => ?_
    have f := f.st 25 (congrArg (Value.int .i64) (inR_wrap g_1))
    obtain ⟨x_2, hx_2, hF_6⟩ := bS hF_5
    refine Y15 f p_1 (hrec_tree_depth _ (ad_1.add (s_1.2.toNat * 6)) [.int .i8 x_1.fKind, .bool x_1.fBool, .int .i64 x_1.fNum, S x_1.fText, .slice A_3 x_1.fList.length cap_3, .slice A_4 x_1.fKeys.length cap_4] x_1 (TA0.shutx (x := x_1) h_5 h_6) (fz_at (hc_1) 0 rfl) (d1 - 1) x_2 hx_2) fun w_2 p_2 _ f => Z (v := .int .i64 (max s_1.1 x_2)) f (X_max (k := .i64) (a := s_1.1) (b := x_2) rfl (by kernel_rfl) (by kernel_rfl)) fun _ f => Y f 1 fun _ f => W_end rfl (B_n (T_n (R_reg ?_)))
    obtain ⟨g_2, hF_7⟩ := nS hF_6
    refine Y f 1 fun _ f => ?_
    have f := f.st 28 (congrArg (Value.int .i64) (inR_wrap g_2))
    refine Y f 1 fun _ f => eT ?_
    obtain rfl := sI hF_7
    exact ⟨⟨m_2, (max s_1.1 x_2, s_1.2 + 1)⟩, Nat.lt_succ_self _, M_1, hM_1, hn_1, f.kp, p_2⟩
   ·have k_3 := iff_f dI h_4
    refine wp_skip (B_n (T_n (R_reg ?_)))
    obtain ⟨g_3, hF_9⟩ := nS hF_8
    refine Y f 1 fun _ f => ?_
    have f := f.st 28 (congrArg (Value.int .i64) (inR_wrap g_3))
    refine Y f 1 fun _ f => eT ?_
    obtain rfl := sI hF_9
    exact ⟨⟨m_2, (s_1.1, s_1.2 + 1)⟩, Nat.lt_succ_self _, M_1, hM_1, hn_1, f.kp, p_1⟩
  ·have k_4 := iff_f dI h_3
   refine wp_exit (T_x (T_x ?_))
   obtain rfl := sI hF_10
   exact ⟨rfl, s_1.1, (sI hn_1).symm, M_1, hM_1, f.kp, p_1⟩
 ·rintro _ _ w_4 ⟨rfl, y_1, hq_, M_2, hM_2, f, p_3⟩
  subst b_1
  refine B_x (T_n (RR (Y f 1 fun _ f => ?_)))
  obtain ⟨g_4, hF_11⟩ := nS hF_1
  refine Y f 1 fun _ f => ?_
  have f := f.st 30 (congrArg (Value.int .i64) (inR_wrap g_4))
  refine Y f 1 fun _ f => eT (wp_ret (E_ret1 f rfl (by kernel_rfl : Vc.look _ 4 = some (.int .i64 (y_1 + 1))) ?_))
  obtain rfl := sI hF_11
  exact ⟨_, rfl, M_2, hM_2, p_3, rfl⟩
def tree_depth_k (n : Nat) : Nat → TA0 → Int → Option Int
  | 0 => fun _ _ => none
  | k + 1 => tree_depth_b n (tree_depth_k n k)
def tree_depth (n : Nat) (d0 : TA0) (d1 : Int) : Option Int := tree_depth_k n n d0 d1
theorem tree_depth_ok (n : Nat) (M : Mem) (ad0 : Addr) (c0 : List Value) (d0 : TA0) (h0 : Rep M (emb_TA0 d0) c0) (q0 : ∀ j v, c0[j]? = some v → M.cell? (ad0.add j) = some v) (d1 : Int) (r : Int) (hF : tree_depth n d0 d1 = some r) : Ok Tryd.prog M 29 [.pointer (some ad0), .int .i64 d1] (fun _ v => v = .int .i64 r) := by
 have key : ∀ (k : Nat) (M : Mem) (ad0 : Addr) (c0 : List Value) (d0 : TA0) (h0 : Rep M (emb_TA0 d0) c0) (q0 : ∀ j v, c0[j]? = some v → M.cell? (ad0.add j) = some v) (d1 : Int) (r : Int) (hF : tree_depth_k n k d0 d1 = some r), Ok Tryd.prog M 29 [.pointer (some ad0), .int .i64 d1] (fun _ v => v = .int .i64 r) := by
  intro k
  induction k with
  | zero => intro M ad0 c0 d0 h0 q0 d1 r hF; simp [tree_depth_k] at hF
  | succ k ih => intro M ad0 c0 d0 h0 q0 d1 r hF; exact tree_depth_b_ok n (tree_depth_k n k) ih M ad0 c0 d0 h0 q0 d1 r hF
 exact key n M ad0 c0 d0 h0 q0 d1 r hF
set_option maxRecDepth 100000 in
theorem walk_iter (v : TA0) (hlen : (walkV v).length ≤ 9223372036854775806) (M : Mem) (bv : Nat) (cs : List Value) (hrep : Rep M (emb_TA0 v) cs) (hbv : ∀ j u, cs[j]? = some u → M.cell? ((⟨bv, 0, none⟩ : Addr).add j) = some u) :
  IterOk Tryd.prog 41 [.pointer (some ⟨bv, 0, none⟩)] valsV (walkV v) M := by
 refine ⟨Go.Proofs.enters_of Tryd.func41 (by kernel_rfl) rfl, fun σ β Y s0 r hr l J Jx hJ hJx hY w0 M1 E H w hM0 hj p0 => ?_⟩
 refine R_enter 7 Tryd.func41 rfl rfl (by simp) (fun a0 f0 => ?_)
 replace f0 : Frm 7 [(0, .func (.yield l) #[] #[]), (1, .pointer (some ⟨bv, 0, none⟩))] a0 := f0
 refine R_seq ?_
 refine R_reg ?_
 refine W_box (cs := #[.func (.yield l) #[] #[]]) (T := 27) f0 p0 1 [1, 2] (fun b => [(1, .pointer (some ⟨bv, 0, none⟩)), (2, .pointer (some ⟨b, 0, none⟩))]) (fun _ => by kernel_rfl) (fun by_ M2 w hM1 hc p1 a_1 f_1 => ?_)
 replace f_1 : Frm 7 [(1, .pointer (some ⟨bv, 0, none⟩)), (2, .pointer (some ⟨by_, 0, none⟩))] a_1 := f_1
 refine W_end rfl ?_
 refine T_n ?_
 refine R_seq ?_
 refine R_reg ?_
 refine W_alloc f_1 p1 1 [1, 2, 3] (.cells #[.nilFunc] 66 (0, 0)) (fun b => [(1, .pointer (some ⟨bv, 0, none⟩)), (2, .pointer (some ⟨by_, 0, none⟩)), (3, .pointer (some ⟨b, 0, none⟩))]) (fun _ => by kernel_rfl) (fun bs w p2 a_2 f_2 => ?_)
 replace f_2 : Frm 7 [(1, .pointer (some ⟨bv, 0, none⟩)), (2, .pointer (some ⟨by_, 0, none⟩)), (3, .pointer (some ⟨bs, 0, none⟩))] a_2 := f_2
 refine W_end rfl ?_
 refine T_n ?_
 refine R_seq ?_
 refine R_reg ?_
 refine W_run (L' := [(1, .pointer (some ⟨bv, 0, none⟩)), (3, .pointer (some ⟨bs, 0, none⟩)), (4, .func (.func 42) #[] #[.pointer (some ⟨by_, 0, none⟩), .pointer (some ⟨bs, 0, none⟩)])]) (w' := w) f_2 1 [1, 3, 4] (by kernel_rfl) (fun a_3 f_3 => ?_)
 refine W_store1 f_3 p2 0 (by kernel_rfl) (by kernel_rfl) rfl rfl (b := bs) (j := 0) (v := .func (.func 42) #[] #[.pointer (some ⟨by_, 0, none⟩), .pointer (some ⟨bs, 0, none⟩)]) (by kernel_rfl) (by kernel_rfl) rfl (by kernel_rfl) (by exact rfl) (by simp) (by simp)
  (.obj bs (.cells #[.func (.func 42) #[] #[.pointer (some ⟨by_, 0, none⟩), .pointer (some ⟨bs, 0, none⟩)]] 66 (0, 0)) :: (E ++ H)) (by exact rfl) (fun w p3 a_4 f_4 => ?_)
 refine W_end rfl ?_
 refine T_n ?_
 obtain ⟨hM2, p4⟩ := p3.freeze
 have hself : (M2.add bs (.cells #[.func (.func 42) #[] #[.pointer (some ⟨by_, 0, none⟩), .pointer (some ⟨bs, 0, none⟩)]] 66 (0, 0))).cell? ⟨bs, 0, none⟩ = some (.func (.func 42) #[] #[.pointer (some ⟨by_, 0, none⟩), .pointer (some ⟨bs, 0, none⟩)]) := by rw [add_cell]; rfl
 generalize (M2.add bs (.cells #[.func (.func 42) #[] #[.pointer (some ⟨by_, 0, none⟩), .pointer (some ⟨bs, 0, none⟩)]] 66 (0, 0))) = M3 at hM2 p4 hself
 have hM3 := hM1.trans hM2
 refine R_reg ?_
 refine W_eq (v := .func (.func 42) #[] #[.pointer (some ⟨by_, 0, none⟩), .pointer (some ⟨bs, 0, none⟩)]) f_4 (by kernel_rfl) (by kernel_rfl) rfl rfl (X_load1 (v := .func (.func 42) #[] #[.pointer (some ⟨by_, 0, none⟩), .pointer (some ⟨bs, 0, none⟩)]) rfl (ad := ⟨bs, 0, none⟩) (by kernel_rfl) (by kernel_rfl) (p4.cell hself)) (fun a_5 f_5 => ?_)
 have hcall := walkIns by_ bs l Y J Jx hJ hY (SizeOf.sizeOf v + 1) v (Nat.lt_succ_self _) hlen s0 r hr M3 ⟨bv, 0, none⟩ cs (Rep.mono (hM0.trans hM3) _ _ hrep) (fun j u h => (hM0.trans hM3).cell (hbv j u h)) (hM2.cell (hc 0 _ rfl)) hself w0 M3 E H w (Mem.le_refl _) (hJ _ _ _ _ hM3 hj) p4
 refine W_call (R := fun _ w' => ∃ M' E', M3.le M' ∧ Hp w0 M' (E' ++ H) w' ∧ match r with
  | .nx s' => J s' M' E'
  | .br b => Jx b M' E') f_5 (by kernel_rfl) (by kernel_rfl) rfl rfl (by kernel_rfl) (hcall.mono fun e w' ⟨M', E', g1, g2, g3⟩ => ?_) ?_
 ·cases r with
  | nx s' => exact ⟨_, g3.1, M', E', g1, g2, g3.2⟩
  | br b => exact ⟨_, g3.1, M', E', g1, g2, g3.2⟩
 rintro v_1 w_4 ⟨M4, E4, hM4, p_4, g4⟩ a_6 f_6
 refine W_end rfl ?_
 refine E_end0 f_6 rfl ?_
 cases r with
 | nx s' => exact ⟨_, rfl, M4, E4, hM3.trans hM4, p_4, g4⟩
 | br b => exact ⟨_, rfl, M4, E4, hM3.trans hM4, p_4, g4⟩
def WalkRes (v : TA0) (M : Mem) (u : Value) : Prop := ∃ f caps, u = .func (.func f) #[] caps.toArray ∧ IterOk Tryd.prog f caps valsV (walkV v) M
set_option maxRecDepth 100000 in
theorem walk_ok (v : TA0) (hlen : (walkV v).length ≤ 9223372036854775806) (M : Mem) (cs : List Value) (h0 : Rep M (emb_TA0 v) cs) : Ok Tryd.prog M 30 [.agg cs.toArray] (fun M' u => WalkRes v M' u) := by
 intro M1 hM0 w0 H w p0
 replace h0 := Rep.mono hM0 _ _ h0
 obtain ⟨A_1, cap_1, A_2, cap_2, rfl, h_1, h_2⟩ := TA0.opn h0
 refine R_enter 4 Tryd.func30 rfl rfl (by simp) (fun a0 f0 => ?_)
 replace f0 : Frm 4 [(0, .agg #[.int .i8 v.fKind, .bool v.fBool, .int .i64 v.fNum, S v.fText, .slice A_1 v.fList.length cap_1, .slice A_2 v.fKeys.length cap_2])] a0 := f0
 refine R_seq ?_
 refine R_reg ?_
 refine W_box (cs := #[.int .i8 v.fKind, .bool v.fBool, .int .i64 v.fNum, S v.fText, .slice A_1 v.fList.length cap_1, .slice A_2 v.fKeys.length cap_2]) (T := 26) f0 p0 1 [1] (fun b => [(1, .pointer (some ⟨b, 0, none⟩))]) (fun _ => by kernel_rfl) (fun bv M2 w hM1 hc p1 a_1 f_1 => ?_)
 replace f_1 : Frm 4 [(1, .pointer (some ⟨bv, 0, none⟩))] a_1 := f_1
 have hc2 := fz_box hc
 refine W_run (L' := [(1, .pointer (some ⟨bv, 0, none⟩))]) (w' := w) f_1 1 [1] (by kernel_rfl) (fun a_2 f_2 => ?_)
 refine W_end rfl ?_
 refine T_n ?_
 refine R_seq ?_
 refine R_reg ?_
 refine W_run (L' := [(2, .func (.func 41) #[] #[.pointer (some ⟨bv, 0, none⟩)])]) (w' := w) f_2 2 [2] (by kernel_rfl) (fun a_3 f_3 => ?_)
 refine W_end rfl ?_
 refine T_n ?_
 refine wp_ret ?_
 refine E_ret1 f_3 rfl (by kernel_rfl : Vc.look _ 2 = some (.func (.func 41) #[] #[.pointer (some ⟨bv, 0, none⟩)])) ?_
 refine ⟨_, rfl, M2, hM1, p1, 41, [.pointer (some ⟨bv, 0, none⟩)], rfl, ?_⟩
 exact walk_iter v hlen M2 bv _ (Rep.mono hM1 _ _ h0) hc2
def runes_Valid (n : Nat) (d0 : List UInt8) : Option Bool :=
  (h_ValidString n d0).bind fun x_1 =>
  some ((x_1))
theorem runes_Valid_ok (n : Nat) (M : Mem) (hG : GL M) (d0 : List UInt8) (r : Bool) (hF : runes_Valid n d0 = some r) : Ok Tryd.prog M 43 [S d0] (fun _ v => v = .bool r) := by
 unfold runes_Valid at hF
 intro M1 hM0 w0 H w p0
 replace hG := GL.mono hM0 hG
 refine R_enter 5 Tryd.func43 rfl rfl (by simp) fun a0 f0 => RR (Y f0 1 fun _ f => eT (RR (Y f 1 fun _ f => ?_)))
 obtain ⟨x_1, hx_1, hF_1⟩ := bS hF
 refine Y15 f p0 (h_ValidString_ok n _ hG d0 x_1 hx_1) fun w_1 p_1 _ f => Y f 1 fun _ f => eT (wp_ret (E_ret1 f rfl (by kernel_rfl : Vc.look _ 2 = some (.bool x_1)) ?_))
 obtain rfl := sI hF_1
 exact ⟨_, rfl, M1, (mR _), p_1, rfl⟩
def tree_alone_1 (n : Nat) (d0 : List UInt8) : Option Bool :=
  (runes_Valid n d0).bind fun x_1 =>
  some ((!x_1))
theorem tree_alone_1_ok (n : Nat) (M : Mem) (hG : GL M) (d0 : List UInt8) (r : Bool) (hF : tree_alone_1 n d0 = some r) : Ok Tryd.prog M 45 [S d0] (fun _ v => v = .bool r) := by
 unfold tree_alone_1 at hF
 intro M1 hM0 w0 H w p0
 replace hG := GL.mono hM0 hG
 refine R_enter 6 Tryd.func45 rfl rfl (by simp) fun a0 f0 => RR (Y f0 1 fun _ f => eT (RR (Y f 1 fun _ f => ?_)))
 obtain ⟨x_1, hx_1, hF_1⟩ := bS hF
 refine Y15 f p0 (runes_Valid_ok n _ hG d0 x_1 hx_1) fun w_1 p_1 _ f => Y f 2 fun _ f => eT (wp_ret (E_ret1 f rfl (by kernel_rfl : Vc.look _ 2 = some (.bool !x_1)) ?_))
 obtain rfl := sI hF_1
 exact ⟨_, rfl, M1, (mR _), p_1, rfl⟩
def slices_IndexFuncstring_string_s1 (n : Nat) (d0 : List (List UInt8)) (s_1 : Int) : Option (Lp Int (Sum Int Unit)) :=
    bif (decide (s_1 < ((d0.length : Nat) : Int))) then
      ((getI d0 s_1).bind fun x_1 =>
      (tree_alone_1 n x_1).bind fun x_2 =>
      bif x_2 then
        (some (.br (.inl s_1)))
      else
        need (inR .i64 (s_1 + 1)) <|
        some (.nx (s_1 + 1)))
    else
      some (.br (.inr ()))
def slices_IndexFuncstring_string (n : Nat) (d0 : List (List UInt8)) : Option Int :=
  (loopF (slices_IndexFuncstring_string_s1 n d0) n (0 : Int)).bind fun b_1 =>
  (match b_1 with 
  | .inl y_1 => some (y_1) 
  | .inr y_2 => some ((-1 : Int)))
theorem slices_IndexFuncstring_string_ok (n : Nat) (M : Mem) (hG : GL M) (A0 : Option Addr) (cap0 : Nat) (d0 : List (List UInt8)) (h0 : Sli M 1 Dat.str A0 cap0 d0) (r : Int) (hF : slices_IndexFuncstring_string n d0 = some r) : Ok Tryd.prog M 58 [.slice A0 d0.length cap0, .func (.func 45) #[] #[]] (fun _ v => v = .int .i64 r) := by
 unfold slices_IndexFuncstring_string at hF
 intro M1 hM0 w0 H w p0
 replace hG := GL.mono hM0 hG
 replace h0 := h0.mono hM0
 refine R_enter 19 Tryd.func58 rfl rfl (by simp) fun a0 f0 => RR (Y f0 1 fun _ f => eT (R_seq (RR (Y f 3 fun _ f => eT (wp_block ?_)))))
 obtain ⟨b_1, hL_1, hF_1⟩ := bS hF
 refine wp_mono (Q := fun e a w => (e = .ret ∧ (∃ y_1 : Int, b_1 = .inl y_1 ∧ ∃ M_2 : Mem, M1.le M_2 ∧ Frm 19 [(4, .int .i64 y_1)] a ∧ Hp w0 M_2 (H) w)) ∨ (e = .exit 0 ∧ (∃ y_2 : Unit, b_1 = .inr y_2 ∧ ∃ M_3 : Mem, M1.le M_3 ∧ Frm 19 [] a ∧ Hp w0 M_3 (H) w))) (R_loop (n := 19) (w0 := w0) (M := M1) (fun (x : Nat × Int) => match x with | (m_1, s_1) => [(0, .slice A0 d0.length cap0), (1, .func (.func 45) #[] #[]), (7, .int .i64 ((d0.length : Nat) : Int)), (8, .int .i64 s_1)]) (fun (x : Nat × Int) => match x with | (m_1, s_1) => (H)) (fun (x : Nat × Int) (MM : Mem) => match x with | (m_1, s_1) => loopF (slices_IndexFuncstring_string_s1 n d0) m_1 s_1 = some b_1) (fun (x : Nat × Int) => match x with | (m_1, s_1) => m_1) (n, (0 : Int)) (f.kp) p0 hL_1 ?_) ?_
 ·rintro ⟨m_1, s_1⟩ M_1 _ w_1 hM_1 I_1 f p_1
  have I_1L := I_1
  obtain ⟨m_2, r_1, rfl, hs_1, hn_1⟩ := loop_step I_1L
  unfold slices_IndexFuncstring_string_s1 at hs_1
  refine RR (Y f 1 fun _ f => eT (R_seq (RcF f hs_1 (fun h_1 hF_2 => ?_) fun h_1 hF_8 => ?_)))
  ·have k_1 := dI.1 h_1
   refine wp_skip (T_n (R_seq (wp_block (RR (Y f 2 fun _ f => eT (RR (Y f 3 fun _ f => ?_)))))))
   obtain ⟨x_1, hx_1, hF_3⟩ := bS hF_2
   obtain ⟨ad_1, c_1, e_1, -, hr_1, hc_1⟩ := Sli.at_ (h0.mono hM_1) hx_1
   obtain rfl : c_1 = [S x_1] := hr_1
   refine Z f (Y26 e_1 rfl (len := d0.length) (cap := cap0) (k := .i64) (i := s_1) (e := 9) (sz := 1) (getI_nn hx_1) (getI_lt hx_1)) fun _ f => Y12 f p_1 hc_1 0 rfl fun _ f => ?_
   obtain ⟨x_2, hx_2, hF_4⟩ := bS hF_3
   refine Y15 f p_1 (tree_alone_1_ok n _ (GL.mono hM_1 hG) x_1 x_2 hx_2) fun w_2 p_2 _ f => eT (RcF f hF_4 (fun h_2 hF_5 => ?_) fun h_2 hF_6 => ?_)
   ·refine RR (Y f 2 fun _ f => eT (wp_ret (B_r (T_r (T_r ?_)))))
    obtain rfl := sI hF_5
    exact .inl ⟨rfl, s_1, (sI hn_1).symm, M_1, hM_1, f.kp, p_2⟩
   ·refine wp_skip (B_n (T_n (R_reg ?_)))
    obtain ⟨g_1, hF_7⟩ := nS hF_6
    refine Y f 1 fun _ f => ?_
    have f := f.st 18 (congrArg (Value.int .i64) (inR_wrap g_1))
    refine Y f 1 fun _ f => eT ?_
    obtain rfl := sI hF_7
    exact ⟨⟨m_2, s_1 + 1⟩, Nat.lt_succ_self _, M_1, hM_1, hn_1, f.kp, p_2⟩
  ·have k_4 := iff_f dI h_1
   refine wp_exit (T_x (T_x ?_))
   obtain rfl := sI hF_8
   exact .inr ⟨rfl, (), (sI hn_1).symm, M_1, hM_1, f.kp, p_1⟩
 ·rintro _ _ w_5 (⟨rfl, y_1, rfl, M_2, hM_2, f, p_3⟩ | ⟨rfl, y_2, rfl, M_3, hM_3, f, p_4⟩)
  ·refine B_r (T_r (E_ret1 f rfl (by kernel_rfl : Vc.look _ 4 = some (.int .i64 y_1)) ?_))
   obtain rfl := sI hF_1
   exact ⟨_, rfl, M_2, hM_2, p_3, rfl⟩
  ·refine B_x (T_n (RR (Y f 1 fun _ f => eT (wp_ret (E_ret1 f rfl (by kernel_rfl : Vc.look _ 4 = some (.int .i64 (-1))) ?_)))))
   obtain rfl := sI hF_1
   exact ⟨_, rfl, M_3, hM_3, p_4, rfl⟩
def slices_ContainsFuncstring_string (n : Nat) (d0 : List (List UInt8)) : Option Bool :=
  (slices_IndexFuncstring_string n d0).bind fun x_1 =>
  some ((decide ((0 : Int) ≤ x_1)))
theorem slices_ContainsFuncstring_string_ok (n : Nat) (M : Mem) (hG : GL M) (A0 : Option Addr) (cap0 : Nat) (d0 : List (List UInt8)) (h0 : Sli M 1 Dat.str A0 cap0 d0) (r : Bool) (hF : slices_ContainsFuncstring_string n d0 = some r) : Ok Tryd.prog M 44 [.slice A0 d0.length cap0, .func (.func 45) #[] #[]] (fun _ v => v = .bool r) := by
 unfold slices_ContainsFuncstring_string at hF
 intro M1 hM0 w0 H w p0
 replace hG := GL.mono hM0 hG
 replace h0 := h0.mono hM0
 refine R_enter 9 Tryd.func44 rfl rfl (by simp) fun a0 f0 => RR (Y f0 1 fun _ f => eT (RR (Y f 2 fun _ f => ?_)))
 obtain ⟨x_1, hx_1, hF_1⟩ := bS hF
 refine Y15 f p0 (slices_IndexFuncstring_string_ok n _ hG A0 cap0 d0 h0 x_1 hx_1) fun w_1 p_1 _ f => Y f 2 fun _ f => eT (wp_ret (E_ret1 f rfl (by kernel_rfl : Vc.look _ 4 = some (.bool (decide ((0 : Int) ≤ x_1)))) ?_))
 obtain rfl := sI hF_1
 exact ⟨_, rfl, M1, (mR _), p_1, rfl⟩
def tree_alone_s1 (n : Nat) (d0 : TA0) (s_1 : Int × (List ((List UInt8) × Bool))) : Option (Lp (Int × (List ((List UInt8) × Bool))) (Sum (List ((List UInt8) × Bool)) (List ((List UInt8) × Bool)))) :=
    bif (decide (s_1.1 < ((d0.fKeys.length : Nat) : Int))) then
      ((getI d0.fKeys s_1.1).bind fun x_3 =>
      bif ((mget s_1.2 x_3).getD false) then
        (some (.br (.inl s_1.2)))
      else
        need (inR .i64 (s_1.1 + 1)) <|
        some (.nx (s_1.1 + 1, mput s_1.2 x_3 (true))))
    else
      some (.br (.inr s_1.2))
def tree_alone (n : Nat) (d0 : TA0) : Option Int :=
  ((bif (decide (d0.fKind = 0)) then
      (some (.nx ((d0.fBool), d0.fNum, d0.fText, d0.fList, d0.fKeys)))
    else
      bif (decide (d0.fKind = 1)) then
        (some (.nx ((false), d0.fNum, d0.fText, d0.fList, d0.fKeys)))
      else
        bif (decide (d0.fKind = 2)) then
          (some (.nx ((d0.fBool), (0 : Int), d0.fText, d0.fList, d0.fKeys)))
        else
          bif (decide (d0.fKind = 3)) then
            (some (.nx ((d0.fBool), d0.fNum, ([] : List UInt8), d0.fList, d0.fKeys)))
          else
            bif (decide (d0.fKind = 4)) then
              (some (.nx ((d0.fBool), d0.fNum, d0.fText, ([] : List TA0), d0.fKeys)))
            else
              bif (decide (d0.fKind = 5)) then
                (bif (!(decide (((d0.fKeys.length : Nat) : Int) = ((d0.fList.length : Nat) : Int)))) then
                  (((some ((2 : Int)) : Option Int)).map Lp.br)
                else
                  some (.nx ((d0.fBool), d0.fNum, d0.fText, ([] : List TA0), ([] : List (List UInt8)))))
              else
                ((some ((2 : Int)) : Option Int)).map Lp.br : Option (Lp (Bool × Int × List UInt8 × List TA0 × List (List UInt8)) Int))).bind fun j => joinF j fun y_1 =>
  ((((bif y_1.1 then
        (some ((true)))
      else
        bif (!(decide (y_1.2.1 = 0))) then
          (some ((true)))
        else
          bif (!(decide (y_1.2.2.1 = []))) then
            (some ((true)))
          else
            need (inR .i64 (((y_1.2.2.2.1.length : Nat) : Int) + ((y_1.2.2.2.2.length : Nat) : Int))) <|
            some ((decide ((0 : Int) < (((y_1.2.2.2.1.length : Nat) : Int) + ((y_1.2.2.2.2.length : Nat) : Int))))) : Option Bool)).bind fun y_2 =>
    bif y_2 then
      (((some ((2 : Int)) : Option Int)).map Lp.br)
    else
      ((bif (decide (d0.fNum < (-9007199254740992))) then
          (some ((true)))
        else
          some ((decide ((9007199254740992 : Int) < d0.fNum))) : Option Bool)).bind fun y_3 =>
      bif y_3 then
        (((some ((20 : Int)) : Option Int)).map Lp.br)
      else
        (runes_Valid n d0.fText).bind fun x_1 =>
        bif !x_1 then
          (((some ((10 : Int)) : Option Int)).map Lp.br)
        else
          (slices_ContainsFuncstring_string n d0.fKeys).bind fun x_2 =>
          bif x_2 then
            (((some ((10 : Int)) : Option Int)).map Lp.br)
          else
            some (.nx ()) : Option (Lp Unit Int))).bind fun j => joinF j fun y_4 =>
  (loopF (tree_alone_s1 n d0) n ((0 : Int), ([] : List ((List UInt8) × Bool)))).bind fun b_2 =>
  (match b_2 with 
  | .inl y_5 => some ((41 : Int)) 
  | .inr y_6 => some ((0 : Int)))
set_option maxRecDepth 20000 in
theorem tree_alone_ok (n : Nat) (M : Mem) (hG : GL M) (ad0 : Addr) (c0 : List Value) (d0 : TA0) (h0 : Rep M (emb_TA0 d0) c0) (q0 : ∀ j v, c0[j]? = some v → M.cell? (ad0.add j) = some v) (r : Int) (hF : tree_alone n d0 = some r) : Ok Tryd.prog M 31 [.pointer (some ad0)] (fun _ v => v = .int .i64 r) := by
 unfold tree_alone at hF
 intro M1 hM0 w0 H w p0
 replace hG := GL.mono hM0 hG
 replace h0 := Rep.mono hM0 _ _ h0
 replace q0 := fun j v h => hM0.cell (q0 j v h)
 obtain ⟨A_1, cap_1, A_2, cap_2, rfl, h_1, h_2⟩ := TA0.opn h0
 refine R_enter 109 Tryd.func31 rfl rfl (by simp) fun a0 f0 => RR (Y f0 1 fun _ f => eT (RR (Y f 2 fun _ f => Z (v := .agg #[.int .i8 d0.fKind, .bool d0.fBool, .int .i64 d0.fNum, S d0.fText, .slice A_1 d0.fList.length cap_1, .slice A_2 d0.fKeys.length cap_2]) f (Y28 (cs := [.int .i8 d0.fKind, .bool d0.fBool, .int .i64 d0.fNum, S d0.fText, .slice A_1 d0.fList.length cap_1, .slice A_2 d0.fKeys.length cap_2]) rfl (ad := ad0) (fun j v h => p0.cell (q0 j v h))) fun _ f => Y9 f p0 (.cells #[.int .i8 0, .bool false, .int .i64 0, S [], .slice none 0 0, .slice none 0 0] 26 (0, 0)) fun b_1 w_1 p_1 _ f => Y23 (vs := [.int .i8 d0.fKind, .bool d0.fBool, .int .i64 d0.fNum, S d0.fText, .slice A_1 d0.fList.length cap_1, .slice A_2 d0.fKeys.length cap_2]) (j := 0) f p_1 rfl rfl (by simp [Value.oneCell', S]) (by simp) (by decide) (cs' := #[.int .i8 d0.fKind, .bool d0.fBool, .int .i64 d0.fNum, S d0.fText, .slice A_1 d0.fList.length cap_1, .slice A_2 d0.fKeys.length cap_2]) fun w_2 p_2 _ f => eT (R_seq (RR (Y f 3 fun _ f => Y12 f p_2 q0 0 rfl fun _ f => ?_))))))
 refine eT ?_
 obtain ⟨j_1, hj_1, hF_1⟩ := bS hF
 refine R_mid (fun a_33 w_10 => ∃ y_1 : Bool × Int × List UInt8 × List TA0 × List (List UInt8), j_1 = .nx y_1 ∧ ∃ M_1 : Mem, M1.le M_1 ∧ ∃ (A_3 : Option Addr), ∃ (cap_3 : Nat), ∃ (A_4 : Option Addr), ∃ (cap_4 : Nat), Sli M_1 6 emb_TA0 A_3 cap_3 y_1.2.2.2.1 ∧ Sli M_1 1 Dat.str A_4 cap_4 y_1.2.2.2.2 ∧ Frm 109 [(0, .pointer (some ad0)), (3, .pointer (some (⟨b_1, 0, none⟩)))] a_33 ∧ Hp w0 M_1 ((Ent.obj b_1 (.cells #[.int .i8 d0.fKind, .bool y_1.1, .int .i64 y_1.2.1, S y_1.2.2.1, .slice A_3 y_1.2.2.2.1.length cap_3, .slice A_4 y_1.2.2.2.2.length cap_4] 26 (0, 0))) :: H) w_10) ?_ ?_
 ·refine wp_block (RR (Y f 2 fun _ f => eT (RcF f hj_1 (fun h_3 hF_2 => ?_) fun h_3 hF_3 => ?_)))
  ·have k_1 := dI.1 h_3
   refine wp_skip (B_n (T_n ?_))
   exact ⟨((d0.fBool), d0.fNum, d0.fText, d0.fList, d0.fKeys), (sI hF_2).symm, M1, (mR _), A_1, cap_1, A_2, cap_2, h_1, h_2, f.kp, p_2⟩
  ·have k_2 := iff_f dI h_3
   refine RR (Y f 2 fun _ f => eT (RcF f hF_3 (fun h_4 hF_4 => ?_) fun h_4 hF_5 => ?_))
   ·have k_3 := dI.1 h_4
    refine R_reg (Y f 1 fun _ f => Y22 f p_2 0 rfl rfl (b := b_1) (j := 1) (v := .bool false) rfl (by exact rfl) (by simp) (by simp) ((Ent.obj b_1 (.cells #[.int .i8 d0.fKind, .bool false, .int .i64 d0.fNum, S d0.fText, .slice A_1 d0.fList.length cap_1, .slice A_2 d0.fKeys.length cap_2] 26 (0, 0))) :: H) rfl fun w_3 p_3 _ f => W_end rfl (B_n (T_n ?_)))
    exact ⟨((false), d0.fNum, d0.fText, d0.fList, d0.fKeys), (sI hF_4).symm, M1, (mR _), A_1, cap_1, A_2, cap_2, h_1, h_2, f.kp, p_3⟩
   ·have k_4 := iff_f dI h_4
    refine RR (Y f 2 fun _ f => eT (RcF f hF_5 (fun h_5 hF_6 => ?_) fun h_5 hF_7 => ?_))
    ·have k_5 := dI.1 h_5
     refine R_reg (Y f 1 fun _ f => Y22 f p_2 0 rfl rfl (b := b_1) (j := 2) (v := .int .i64 0) rfl (by exact rfl) (by simp) (by simp) ((Ent.obj b_1 (.cells #[.int .i8 d0.fKind, .bool d0.fBool, .int .i64 0, S d0.fText, .slice A_1 d0.fList.length cap_1, .slice A_2 d0.fKeys.length cap_2] 26 (0, 0))) :: H) rfl fun w_4 p_4 _ f => W_end rfl (B_n (T_n ?_)))
     exact ⟨((d0.fBool), (0 : Int), d0.fText, d0.fList, d0.fKeys), (sI hF_6).symm, M1, (mR _), A_1, cap_1, A_2, cap_2, h_1, h_2, f.kp, p_4⟩
    ·have k_6 := iff_f dI h_5
     refine RR (Y f 2 fun _ f => eT (RcF f hF_7 (fun h_6 hF_8 => ?_) fun h_6 hF_9 => ?_))
     ·have k_7 := dI.1 h_6
      refine R_reg (Y f 1 fun _ f => Y22 f p_2 0 rfl rfl (b := b_1) (j := 3) (v := S []) rfl (by exact rfl) (by simp) (by simp) ((Ent.obj b_1 (.cells #[.int .i8 d0.fKind, .bool d0.fBool, .int .i64 d0.fNum, S [], .slice A_1 d0.fList.length cap_1, .slice A_2 d0.fKeys.length cap_2] 26 (0, 0))) :: H) rfl fun w_5 p_5 _ f => W_end rfl (B_n (T_n ?_)))
      exact ⟨((d0.fBool), d0.fNum, ([] : List UInt8), d0.fList, d0.fKeys), (sI hF_8).symm, M1, (mR _), A_1, cap_1, A_2, cap_2, h_1, h_2, f.kp, p_5⟩
     ·have k_8 := iff_f dI h_6
      refine RR (Y f 2 fun _ f => eT (RcF f hF_9 (fun h_7 hF_10 => ?_) fun h_7 hF_11 => ?_))
      ·have k_9 := dI.1 h_7
       refine R_reg (Y f 1 fun _ f => Y22 f p_2 0 rfl rfl (b := b_1) (j := 4) (v := .slice none 0 0) rfl (by exact rfl) (by simp) (by simp) ((Ent.obj b_1 (.cells #[.int .i8 d0.fKind, .bool d0.fBool, .int .i64 d0.fNum, S d0.fText, .slice none 0 0, .slice A_2 d0.fKeys.length cap_2] 26 (0, 0))) :: H) rfl fun w_6 p_6 _ f => W_end rfl (B_n (T_n ?_)))
       exact ⟨((d0.fBool), d0.fNum, d0.fText, ([] : List TA0), d0.fKeys), (sI hF_10).symm, M1, (mR _), none, 0, A_2, cap_2, Sli.nil, h_2, f.kp, p_6⟩
      ·have k_10 := iff_f dI h_7
       refine RR (Y f 2 fun _ f => eT (RcF f hF_11 (fun h_8 hF_12 => ?_) fun h_8 hF_16 => ?_))
       ·have k_11 := dI.1 h_8
        refine R_seq (R_seq (R_draw p_2 (by kernel_rfl) (by kernel_rfl) (Y3 default f 3 fun _ f => Y2 f q0 5 rfl fun _ f => Y3 default f 4 fun _ f => Y2 f q0 4 rfl fun _ f => Y3 default f 2 fun _ f => Q_end rfl ?_)))
        intro w_7 p_7
        refine T_n (RcF f hF_12 (fun h_9 hF_13 => ?_) fun h_9 hF_15 => ?_)
        ·have k_12 : ¬ (((d0.fKeys.length : Nat) : Int) = ((d0.fList.length : Nat) : Int)) := (not_iff dI).1 h_9
         refine RR (Y f 1 fun _ f => eT (wp_ret (T_r (B_r ?_))))
         have hF_14 := br_elim hF_13 hF_1
         refine T_r (T_r (E_ret1 f rfl (by kernel_rfl : Vc.look _ 2 = some (.int .i64 2)) ?_))
         obtain rfl := sI hF_14
         exact ⟨_, rfl, M1, (mR _), (p_7.dropN 1), rfl⟩
        ·have k_13 : ¬ (¬ (((d0.fKeys.length : Nat) : Int) = ((d0.fList.length : Nat) : Int))) := iff_f (not_iff dI) h_9
         refine wp_skip (T_n (R_reg (Y f 1 fun _ f => Y22 f p_7 0 rfl rfl (b := b_1) (j := 4) (v := .slice none 0 0) rfl (by exact rfl) (by simp) (by simp) ((Ent.obj b_1 (.cells #[.int .i8 d0.fKind, .bool d0.fBool, .int .i64 d0.fNum, S d0.fText, .slice none 0 0, .slice A_2 d0.fKeys.length cap_2] 26 (0, 0))) :: H) rfl fun w_8 p_8 _ f => Y f 1 fun _ f => Y22 f p_8 0 rfl rfl (b := b_1) (j := 5) (v := .slice none 0 0) rfl (by exact rfl) (by simp) (by simp) ((Ent.obj b_1 (.cells #[.int .i8 d0.fKind, .bool d0.fBool, .int .i64 d0.fNum, S d0.fText, .slice none 0 0, .slice none 0 0] 26 (0, 0))) :: H) rfl fun w_9 p_9 _ f => W_end rfl (B_n (T_n ?_)))))
         exact ⟨((d0.fBool), d0.fNum, d0.fText, ([] : List TA0), ([] : List (List UInt8))), (sI hF_15).symm, M1, (mR _), none, 0, none, 0, Sli.nil, Sli.nil, f.kp, p_9⟩
       ·have k_14 := iff_f dI h_8
        refine RR (Y f 1 fun _ f => eT (wp_ret (B_r ?_)))
        have hF_17 := br_elim hF_16 hF_1
        refine T_r (T_r (E_ret1 f rfl (by kernel_rfl : Vc.look _ 2 = some (.int .i64 2)) ?_))
        obtain rfl := sI hF_17
        exact ⟨_, rfl, M1, (mR _), (p_2.dropN 1), rfl⟩
 ·rintro a_33 w_10 ⟨y_1, rfl, M_1, hM_1, A_3, cap_3, A_4, cap_4, h_10, h_11, f, p_10⟩
  refine T_n (RR (W_newmap S Value.bool f p_10 (by kernel_rfl) (by kernel_rfl) rfl rfl rfl fun bm_1 w_11 p_11 _ f => Y f 1 fun _ f => eT (R_seq ?_)))
  obtain ⟨j_2, hj_2, hF_18⟩ := bS hF_1
  refine R_mid (fun a_78 w_16 => ∃ y_4 : Unit, j_2 = .nx y_4 ∧ ∃ M_4 : Mem, M_1.le M_4 ∧ Frm 109 [(0, .pointer (some ad0)), (4, .map (some bm_1))] a_78 ∧ Hp w0 M_4 ((Ent.obj bm_1 (mapO S Value.bool ([] : List ((List UInt8) × Bool)))) :: (Ent.obj b_1 (.cells #[.int .i8 d0.fKind, .bool y_1.1, .int .i64 y_1.2.1, S y_1.2.2.1, .slice A_3 y_1.2.2.2.1.length cap_3, .slice A_4 y_1.2.2.2.2.length cap_4] 26 (0, 0))) :: H) w_16) ?_ ?_
  ·refine wp_block (R_seq ?_)
   obtain ⟨j_3, hj_3, hF_19⟩ := bS hj_2
   refine R_mid (fun a_56 w_12 => ∃ y_2 : Bool, j_3 = y_2 ∧ ∃ M_2 : Mem, M_1.le M_2 ∧ Frm 109 [(0, .pointer (some ad0)), (4, .map (some bm_1)), (44, .bool y_2)] a_56 ∧ Hp w0 M_2 ((Ent.obj bm_1 (mapO S Value.bool ([] : List ((List UInt8) × Bool)))) :: (Ent.obj b_1 (.cells #[.int .i8 d0.fKind, .bool y_1.1, .int .i64 y_1.2.1, S y_1.2.2.1, .slice A_3 y_1.2.2.2.1.length cap_3, .slice A_4 y_1.2.2.2.2.length cap_4] 26 (0, 0))) :: H) w_12) ?_ ?_
   ·refine R_reg (Y f 1 fun _ f => Z f (Y27 (v := .bool y_1.1) rfl (ad := ⟨b_1, 1, none⟩) (p_11.ownCell 1 rfl 1)) fun _ f => Y f 1 fun _ f => ?_)
    rcases cE hj_3 with ⟨h_12, hF_20⟩ | ⟨h_12, hF_21⟩
    ·have f := f.st 47 (cB h_12)
     refine Y f 20 fun _ f => eT ?_
     exact ⟨(true), (sI hF_20).symm, M_1, (mR _), f.kp, p_11⟩
    ·have f := f.st 47 (cB h_12)
     refine Y f 1 fun _ f => Z f (Y27 (v := .int .i64 y_1.2.1) rfl (ad := ⟨b_1, 2, none⟩) (p_11.ownCell 1 rfl 2)) fun _ f => Y f 3 fun _ f => ?_
     rcases cE hF_21 with ⟨h_13, hF_22⟩ | ⟨h_13, hF_23⟩
     ·have k_17 : ¬ (y_1.2.1 = 0) := (not_iff dI).1 h_13
      have f := f.st 52 (cB h_13)
      refine Y f 15 fun _ f => eT ?_
      exact ⟨(true), (sI hF_22).symm, M_1, (mR _), f.kp, p_11⟩
     ·have k_18 : ¬ (¬ (y_1.2.1 = 0)) := iff_f (not_iff dI) h_13
      have f := f.st 52 (cB h_13)
      refine Y f 1 fun _ f => Z f (Y27 (v := S y_1.2.2.1) rfl (ad := ⟨b_1, 3, none⟩) (p_11.ownCell 1 rfl 3)) fun _ f => Z f (Y33 rfl (l := y_1.2.2.1) (m := [])) fun _ f => Y f 2 fun _ f => ?_
      rcases cE hF_23 with ⟨h_14, hF_24⟩ | ⟨h_14, hF_25⟩
      ·have k_19 : ¬ (y_1.2.2.1 = []) := (not_iff dI).1 h_14
       have f := f.st 57 (cB h_14)
       refine Y f 10 fun _ f => eT ?_
       exact ⟨(true), (sI hF_24).symm, M_1, (mR _), f.kp, p_11⟩
      ·have k_20 : ¬ (¬ (y_1.2.2.1 = [])) := iff_f (not_iff dI) h_14
       have f := f.st 57 (cB h_14)
       refine Y f 1 fun _ f => Z f (Y27 (v := .slice A_3 y_1.2.2.2.1.length cap_3) rfl (ad := ⟨b_1, 4, none⟩) (p_11.ownCell 1 rfl 4)) fun _ f => Y f 2 fun _ f => Z f (Y27 (v := .slice A_4 y_1.2.2.2.2.length cap_4) rfl (ad := ⟨b_1, 5, none⟩) (p_11.ownCell 1 rfl 5)) fun _ f => Y f 1 fun _ f => ?_
       obtain ⟨g_1, hF_26⟩ := nS hF_25
       refine Y f 1 fun _ f => ?_
       have f := f.st 64 (congrArg (Value.int .i64) (inR_wrap g_1))
       refine Y f 3 fun _ f => eT ?_
       exact ⟨(decide ((0 : Int) < (((y_1.2.2.2.1.length : Nat) : Int) + ((y_1.2.2.2.2.length : Nat) : Int)))), (sI hF_26).symm, M_1, (mR _), f.kp, p_11⟩
   ·rintro a_56 w_12 ⟨y_2, hq_2, M_2, hM_2, f, p_12⟩
    subst j_3
    refine T_n (RcF f hF_19 (fun h_15 hF_27 => ?_) fun h_15 hF_29 => ?_)
    ·refine RR (Y f 1 fun _ f => eT (wp_ret (B_r ?_)))
     have hF_28 := br_elim hF_27 hF_18
     refine T_r (T_r (E_ret1 f rfl (by kernel_rfl : Vc.look _ 2 = some (.int .i64 2)) ?_))
     obtain rfl := sI hF_28
     exact ⟨_, rfl, M_2, (hM_1.trans hM_2), (p_12.dropN 2), rfl⟩
    ·refine R_seq ?_
     obtain ⟨j_4, hj_4, hF_30⟩ := bS hF_29
     refine R_mid (fun a_65 w_13 => ∃ y_3 : Bool, j_4 = y_3 ∧ ∃ M_3 : Mem, M_2.le M_3 ∧ Frm 109 [(0, .pointer (some ad0)), (4, .map (some bm_1)), (67, .bool y_3)] a_65 ∧ Hp w0 M_3 ((Ent.obj bm_1 (mapO S Value.bool ([] : List ((List UInt8) × Bool)))) :: (Ent.obj b_1 (.cells #[.int .i8 d0.fKind, .bool y_1.1, .int .i64 y_1.2.1, S y_1.2.2.1, .slice A_3 y_1.2.2.2.1.length cap_3, .slice A_4 y_1.2.2.2.2.length cap_4] 26 (0, 0))) :: H) w_13) ?_ ?_
     ·refine R_reg (Y f 3 fun _ f => Y12 f p_12 (fzu (hM_1.trans hM_2) q0) 2 rfl fun _ f => Y f 2 fun _ f => ?_)
      rcases cE hj_4 with ⟨h_16, hF_31⟩ | ⟨h_16, hF_32⟩
      ·have k_23 := dI.1 h_16
       have f := f.st 73 (cB h_16)
       refine Y f 7 fun _ f => eT ?_
       exact ⟨(true), (sI hF_31).symm, M_2, (mR _), f.kp, p_12⟩
      ·have k_24 := iff_f dI h_16
       have f := f.st 73 (cB h_16)
       refine Y f 3 fun _ f => Y12 f p_12 (fzu (hM_1.trans hM_2) q0) 2 rfl fun _ f => Y f 3 fun _ f => eT ?_
       exact ⟨(decide ((9007199254740992 : Int) < d0.fNum)), (sI hF_32).symm, M_2, (mR _), f.kp, p_12⟩
     ·rintro a_65 w_13 ⟨y_3, hq_3, M_3, hM_3, f, p_13⟩
      subst j_4
      refine T_n (RcF f hF_30 (fun h_17 hF_33 => ?_) fun h_17 hF_35 => ?_)
      ·refine RR (Y f 1 fun _ f => eT (wp_ret (B_r ?_)))
       have hF_34 := br_elim hF_33 hF_18
       refine T_r (T_r (E_ret1 f rfl (by kernel_rfl : Vc.look _ 2 = some (.int .i64 20)) ?_))
       obtain rfl := sI hF_34
       exact ⟨_, rfl, M_3, ((hM_1.trans hM_2).trans hM_3), (p_13.dropN 2), rfl⟩
      ·refine RR (Y f 3 fun _ f => Y12 f p_13 (fzu ((hM_1.trans hM_2).trans hM_3) q0) 3 rfl fun _ f => ?_)
       obtain ⟨x_1, hx_1, hF_36⟩ := bS hF_35
       refine Y15 f p_13 (runes_Valid_ok n _ (GL.mono ((hM_1.trans hM_2).trans hM_3) hG) d0.fText x_1 hx_1) fun w_14 p_14 _ f => Y f 2 fun _ f => ?_
       rcases cE hF_36 with ⟨h_18, hF_37⟩ | ⟨h_18, hF_39⟩
       ·have k_27 : (x_1) = false := by simpa using h_18
        have f := f.st 87 (cB h_18)
        refine Y f 7 fun _ f => eT (Y6 f (RR (Y f 1 fun _ f => eT (wp_ret (B_r ?_)))))
        have hF_38 := br_elim hF_37 hF_18
        refine T_r (T_r (E_ret1 f rfl (by kernel_rfl : Vc.look _ 2 = some (.int .i64 10)) ?_))
        obtain rfl := sI hF_38
        exact ⟨_, rfl, M_3, ((hM_1.trans hM_2).trans hM_3), (p_14.dropN 2), rfl⟩
       ·have k_28 : (x_1) = true := by simpa using h_18
        have f := f.st 87 (cB h_18)
        refine Y f 3 fun _ f => Y12 f p_14 (fzu ((hM_1.trans hM_2).trans hM_3) q0) 5 rfl fun _ f => ?_
        obtain ⟨x_2, hx_2, hF_40⟩ := bS hF_39
        refine Y15 f p_14 (slices_ContainsFuncstring_string_ok n _ (GL.mono ((hM_1.trans hM_2).trans hM_3) hG) A_2 cap_2 d0.fKeys (h_2.mono ((hM_1.trans hM_2).trans hM_3)) x_2 hx_2) fun w_15 p_15 _ f => Y f 2 fun _ f => eT (RcF f hF_40 (fun h_19 hF_41 => ?_) fun h_19 hF_43 => ?_)
        ·refine RR (Y f 1 fun _ f => eT (wp_ret (B_r ?_)))
         have hF_42 := br_elim hF_41 hF_18
         refine T_r (T_r (E_ret1 f rfl (by kernel_rfl : Vc.look _ 2 = some (.int .i64 10)) ?_))
         obtain rfl := sI hF_42
         exact ⟨_, rfl, M_3, ((hM_1.trans hM_2).trans hM_3), (p_15.dropN 2), rfl⟩
        ·refine wp_skip (B_n (T_n ?_))
         exact ⟨(), (sI hF_43).symm, M_3, (hM_2.trans hM_3), f.kp, p_15⟩
  ·rintro a_78 w_16 ⟨y_4, rfl, M_4, hM_4, f, p_16⟩
   refine T_n (R_seq (RR (Y f 3 fun _ f => Y12 f p_16 (fzu (hM_1.trans hM_4) q0) 5 rfl fun _ f => Y f 2 fun _ f => eT (wp_block ?_))))
   obtain ⟨b_2, hL_1, hF_44⟩ := bS hF_18
   refine wp_mono (Q := fun e a w => (e = .ret ∧ (∃ y_5 : (List ((List UInt8) × Bool)), b_2 = .inl y_5 ∧ ∃ M_6 : Mem, M_4.le M_6 ∧ Frm 109 [(2, .int .i64 41)] a ∧ Hp w0 M_6 ((Ent.obj bm_1 (mapO S Value.bool y_5)) :: (Ent.obj b_1 (.cells #[.int .i8 d0.fKind, .bool y_1.1, .int .i64 y_1.2.1, S y_1.2.2.1, .slice A_3 y_1.2.2.2.1.length cap_3, .slice A_4 y_1.2.2.2.2.length cap_4] 26 (0, 0))) :: H) w)) ∨ (e = .exit 2 ∧ (∃ y_6 : (List ((List UInt8) × Bool)), b_2 = .inr y_6 ∧ ∃ M_7 : Mem, M_4.le M_7 ∧ Frm 109 [] a ∧ Hp w0 M_7 ((Ent.obj bm_1 (mapO S Value.bool y_6)) :: (Ent.obj b_1 (.cells #[.int .i8 d0.fKind, .bool y_1.1, .int .i64 y_1.2.1, S y_1.2.2.1, .slice A_3 y_1.2.2.2.1.length cap_3, .slice A_4 y_1.2.2.2.2.length cap_4] 26 (0, 0))) :: H) w))) (R_loop (n := 109) (w0 := w0) (M := M_4) (fun (x : Nat × (Int × (List ((List UInt8) × Bool)))) => match x with | (m_1, s_1) => [(4, .map (some bm_1)), (97, .slice A_2 d0.fKeys.length cap_2), (98, .int .i64 ((d0.fKeys.length : Nat) : Int)), (99, .int .i64 s_1.1)]) (fun (x : Nat × (Int × (List ((List UInt8) × Bool)))) => match x with | (m_1, s_1) => ((Ent.obj bm_1 (mapO S Value.bool s_1.2)) :: (Ent.obj b_1 (.cells #[.int .i8 d0.fKind, .bool y_1.1, .int .i64 y_1.2.1, S y_1.2.2.1, .slice A_3 y_1.2.2.2.1.length cap_3, .slice A_4 y_1.2.2.2.2.length cap_4] 26 (0, 0))) :: H)) (fun (x : Nat × (Int × (List ((List UInt8) × Bool)))) (MM : Mem) => match x with | (m_1, s_1) => loopF (tree_alone_s1 n d0) m_1 s_1 = some b_2) (fun (x : Nat × (Int × (List ((List UInt8) × Bool)))) => match x with | (m_1, s_1) => m_1) (n, ((0 : Int), ([] : List ((List UInt8) × Bool)))) (f.kp) p_16 hL_1 ?_) ?_
   ·rintro ⟨m_1, s_1⟩ M_5 _ w_17 hM_5 I_1 f p_17
    have I_1L := I_1
    obtain ⟨m_2, r_1, rfl, hs_1, hn_1⟩ := loop_step I_1L
    unfold tree_alone_s1 at hs_1
    refine RR (Y f 1 fun _ f => eT (R_seq (RcF f hs_1 (fun h_20 hF_45 => ?_) fun h_20 hF_50 => ?_)))
    ·have k_31 := dI.1 h_20
     refine wp_skip (T_n (R_seq (wp_block (RR ?_))))
     obtain ⟨x_3, hx_3, hF_46⟩ := bS hF_45
     obtain ⟨ad_1, c_1, e_1, -, hr_1, hc_1⟩ := Sli.at_ (h_2.mono ((hM_1.trans hM_4).trans hM_5)) hx_3
     obtain rfl : c_1 = [S x_3] := hr_1
     refine Z f (Y26 e_1 rfl (len := d0.fKeys.length) (cap := cap_2) (k := .i64) (i := s_1.1) (e := 9) (sz := 1) (getI_nn hx_3) (getI_lt hx_3)) fun _ f => Y12 f p_17 hc_1 0 rfl fun _ f => Y f 1 fun _ f => eT (R_seq (RR (Y f 2 fun _ f => Z (v := .bool ((mget s_1.2 x_3).getD false)) f (Y29 (ek := S) (ev := Value.bool) (m := s_1.2) (k := x_3) (z := false) (kt := 9) (et := 4) rfl (strKey (by kernel_rfl)) (p_17.ownObj 0 rfl)) fun _ f => eT (RcF f hF_46 (fun h_21 hF_47 => ?_) fun h_21 hF_48 => ?_))))
     ·refine RR (Y f 1 fun _ f => eT (wp_ret (T_r (B_r (T_r (T_r ?_))))))
      obtain rfl := sI hF_47
      exact .inl ⟨rfl, s_1.2, (sI hn_1).symm, M_5, hM_5, f.kp, p_17⟩
     ·refine wp_skip (T_n (R_reg (Y f 2 fun _ f => Y20 (ek := S) (ev := Value.bool) (m := s_1.2) (k := x_3) (v := (true)) (kt := 9) (et := 4) f p_17 rfl (.inl rfl) (strKey (by kernel_rfl)) fun w_18 p_18 _ f => W_end rfl (B_n (T_n (R_reg ?_))))))
      obtain ⟨g_2, hF_49⟩ := nS hF_48
      refine Y f 1 fun _ f => ?_
      have f := f.st 108 (congrArg (Value.int .i64) (inR_wrap g_2))
      refine Y f 1 fun _ f => eT ?_
      obtain rfl := sI hF_49
      exact ⟨⟨m_2, (s_1.1 + 1, mput s_1.2 x_3 (true))⟩, Nat.lt_succ_self _, M_5, hM_5, hn_1, f.kp, p_18⟩
    ·have k_34 := iff_f dI h_20
     refine wp_exit (T_x (T_x ?_))
     obtain rfl := sI hF_50
     exact .inr ⟨rfl, s_1.2, (sI hn_1).symm, M_5, hM_5, f.kp, p_17⟩
   ·rintro _ _ w_21 (⟨rfl, y_5, rfl, M_6, hM_6, f, p_19⟩ | ⟨rfl, y_6, rfl, M_7, hM_7, f, p_20⟩)
    ·refine B_r (T_r (E_ret1 f rfl (by kernel_rfl : Vc.look _ 2 = some (.int .i64 41)) ?_))
     obtain rfl := sI hF_44
     exact ⟨_, rfl, M_6, ((hM_1.trans hM_4).trans hM_6), (p_19.dropN 2), rfl⟩
    ·refine B_x (T_n (RR (Y f 1 fun _ f => eT (wp_ret (E_ret1 f rfl (by kernel_rfl : Vc.look _ 2 = some (.int .i64 0)) ?_)))))
     obtain rfl := sI hF_44
     exact ⟨_, rfl, M_7, ((hM_1.trans hM_4).trans hM_7), (p_20.dropN 2), rfl⟩
def tree_Check_s1 (n : Nat) (s_1 : Int) (x_2 : TA0) : Option (Lp Int (Int × Int)) :=
    (tree_alone n x_2).bind fun x_3 =>
    bif (!(decide (x_3 = 0))) then
      (some (.br (s_1, x_3)))
    else
      need (inR .i64 (s_1 + 1)) <|
      some (.nx (s_1 + 1))
def tree_Check (n : Nat) (d0 : TA0) : Option Int :=
  (tree_depth n d0 (24 : Int)).bind fun x_1 =>
  bif (decide ((24 : Int) < x_1)) then
    (some ((30 : Int)))
  else
    need ((walkV d0).length ≤ 9223372036854775806) <|
    (foldY (tree_Check_s1 n) (walkV d0) (0 : Int)).bind fun j_1 =>
    (match j_1 with 
    | .nx s_2 => bif (decide ((4096 : Int) < s_2)) then
        (some ((3 : Int)))
      else
        some ((0 : Int)) 
    | .br b_5 => some (b_5.2))
set_option maxRecDepth 20000 in
theorem tree_Check_ok (n : Nat) (M : Mem) (hG : GL M) (c0 : List Value) (d0 : TA0) (h0 : Rep M (emb_TA0 d0) c0) (r : Int) (hF : tree_Check n d0 = some r) : Ok Tryd.prog M 21 [.agg c0.toArray] (fun _ v => v = .int .i64 r) := by
 unfold tree_Check at hF
 intro M1 hM0 w0 H w p0
 replace hG := GL.mono hM0 hG
 replace h0 := Rep.mono hM0 _ _ h0
 obtain ⟨A_1, cap_1, A_2, cap_2, rfl, h_1, h_2⟩ := TA0.opn h0
 refine R_enterM 19 Tryd.func21 rfl rfl (by simp) fun a0 f0 => RR (Y10 (cs := #[.int .i8 d0.fKind, .bool d0.fBool, .int .i64 d0.fNum, S d0.fText, .slice A_1 d0.fList.length cap_1, .slice A_2 d0.fKeys.length cap_2]) (T := 26) f0 p0 fun b_1 M_1 w_1 hM_1 hc_1 p_1 _ f => ?_)
 have hc_2 := fz_box hc_1
 refine Y9 f p_1 (.cells #[.int .i64 0] 29 (0, 0)) fun b_2 w_2 p_2 _ f => eT (R_seq (RR ?_))
 obtain ⟨x_1, hx_1, hF_1⟩ := bS hF
 refine Y15 f p_2 (tree_depth_ok n _ (⟨b_1, 0, none⟩) [.int .i8 d0.fKind, .bool d0.fBool, .int .i64 d0.fNum, S d0.fText, .slice A_1 d0.fList.length cap_1, .slice A_2 d0.fKeys.length cap_2] d0 (TA0.shutx (x := d0) (h_1.mono hM_1) (h_2.mono hM_1)) (fz_at (hc_2) 0 rfl) (24 : Int) x_1 hx_1) fun w_3 p_3 _ f => Y f 1 fun _ f => eT (RcF f hF_1 (fun h_3 hF_2 => ?_) fun h_3 hF_3 => ?_)
 ·have k_1 := dI.1 h_3
  refine RR (Y22 f p_3 0 rfl rfl (b := b_2) (j := 0) (v := .int .i64 30) rfl (by exact rfl) (by simp) (by simp) ((Ent.obj b_2 (.cells #[.int .i64 30] 29 (0, 0))) :: H) rfl fun w_4 p_4 _ f => eT (wp_ret (T_r (E_M0 f (V_rv1 rfl (Y7 (v := .int .i64 30) (ad := ⟨b_2, 0, none⟩) f (p_4.ownCell 0 rfl 0)) ?_)))))
  obtain rfl := sI hF_2
  exact ⟨_, rfl, M_1, hM_1, (p_4.dropN 1), rfl⟩
 ·have k_2 := iff_f dI h_3
  refine wp_skip (T_n (RR (Y9 f p_3 (.cells #[.int .i64 0] 3 (0, 0)) fun b_3 w_5 p_5 _ f => Y22 f p_5 0 rfl rfl (b := b_3) (j := 0) (v := .int .i64 0) rfl (by exact rfl) (by simp) (by simp) ((Ent.obj b_3 (.cells #[.int .i64 0] 3 (0, 0))) :: (Ent.obj b_2 (.cells #[.int .i64 0] 29 (0, 0))) :: H) rfl fun w_6 p_6 _ f => eT (R_seq (RR (Z (v := .agg #[.int .i8 d0.fKind, .bool d0.fBool, .int .i64 d0.fNum, S d0.fText, .slice A_1 d0.fList.length cap_1, .slice A_2 d0.fKeys.length cap_2]) f (Y28 (cs := [.int .i8 d0.fKind, .bool d0.fBool, .int .i64 d0.fNum, S d0.fText, .slice A_1 d0.fList.length cap_1, .slice A_2 d0.fKeys.length cap_2]) rfl (ad := ⟨b_1, 0, none⟩) (fun j v h => p_6.cell (hc_2 j v h))) fun _ f => ?_))))))
  obtain ⟨g_1, hF_4⟩ := nS hF_3
  refine Y13 f p_6 (walk_ok d0 g_1 _ [.int .i8 d0.fKind, .bool d0.fBool, .int .i64 d0.fNum, S d0.fText, .slice A_1 d0.fList.length cap_1, .slice A_2 d0.fKeys.length cap_2] (TA0.shutx (x := d0) (h_1.mono hM_1) (h_2.mono hM_1))) fun _ M_2 w_7 hM_2 p_7 q_1 a_9 f => ?_
  obtain ⟨fv_1, cp_1, rfl, hit_1⟩ := q_1
  refine eT (wp_block ?_)
  have f : Frm 19 [(2, .pointer (some (⟨b_2, 0, none⟩))), (3, .pointer (some (⟨b_3, 0, none⟩))), (9, .func (.func fv_1) #[] cp_1.toArray)] a_9 := f.kp
  obtain ⟨j_1, hL_1, hF_5⟩ := bS hF_4
  refine R_range (σ := Int) (β := Int × Int) (vals := valsV) (Y := (tree_Check_s1 n)) (E0 := [Ent.obj b_3 (.cells #[.int .i64 0] 3 (0, 0)), Ent.obj b_2 (.cells #[.int .i64 0] 29 (0, 0))]) (H := H) (w0 := w0) (M := M_2) (f := fv_1) (caps := cp_1) f p_7 (by kernel_rfl) (by kernel_rfl) (by kernel_rfl) hit_1.1 (fun (s_1 : Int) M' E1 => E1 = [Ent.obj b_3 (.cells #[.int .i64 s_1] 3 (0, 0)), Ent.obj b_2 (.cells #[.int .i64 0] 29 (0, 0))]) (fun (y_1 : Int × Int) M' E1 => E1 = [Ent.obj b_3 (.cells #[.int .i64 y_1.1] 3 (0, 0)), Ent.obj b_2 (.cells #[.int .i64 y_1.2] 29 (0, 0))]) (fun (_ : Int × Int) => Jmp.ret) (0 : Int) j_1 rfl (fun s_ M_ M2_ E_ hM h => h) (fun s_ M_ M2_ E_ hM h => h) (fun M_ x_ vs_ h => by obtain ⟨c_, h, _⟩ := h; exact ⟨_, h⟩) (hit_1.2 _ _ _ _ _ hL_1) ?_ ?_ ?_
  ·rintro s_1 x_2 r_1 hs_1 l_1 w0 M_3 E_1 H w_8 _ v_1 hM_3 rfl ⟨cc_1, hv_1, hr_1⟩ p_8 f
   obtain rfl : v_1 = .agg cc_1.toArray := by simpa using hv_1
   unfold tree_Check_s1 at hs_1
   obtain ⟨A_3, cap_3, A_4, cap_4, rfl, h_4, h_5⟩ := TA0.opn hr_1
   refine RI_reg (then_out F_out) (by kernel_rfl) (Y9 f p_8 (.cells #[.int .i8 0, .bool false, .int .i64 0, S [], .slice none 0 0, .slice none 0 0] 26 (0, 0)) fun b_4 w_9 p_9 _ f => Y23 (vs := [.int .i8 x_2.fKind, .bool x_2.fBool, .int .i64 x_2.fNum, S x_2.fText, .slice A_3 x_2.fList.length cap_3, .slice A_4 x_2.fKeys.length cap_4]) (j := 0) f p_9 rfl rfl (by simp [Value.oneCell', S]) (by simp) (by decide) (cs' := #[.int .i8 x_2.fKind, .bool x_2.fBool, .int .i64 x_2.fNum, S x_2.fText, .slice A_3 x_2.fList.length cap_3, .slice A_4 x_2.fKeys.length cap_4]) fun w_10 p_10 _ f => eT (⟨M_3, [Ent.obj b_4 (.cells #[.int .i8 x_2.fKind, .bool x_2.fBool, .int .i64 x_2.fNum, S x_2.fText, .slice A_3 x_2.fList.length cap_3, .slice A_4 x_2.fKeys.length cap_4] 26 (0, 0)), Ent.obj b_3 (.cells #[.int .i64 s_1] 3 (0, 0)), Ent.obj b_2 (.cells #[.int .i64 0] 29 (0, 0))], (mR _), p_10, fun H w_11 p_11 => ?_⟩))
   refine RI_block (RI_seq (RI_seq (RI_reg (then_out (then_out (block_out (RB_out)))) (by kernel_rfl) ?_)))
   obtain ⟨M_4, hM_4, p_12, hc_3⟩ := p_11.fzOwn
   obtain ⟨x_3, hx_2, hF_6⟩ := bS hs_1
   refine Y15 f p_12 (tree_alone_ok n _ (GL.mono (((hM_1.trans hM_2).trans hM_3).trans hM_4) hG) (⟨b_4, 0, none⟩) [.int .i8 x_2.fKind, .bool x_2.fBool, .int .i64 x_2.fNum, S x_2.fText, .slice A_3 x_2.fList.length cap_3, .slice A_4 x_2.fKeys.length cap_4] x_2 (TA0.shutx (x := x_2) (h_4.mono hM_4) (h_5.mono hM_4)) (fz_at (hc_3) 0 rfl) x_3 hx_2) fun w_12 p_13 _ f => Y f 1 fun _ f => eT (RI_seq (RI_reg (then_out (then_out (block_out (RB_out)))) (by kernel_rfl) (Y f 2 fun _ f => eT (RI_cond f (b := !(decide (x_3 = 0))) (by kernel_rfl) (by kernel_rfl) (fun h_6 => ?_) fun h_6 => ?_))))
   ·have k_3 : ¬ (x_3 = 0) := (not_iff dI).1 h_6
    have hF_7 := cnd_t h_6 hF_6
    refine RI_seq (RI_reg (then_out (then_out (block_out (RB_out)))) (by kernel_rfl) (Y f 1 fun _ f => Y22 f p_13 1 rfl rfl (b := b_2) (j := 0) (v := .int .i64 x_3) rfl (by exact rfl) (by simp) (by simp) ((Ent.obj b_3 (.cells #[.int .i64 s_1] 3 (0, 0))) :: (Ent.obj b_2 (.cells #[.int .i64 x_3] 29 (0, 0))) :: H) rfl fun w_13 p_14 _ f => eT (RI_ret (T_r (B_r ?_)))))
    obtain rfl := sI hF_7
    exact RB_x rfl ⟨M_4, [Ent.obj b_3 (.cells #[.int .i64 s_1] 3 (0, 0)), Ent.obj b_2 (.cells #[.int .i64 x_3] 29 (0, 0))], hM_4, p_14, rfl⟩
   ·have k_4 : ¬ (¬ (x_3 = 0)) := iff_f (not_iff dI) h_6
    have hF_8 := cnd_f h_6 hF_6
    refine RI_skip (T_n (RI_reg (block_out (RB_out)) (by kernel_rfl) (Z f (Y27 (v := .int .i64 s_1) rfl (ad := ⟨b_3, 0, none⟩) (p_13.ownCell 0 rfl 0)) fun _ f => ?_)))
    obtain ⟨g_2, hF_9⟩ := nS hF_8
    refine Y f 1 fun _ f => ?_
    have f := f.st 16 (congrArg (Value.int .i64) (inR_wrap g_2))
    refine Y22 f p_13 0 rfl rfl (b := b_3) (j := 0) (v := .int .i64 (s_1 + 1)) rfl (by exact rfl) (by simp) (by simp) ((Ent.obj b_3 (.cells #[.int .i64 (s_1 + 1)] 3 (0, 0))) :: (Ent.obj b_2 (.cells #[.int .i64 0] 29 (0, 0))) :: H) rfl fun w_14 p_15 _ f => W_end rfl (B_n ?_)
    obtain rfl := sI hF_9
    exact RB_n ⟨M_4, [Ent.obj b_3 (.cells #[.int .i64 (s_1 + 1)] 3 (0, 0)), Ent.obj b_2 (.cells #[.int .i64 0] 29 (0, 0))], hM_4, p_15, rfl⟩
  ·rintro s_2 rfl l_2 D_1 rr_1 M_5 E_2 w_15 _ hM_5 rfl p_16 f
   replace p_16 : Hp w0 M_5 ((Ent.obj D_1 (.deferred (some []))) :: (Ent.obj b_3 (.cells #[.int .i64 s_2] 3 (0, 0))) :: (Ent.obj b_2 (.cells #[.int .i64 0] 29 (0, 0))) :: H) w_15 := p_16.drop
   replace hF_5 : (_ : Option _) = some _ := hF_5
   refine B_n (T_n (R_seq (RR (Z f (Y27 (v := .int .i64 s_2) rfl (ad := ⟨b_3, 0, none⟩) (p_16.ownCell 1 rfl 0)) fun _ f => Y f 1 fun _ f => eT (RcF f hF_5 (fun h_7 hF_10 => ?_) fun h_7 hF_11 => ?_)))))
   ·have k_5 := dI.1 h_7
    refine RR (Y22 f p_16 2 rfl rfl (b := b_2) (j := 0) (v := .int .i64 3) rfl (by exact rfl) (by simp) (by simp) ((Ent.obj D_1 (.deferred (some []))) :: (Ent.obj b_3 (.cells #[.int .i64 s_2] 3 (0, 0))) :: (Ent.obj b_2 (.cells #[.int .i64 3] 29 (0, 0))) :: H) rfl fun w_16 p_17 _ f => eT (wp_ret (T_r (E_M1 f p_17 fun w_17 p_18 => V_rv1 rfl (Y7 (v := .int .i64 3) (ad := ⟨b_2, 0, none⟩) f (p_18.ownCell 1 rfl 0)) ?_))))
    obtain rfl := sI hF_10
    exact ⟨_, rfl, M_5, ((hM_1.trans hM_2).trans hM_5), (p_18.dropN 2), rfl⟩
   ·have k_6 := iff_f dI h_7
    refine wp_skip (T_n (RR (Y22 f p_16 2 rfl rfl (b := b_2) (j := 0) (v := .int .i64 0) rfl (by exact rfl) (by simp) (by simp) ((Ent.obj D_1 (.deferred (some []))) :: (Ent.obj b_3 (.cells #[.int .i64 s_2] 3 (0, 0))) :: (Ent.obj b_2 (.cells #[.int .i64 0] 29 (0, 0))) :: H) rfl fun w_18 p_19 _ f => eT (wp_ret (E_M1 f p_19 fun w_19 p_20 => V_rv1 rfl (Y7 (v := .int .i64 0) (ad := ⟨b_2, 0, none⟩) f (p_20.ownCell 1 rfl 0)) ?_)))))
    obtain rfl := sI hF_11
    exact ⟨_, rfl, M_5, ((hM_1.trans hM_2).trans hM_5), (p_20.dropN 2), rfl⟩
  ·rintro b_5 rfl l_3 D_2 rr_2 M_6 E_3 w_20 _ hM_6 hx_3 p_21 f
   obtain rfl := hx_3
   replace p_21 : Hp w0 M_6 ((Ent.obj D_2 (.deferred (some []))) :: (Ent.obj b_3 (.cells #[.int .i64 b_5.1] 3 (0, 0))) :: (Ent.obj b_2 (.cells #[.int .i64 b_5.2] 29 (0, 0))) :: H) w_20 := p_21.drop
   refine B_r (T_r (E_M1 f p_21 fun w_21 p_22 => V_rv1 rfl (Y7 (v := .int .i64 b_5.2) (ad := ⟨b_2, 0, none⟩) f (p_22.ownCell 1 rfl 0)) ?_))
   obtain rfl := sI hF_5
   exact ⟨_, rfl, M_6, ((hM_1.trans hM_2).trans hM_6), (p_22.dropN 2), rfl⟩
end Go.Proofs.YtfaedhhjamaniaaDoor
end

section
namespace Go.Proofs
open Go Go.Shelf
def Tryd.laysS_ren : Go.Shelf.Ren := ⟨fun | 6 => 46 | 14 => 59 | 15 => 60 | 20 => 68 | 21 => 69 | 22 => 70 | 23 => 71 | 24 => 72 | 25 => 73 | 26 => 74 | 27 => 75 | 28 => 76 | 29 => 77 | 46 => 82 | 47 => 83 | 48 => 84 | 49 => 85 | 50 => 86 | 57 => 90 | n => n, fun | 22 => 60 | 24 => 3 | 25 => 71 | 39 => 86 | 45 => 95 | 46 => 96 | 50 => 100 | 53 => 103 | 55 => 105 | 66 => 112 | 70 => 116 | 76 => 121 | 77 => 81 | n => n, fun | n => n⟩
theorem Tryd.laysS : Go.Proofs.SlLaysF.n6 Tryd.prog Tryd.laysS_ren := {
 mixed := by kernel_rfl
 f6 := ⟨ "slices.SortFunc[[]int,int]", by decide, Tryd.func46.trans (congrArg some (by kernel_rfl))⟩
 f14 := ⟨ "slices.pdqsortCmpFunc[int]", by decide, Tryd.func59.trans (congrArg some (by kernel_rfl))⟩
 f15 := Tryd.func60.trans (congrArg some (by kernel_rfl))
 f20 := ⟨ "slices.insertionSortCmpFunc[int]", by decide, Tryd.func68.trans (congrArg some (by kernel_rfl))⟩
 f21 := ⟨ "slices.heapSortCmpFunc[int]", by decide, Tryd.func69.trans (congrArg some (by kernel_rfl))⟩
 f22 := ⟨ "slices.breakPatternsCmpFunc[int]", by decide, Tryd.func70.trans (congrArg some (by kernel_rfl))⟩
 f23 := ⟨ "slices.choosePivotCmpFunc[int]", by decide, Tryd.func71.trans (congrArg some (by kernel_rfl))⟩
 f24 := ⟨ "slices.reverseRangeCmpFunc[int]", by decide, Tryd.func72.trans (congrArg some (by kernel_rfl))⟩
 f25 := ⟨ "slices.partialInsertionSortCmpFunc[int]", by decide, Tryd.func73.trans (congrArg some (by kernel_rfl))⟩
 f26 := ⟨ "slices.partitionEqualCmpFunc[int]", by decide, Tryd.func74.trans (congrArg some (by kernel_rfl))⟩
 f27 := ⟨ "slices.partitionCmpFunc[int]", by decide, Tryd.func75.trans (congrArg some (by kernel_rfl))⟩
 f28 := Tryd.func76.trans (congrArg some (by kernel_rfl))
 f29 := Tryd.func77.trans (congrArg some (by kernel_rfl))
 f46 := ⟨ "slices.siftDownCmpFunc[int]", by decide, Tryd.func82.trans (congrArg some (by kernel_rfl))⟩
 f47 := Tryd.func83.trans (congrArg some (by kernel_rfl))
 f48 := Tryd.func84.trans (congrArg some (by kernel_rfl))
 f49 := ⟨ "slices.medianAdjacentCmpFunc[int]", by decide, Tryd.func85.trans (congrArg some (by kernel_rfl))⟩
 f50 := ⟨ "slices.medianCmpFunc[int]", by decide, Tryd.func86.trans (congrArg some (by kernel_rfl))⟩
 f57 := ⟨ "slices.order2CmpFunc[int]", by decide, Tryd.func90.trans (congrArg some (by kernel_rfl))⟩
 t0 := Tryd.underlying0
 a0 := Tryd.isAgg0
 z0 := Tryd.sizeOf0
 v0 := Tryd.zeroValue0
 t3 := Tryd.underlying3
 a3 := Tryd.isAgg3
 z3 := Tryd.sizeOf3
 v3 := Tryd.zeroValue3
 t4 := Tryd.underlying4
 a4 := Tryd.isAgg4
 z4 := Tryd.sizeOf4
 v4 := Tryd.zeroValue4
 t5 := Tryd.underlying5
 a5 := Tryd.isAgg5
 z5 := Tryd.sizeOf5
 v5 := Tryd.zeroValue5
 t9 := Tryd.underlying9
 a9 := Tryd.isAgg9
 z9 := Tryd.sizeOf9
 v9 := Tryd.zeroValue9
 t22 := Tryd.underlying60
 a22 := Tryd.isAgg60
 z22 := Tryd.sizeOf60
 v22 := Tryd.zeroValue60
 a24 := Tryd.isAgg3
 z24 := Tryd.sizeOf3
 t25 := Tryd.underlying71
 a25 := Tryd.isAgg71
 z25 := Tryd.sizeOf71
 v25 := Tryd.zeroValue71
 t39 := Tryd.underlying86
 a39 := Tryd.isAgg86
 z39 := Tryd.sizeOf86
 v39 := Tryd.zeroValue86
 t45 := Tryd.underlying95
 a45 := Tryd.isAgg95
 z45 := Tryd.sizeOf95
 v45 := Tryd.zeroValue95
 t46 := Tryd.underlying96
 a46 := Tryd.isAgg96
 z46 := Tryd.sizeOf96
 v46 := Tryd.zeroValue96
 t50 := Tryd.underlying100
 a50 := Tryd.isAgg100
 z50 := Tryd.sizeOf100
 v50 := Tryd.zeroValue100
 t53 := Tryd.underlying103
 a53 := Tryd.isAgg103
 z53 := Tryd.sizeOf103
 v53 := Tryd.zeroValue103
 t55 := Tryd.underlying105
 a55 := Tryd.isAgg105
 z55 := Tryd.sizeOf105
 v55 := Tryd.zeroValue105
 t66 := Tryd.underlying112
 a66 := Tryd.isAgg112
 z66 := Tryd.sizeOf112
 v66 := Tryd.zeroValue112
 t70 := Tryd.underlying116
 a70 := Tryd.isAgg116
 z70 := Tryd.sizeOf116
 v70 := Tryd.zeroValue116
 t76 := Tryd.underlying121
 a76 := Tryd.isAgg121
 z76 := Tryd.sizeOf121
 v76 := Tryd.zeroValue121
 t77 := Tryd.underlying81
 a77 := Tryd.isAgg81
 z77 := Tryd.sizeOf81
 v77 := Tryd.zeroValue81 }
end Go.Proofs
end

section
namespace Go.Proofs.YtfaedhhjamaniaaDoor
open Go Go.Vc Go.RowKit Go.Sort
def keyLe (keys : List (List UInt8)) (x y : Int) : Bool := !(decide (Lib.compareBytes (keys.getD y.toNat []) (keys.getD x.toNat []) < 0))
theorem keyLe_iff {keys : List (List UInt8)} {x y : Int} : keyLe keys x y = true ↔ Lib.compareBytes (keys.getD x.toNat []) (keys.getD y.toNat []) ≤ 0 := by
 have := cb_anti (keys.getD x.toNat []) (keys.getD y.toNat [])
 simp only [keyLe, Bool.not_eq_true', decide_eq_false_iff_not]
 omega
def ins (le : Int → Int → Bool) (x : Int) : List Int → List Int
  | [] => [x]
  | y :: r => bif le x y then x :: y :: r else y :: ins le x r
def isort (le : Int → Int → Bool) : List Int → List Int
  | [] => []
  | x :: r => ins le x (isort le r)
theorem ins_perm (le : Int → Int → Bool) (x : Int) : ∀ l, (ins le x l).Perm (x :: l)
 | [] => List.Perm.refl _
 | y :: r => by
  unfold ins
  cases le x y with
  | true => exact List.Perm.refl _
  | false => exact ((ins_perm le x r).cons y).trans (List.Perm.swap x y r)
theorem isort_perm (le : Int → Int → Bool) : ∀ l, (isort le l).Perm l
 | [] => List.Perm.refl _
 | x :: r => (ins_perm le x _).trans ((isort_perm le r).cons x)
theorem ins_sorted {le : Int → Int → Bool} (ht : ∀ a b c, le a b = true → le b c = true → le a c = true) (hn : ∀ a b, le a b = true ∨ le b a = true) (x : Int) : ∀ l, l.Pairwise (fun a b => le a b = true) → (ins le x l).Pairwise (fun a b => le a b = true)
 | [], _ => by simp [ins]
 | y :: r, h => by
  obtain ⟨h1, h2⟩ := List.pairwise_cons.1 h
  unfold ins
  cases hxy : le x y with
  | true => exact List.pairwise_cons.2 ⟨fun z hz => by
    rcases List.mem_cons.1 hz with rfl | hz
    ·exact hxy
    ·exact ht _ _ _ hxy (h1 z hz), h⟩
  | false =>
   refine List.pairwise_cons.2 ⟨fun z hz => ?_, ins_sorted ht hn x r h2⟩
   rcases List.mem_cons.1 ((ins_perm le x r).mem_iff.1 hz) with rfl | hz
   ·exact (hn z y).resolve_left (by simp [hxy])
   ·exact h1 z hz
theorem isort_sorted {le : Int → Int → Bool} (ht : ∀ a b c, le a b = true → le b c = true → le a c = true) (hn : ∀ a b, le a b = true ∨ le b a = true) : ∀ l, (isort le l).Pairwise (fun a b => le a b = true)
 | [] => List.Pairwise.nil
 | x :: r => ins_sorted ht hn x _ (isort_sorted ht hn r)
theorem keyLe_trans (keys : List (List UInt8)) (a b c : Int) (h1 : keyLe keys a b = true) (h2 : keyLe keys b c = true) : keyLe keys a c = true :=
 keyLe_iff.2 (cb_trans _ _ _ (keyLe_iff.1 h1) (keyLe_iff.1 h2)).1
theorem keyLe_total (keys : List (List UInt8)) (a b : Int) : keyLe keys a b = true ∨ keyLe keys b a = true := by
 rw [keyLe_iff, keyLe_iff]
 have := cb_anti (keys.getD a.toNat []) (keys.getD b.toNat [])
 omega
theorem sort_eq {keys : List (List UInt8)} {d : List Int} (hnd : keys.Nodup) (hin : ∀ i ∈ d, 0 ≤ i ∧ i < (keys.length : Int)) : d.mergeSort (keyLe keys) = isort (keyLe keys) d := by
 refine List.Perm.eq_of_pairwise (le := fun a b => keyLe keys a b = true) (fun a b ha hb h1 h2 => ?_) (List.pairwise_mergeSort (keyLe_trans keys) (fun a b => by simpa using keyLe_total keys a b) d) (isort_sorted (keyLe_trans keys) (keyLe_total keys) d) ((List.mergeSort_perm d _).trans (isort_perm _ d).symm)
 have ia := hin a ((List.mergeSort_perm d _).mem_iff.1 ha)
 have ib := hin b ((isort_perm _ d).mem_iff.1 hb)
 have e1 := keyLe_iff.1 h1
 have e2 := keyLe_iff.1 h2
 have e3 := cb_anti (keys.getD a.toNat []) (keys.getD b.toNat [])
 have e4 := cb_eq _ _ (by omega : Lib.compareBytes (keys.getD a.toNat []) (keys.getD b.toNat []) = 0)
 have la : a.toNat < keys.length := by omega
 have lb : b.toNat < keys.length := by omega
 have e5 : keys[a.toNat] = keys[b.toNat] := by simpa [la, lb] using e4
 have := (List.getElem_inj hnd).1 e5
 omega
def h_sortKeys (_ : Nat) (v : TA0) (d : List Int) : Option (List Int) :=
  need (v.fKeys.Nodup ∧ ∀ i ∈ d, 0 ≤ i ∧ i < (v.fKeys.length : Int)) (need (d.length < 4611686018427387904) (some (isort (keyLe v.fKeys) d)))
theorem finOf {n : Nat} : ∀ (d : List Int), (∀ i ∈ d, 0 ≤ i ∧ i < (n : Int)) → ∃ l : List (Fin n), l.map (fun x => (x.val : Int)) = d
 | [], _ => ⟨[], rfl⟩
 | i :: r, h => by
  obtain ⟨l, hl⟩ := finOf r fun j hj => h j (List.mem_cons_of_mem _ hj)
  have hi := h i List.mem_cons_self
  refine ⟨⟨i.toNat, by omega⟩ :: l, ?_⟩
  simp [hl]
  omega
theorem keys_swo {n : Nat} (k : Fin n → List UInt8) : SWO (ltOf fun x y : Fin n => Lib.compareBytes (k x) (k y)) := by
 refine ⟨fun x => by simp [ltOf, cb_self], fun x y z h1 h2 => ?_, fun x y z h1 h2 => ?_⟩
 ·simp only [ltOf, decide_eq_true_eq] at *
  exact (cb_trans _ _ _ (by omega) (by omega)).2 (.inl h1)
 ·simp only [ltOf, decide_eq_false_iff_not] at *
  have a1 := cb_anti (k x) (k y)
  have a2 := cb_anti (k y) (k z)
  have a3 := cb_anti (k x) (k z)
  have := (cb_trans (k z) (k y) (k x) (by omega) (by omega)).1
  omega
theorem sortKeys_ok (n : Nat) {M : Mem} {bA ad0 : Addr} {v : TA0} {c0 : List Value} (h0 : Rep M (emb_TA0 v) c0) (q0 : ∀ j u, c0[j]? = some u → M.cell? (ad0.add j) = some u)
  (hb : M.cell? bA = some (.pointer (some ad0))) (u : Value) (d : List Int) (cs : List Value) (hr : RepSeq M (d.map (Dat.int .i64)) cs) (r : List Int) (hF : h_sortKeys n v d = some r) :
  OkH Tryd.prog M [.row 3 1 u d.length cs] 46 [u, .func (.func 47) #[] #[.pointer (some bA)]] (fun M' E' z => ∃ cs', z = .tuple #[] ∧ E' = [.row 3 1 u r.length cs'] ∧ RepSeq M' (r.map (Dat.int .i64)) cs' ∧ r.length = d.length) := by
 unfold h_sortKeys at hF
 obtain ⟨⟨hnd, hin⟩, hF⟩ := need_some hF
 obtain ⟨hlen, hF⟩ := need_some hF
 obtain rfl := Option.some.inj hF
 rw [← sort_eq hnd hin]
 obtain rfl := repInts hr
 clear hF
 obtain ⟨zs, rfl⟩ := finOf d hin
 clear hr hin
 intro M2 hM w0 H w hp
 have hmap : (zs.mergeSort fun x y => !(ltOf (fun x y : Fin v.fKeys.length => Lib.compareBytes v.fKeys[x] v.fKeys[y])) y x).map (fun x => (x.val : Int)) = (zs.map (fun x => (x.val : Int))).mergeSort (keyLe v.fKeys) := by
  refine List.map_mergeSort fun a _ b _ => ?_
  simp [keyLe, ltOf]
 rw [← hmap]
 have hls : (zs.mergeSort fun x y => !(ltOf (fun x y : Fin v.fKeys.length => Lib.compareBytes v.fKeys[x] v.fKeys[y])) y x).length = zs.length := List.length_mergeSort _
 clear hmap
 by_cases hd : zs = []
 ·subst hd
  have key : ∀ p cap, u = .slice p 0 cap → Calls Tryd.prog 46 [u, .func (.func 47) #[] #[.pointer (some bA)]].toArray w fun e w' => e = .returned (.tuple #[]) ∧ w' = w := fun p cap e => by
   subst e
   exact AnyF.slices_SortFunc_none { Tryd.laysS with } p cap _ w
  have hv : ∃ p cap, u = .slice p 0 cap := by
   rcases hp.rowObj with ⟨h1, _⟩ | ⟨g, cap, cur, h1, _⟩
   ·exact ⟨_, _, h1⟩
   ·exact ⟨_, _, h1⟩
  obtain ⟨p, cap, hv⟩ := hv
  refine (key p cap hv).mono fun e w' ⟨he, hw⟩ => ⟨_, he, M2, _, Mem.le_refl _, ?_, [], rfl, rfl, ?_, by simp⟩
  ·subst hw
   simpa using hp
  ·simp [RepSeq]
 ·have hpos : 0 < v.fKeys.length := by
   cases zs with
   | nil => exact absurd rfl hd
   | cons x _ => exact Nat.lt_of_le_of_lt (Nat.zero_le _) x.isLt
  haveI : Inhabited (Fin v.fKeys.length) := ⟨⟨0, hpos⟩⟩
  rcases hp.rowObj with ⟨h1, h2, h3, h4⟩ | ⟨g, cap, cur, h1, h2, h3, h4, h5, h6, h7⟩
  ·simp at h2
   exact absurd h2 hd
  ·simp only [List.length_map, List.map_map] at h1 h2 h4 h5 h6
   subst h1
   obtain ⟨enc, henc⟩ : ∃ enc : Fin v.fKeys.length → Value, enc = fun x => .int .i64 (x.val : Int) := ⟨_, rfl⟩
   have he0 : (Value.int IntKind.i64 ∘ fun x : Fin v.fKeys.length => (x.val : Int)) = enc := by rw [henc]; rfl
   rw [he0] at h5
   obtain ⟨cf, hcf⟩ : ∃ cf : Fin v.fKeys.length → Fin v.fKeys.length → Int, cf = fun x y => Lib.compareBytes v.fKeys[x] v.fKeys[y] := ⟨_, rfl⟩
   have hO : SWO (ltOf cf) := by rw [hcf]; exact keys_swo fun x => v.fKeys[x]
   have hT : ∀ x y, (ltOf cf) x y = false → (ltOf cf) y x = false → x = y := fun x y g1 g2 => by
    rw [hcf] at g1 g2
    simp only [ltOf, decide_eq_false_iff_not] at g1 g2
    have a1 := cb_anti v.fKeys[x] v.fKeys[y]
    have := cb_eq _ _ (by omega : Lib.compareBytes v.fKeys[x] v.fKeys[y] = 0)
    exact Fin.ext ((List.getElem_inj hnd).1 this)
   have hcell : ∀ j, j < zs.length → cur[j]? = (zs.map enc)[j]? := fun j hj => by
    rw [← h5, List.getElem?_take_of_lt (by omega), Array.getElem?_toList]
   have hH : Holds enc w g 0 zs.toArray := fun j hj => by
    have hj' : j < zs.length := by simpa using hj
    refine ⟨?_, ?_⟩
    ·rw [Nat.zero_add, h7.ownCell 0 rfl, hcell j hj']
     simp [hj']
    ·rw [Nat.zero_add]
     exact h7.ownFrozen 0 rfl j (by omega)
   have hg : g < w.heap.size := lt_of_get (h7.own _ List.mem_cons_self).2
   have eg : ∀ args w, (callFunc 47 args).run Tryd.prog w = .ok (.enter 47 args) w := Go.Proofs.enters_of Tryd.func47 (by kernel_rfl) rfl
   have hget : ∀ x : Fin v.fKeys.length, getI v.fKeys (x.val : Int) = some v.fKeys[x] := fun x => by simp [getI]
   have hcmp : CmpLays1 Tryd.prog 47 #[.pointer (some bA)] enc cf g 0 zs.toArray.size w := by
    intro m os dk hs x y
    have hpW : Hp w0 M2 (.obj g (.cells (putCells enc 0 dk cur) 3 (0, 0)) :: H) (sortWorld enc w g 0 m dk os) := ((h7.sameHeap rfl rfl rfl rfl : Hp w0 M2 _ (Sort.ahead w m)).mapCells (putCells enc 0 dk)).grow_ os
    have hc := order1_calls hpW (Rep.mono hM _ _ h0) (fun j u h => hM.cell (q0 j u h)) (hM.cell hb) (x.val : Int) (y.val : Int) v.fKeys[x] v.fKeys[y] (hget x) (hget y)
    have ea : (#[enc x, enc y] ++ #[.pointer (some bA)] : Array Value) = [.int .i64 (x.val : Int), .int .i64 (y.val : Int), .pointer (some bA)].toArray := by rw [henc]; rfl
    rw [ea]
    exact hc.mono fun e w' ⟨he, q, hw⟩ => ⟨by rw [he, hcf], q, #[], by rw [hw, grow_empty]⟩
   have hcall : Calls Tryd.prog 46 #[.slice (some ⟨g, 0, none⟩) zs.length cap, .func (.func 47) #[] #[.pointer (some bA)]] w fun e w' =>
     e = .returned (.tuple #[]) ∧ ∃ n os, w' = sortWorld enc w g 0 n (zs.mergeSort fun x y => !(ltOf cf) y x).toArray os :=
    Any.slices_SortFunc_total Tryd.laysS enc (fun x => by rw [henc]; rfl) cf hO 47 #[.pointer (some bA)] g 0 cap zs.toArray w eg hcmp hH hg (by simpa using hlen) hT
   simp only [List.length_map]
   rw [hcf] at hcall
   refine hcall.mono fun e w' ⟨he, k, os, hw⟩ => ⟨_, he, M2, _, Mem.le_refl _, ?_, _, rfl, rfl, intsRep _, by simp⟩
   subst hw
   have h9 := ((h7.sameHeap rfl rfl rfl rfl : Hp w0 M2 _ (Sort.ahead w k)).mapCells (putCells enc 0 (zs.mergeSort fun x y => !(ltOf (fun x y : Fin v.fKeys.length => Lib.compareBytes v.fKeys[x] v.fKeys[y])) y x).toArray)).grow_ os
   have hcs : cap ≤ cur.size := by have := h4.1; omega
   have hlen' : zs.length ≤ cap := h2
   rw [hls]
   refine h9.objRow h2 h3 (by simpa [putCells] using h4) ?_ (by simp)
   rw [List.map_map, he0]
   generalize (zs.mergeSort fun x y => !(ltOf (fun x y : Fin v.fKeys.length => Lib.compareBytes v.fKeys[x] v.fKeys[y])) y x) = ys at hls ⊢
   apply List.ext_getElem?
   intro j
   by_cases hj : j < zs.length
   ·rw [List.getElem?_take_of_lt (by omega), Array.getElem?_toList]
    have hjc : j < cur.size := by omega
    have hjy : j < ys.length := by omega
    simp [putCells, hjc, hjy]
   ·rw [List.getElem?_eq_none (by simp; omega), List.getElem?_eq_none (by simp; omega)]
end Go.Proofs.YtfaedhhjamaniaaDoor
end

section
namespace Go.Proofs.YtfaedhhjamaniaaDoor
open Go Go.Vc Go.RowKit
def tree_order_s1 (n : Nat) (d0 : TA0) (s_1 : List Int × Int) : Option (Lp (List Int × Int) (List Int)) :=
    bif (decide (s_1.2 < (((List.replicate ((d0.fKeys.length : Nat) : Int).toNat (0 : Int)).length : Nat) : Int))) then
      ((getI s_1.1 s_1.2).bind fun x_1 =>
      need (inR .i64 (s_1.2 + 1)) <|
      some (.nx (s_1.1.set s_1.2.toNat s_1.2, s_1.2 + 1)))
    else
      some (.br s_1.1)
def tree_order (n : Nat) (d0 : TA0) : Option (List Int) :=
  need (0 ≤ ((d0.fKeys.length : Nat) : Int) ∧ ((d0.fKeys.length : Nat) : Int) * 8 ≤ 140737488355328 ∧ ((d0.fKeys.length : Nat) : Int) ≤ 140737488355328) <|
  (loopF (tree_order_s1 n d0) n (List.replicate ((d0.fKeys.length : Nat) : Int).toNat (0 : Int), (0 : Int))).bind fun y_1 =>
  (h_sortKeys n d0 y_1).bind fun x_2 =>
  some (x_2)
theorem tree_order_ok (n : Nat) (M : Mem) (hG : GL M) (ad0 : Addr) (c0 : List Value) (d0 : TA0) (h0 : Rep M (emb_TA0 d0) c0) (q0 : ∀ j v, c0[j]? = some v → M.cell? (ad0.add j) = some v) (r : List Int) (hF : tree_order n d0 = some r) : OkH Tryd.prog M [] 32 [.pointer (some ad0)] (fun M' E' v => ∃ (A0 : Option Addr) (k0 : Nat) (s0 : List Value), v = .slice A0 r.length k0 ∧ E' = [.row 3 1 (.slice A0 r.length k0) r.length s0] ∧ RepSeq M' (r.map (Dat.int .i64)) s0) := by
 unfold tree_order at hF
 intro M1 hM0 w0 H w p0
 replace hG := GL.mono hM0 hG
 replace h0 := Rep.mono hM0 _ _ h0
 replace q0 := fun j v h => hM0.cell (q0 j v h)
 obtain ⟨A_1, cap_1, A_2, cap_2, rfl, h_1, h_2⟩ := TA0.opn h0
 refine R_enter 25 Tryd.func32 rfl rfl (by simp) fun a0 f0 => RR (Y10 (cs := #[.pointer (some ad0)]) (T := 44) f0 p0 fun b_1 M_1 w_1 hM_1 hc_1 p_1 _ f => ?_)
 have hc_2 := fz_box hc_1
 refine Y f 1 fun _ f => eT (RR (Y12 f p_1 hc_2 0 rfl fun _ f => Y f 2 fun _ f => Y12 f p_1 (fzu hM_1 q0) 5 rfl fun _ f => Y f 1 fun _ f => ?_))
 obtain ⟨g_1, hF_1⟩ := nS hF
 refine Y19 (f := (Dat.int .i64)) (x := (0 : Int)) (z := .int .i64 0) (m := ((d0.fKeys.length : Nat) : Int)) (bytes := 8) (e := 3) f p_1 (by exact rfl) rfl rfl rfl rfl g_1 fun A_3 cap_3 cs_1 w_2 p_2 hr_1 _ f => Y f 1 fun _ f => eT (R_seq (RR (Y f 3 fun _ f => eT (wp_block ?_))))
 obtain ⟨b_2, hL_1, hF_2⟩ := bS hF_1
 refine wp_mono (Q := fun e a w => (e = .exit 0 ∧ (∃ y_1 : List Int, b_2 = y_1 ∧ ∃ M_3 : Mem, M_1.le M_3 ∧ ∃ (A_5 : Option Addr), ∃ (cap_6 : Nat), ∃ (cs_3 : List Value), RepSeq M_3 (y_1.map (Dat.int .i64)) cs_3 ∧ Frm 25 [(1, .pointer (some (⟨b_1, 0, none⟩))), (3, .slice A_5 y_1.length cap_6)] a ∧ Hp w0 M_3 ((Ent.row 3 1 (.slice A_5 y_1.length cap_6) y_1.length cs_3) :: H) w))) (R_loop (n := 25) (w0 := w0) (M := M_1) (fun (x : Nat × (List Int × Int) × (Option Addr) × Nat × (List Value)) => match x with | (m_1, s_1, A_4, cap_4, cs_2) => [(1, .pointer (some (⟨b_1, 0, none⟩))), (3, .slice A_4 s_1.1.length cap_4), (12, .int .i64 (((List.replicate ((d0.fKeys.length : Nat) : Int).toNat (0 : Int)).length : Nat) : Int)), (13, .int .i64 s_1.2)]) (fun (x : Nat × (List Int × Int) × (Option Addr) × Nat × (List Value)) => match x with | (m_1, s_1, A_4, cap_4, cs_2) => ((Ent.row 3 1 (.slice A_4 s_1.1.length cap_4) s_1.1.length cs_2) :: H)) (fun (x : Nat × (List Int × Int) × (Option Addr) × Nat × (List Value)) (MM : Mem) => match x with | (m_1, s_1, A_4, cap_4, cs_2) => loopF (tree_order_s1 n d0) m_1 s_1 = some b_2 ∧ RepSeq MM (s_1.1.map (Dat.int .i64)) cs_2) (fun (x : Nat × (List Int × Int) × (Option Addr) × Nat × (List Value)) => match x with | (m_1, s_1, A_4, cap_4, cs_2) => m_1) (n, (List.replicate ((d0.fKeys.length : Nat) : Int).toNat (0 : Int), (0 : Int)), A_3, cap_3, cs_1) (f.kp) p_2 ⟨hL_1, hr_1⟩ ?_) ?_
 ·rintro ⟨m_1, s_1, A_4, cap_4, cs_2⟩ M_2 _ w_3 hM_2 I_1 f p_3
  obtain ⟨I_1L, hr_2⟩ := I_1
  obtain ⟨m_2, r_1, rfl, hs_1, hn_1⟩ := loop_step I_1L
  unfold tree_order_s1 at hs_1
  refine RR (Y f 1 fun _ f => eT (R_seq (RcF f hs_1 (fun h_3 hF_3 => ?_) fun h_3 hF_6 => ?_)))
  ·have k_1 := dI.1 h_3
   refine wp_skip (T_n (R_seq (wp_block (RR (Y f 2 fun _ f => eT (R_reg (Y f 3 fun _ f => ?_)))))))
   obtain ⟨x_1, hx_1, hF_4⟩ := bS hF_3
   obtain ⟨b_3, cap_5, hv_1, hcap_1⟩ := p_3.rowAddr 0 rfl (getI_pos hx_1)
   have f := f.st 16 (hv_1)
   refine Z f (Y25 rfl (ad := ⟨b_3, 0, none⟩) (len := s_1.1.length) (cap := cap_5) (k := .i64) (i := s_1.2) (e := 3) (sz := 1) (getI_nn hx_1) (getI_lt hx_1)) fun _ f => ?_
   have f := f.st 16 (hv_1.symm)
   refine Y21 (it := s_1.2) (d := s_1.1) (f := (Dat.int .i64)) (xv := s_1.2) (v := .int .i64 s_1.2) f p_3 hv_1 rfl rfl (by exact rfl) (szd_int .i64) hx_1 hr_2 fun w_4 p_4 hr_3 _ f => ?_
   have p_5 : Hp w0 M_2 ((Ent.row 3 1 (.slice A_4 (s_1.1.set s_1.2.toNat s_1.2).length cap_4) (s_1.1.set s_1.2.toNat s_1.2).length (cs_2.set s_1.2.toNat (.int .i64 s_1.2))) :: H) w_4 := p_4.rowVal (by rw [List.length_set])
   have f := Frm.set f 3 (v := .slice A_4 s_1.1.length cap_4) (v' := .slice A_4 (s_1.1.set s_1.2.toNat s_1.2).length cap_4) (by kernel_rfl) (by rw [List.length_set])
   have f := Frm.set f 16 (v := .slice A_4 s_1.1.length cap_4) (v' := .slice A_4 (s_1.1.set s_1.2.toNat s_1.2).length cap_4) (by kernel_rfl) (by rw [List.length_set])
   refine W_end rfl (B_n (T_n (R_reg ?_)))
   obtain ⟨g_2, hF_5⟩ := nS hF_4
   refine Y f 1 fun _ f => ?_
   have f := f.st 20 (congrArg (Value.int .i64) (inR_wrap g_2))
   refine Y f 1 fun _ f => eT ?_
   obtain rfl := sI hF_5
   exact ⟨⟨m_2, (s_1.1.set s_1.2.toNat s_1.2, s_1.2 + 1), A_4, cap_4, cs_2.set s_1.2.toNat (.int .i64 s_1.2)⟩, Nat.lt_succ_self _, M_2, hM_2, ⟨hn_1, hr_3⟩, f.kp, p_5⟩
  ·have k_2 := iff_f dI h_3
   refine wp_exit (T_x (T_x ?_))
   obtain rfl := sI hF_6
   exact ⟨rfl, s_1.1, (sI hn_1).symm, M_2, hM_2, A_4, cap_4, cs_2, hr_2, f.kp, p_3⟩
 ·rintro _ _ w_6 ⟨rfl, y_1, hq_, M_3, hM_3, A_5, cap_6, cs_3, hr_4, f, p_6⟩
  subst b_2
  refine B_x (T_n (RR (Y f 2 fun _ f => ?_)))
  obtain ⟨x_2, hx_2, hF_7⟩ := bS hF_2
  refine Y14 (E := [Ent.row 3 1 (.slice A_5 y_1.length cap_6) y_1.length cs_3]) (H := (H)) f p_6 (sortKeys_ok n (c0 := [.int .i8 d0.fKind, .bool d0.fBool, .int .i64 d0.fNum, S d0.fText, .slice A_1 d0.fList.length cap_1, .slice A_2 d0.fKeys.length cap_2]) (TA0.shutx (x := d0) (h_1.mono (hM_1.trans hM_3)) (h_2.mono (hM_1.trans hM_3))) (fzu (hM_1.trans hM_3) q0) ((fzu hM_3 hc_2) 0 _ rfl) _ _ _ hr_4 _ hx_2) fun _ M_4 E_1 w_7 hM_4 p_7 q_1 _ f => ?_
  obtain ⟨cs_4, rfl, rfl, hr_5, hl_1⟩ := q_1
  have hv_2 : (.slice A_5 y_1.length cap_6 : Value) = .slice A_5 x_2.length cap_6 := by rw [hl_1]
  have p_8 : Hp w0 M_4 ((Ent.row 3 1 (.slice A_5 x_2.length cap_6) x_2.length cs_4) :: H) w_7 := by rw [← hv_2]; exact p_7
  have f := f.st 3 (hv_2)
  have f := f.st 21 (hv_2)
  refine eT (RR (Y f 2 fun _ f => eT (wp_ret (E_ret1 f rfl (by kernel_rfl : Vc.look _ 2 = some (.slice A_5 x_2.length cap_6)) ?_))))
  obtain rfl := sI hF_7
  exact ⟨_, rfl, M_4, _, ((hM_1.trans hM_3).trans hM_4), p_8, ⟨A_5, cap_6, cs_4, rfl, rfl, hr_5⟩⟩
def tree_sorted_s1 (n : Nat) (rec_tree_sorted : TA0 → Option TA0) (d0 : TA0) (x_1 : List Int) (s_1 : Int × List TA0 × List (List UInt8)) : Option (Lp (Int × List TA0 × List (List UInt8)) (List TA0 × List (List UInt8))) :=
    bif (decide (s_1.1 < ((x_1.length : Nat) : Int))) then
      ((getI x_1 s_1.1).bind fun x_2 =>
      (((getI d0.fKeys x_2).bind fun x_3 =>
        need ((s_1.2.2.length + 1) * 16 ≤ 140737488355328) <|
        some (s_1.2.2 ++ [x_3]) : Option (List (List UInt8)))).bind fun y_1 =>
      (((getI d0.fList x_2).bind fun x_5 =>
        (rec_tree_sorted x_5).bind fun x_6 =>
        need ((s_1.2.1.length + 1) * 80 ≤ 140737488355328) <|
        some (s_1.2.1 ++ [(⟨x_6.fKind, (x_6.fBool), x_6.fNum, x_6.fText, x_6.fList, x_6.fKeys⟩ : TA0)]) : Option (List TA0))).bind fun y_2 =>
      need (inR .i64 (s_1.1 + 1)) <|
      some (.nx (s_1.1 + 1, y_2, y_1)))
    else
      some (.br (s_1.2.1, s_1.2.2))
def tree_sorted_s2 (n : Nat) (rec_tree_sorted : TA0 → Option TA0) (d0 : TA0) (s_2 : Int × List TA0) : Option (Lp (Int × List TA0) (List TA0)) :=
    bif (decide (s_2.1 < ((d0.fList.length : Nat) : Int))) then
      ((((getI d0.fList s_2.1).bind fun x_9 =>
        (rec_tree_sorted x_9).bind fun x_10 =>
        need ((s_2.2.length + 1) * 80 ≤ 140737488355328) <|
        some (s_2.2 ++ [(⟨x_10.fKind, (x_10.fBool), x_10.fNum, x_10.fText, x_10.fList, x_10.fKeys⟩ : TA0)]) : Option (List TA0))).bind fun y_4 =>
      need (inR .i64 (s_2.1 + 1)) <|
      some (.nx (s_2.1 + 1, y_4)))
    else
      some (.br s_2.2)
def tree_sorted_b (n : Nat) (rec_tree_sorted : TA0 → Option TA0) (d0 : TA0) : Option TA0 :=
  bif (decide (d0.fKind = 5)) then
    ((tree_order n d0).bind fun x_1 =>
    (loopF (tree_sorted_s1 n rec_tree_sorted d0 x_1) n ((0 : Int), ([] : List TA0), ([] : List (List UInt8)))).bind fun y_3 =>
    some ((⟨d0.fKind, (d0.fBool), d0.fNum, d0.fText, y_3.1, y_3.2⟩ : TA0)))
  else
    (loopF (tree_sorted_s2 n rec_tree_sorted d0) n ((0 : Int), ([] : List TA0))).bind fun y_5 =>
    some ((⟨d0.fKind, (d0.fBool), d0.fNum, d0.fText, y_5, ([] : List (List UInt8))⟩ : TA0))
set_option maxRecDepth 20000 in
theorem tree_sorted_b_ok (n : Nat) (rec_tree_sorted : TA0 → Option TA0) (hrec_tree_sorted : ∀ (M : Mem) (hG : GL M) (ad0 : Addr) (c0 : List Value) (d0 : TA0) (h0 : Rep M (emb_TA0 d0) c0) (q0 : ∀ j v, c0[j]? = some v → M.cell? (ad0.add j) = some v) (r : TA0) (hF : rec_tree_sorted d0 = some r), Ok Tryd.prog M 22 [.pointer (some ad0)] (fun M' v => ∃ (c0 : List Value), v = .agg c0.toArray ∧ Rep M' (emb_TA0 r) c0)) (M : Mem) (hG : GL M) (ad0 : Addr) (c0 : List Value) (d0 : TA0) (h0 : Rep M (emb_TA0 d0) c0) (q0 : ∀ j v, c0[j]? = some v → M.cell? (ad0.add j) = some v) (r : TA0) (hF : tree_sorted_b n rec_tree_sorted d0 = some r) : Ok Tryd.prog M 22 [.pointer (some ad0)] (fun M' v => ∃ (c0 : List Value), v = .agg c0.toArray ∧ Rep M' (emb_TA0 r) c0) := by
 unfold tree_sorted_b at hF
 intro M1 hM0 w0 H w p0
 replace hG := GL.mono hM0 hG
 replace h0 := Rep.mono hM0 _ _ h0
 replace q0 := fun j v h => hM0.cell (q0 j v h)
 obtain ⟨A_1, cap_1, A_2, cap_2, rfl, h_1, h_2⟩ := TA0.opn h0
 refine R_enter 84 Tryd.func22 rfl rfl (by simp) fun a0 f0 => RR (Y9 f0 p0 (.cells #[.int .i8 0, .bool false, .int .i64 0, S [], .slice none 0 0, .slice none 0 0] 26 (0, 0)) fun b_1 w_1 p_1 _ f => eT (R_seq (R_mix (E := []) (Hr := ((Ent.obj b_1 (.cells #[.int .i8 0, .bool false, .int .i64 0, S [], .slice none 0 0, .slice none 0 0] 26 (0, 0))) :: H)) [(0, true), (1, true), (2, true), (3, true), (4, true), (5, true), (6, true), (7, true), (8, true), (9, true), (10, true), (11, true), (12, true), (13, true), (14, true), (15, true), (16, true), (17, false), (18, false)] p_1 (by kernel_rfl) (by kernel_rfl) rfl (by kernel_rfl) (Y0 default f 3 fun _ f => M_eq (v := .int .i8 d0.fKind) f (by kernel_rfl) (by kernel_rfl) rfl rfl (fun _ pq => Y27 (v := .int .i8 d0.fKind) rfl (ad := ad0.add 0) (pq.cell (q0 0 _ rfl))) fun _ f => Y0 default f 3 fun _ f => M_eq (v := .bool d0.fBool) f (by kernel_rfl) (by kernel_rfl) rfl rfl (fun _ pq => Y27 (v := .bool d0.fBool) rfl (ad := ad0.add 1) (pq.cell (q0 1 _ rfl))) fun _ f => Y0 default f 3 fun _ f => M_eq (v := .int .i64 d0.fNum) f (by kernel_rfl) (by kernel_rfl) rfl rfl (fun _ pq => Y27 (v := .int .i64 d0.fNum) rfl (ad := ad0.add 2) (pq.cell (q0 2 _ rfl))) fun _ f => ?_))))
 refine Y0 default f 3 fun _ f => M_eq (v := S d0.fText) f (by kernel_rfl) (by kernel_rfl) rfl rfl (fun _ pq => Y27 (v := S d0.fText) rfl (ad := ad0.add 3) (pq.cell (q0 3 _ rfl))) fun _ f => Y0 default f 1 fun _ f => M_fix (E := []) fun w_2 p_2 => Y9 f p_2 (.cells #[.int .i8 0, .bool false, .int .i64 0, S [], .slice none 0 0, .slice none 0 0] 26 (0, 0)) fun b_2 w_3 p_3 _ f => W_end rfl (M_go (M1 := M1) (E := [Ent.obj b_2 (.cells #[.int .i8 0, .bool false, .int .i64 0, S [], .slice none 0 0, .slice none 0 0] 26 (0, 0))]) (mR _) p_3 (M_fix (E := [Ent.obj b_2 (.cells #[.int .i8 0, .bool false, .int .i64 0, S [], .slice none 0 0, .slice none 0 0] 26 (0, 0))]) fun w_4 p_4 => Y23 (vs := [.int .i8 d0.fKind, .bool d0.fBool, .int .i64 d0.fNum, S d0.fText, .slice none 0 0, .slice none 0 0]) (j := 0) f p_4 rfl rfl (by simp [Value.oneCell', S]) (by simp) (by decide) (cs' := #[.int .i8 d0.fKind, .bool d0.fBool, .int .i64 d0.fNum, S d0.fText, .slice none 0 0, .slice none 0 0]) fun w_5 p_5 _ f => W_end rfl (M_go (M1 := M1) (E := [Ent.obj b_2 (.cells #[.int .i8 d0.fKind, .bool d0.fBool, .int .i64 d0.fNum, S d0.fText, .slice none 0 0, .slice none 0 0] 26 (0, 0))]) (mR _) p_5 ?_)))
 refine M_end rfl fun w_6 p_6 => T_n (R_seq (RR (Y f 3 fun _ f => Y12 f p_6 q0 0 rfl fun _ f => Y f 1 fun _ f => eT (RcF f hF (fun h_3 hF_1 => ?_) fun h_3 hF_15 => ?_))))
 ·have k_1 := dI.1 h_3
  refine R_seq (RR (Y f 1 fun _ f => ?_))
  obtain ⟨x_1, hx_1, hF_2⟩ := bS hF_1
  refine Y14 (E := []) (H := ((Ent.obj b_2 (.cells #[.int .i8 d0.fKind, .bool d0.fBool, .int .i64 d0.fNum, S d0.fText, .slice none 0 0, .slice none 0 0] 26 (0, 0))) :: (Ent.obj b_1 (.cells #[.int .i8 0, .bool false, .int .i64 0, S [], .slice none 0 0, .slice none 0 0] 26 (0, 0))) :: H)) f p_6 (tree_order_ok n _ hG ad0 [.int .i8 d0.fKind, .bool d0.fBool, .int .i64 d0.fNum, S d0.fText, .slice A_1 d0.fList.length cap_1, .slice A_2 d0.fKeys.length cap_2] d0 (TA0.shutx (x := d0) h_1 h_2) (fz_at (q0) 0 rfl) x_1 hx_1) fun _ M_1 E_1 w_7 hM_1 p_7 q_1 _ f => ?_
  obtain ⟨A_3, cap_3, cs_1, rfl, rfl, hr_1⟩ := q_1
  refine Y f 2 fun _ f => eT (wp_block ?_)
  obtain ⟨A_4, cap_4, hv_1⟩ : ∃ A cap, Value.slice none 0 0 = .slice A ([] : List TA0).length cap := ⟨none, 0, rfl⟩
  have p_8 : Hp w0 M_1 ((Ent.row 26 6 (.slice A_4 ([] : List TA0).length cap_4) ([] : List TA0).length []) :: (Ent.row 3 1 (.slice A_3 x_1.length cap_3) x_1.length cs_1) :: (Ent.obj b_2 (.cells #[.int .i8 d0.fKind, .bool d0.fBool, .int .i64 d0.fNum, S d0.fText, .slice A_4 ([] : List TA0).length cap_4, .slice none 0 0] 26 (0, 0))) :: (Ent.obj b_1 (.cells #[.int .i8 0, .bool false, .int .i64 0, S [], .slice none 0 0, .slice none 0 0] 26 (0, 0))) :: H) w_7 := by rw [← hv_1]; exact p_7.nilRow 26 6
  have hr_2 : RepSeq M_1 (([] : List TA0).map emb_TA0) [] := rfl
  obtain ⟨A_5, cap_5, hv_2⟩ : ∃ A cap, Value.slice none 0 0 = .slice A ([] : List (List UInt8)).length cap := ⟨none, 0, rfl⟩
  have p_9 : Hp w0 M_1 ((Ent.row 9 1 (.slice A_5 ([] : List (List UInt8)).length cap_5) ([] : List (List UInt8)).length []) :: (Ent.row 26 6 (.slice A_4 ([] : List TA0).length cap_4) ([] : List TA0).length []) :: (Ent.row 3 1 (.slice A_3 x_1.length cap_3) x_1.length cs_1) :: (Ent.obj b_2 (.cells #[.int .i8 d0.fKind, .bool d0.fBool, .int .i64 d0.fNum, S d0.fText, .slice A_4 ([] : List TA0).length cap_4, .slice A_5 ([] : List (List UInt8)).length cap_5] 26 (0, 0))) :: (Ent.obj b_1 (.cells #[.int .i8 0, .bool false, .int .i64 0, S [], .slice none 0 0, .slice none 0 0] 26 (0, 0))) :: H) w_7 := by rw [← hv_2]; exact p_8.nilRow 9 1
  have hr_3 : RepSeq M_1 (([] : List (List UInt8)).map Dat.str) [] := rfl
  have p_14 := p_9.pl [4, 4, 4, 3, 4]
  obtain ⟨b_3, hL_1, hF_3⟩ := bS hF_2
  refine wp_mono (Q := fun e a w => (e = .exit 0 ∧ (∃ y_3 : List TA0 × List (List UInt8), b_3 = y_3 ∧ ∃ M_7 : Mem, M_1.le M_7 ∧ ∃ (A_22 : Option Addr), ∃ (cap_23 : Nat), ∃ (cs_10 : List Value), ∃ (A_23 : Option Addr), ∃ (cap_24 : Nat), ∃ (cs_11 : List Value), RepSeq M_7 (y_3.1.map emb_TA0) cs_10 ∧ RepSeq M_7 (y_3.2.map Dat.str) cs_11 ∧ Frm 84 [(2, .pointer (some (⟨b_1, 0, none⟩))), (3, .pointer (some (⟨b_2, 0, none⟩)))] a ∧ Hp w0 M_7 ((Ent.row 26 6 (.slice A_22 y_3.1.length cap_23) y_3.1.length cs_10) :: (Ent.row 9 1 (.slice A_23 y_3.2.length cap_24) y_3.2.length cs_11) :: (Ent.row 3 1 (.slice A_3 x_1.length cap_3) x_1.length cs_1) :: (Ent.obj b_2 (.cells #[.int .i8 d0.fKind, .bool d0.fBool, .int .i64 d0.fNum, S d0.fText, .slice A_22 y_3.1.length cap_23, .slice A_23 y_3.2.length cap_24] 26 (0, 0))) :: (Ent.obj b_1 (.cells #[.int .i8 0, .bool false, .int .i64 0, S [], .slice none 0 0, .slice none 0 0] 26 (0, 0))) :: H) w))) (R_loop (n := 84) (w0 := w0) (M := M_1) (fun (x : Nat × (Int × List TA0 × List (List UInt8)) × (Option Addr) × Nat × (List Value) × (Option Addr) × Nat × (List Value)) => match x with | (m_1, s_1, A_6, cap_6, cs_2, A_7, cap_7, cs_3) => [(0, .pointer (some ad0)), (2, .pointer (some (⟨b_1, 0, none⟩))), (3, .pointer (some (⟨b_2, 0, none⟩))), (30, .slice A_3 x_1.length cap_3), (31, .int .i64 ((x_1.length : Nat) : Int)), (32, .int .i64 s_1.1)]) (fun (x : Nat × (Int × List TA0 × List (List UInt8)) × (Option Addr) × Nat × (List Value) × (Option Addr) × Nat × (List Value)) => match x with | (m_1, s_1, A_6, cap_6, cs_2, A_7, cap_7, cs_3) => ((Ent.row 26 6 (.slice A_6 s_1.2.1.length cap_6) s_1.2.1.length cs_2) :: (Ent.row 9 1 (.slice A_7 s_1.2.2.length cap_7) s_1.2.2.length cs_3) :: (Ent.row 3 1 (.slice A_3 x_1.length cap_3) x_1.length cs_1) :: (Ent.obj b_2 (.cells #[.int .i8 d0.fKind, .bool d0.fBool, .int .i64 d0.fNum, S d0.fText, .slice A_6 s_1.2.1.length cap_6, .slice A_7 s_1.2.2.length cap_7] 26 (0, 0))) :: (Ent.obj b_1 (.cells #[.int .i8 0, .bool false, .int .i64 0, S [], .slice none 0 0, .slice none 0 0] 26 (0, 0))) :: H)) (fun (x : Nat × (Int × List TA0 × List (List UInt8)) × (Option Addr) × Nat × (List Value) × (Option Addr) × Nat × (List Value)) (MM : Mem) => match x with | (m_1, s_1, A_6, cap_6, cs_2, A_7, cap_7, cs_3) => loopF (tree_sorted_s1 n rec_tree_sorted d0 x_1) m_1 s_1 = some b_3 ∧ RepSeq MM (s_1.2.1.map emb_TA0) cs_2 ∧ RepSeq MM (s_1.2.2.map Dat.str) cs_3) (fun (x : Nat × (Int × List TA0 × List (List UInt8)) × (Option Addr) × Nat × (List Value) × (Option Addr) × Nat × (List Value)) => match x with | (m_1, s_1, A_6, cap_6, cs_2, A_7, cap_7, cs_3) => m_1) (n, ((0 : Int), ([] : List TA0), ([] : List (List UInt8))), A_4, cap_4, [], A_5, cap_5, []) (f.kp) p_14 ⟨hL_1, hr_2, hr_3⟩ ?_) ?_
  ·rintro ⟨m_1, s_1, A_6, cap_6, cs_2, A_7, cap_7, cs_3⟩ M_2 _ w_8 hM_2 I_1 f p_15
   obtain ⟨I_1L, hr_4, hr_5⟩ := I_1
   obtain ⟨m_2, r_1, rfl, hs_1, hn_1⟩ := loop_step I_1L
   unfold tree_sorted_s1 at hs_1
   refine RR (Y f 1 fun _ f => eT (R_seq (RcF f hs_1 (fun h_4 hF_4 => ?_) fun h_4 hF_14 => ?_)))
   ·have k_2 := dI.1 h_4
    refine wp_skip (T_n (R_seq (wp_block (RR ?_))))
    obtain ⟨x_2, hx_2, hF_5⟩ := bS hF_4
    obtain ⟨b_4, cap_8, hv_3, hcap_1⟩ := p_15.rowAddr 2 rfl (getI_pos hx_2)
    have f := f.st 30 (hv_3)
    refine Z f (Y25 rfl (ad := ⟨b_4, 0, none⟩) (len := x_1.length) (cap := cap_8) (k := .i64) (i := s_1.1) (e := 3) (sz := 1) (getI_nn hx_2) (getI_lt hx_2)) fun _ f => ?_
    have f := f.st 30 (hv_3.symm)
    obtain ⟨c_1, -, hr_6, hc_1⟩ := RepSeq.get s_1.1.toNat (szd_all (szd_int .i64)) (RepSeq.mono hM_2 _ _ hr_1) (getI_map hx_2)
    obtain rfl : c_1 = [.int .i64 x_2] := hr_6
    refine Z f (Y27 (v := .int .i64 x_2) rfl (ad := (⟨b_4, 0, none⟩ : Addr).add (s_1.1.toNat * 1)) (by simpa [Addr.add] using (fun j v h => row_at (p_15.rowCell 2 rfl hv_3) hc_1 j v h) 0 _ rfl)) fun _ f => Y f 1 fun _ f => eT (R_seq ?_)
    obtain ⟨j_1, hj_1, hF_6⟩ := bS hF_5
    refine R_mid (fun a_46 w_17 => ∃ y_1 : List (List UInt8), j_1 = y_1 ∧ ∃ M_3 : Mem, M_2.le M_3 ∧ ∃ (A_10 : Option Addr), ∃ (cap_11 : Nat), ∃ (cs_6 : List Value), RepSeq M_3 (y_1.map Dat.str) cs_6 ∧ Frm 84 [(0, .pointer (some ad0)), (2, .pointer (some (⟨b_1, 0, none⟩))), (3, .pointer (some (⟨b_2, 0, none⟩))), (5, .int .i64 x_2), (30, .slice A_3 x_1.length cap_3), (31, .int .i64 ((x_1.length : Nat) : Int)), (32, .int .i64 s_1.1)] a_46 ∧ Hp w0 M_3 ((Ent.row 9 1 (.slice A_10 y_1.length cap_11) y_1.length cs_6) :: (Ent.row 26 6 (.slice A_6 s_1.2.1.length cap_6) s_1.2.1.length cs_2) :: (Ent.row 3 1 (.slice A_3 x_1.length cap_3) x_1.length cs_1) :: (Ent.obj b_2 (.cells #[.int .i8 d0.fKind, .bool d0.fBool, .int .i64 d0.fNum, S d0.fText, .slice A_6 s_1.2.1.length cap_6, .slice A_10 y_1.length cap_11] 26 (0, 0))) :: (Ent.obj b_1 (.cells #[.int .i8 0, .bool false, .int .i64 0, S [], .slice none 0 0, .slice none 0 0] 26 (0, 0))) :: H) w_17) ?_ ?_
    ·have p_25 := p_15.pl [4, 4, 4, 3, 4]
     obtain ⟨x_3, hx_3, hF_7⟩ := bS hj_1
     obtain ⟨g_1, hF_8⟩ := nS hF_7
     refine R_plan (ks := [11, 12]) (E := [Ent.row 9 1 (.slice A_7 s_1.2.2.length cap_7) s_1.2.2.length cs_3]) (Hr := ((Ent.row 26 6 (.slice A_6 s_1.2.1.length cap_6) s_1.2.1.length cs_2) :: (Ent.row 3 1 (.slice A_3 x_1.length cap_3) x_1.length cs_1) :: (Ent.obj b_2 (.cells #[.int .i8 d0.fKind, .bool d0.fBool, .int .i64 d0.fNum, S d0.fText, .slice A_6 s_1.2.1.length cap_6, .slice A_7 s_1.2.2.length cap_7] 26 (0, 0))) :: (Ent.obj b_1 (.cells #[.int .i8 0, .bool false, .int .i64 0, S [], .slice none 0 0, .slice none 0 0] 26 (0, 0))) :: H)) (.quiet 0 (.quiet 1 (.quiet 2 (.quiet 3 (.quiet 4 (.quiet 5 (.quiet 6 (.quiet 7 (.quiet 8 (.alt 9 (.alt 10 .done .none) .none)))))))))) p_25 (by kernel_rfl) (by kernel_rfl) (by kernel_rfl) (Y1 (v := .pointer (some (⟨b_2, 5, none⟩))) rfl f rfl rfl (fun _ _ => by kernel_rfl) fun _ f => Y1 (v := .slice A_7 s_1.2.2.length cap_7) rfl f rfl rfl (fun _ pq => Y27 (v := .slice A_7 s_1.2.2.length cap_7) rfl (ad := ⟨b_2, 5, none⟩) (pq.ownCell 2 rfl 5)) fun _ f => Y1 (v := .pointer (some ad0)) rfl f rfl rfl (fun _ _ => by kernel_rfl) fun _ f => Y1 (v := .pointer (some ad0)) rfl f rfl rfl (fun _ _ => by kernel_rfl) fun _ f => Y1 (v := .pointer (some (ad0.add 5))) rfl f rfl rfl (fun _ _ => by kernel_rfl) fun _ f => Y1 (v := .slice A_2 d0.fKeys.length cap_2) rfl f rfl rfl (fun _ pq => Y27 (v := .slice A_2 d0.fKeys.length cap_2) rfl (ad := ad0.add 5) (pq.cell ((fzu (hM_1.trans hM_2) q0) 5 _ rfl))) fun _ f => Y1 (v := .int .i64 x_2) rfl f rfl rfl (fun _ _ => by kernel_rfl) fun _ f => ?_)
     obtain ⟨ad_2, c_3, e_2, -, hr_9, hc_3⟩ := Sli.at_ (h_2.mono (hM_1.trans hM_2)) hx_3
     obtain rfl : c_3 = [S x_3] := hr_9
     refine Y1 (v := .pointer (some (ad_2.add (x_2.toNat * 1)))) rfl f rfl rfl (fun _ pq => Y26 e_2 rfl (len := d0.fKeys.length) (cap := cap_2) (k := .i64) (i := x_2) (e := 9) (sz := 1) (getI_nn hx_3) (getI_lt hx_3)) fun _ f => Y1 (v := S x_3) rfl f rfl rfl (fun _ pq => Y27 (v := S x_3) rfl (ad := ad_2.add (x_2.toNat * 1)) (pq.cell (hc_3 0 _ rfl))) fun _ f => N_alt rfl (fun w_11 p_26 => ?_) ?_
     ·refine V_allocS (k := 1) (c := 1) f p_26 (.cells #[S x_3] 9 (0, 0)) (by kernel_rfl) (fun _ => by kernel_rfl) fun b_6 w_12 p_27 _ f => W_end rfl (N_goN 2 (mR _) p_27 rfl (N_alt rfl (fun w_13 p_28 => ?_) ?_))
      ·have p_29 := p_28.pl [1]
       refine Y17 (z := S []) (f := Dat.str) (xs := s_1.2.2) (ys := [x_3]) (news := [S x_3]) (ad := ⟨b_6, 0, none⟩) (m := 1) (c := 1) f p_29 hr_5 (by exact ⟨_, _, rfl, rfl, rfl⟩) rfl rfl rfl rfl (own_cells (p_29.ownCell 1 rfl) 0 rfl) (by exact g_1) (by have hg_ := g_1; first | omega | (simp only [List.length_cons, List.length_nil] at *; omega)) fun A_9 cap_10 cs_5 w_14 p_30 hr_10 _ f => ?_
       have p_31 := p_30.pl [1]
       have p_32 := p_31.drop
       refine W_end rfl (N_goN 1 (mR _) p_32 rfl (N_tail fun w_15 p_33 => Y f 1 fun _ f => Y22 f p_33 3 rfl rfl (b := b_2) (j := 5) (v := .slice A_9 (s_1.2.2 ++ [x_3]).length cap_10) rfl (by exact rfl) (by simp) (by simp) ((Ent.row 9 1 (.slice A_9 (s_1.2.2 ++ [x_3]).length cap_10) (s_1.2.2 ++ [x_3]).length cs_5) :: (Ent.row 26 6 (.slice A_6 s_1.2.1.length cap_6) s_1.2.1.length cs_2) :: (Ent.row 3 1 (.slice A_3 x_1.length cap_3) x_1.length cs_1) :: (Ent.obj b_2 (.cells #[.int .i8 d0.fKind, .bool d0.fBool, .int .i64 d0.fNum, S d0.fText, .slice A_6 s_1.2.1.length cap_6, .slice A_9 (s_1.2.2 ++ [x_3]).length cap_10] 26 (0, 0))) :: (Ent.obj b_1 (.cells #[.int .i8 0, .bool false, .int .i64 0, S [], .slice none 0 0, .slice none 0 0] 26 (0, 0))) :: H) rfl fun w_16 p_34 _ f => W_end rfl (N_te (T_n ?_))))
       exact ⟨s_1.2.2 ++ [x_3], (sI hF_8).symm, M_2, (mR _), A_9, cap_10, cs_5, hr_10, f.kp, p_34⟩
      exact N_none
     exact N_none
    ·rintro a_46 w_17 ⟨y_1, hq_1, M_3, hM_3, A_10, cap_11, cs_6, hr_11, f, p_35⟩
     subst j_1
     refine T_n ?_
     obtain ⟨j_2, hj_2, hF_9⟩ := bS hF_6
     refine R_mid (fun a_69 w_29 => ∃ y_2 : List TA0, j_2 = y_2 ∧ ∃ M_6 : Mem, M_3.le M_6 ∧ ∃ (A_21 : Option Addr), ∃ (cap_22 : Nat), ∃ (cs_9 : List Value), RepSeq M_6 (y_2.map emb_TA0) cs_9 ∧ Frm 84 [(0, .pointer (some ad0)), (2, .pointer (some (⟨b_1, 0, none⟩))), (3, .pointer (some (⟨b_2, 0, none⟩))), (30, .slice A_3 x_1.length cap_3), (31, .int .i64 ((x_1.length : Nat) : Int)), (32, .int .i64 s_1.1)] a_69 ∧ Hp w0 M_6 ((Ent.row 26 6 (.slice A_21 y_2.length cap_22) y_2.length cs_9) :: (Ent.row 9 1 (.slice A_10 y_1.length cap_11) y_1.length cs_6) :: (Ent.row 3 1 (.slice A_3 x_1.length cap_3) x_1.length cs_1) :: (Ent.obj b_2 (.cells #[.int .i8 d0.fKind, .bool d0.fBool, .int .i64 d0.fNum, S d0.fText, .slice A_21 y_2.length cap_22, .slice A_10 y_1.length cap_11] 26 (0, 0))) :: (Ent.obj b_1 (.cells #[.int .i8 0, .bool false, .int .i64 0, S [], .slice none 0 0, .slice none 0 0] 26 (0, 0))) :: H) w_29) ?_ ?_
     ·have p_46 := p_35.pl [4, 4, 4, 3, 4]
      obtain ⟨x_5, hx_4, hF_10⟩ := bS hj_2
      obtain ⟨x_6, hx_5, hF_11⟩ := bS hF_10
      obtain ⟨g_2, hF_12⟩ := nS hF_11
      refine R_plan (ks := [11, 12]) (E := [Ent.row 26 6 (.slice A_6 s_1.2.1.length cap_6) s_1.2.1.length cs_2]) (Hr := ((Ent.row 9 1 (.slice A_10 y_1.length cap_11) y_1.length cs_6) :: (Ent.row 3 1 (.slice A_3 x_1.length cap_3) x_1.length cs_1) :: (Ent.obj b_2 (.cells #[.int .i8 d0.fKind, .bool d0.fBool, .int .i64 d0.fNum, S d0.fText, .slice A_6 s_1.2.1.length cap_6, .slice A_10 y_1.length cap_11] 26 (0, 0))) :: (Ent.obj b_1 (.cells #[.int .i8 0, .bool false, .int .i64 0, S [], .slice none 0 0, .slice none 0 0] 26 (0, 0))) :: H)) (.quiet 0 (.quiet 1 (.quiet 2 (.quiet 3 (.quiet 4 (.quiet 5 (.quiet 6 (.quiet 7 (.alt 8 (.alt 9 (.alt 10 .done .none) .none) .none))))))))) p_46 (by kernel_rfl) (by kernel_rfl) (by kernel_rfl) (Y1 (v := .pointer (some (⟨b_2, 4, none⟩))) rfl f rfl rfl (fun _ _ => by kernel_rfl) fun _ f => Y1 (v := .slice A_6 s_1.2.1.length cap_6) rfl f rfl rfl (fun _ pq => Y27 (v := .slice A_6 s_1.2.1.length cap_6) rfl (ad := ⟨b_2, 4, none⟩) (pq.ownCell 2 rfl 4)) fun _ f => Y1 (v := .pointer (some ad0)) rfl f rfl rfl (fun _ _ => by kernel_rfl) fun _ f => Y1 (v := .pointer (some ad0)) rfl f rfl rfl (fun _ _ => by kernel_rfl) fun _ f => Y1 (v := .pointer (some (ad0.add 4))) rfl f rfl rfl (fun _ _ => by kernel_rfl) fun _ f => Y1 (v := .slice A_1 d0.fList.length cap_1) rfl f rfl rfl (fun _ pq => Y27 (v := .slice A_1 d0.fList.length cap_1) rfl (ad := ad0.add 4) (pq.cell ((fzu ((hM_1.trans hM_2).trans hM_3) q0) 4 _ rfl))) fun _ f => Y1 (v := .int .i64 x_2) rfl f rfl rfl (fun _ _ => by kernel_rfl) fun _ f => ?_)
      obtain ⟨ad_4, c_6, e_4, -, hr_15, hc_5⟩ := Sli.at_ (h_1.mono ((hM_1.trans hM_2).trans hM_3)) hx_4
      obtain ⟨A_16, cap_17, A_17, cap_18, rfl, h_9, h_10⟩ := TA0.opn hr_15
      refine Y1 (v := .pointer (some (ad_4.add (x_2.toNat * 6)))) rfl f rfl rfl (fun _ pq => Y26 e_4 rfl (len := d0.fList.length) (cap := cap_1) (k := .i64) (i := x_2) (e := 26) (sz := 6) (getI_nn hx_4) (getI_lt hx_4)) fun _ f => N_alt rfl (fun w_21 p_47 => ?_) ?_
      ·refine Y13 f p_47 (hrec_tree_sorted _ (GL.mono ((hM_1.trans hM_2).trans hM_3) hG) (ad_4.add (x_2.toNat * 6)) [.int .i8 x_5.fKind, .bool x_5.fBool, .int .i64 x_5.fNum, S x_5.fText, .slice A_16 x_5.fList.length cap_17, .slice A_17 x_5.fKeys.length cap_18] x_5 (TA0.shutx (x := x_5) h_9 h_10) (fz_at (hc_5) 0 rfl) x_6 hx_5) fun _ M_5 w_22 hM_5 p_48 q_3 _ f => ?_
       obtain ⟨c_7, rfl, hr_16⟩ := q_3
       obtain ⟨A_18, cap_19, A_19, cap_20, rfl, h_11, h_12⟩ := TA0.opn hr_16
       refine W_end rfl (N_goN 1 hM_5 p_48 rfl (N_alt rfl (fun w_23 p_49 => ?_) ?_))
       ·refine V_allocS (k := 1) (c := 1) f p_49 (.cells #[.int .i8 x_6.fKind, .bool x_6.fBool, .int .i64 x_6.fNum, S x_6.fText, .slice A_18 x_6.fList.length cap_19, .slice A_19 x_6.fKeys.length cap_20] 26 (0, 0)) (by kernel_rfl) (fun _ => by kernel_rfl) fun b_8 w_24 p_50 _ f => W_end rfl (N_goN 2 hM_5 p_50 rfl (N_alt rfl (fun w_25 p_51 => ?_) ?_))
        ·have p_52 := p_51.pl [1]
         refine Y17 (z := .agg #[.int .i8 0, .bool false, .int .i64 0, S [], .slice none 0 0, .slice none 0 0]) (f := emb_TA0) (xs := s_1.2.1) (ys := [(⟨x_6.fKind, (x_6.fBool), x_6.fNum, x_6.fText, x_6.fList, x_6.fKeys⟩ : TA0)]) (news := [.int .i8 x_6.fKind, .bool x_6.fBool, .int .i64 x_6.fNum, S x_6.fText, .slice A_18 x_6.fList.length cap_19, .slice A_19 x_6.fKeys.length cap_20]) (ad := ⟨b_8, 0, none⟩) (m := 1) (c := 1) f p_52 (RepSeq.mono (hM_3.trans hM_5) _ _ hr_4) (by exact ⟨_, _, rfl, TA0.shut h_11 h_12, rfl⟩) rfl rfl rfl rfl (own_cells (p_52.ownCell 1 rfl) 0 rfl) (by exact g_2) (by have hg_ := g_2; first | omega | (simp only [List.length_cons, List.length_nil] at *; omega)) fun A_20 cap_21 cs_8 w_26 p_53 hr_17 _ f => ?_
         have p_54 := p_53.pl [1]
         have p_55 := p_54.drop
         refine W_end rfl (N_goN 1 hM_5 p_55 rfl (N_tail fun w_27 p_56 => Y f 1 fun _ f => Y22 f p_56 3 rfl rfl (b := b_2) (j := 4) (v := .slice A_20 (s_1.2.1 ++ [(⟨x_6.fKind, (x_6.fBool), x_6.fNum, x_6.fText, x_6.fList, x_6.fKeys⟩ : TA0)]).length cap_21) rfl (by exact rfl) (by simp) (by simp) ((Ent.row 26 6 (.slice A_20 (s_1.2.1 ++ [(⟨x_6.fKind, (x_6.fBool), x_6.fNum, x_6.fText, x_6.fList, x_6.fKeys⟩ : TA0)]).length cap_21) (s_1.2.1 ++ [(⟨x_6.fKind, (x_6.fBool), x_6.fNum, x_6.fText, x_6.fList, x_6.fKeys⟩ : TA0)]).length cs_8) :: (Ent.row 9 1 (.slice A_10 y_1.length cap_11) y_1.length cs_6) :: (Ent.row 3 1 (.slice A_3 x_1.length cap_3) x_1.length cs_1) :: (Ent.obj b_2 (.cells #[.int .i8 d0.fKind, .bool d0.fBool, .int .i64 d0.fNum, S d0.fText, .slice A_20 (s_1.2.1 ++ [(⟨x_6.fKind, (x_6.fBool), x_6.fNum, x_6.fText, x_6.fList, x_6.fKeys⟩ : TA0)]).length cap_21, .slice A_10 y_1.length cap_11] 26 (0, 0))) :: (Ent.obj b_1 (.cells #[.int .i8 0, .bool false, .int .i64 0, S [], .slice none 0 0, .slice none 0 0] 26 (0, 0))) :: H) rfl fun w_28 p_57 _ f => W_end rfl (N_te (T_n ?_))))
         exact ⟨s_1.2.1 ++ [(⟨x_6.fKind, (x_6.fBool), x_6.fNum, x_6.fText, x_6.fList, x_6.fKeys⟩ : TA0)], (sI hF_12).symm, M_5, hM_5, A_20, cap_21, cs_8, hr_17, f.kp, p_57⟩
        exact N_none
       exact N_none
      exact N_none
     ·rintro a_69 w_29 ⟨y_2, hq_2, M_6, hM_6, A_21, cap_22, cs_9, hr_18, f, p_58⟩
      subst j_2
      refine B_n (T_n (R_reg ?_))
      obtain ⟨g_3, hF_13⟩ := nS hF_9
      refine Y f 1 fun _ f => ?_
      have f := f.st 60 (congrArg (Value.int .i64) (inR_wrap g_3))
      refine Y f 1 fun _ f => eT ?_
      obtain rfl := sI hF_13
      exact ⟨⟨m_2, (s_1.1 + 1, y_2, y_1), A_21, cap_22, cs_9, A_10, cap_11, cs_6⟩, Nat.lt_succ_self _, M_6, ((hM_2.trans hM_3).trans hM_6), ⟨hn_1, hr_18, (RepSeq.mono hM_6 _ _ hr_11)⟩, f.kp, p_58⟩
   ·have k_3 := iff_f dI h_4
    refine wp_exit (T_x (T_x ?_))
    obtain rfl := sI hF_14
    exact ⟨rfl, (s_1.2.1, s_1.2.2), (sI hn_1).symm, M_2, hM_2, A_6, cap_6, cs_2, A_7, cap_7, cs_3, hr_4, hr_5, f.kp, p_15⟩
  ·rintro _ _ w_31 ⟨rfl, y_3, hq_, M_7, hM_7, A_22, cap_23, cs_10, A_23, cap_24, cs_11, hr_19, hr_20, f, p_59⟩
   subst b_3
   refine B_x (T_n (RR (Z (v := .agg #[.int .i8 d0.fKind, .bool d0.fBool, .int .i64 d0.fNum, S d0.fText, .slice A_22 y_3.1.length cap_23, .slice A_23 y_3.2.length cap_24]) f (Y28 (cs := [.int .i8 d0.fKind, .bool d0.fBool, .int .i64 d0.fNum, S d0.fText, .slice A_22 y_3.1.length cap_23, .slice A_23 y_3.2.length cap_24]) rfl (ad := ⟨b_2, 0, none⟩) (own_cells (p_59.ownCell 3 rfl) 0 rfl)) fun _ f => ?_)))
   obtain ⟨A_24, cap_25, M_8, hv_4, hM_8, p_60, h_13⟩ := p_59.rowSli (f := emb_TA0) (xs := y_3.1) szd_TA0 hr_19
   have f := Frm.set f 61 (v := .agg #[.int .i8 d0.fKind, .bool d0.fBool, .int .i64 d0.fNum, S d0.fText, .slice A_22 y_3.1.length cap_23, .slice A_23 y_3.2.length cap_24]) (v' := .agg #[.int .i8 d0.fKind, .bool d0.fBool, .int .i64 d0.fNum, S d0.fText, .slice A_24 y_3.1.length cap_25, .slice A_23 y_3.2.length cap_24]) (by kernel_rfl) (by rw [hv_4])
   have p_61 : Hp w0 M_8 ((Ent.row 9 1 (.slice A_23 y_3.2.length cap_24) y_3.2.length cs_11) :: (Ent.row 3 1 (.slice A_3 x_1.length cap_3) x_1.length cs_1) :: (Ent.obj b_2 (.cells #[.int .i8 d0.fKind, .bool d0.fBool, .int .i64 d0.fNum, S d0.fText, .slice A_24 y_3.1.length cap_25, .slice A_23 y_3.2.length cap_24] 26 (0, 0))) :: (Ent.obj b_1 (.cells #[.int .i8 0, .bool false, .int .i64 0, S [], .slice none 0 0, .slice none 0 0] 26 (0, 0))) :: H) w_31 := by rw [hv_4] at p_60; exact p_60
   obtain ⟨A_25, cap_26, M_9, hv_5, hM_9, p_62, h_14⟩ := p_61.rowSli (f := Dat.str) (xs := y_3.2) szd_str (RepSeq.mono hM_8 _ _ hr_20)
   have f := Frm.set f 61 (v := .agg #[.int .i8 d0.fKind, .bool d0.fBool, .int .i64 d0.fNum, S d0.fText, .slice A_24 y_3.1.length cap_25, .slice A_23 y_3.2.length cap_24]) (v' := .agg #[.int .i8 d0.fKind, .bool d0.fBool, .int .i64 d0.fNum, S d0.fText, .slice A_24 y_3.1.length cap_25, .slice A_25 y_3.2.length cap_26]) (by kernel_rfl) (by rw [hv_5])
   have p_63 : Hp w0 M_9 ((Ent.row 3 1 (.slice A_3 x_1.length cap_3) x_1.length cs_1) :: (Ent.obj b_2 (.cells #[.int .i8 d0.fKind, .bool d0.fBool, .int .i64 d0.fNum, S d0.fText, .slice A_24 y_3.1.length cap_25, .slice A_25 y_3.2.length cap_26] 26 (0, 0))) :: (Ent.obj b_1 (.cells #[.int .i8 0, .bool false, .int .i64 0, S [], .slice none 0 0, .slice none 0 0] 26 (0, 0))) :: H) w_31 := by rw [hv_5] at p_62; exact p_62
   have p_64 := p_63.pl [2]
   refine Y23 (vs := [.int .i8 d0.fKind, .bool d0.fBool, .int .i64 d0.fNum, S d0.fText, .slice A_24 y_3.1.length cap_25, .slice A_25 y_3.2.length cap_26]) (j := 0) f p_64 rfl rfl (by simp [Value.oneCell', S]) (by simp) (by decide) (cs' := #[.int .i8 d0.fKind, .bool d0.fBool, .int .i64 d0.fNum, S d0.fText, .slice A_24 y_3.1.length cap_25, .slice A_25 y_3.2.length cap_26]) fun w_32 p_65 _ f => eT (wp_ret (T_r (E_rv1 f rfl (Y8 (cs := [.int .i8 d0.fKind, .bool d0.fBool, .int .i64 d0.fNum, S d0.fText, .slice A_24 y_3.1.length cap_25, .slice A_25 y_3.2.length cap_26]) (ad := ⟨b_1, 0, none⟩) f (own_cells (p_65.ownCell 0 rfl) 0 rfl)) ?_)))
   obtain rfl := sI hF_3
   exact ⟨_, rfl, M_9, (((hM_1.trans hM_7).trans hM_8).trans hM_9), (p_65.dropN 3), ⟨[.int .i8 d0.fKind, .bool d0.fBool, .int .i64 d0.fNum, S d0.fText, .slice A_24 y_3.1.length cap_25, .slice A_25 y_3.2.length cap_26], rfl, (TA0.shut (h_13.mono hM_9) h_14)⟩⟩
 ·have k_4 := iff_f dI h_3
  refine wp_skip (T_n (R_seq (RR (Y f 3 fun _ f => Y12 f p_6 q0 4 rfl fun _ f => Y f 2 fun _ f => eT (wp_block ?_)))))
  obtain ⟨A_26, cap_27, hv_6⟩ : ∃ A cap, Value.slice none 0 0 = .slice A ([] : List TA0).length cap := ⟨none, 0, rfl⟩
  have p_66 : Hp w0 M1 ((Ent.row 26 6 (.slice A_26 ([] : List TA0).length cap_27) ([] : List TA0).length []) :: (Ent.obj b_2 (.cells #[.int .i8 d0.fKind, .bool d0.fBool, .int .i64 d0.fNum, S d0.fText, .slice A_26 ([] : List TA0).length cap_27, .slice none 0 0] 26 (0, 0))) :: (Ent.obj b_1 (.cells #[.int .i8 0, .bool false, .int .i64 0, S [], .slice none 0 0, .slice none 0 0] 26 (0, 0))) :: H) w_6 := by rw [← hv_6]; exact p_6.nilRow 26 6
  have hr_21 : RepSeq M1 (([] : List TA0).map emb_TA0) [] := rfl
  obtain ⟨b_9, hL_2, hF_16⟩ := bS hF_15
  refine wp_mono (Q := fun e a w => (e = .exit 2 ∧ (∃ y_5 : List TA0, b_9 = y_5 ∧ ∃ M_14 : Mem, M1.le M_14 ∧ ∃ (A_39 : Option Addr), ∃ (cap_40 : Nat), ∃ (cs_16 : List Value), RepSeq M_14 (y_5.map emb_TA0) cs_16 ∧ Frm 84 [(2, .pointer (some (⟨b_1, 0, none⟩))), (3, .pointer (some (⟨b_2, 0, none⟩)))] a ∧ Hp w0 M_14 ((Ent.row 26 6 (.slice A_39 y_5.length cap_40) y_5.length cs_16) :: (Ent.obj b_2 (.cells #[.int .i8 d0.fKind, .bool d0.fBool, .int .i64 d0.fNum, S d0.fText, .slice A_39 y_5.length cap_40, .slice none 0 0] 26 (0, 0))) :: (Ent.obj b_1 (.cells #[.int .i8 0, .bool false, .int .i64 0, S [], .slice none 0 0, .slice none 0 0] 26 (0, 0))) :: H) w))) (R_loop (n := 84) (w0 := w0) (M := M1) (fun (x : Nat × (Int × List TA0) × (Option Addr) × Nat × (List Value)) => match x with | (m_3, s_2, A_27, cap_28, cs_12) => [(0, .pointer (some ad0)), (2, .pointer (some (⟨b_1, 0, none⟩))), (3, .pointer (some (⟨b_2, 0, none⟩))), (66, .int .i64 ((d0.fList.length : Nat) : Int)), (67, .int .i64 s_2.1)]) (fun (x : Nat × (Int × List TA0) × (Option Addr) × Nat × (List Value)) => match x with | (m_3, s_2, A_27, cap_28, cs_12) => ((Ent.row 26 6 (.slice A_27 s_2.2.length cap_28) s_2.2.length cs_12) :: (Ent.obj b_2 (.cells #[.int .i8 d0.fKind, .bool d0.fBool, .int .i64 d0.fNum, S d0.fText, .slice A_27 s_2.2.length cap_28, .slice none 0 0] 26 (0, 0))) :: (Ent.obj b_1 (.cells #[.int .i8 0, .bool false, .int .i64 0, S [], .slice none 0 0, .slice none 0 0] 26 (0, 0))) :: H)) (fun (x : Nat × (Int × List TA0) × (Option Addr) × Nat × (List Value)) (MM : Mem) => match x with | (m_3, s_2, A_27, cap_28, cs_12) => loopF (tree_sorted_s2 n rec_tree_sorted d0) m_3 s_2 = some b_9 ∧ RepSeq MM (s_2.2.map emb_TA0) cs_12) (fun (x : Nat × (Int × List TA0) × (Option Addr) × Nat × (List Value)) => match x with | (m_3, s_2, A_27, cap_28, cs_12) => m_3) (n, ((0 : Int), ([] : List TA0)), A_26, cap_27, []) (f.kp) p_66 ⟨hL_2, hr_21⟩ ?_) ?_
  ·rintro ⟨m_3, s_2, A_27, cap_28, cs_12⟩ M_10 _ w_33 hM_10 I_2 f p_67
   obtain ⟨I_2L, hr_22⟩ := I_2
   obtain ⟨m_4, r_2, rfl, hs_2, hn_2⟩ := loop_step I_2L
   unfold tree_sorted_s2 at hs_2
   refine RR (Y f 1 fun _ f => eT (R_seq (RcF f hs_2 (fun h_15 hF_17 => ?_) fun h_15 hF_23 => ?_)))
   ·have k_5 := dI.1 h_15
    refine wp_skip (T_n (R_seq (wp_block (RR (Y f 2 fun _ f => eT ?_)))))
    obtain ⟨j_3, hj_3, hF_18⟩ := bS hF_17
    refine R_mid (fun a_104 w_45 => ∃ y_4 : List TA0, j_3 = y_4 ∧ ∃ M_13 : Mem, M_10.le M_13 ∧ ∃ (A_38 : Option Addr), ∃ (cap_39 : Nat), ∃ (cs_15 : List Value), RepSeq M_13 (y_4.map emb_TA0) cs_15 ∧ Frm 84 [(0, .pointer (some ad0)), (2, .pointer (some (⟨b_1, 0, none⟩))), (3, .pointer (some (⟨b_2, 0, none⟩))), (66, .int .i64 ((d0.fList.length : Nat) : Int)), (67, .int .i64 s_2.1)] a_104 ∧ Hp w0 M_13 ((Ent.row 26 6 (.slice A_38 y_4.length cap_39) y_4.length cs_15) :: (Ent.obj b_2 (.cells #[.int .i8 d0.fKind, .bool d0.fBool, .int .i64 d0.fNum, S d0.fText, .slice A_38 y_4.length cap_39, .slice none 0 0] 26 (0, 0))) :: (Ent.obj b_1 (.cells #[.int .i8 0, .bool false, .int .i64 0, S [], .slice none 0 0, .slice none 0 0] 26 (0, 0))) :: H) w_45) ?_ ?_
    ·obtain ⟨x_9, hx_6, hF_19⟩ := bS hj_3
     obtain ⟨x_10, hx_7, hF_20⟩ := bS hF_19
     obtain ⟨g_4, hF_21⟩ := nS hF_20
     refine R_plan (ks := [11, 12]) (E := [Ent.row 26 6 (.slice A_27 s_2.2.length cap_28) s_2.2.length cs_12]) (Hr := ((Ent.obj b_2 (.cells #[.int .i8 d0.fKind, .bool d0.fBool, .int .i64 d0.fNum, S d0.fText, .slice A_27 s_2.2.length cap_28, .slice none 0 0] 26 (0, 0))) :: (Ent.obj b_1 (.cells #[.int .i8 0, .bool false, .int .i64 0, S [], .slice none 0 0, .slice none 0 0] 26 (0, 0))) :: H)) (.quiet 0 (.quiet 1 (.quiet 2 (.quiet 3 (.quiet 4 (.quiet 5 (.quiet 6 (.quiet 7 (.alt 8 (.alt 9 (.alt 10 .done .none) .none) .none))))))))) p_67 (by kernel_rfl) (by kernel_rfl) (by kernel_rfl) (Y1 (v := .pointer (some (⟨b_2, 4, none⟩))) rfl f rfl rfl (fun _ _ => by kernel_rfl) fun _ f => Y1 (v := .slice A_27 s_2.2.length cap_28) rfl f rfl rfl (fun _ pq => Y27 (v := .slice A_27 s_2.2.length cap_28) rfl (ad := ⟨b_2, 4, none⟩) (pq.ownCell 0 rfl 4)) fun _ f => Y1 (v := .pointer (some ad0)) rfl f rfl rfl (fun _ _ => by kernel_rfl) fun _ f => Y1 (v := .pointer (some ad0)) rfl f rfl rfl (fun _ _ => by kernel_rfl) fun _ f => Y1 (v := .pointer (some (ad0.add 4))) rfl f rfl rfl (fun _ _ => by kernel_rfl) fun _ f => Y1 (v := .slice A_1 d0.fList.length cap_1) rfl f rfl rfl (fun _ pq => Y27 (v := .slice A_1 d0.fList.length cap_1) rfl (ad := ad0.add 4) (pq.cell ((fzu hM_10 q0) 4 _ rfl))) fun _ f => Y1 (v := .int .i64 s_2.1) rfl f rfl rfl (fun _ _ => by kernel_rfl) fun _ f => ?_)
     obtain ⟨ad_6, c_10, e_6, -, hr_26, hc_7⟩ := Sli.at_ (h_1.mono hM_10) hx_6
     obtain ⟨A_33, cap_34, A_34, cap_35, rfl, h_20, h_21⟩ := TA0.opn hr_26
     refine Y1 (v := .pointer (some (ad_6.add (s_2.1.toNat * 6)))) rfl f rfl rfl (fun _ pq => Y26 e_6 rfl (len := d0.fList.length) (cap := cap_1) (k := .i64) (i := s_2.1) (e := 26) (sz := 6) (getI_nn hx_6) (getI_lt hx_6)) fun _ f => N_alt rfl (fun w_37 p_74 => ?_) ?_
     ·refine Y13 f p_74 (hrec_tree_sorted _ (GL.mono hM_10 hG) (ad_6.add (s_2.1.toNat * 6)) [.int .i8 x_9.fKind, .bool x_9.fBool, .int .i64 x_9.fNum, S x_9.fText, .slice A_33 x_9.fList.length cap_34, .slice A_34 x_9.fKeys.length cap_35] x_9 (TA0.shutx (x := x_9) h_20 h_21) (fz_at (hc_7) 0 rfl) x_10 hx_7) fun _ M_12 w_38 hM_12 p_75 q_5 _ f => ?_
      obtain ⟨c_11, rfl, hr_27⟩ := q_5
      obtain ⟨A_35, cap_36, A_36, cap_37, rfl, h_22, h_23⟩ := TA0.opn hr_27
      refine W_end rfl (N_goN 1 hM_12 p_75 rfl (N_alt rfl (fun w_39 p_76 => ?_) ?_))
      ·refine V_allocS (k := 1) (c := 1) f p_76 (.cells #[.int .i8 x_10.fKind, .bool x_10.fBool, .int .i64 x_10.fNum, S x_10.fText, .slice A_35 x_10.fList.length cap_36, .slice A_36 x_10.fKeys.length cap_37] 26 (0, 0)) (by kernel_rfl) (fun _ => by kernel_rfl) fun b_11 w_40 p_77 _ f => W_end rfl (N_goN 2 hM_12 p_77 rfl (N_alt rfl (fun w_41 p_78 => ?_) ?_))
       ·have p_79 := p_78.pl [1]
        refine Y17 (z := .agg #[.int .i8 0, .bool false, .int .i64 0, S [], .slice none 0 0, .slice none 0 0]) (f := emb_TA0) (xs := s_2.2) (ys := [(⟨x_10.fKind, (x_10.fBool), x_10.fNum, x_10.fText, x_10.fList, x_10.fKeys⟩ : TA0)]) (news := [.int .i8 x_10.fKind, .bool x_10.fBool, .int .i64 x_10.fNum, S x_10.fText, .slice A_35 x_10.fList.length cap_36, .slice A_36 x_10.fKeys.length cap_37]) (ad := ⟨b_11, 0, none⟩) (m := 1) (c := 1) f p_79 (RepSeq.mono hM_12 _ _ hr_22) (by exact ⟨_, _, rfl, TA0.shut h_22 h_23, rfl⟩) rfl rfl rfl rfl (own_cells (p_79.ownCell 1 rfl) 0 rfl) (by exact g_4) (by have hg_ := g_4; first | omega | (simp only [List.length_cons, List.length_nil] at *; omega)) fun A_37 cap_38 cs_14 w_42 p_80 hr_28 _ f => ?_
        have p_81 := p_80.pl [1]
        have p_82 := p_81.drop
        refine W_end rfl (N_goN 1 hM_12 p_82 rfl (N_tail fun w_43 p_83 => Y f 1 fun _ f => Y22 f p_83 1 rfl rfl (b := b_2) (j := 4) (v := .slice A_37 (s_2.2 ++ [(⟨x_10.fKind, (x_10.fBool), x_10.fNum, x_10.fText, x_10.fList, x_10.fKeys⟩ : TA0)]).length cap_38) rfl (by exact rfl) (by simp) (by simp) ((Ent.row 26 6 (.slice A_37 (s_2.2 ++ [(⟨x_10.fKind, (x_10.fBool), x_10.fNum, x_10.fText, x_10.fList, x_10.fKeys⟩ : TA0)]).length cap_38) (s_2.2 ++ [(⟨x_10.fKind, (x_10.fBool), x_10.fNum, x_10.fText, x_10.fList, x_10.fKeys⟩ : TA0)]).length cs_14) :: (Ent.obj b_2 (.cells #[.int .i8 d0.fKind, .bool d0.fBool, .int .i64 d0.fNum, S d0.fText, .slice A_37 (s_2.2 ++ [(⟨x_10.fKind, (x_10.fBool), x_10.fNum, x_10.fText, x_10.fList, x_10.fKeys⟩ : TA0)]).length cap_38, .slice none 0 0] 26 (0, 0))) :: (Ent.obj b_1 (.cells #[.int .i8 0, .bool false, .int .i64 0, S [], .slice none 0 0, .slice none 0 0] 26 (0, 0))) :: H) rfl fun w_44 p_84 _ f => W_end rfl (N_te (T_n ?_))))
        exact ⟨s_2.2 ++ [(⟨x_10.fKind, (x_10.fBool), x_10.fNum, x_10.fText, x_10.fList, x_10.fKeys⟩ : TA0)], (sI hF_21).symm, M_12, hM_12, A_37, cap_38, cs_14, hr_28, f.kp, p_84⟩
       exact N_none
      exact N_none
     exact N_none
    ·rintro a_104 w_45 ⟨y_4, hq_3, M_13, hM_13, A_38, cap_39, cs_15, hr_29, f, p_85⟩
     subst j_3
     refine B_n (T_n (R_reg ?_))
     obtain ⟨g_5, hF_22⟩ := nS hF_18
     refine Y f 1 fun _ f => ?_
     have f := f.st 82 (congrArg (Value.int .i64) (inR_wrap g_5))
     refine Y f 1 fun _ f => eT ?_
     obtain rfl := sI hF_22
     exact ⟨⟨m_4, (s_2.1 + 1, y_4), A_38, cap_39, cs_15⟩, Nat.lt_succ_self _, M_13, (hM_10.trans hM_13), ⟨hn_2, hr_29⟩, f.kp, p_85⟩
   ·have k_6 := iff_f dI h_15
    refine wp_exit (T_x (T_x ?_))
    obtain rfl := sI hF_23
    exact ⟨rfl, s_2.2, (sI hn_2).symm, M_10, hM_10, A_27, cap_28, cs_12, hr_22, f.kp, p_67⟩
  ·rintro _ _ w_47 ⟨rfl, y_5, hq_, M_14, hM_14, A_39, cap_40, cs_16, hr_30, f, p_86⟩
   subst b_9
   refine B_x (T_n (RR (Z (v := .agg #[.int .i8 d0.fKind, .bool d0.fBool, .int .i64 d0.fNum, S d0.fText, .slice A_39 y_5.length cap_40, .slice none 0 0]) f (Y28 (cs := [.int .i8 d0.fKind, .bool d0.fBool, .int .i64 d0.fNum, S d0.fText, .slice A_39 y_5.length cap_40, .slice none 0 0]) rfl (ad := ⟨b_2, 0, none⟩) (own_cells (p_86.ownCell 1 rfl) 0 rfl)) fun _ f => ?_)))
   obtain ⟨A_40, cap_41, M_15, hv_7, hM_15, p_87, h_24⟩ := p_86.rowSli (f := emb_TA0) (xs := y_5) szd_TA0 hr_30
   have f := Frm.set f 83 (v := .agg #[.int .i8 d0.fKind, .bool d0.fBool, .int .i64 d0.fNum, S d0.fText, .slice A_39 y_5.length cap_40, .slice none 0 0]) (v' := .agg #[.int .i8 d0.fKind, .bool d0.fBool, .int .i64 d0.fNum, S d0.fText, .slice A_40 y_5.length cap_41, .slice none 0 0]) (by kernel_rfl) (by rw [hv_7])
   have p_88 : Hp w0 M_15 ((Ent.obj b_2 (.cells #[.int .i8 d0.fKind, .bool d0.fBool, .int .i64 d0.fNum, S d0.fText, .slice A_40 y_5.length cap_41, .slice none 0 0] 26 (0, 0))) :: (Ent.obj b_1 (.cells #[.int .i8 0, .bool false, .int .i64 0, S [], .slice none 0 0, .slice none 0 0] 26 (0, 0))) :: H) w_47 := by rw [hv_7] at p_87; exact p_87
   have p_89 := p_88.pl [1]
   refine Y23 (vs := [.int .i8 d0.fKind, .bool d0.fBool, .int .i64 d0.fNum, S d0.fText, .slice A_40 y_5.length cap_41, .slice none 0 0]) (j := 0) f p_89 rfl rfl (by simp [Value.oneCell', S]) (by simp) (by decide) (cs' := #[.int .i8 d0.fKind, .bool d0.fBool, .int .i64 d0.fNum, S d0.fText, .slice A_40 y_5.length cap_41, .slice none 0 0]) fun w_48 p_90 _ f => eT (wp_ret (E_rv1 f rfl (Y8 (cs := [.int .i8 d0.fKind, .bool d0.fBool, .int .i64 d0.fNum, S d0.fText, .slice A_40 y_5.length cap_41, .slice none 0 0]) (ad := ⟨b_1, 0, none⟩) f (own_cells (p_90.ownCell 0 rfl) 0 rfl)) ?_))
   obtain rfl := sI hF_16
   exact ⟨_, rfl, M_15, (hM_14.trans hM_15), (p_90.dropN 2), ⟨[.int .i8 d0.fKind, .bool d0.fBool, .int .i64 d0.fNum, S d0.fText, .slice A_40 y_5.length cap_41, .slice none 0 0], rfl, (TA0.shut h_24 Sli.nil)⟩⟩
def tree_sorted_k (n : Nat) : Nat → TA0 → Option TA0
  | 0 => fun _ => none
  | k + 1 => tree_sorted_b n (tree_sorted_k n k)
def tree_sorted (n : Nat) (d0 : TA0) : Option TA0 := tree_sorted_k n n d0
theorem tree_sorted_ok (n : Nat) (M : Mem) (hG : GL M) (ad0 : Addr) (c0 : List Value) (d0 : TA0) (h0 : Rep M (emb_TA0 d0) c0) (q0 : ∀ j v, c0[j]? = some v → M.cell? (ad0.add j) = some v) (r : TA0) (hF : tree_sorted n d0 = some r) : Ok Tryd.prog M 22 [.pointer (some ad0)] (fun M' v => ∃ (c0 : List Value), v = .agg c0.toArray ∧ Rep M' (emb_TA0 r) c0) := by
 have key : ∀ (k : Nat) (M : Mem) (hG : GL M) (ad0 : Addr) (c0 : List Value) (d0 : TA0) (h0 : Rep M (emb_TA0 d0) c0) (q0 : ∀ j v, c0[j]? = some v → M.cell? (ad0.add j) = some v) (r : TA0) (hF : tree_sorted_k n k d0 = some r), Ok Tryd.prog M 22 [.pointer (some ad0)] (fun M' v => ∃ (c0 : List Value), v = .agg c0.toArray ∧ Rep M' (emb_TA0 r) c0) := by
  intro k
  induction k with
  | zero => intro M hG ad0 c0 d0 h0 q0 r hF; simp [tree_sorted_k] at hF
  | succ k ih => intro M hG ad0 c0 d0 h0 q0 r hF; exact tree_sorted_b_ok n (tree_sorted_k n k) ih M hG ad0 c0 d0 h0 q0 r hF
 exact key n M hG ad0 c0 d0 h0 q0 r hF
def tree_Sorted (n : Nat) (d0 : TA0) : Option TA0 :=
  (tree_Check n d0).bind fun x_1 =>
  bif (!(decide (x_1 = 0))) then
    (some (d0))
  else
    (tree_sorted n d0).bind fun x_2 =>
    some (x_2)
theorem tree_Sorted_ok (n : Nat) (M : Mem) (hG : GL M) (c0 : List Value) (d0 : TA0) (h0 : Rep M (emb_TA0 d0) c0) (r : TA0) (hF : tree_Sorted n d0 = some r) : Ok Tryd.prog M 13 [.agg c0.toArray] (fun M' v => ∃ (c0 : List Value), v = .agg c0.toArray ∧ Rep M' (emb_TA0 r) c0) := by
 unfold tree_Sorted at hF
 intro M1 hM0 w0 H w p0
 replace hG := GL.mono hM0 hG
 replace h0 := Rep.mono hM0 _ _ h0
 obtain ⟨A_1, cap_1, A_2, cap_2, rfl, h_1, h_2⟩ := TA0.opn h0
 refine R_enter 8 Tryd.func13 rfl rfl (by simp) fun a0 f0 => RR (Y10 (cs := #[.int .i8 d0.fKind, .bool d0.fBool, .int .i64 d0.fNum, S d0.fText, .slice A_1 d0.fList.length cap_1, .slice A_2 d0.fKeys.length cap_2]) (T := 26) f0 p0 fun b_1 M_1 w_1 hM_1 hc_1 p_1 _ f => ?_)
 have hc_2 := fz_box hc_1
 refine Y9 f p_1 (.cells #[.int .i8 0, .bool false, .int .i64 0, S [], .slice none 0 0, .slice none 0 0] 26 (0, 0)) fun b_2 w_2 p_2 _ f => eT (R_seq (RR (Z (v := .agg #[.int .i8 d0.fKind, .bool d0.fBool, .int .i64 d0.fNum, S d0.fText, .slice A_1 d0.fList.length cap_1, .slice A_2 d0.fKeys.length cap_2]) f (Y28 (cs := [.int .i8 d0.fKind, .bool d0.fBool, .int .i64 d0.fNum, S d0.fText, .slice A_1 d0.fList.length cap_1, .slice A_2 d0.fKeys.length cap_2]) rfl (ad := ⟨b_1, 0, none⟩) (fun j v h => p_2.cell (hc_2 j v h))) fun _ f => ?_)))
 obtain ⟨x_1, hx_1, hF_1⟩ := bS hF
 refine Y15 f p_2 (tree_Check_ok n _ (GL.mono hM_1 hG) _ d0 (TA0.shutx (x := d0) (h_1.mono hM_1) (h_2.mono hM_1)) x_1 hx_1) fun w_3 p_3 _ f => Y f 1 fun _ f => eT (RcF f hF_1 (fun h_3 hF_2 => ?_) fun h_3 hF_3 => ?_)
 ·have k_1 : ¬ (x_1 = 0) := (not_iff dI).1 h_3
  refine RR (Z (v := .agg #[.int .i8 d0.fKind, .bool d0.fBool, .int .i64 d0.fNum, S d0.fText, .slice A_1 d0.fList.length cap_1, .slice A_2 d0.fKeys.length cap_2]) f (Y28 (cs := [.int .i8 d0.fKind, .bool d0.fBool, .int .i64 d0.fNum, S d0.fText, .slice A_1 d0.fList.length cap_1, .slice A_2 d0.fKeys.length cap_2]) rfl (ad := ⟨b_1, 0, none⟩) (fun j v h => p_3.cell (hc_2 j v h))) fun _ f => Y23 (vs := [.int .i8 d0.fKind, .bool d0.fBool, .int .i64 d0.fNum, S d0.fText, .slice A_1 d0.fList.length cap_1, .slice A_2 d0.fKeys.length cap_2]) (j := 0) f p_3 rfl rfl (by simp [Value.oneCell', S]) (by simp) (by decide) (cs' := #[.int .i8 d0.fKind, .bool d0.fBool, .int .i64 d0.fNum, S d0.fText, .slice A_1 d0.fList.length cap_1, .slice A_2 d0.fKeys.length cap_2]) fun w_4 p_4 _ f => eT (wp_ret (T_r (E_rv1 f rfl (Y8 (cs := [.int .i8 d0.fKind, .bool d0.fBool, .int .i64 d0.fNum, S d0.fText, .slice A_1 d0.fList.length cap_1, .slice A_2 d0.fKeys.length cap_2]) (ad := ⟨b_2, 0, none⟩) f (own_cells (p_4.ownCell 0 rfl) 0 rfl)) ?_))))
  obtain rfl := sI hF_2
  exact ⟨_, rfl, M_1, hM_1, (p_4.dropN 1), ⟨[.int .i8 d0.fKind, .bool d0.fBool, .int .i64 d0.fNum, S d0.fText, .slice A_1 d0.fList.length cap_1, .slice A_2 d0.fKeys.length cap_2], rfl, (TA0.shutx (x := d0) (h_1.mono hM_1) (h_2.mono hM_1))⟩⟩
 ·have k_2 : ¬ (¬ (x_1 = 0)) := iff_f (not_iff dI) h_3
  refine wp_skip (T_n (RR ?_))
  obtain ⟨x_2, hx_2, hF_4⟩ := bS hF_3
  refine Y13 f p_3 (tree_sorted_ok n _ (GL.mono hM_1 hG) (⟨b_1, 0, none⟩) [.int .i8 d0.fKind, .bool d0.fBool, .int .i64 d0.fNum, S d0.fText, .slice A_1 d0.fList.length cap_1, .slice A_2 d0.fKeys.length cap_2] d0 (TA0.shutx (x := d0) (h_1.mono hM_1) (h_2.mono hM_1)) (fz_at (hc_2) 0 rfl) x_2 hx_2) fun _ M_2 w_5 hM_2 p_5 q_1 _ f => ?_
  obtain ⟨c_1, rfl, hr_1⟩ := q_1
  obtain ⟨A_3, cap_3, A_4, cap_4, rfl, h_4, h_5⟩ := TA0.opn hr_1
  refine Y23 (vs := [.int .i8 x_2.fKind, .bool x_2.fBool, .int .i64 x_2.fNum, S x_2.fText, .slice A_3 x_2.fList.length cap_3, .slice A_4 x_2.fKeys.length cap_4]) (j := 0) f p_5 rfl rfl (by simp [Value.oneCell', S]) (by simp) (by decide) (cs' := #[.int .i8 x_2.fKind, .bool x_2.fBool, .int .i64 x_2.fNum, S x_2.fText, .slice A_3 x_2.fList.length cap_3, .slice A_4 x_2.fKeys.length cap_4]) fun w_6 p_6 _ f => eT (wp_ret (E_rv1 f rfl (Y8 (cs := [.int .i8 x_2.fKind, .bool x_2.fBool, .int .i64 x_2.fNum, S x_2.fText, .slice A_3 x_2.fList.length cap_3, .slice A_4 x_2.fKeys.length cap_4]) (ad := ⟨b_2, 0, none⟩) f (own_cells (p_6.ownCell 0 rfl) 0 rfl)) ?_))
  obtain rfl := sI hF_4
  exact ⟨_, rfl, M_2, (hM_1.trans hM_2), (p_6.dropN 1), ⟨[.int .i8 x_2.fKind, .bool x_2.fBool, .int .i64 x_2.fNum, S x_2.fText, .slice A_3 x_2.fList.length cap_3, .slice A_4 x_2.fKeys.length cap_4], rfl, (TA0.shutx (x := x_2) h_4 h_5)⟩⟩
end Go.Proofs.YtfaedhhjamaniaaDoor
end

section
section
namespace Go.Proofs.YtfaedhhjamaniaaDoor
open Go Go.Vc Go.RowKit
def Small : Nat → TA0 → Prop
  | 0, _ => False
  | d + 1, v => v.fList.length ≤ 3000 ∧ v.fKeys.length ≤ 3000 ∧ v.fText.length ≤ 5000 ∧ (∀ k ∈ v.fKeys, k.length ≤ 5000) ∧ ∀ x ∈ v.fList, Small d x
theorem walkVs_app : ∀ (l m : List TA0), walkVs (l ++ m) = walkVs l ++ walkVs m
 | [], m => by simp [walkVs]
 | x :: r, m => by simp [walkVs, walkVs_app r m]
theorem walkVs_take {l : List TA0} {i : Nat} {x : TA0} (h : l[i]? = some x) : walkVs (l.take (i + 1)) = walkVs (l.take i) ++ walkV x := by
 rw [List.take_add_one, h, walkVs_app]
 simp [walkVs]
theorem weight_ok {n : Nat} (hn : 3000 < n) : ∀ (k d : Nat) (v : TA0), d < k → d ≤ 1000 → ∃ W : Int, ref03_weight_k n k v (d : Int) = some W ∧ 0 ≤ W ∧ W ≤ 30010001 + 10000 * d ∧ (W ≤ 5000 → Small d v ∧ ((walkV v).length : Int) ≤ W)
 | 0, d, v, h, _ => absurd h (by omega)
 | k + 1, d, v, h, hd => by
  show ∃ W : Int, ref03_weight_b n (ref03_weight_k n k) v (d : Int) = some W ∧ _
  unfold ref03_weight_b
  by_cases h0 : d = 0 ∨ 3000 < v.fList.length ∨ 3000 < v.fKeys.length
  ·have e : (bif decide ((d : Int) = 0) then some true else bif decide ((3000 : Int) < ((v.fList.length : Nat) : Int)) then some true else some (decide ((3000 : Int) < ((v.fKeys.length : Nat) : Int))) : Option Bool) = some true := by
    by_cases a : (d : Int) = 0
    ·rw [decide_eq_true a, cT]
    ·rw [decide_eq_false a, cF]
     by_cases b : (3000 : Int) < ((v.fList.length : Nat) : Int)
     ·rw [decide_eq_true b, cT]
     ·rw [decide_eq_false b, cF, decide_eq_true (by omega)]
   rw [e, bnd, cT]
   exact ⟨10000, rfl, by omega, by omega, fun h => absurd h (by omega)⟩
  ·have e : (bif decide ((d : Int) = 0) then some true else bif decide ((3000 : Int) < ((v.fList.length : Nat) : Int)) then some true else some (decide ((3000 : Int) < ((v.fKeys.length : Nat) : Int))) : Option Bool) = some false := by
    rw [decide_eq_false (by omega), cF, decide_eq_false (by omega), cF, decide_eq_false (by omega)]
   rw [e, bnd, cF]
   obtain ⟨base, hbase⟩ : ∃ base : Int, base = (1 : Int) + (min (v.fText.length : Int) (10000 : Int)) := ⟨_, rfl⟩
   rw [← hbase, need_i (by omega) (by omega)]
   obtain ⟨y, hy, hy1, hy2, hy3⟩ := loop_inv (step := ref03_weight_s1 n v) (n := n) (s0 := (base, (0 : Int)))
    (fun k s => s.2 = (k : Int) ∧ base ≤ s.1 ∧ s.1 ≤ base + 10000 * k ∧ (s.1 ≤ 5000 → ∀ j, j < k → (v.fKeys.getD j []).length ≤ 5000))
    (fun b => base ≤ b ∧ b ≤ base + 10000 * v.fKeys.length ∧ (b ≤ 5000 → ∀ j, j < v.fKeys.length → (v.fKeys.getD j []).length ≤ 5000)) v.fKeys.length
    ⟨rfl, Int.le_refl _, by simp, fun _ j hj => absurd hj (by omega)⟩
    (fun q s hq hI => by
     obtain ⟨t, i⟩ := s
     obtain ⟨h1, h2, h3, h4⟩ := hI
     have h1' : i = (q : Int) := h1
     subst h1'
     left
     refine ⟨(t + min ((v.fKeys.getD q []).length : Int) 10000, (q : Int) + 1), ?_, by simp, ?_, ?_, ?_⟩
     ·show ref03_weight_s1 n v (t, (q : Int)) = _
      unfold ref03_weight_s1
      dsimp only at h2 h3 ⊢
      rw [decide_eq_true (by omega), cT, getI_at [] hq, bnd, need_i (by omega) (by omega), need_i (by omega) (by omega)]
     ·dsimp only at h2 ⊢; omega
     ·dsimp only at h3 ⊢; push_cast; omega
     ·dsimp only at h4 ⊢
      intro hle j hj
      by_cases hjq : j = q
      ·subst hjq; omega
      ·exact h4 (by omega) j (by omega))
    (fun s hI => by
     obtain ⟨t, i⟩ := s
     obtain ⟨h1, h2, h3, h4⟩ := hI
     have h1' : i = (v.fKeys.length : Int) := h1
     subst h1'
     refine ⟨t, ?_, h2, h3, h4⟩
     unfold ref03_weight_s1
     dsimp only
     rw [decide_eq_false (by omega), cF])
    (by omega)
   rw [hy, bnd]
   obtain ⟨z, hz, hz1, hz2, hz3⟩ := loop_inv (step := ref03_weight_s2 n (ref03_weight_k n k) v (d : Int)) (n := n) (s0 := (y, (0 : Int)))
    (fun k s => s.2 = (k : Int) ∧ y ≤ s.1 ∧ s.1 ≤ 30010001 + 10000 * d ∧ (s.1 ≤ 5000 → (∀ j x, j < k → v.fList[j]? = some x → Small (d - 1) x) ∧ ((walkVs (v.fList.take k)).length : Int) + 1 ≤ s.1))
    (fun b => y ≤ b ∧ b ≤ 30010001 + 10000 * d ∧ (b ≤ 5000 → (∀ j x, j < v.fList.length → v.fList[j]? = some x → Small (d - 1) x) ∧ ((walkVs v.fList).length : Int) + 1 ≤ b)) v.fList.length
    ⟨rfl, Int.le_refl _, by omega, fun _ => ⟨fun j x hj => absurd hj (by omega), by simp [walkVs]; omega⟩⟩
    (fun q s hq hI => by
     obtain ⟨t, i⟩ := s
     obtain ⟨h1, h2, h3, h4⟩ := hI
     have h1' : i = (q : Int) := h1
     subst h1'
     dsimp only at h2 h3 h4
     by_cases ht : t ≤ 10000
     ·left
      have hx : v.fList[q]? = some v.fList[q] := List.getElem?_eq_getElem hq
      obtain ⟨W, w1, w2, w3, w4⟩ := weight_ok hn k (d - 1) v.fList[q] (by omega) (by omega)
      have hd1 : ((d - 1 : Nat) : Int) = (d : Int) - 1 := by omega
      rw [hd1] at w1
      refine ⟨(t + W, (q : Int) + 1), ?_, by simp, ?_, ?_, ?_⟩
      ·show ref03_weight_s2 n (ref03_weight_k n k) v (d : Int) (t, (q : Int)) = _
       unfold ref03_weight_s2
       dsimp only
       have hg : getI v.fList (q : Int) = some v.fList[q] := by simp [getI]
       rw [decide_eq_true (by omega), cT, bnd, decide_eq_true ht, cT, hg, bnd, need_i (by omega) (by omega), w1, bnd, need_i (by omega) (by omega), need_i (by omega) (by omega)]
      ·dsimp only; omega
      ·dsimp only; omega
      ·dsimp only
       intro hle
       obtain ⟨s1, s2⟩ := h4 (by omega)
       obtain ⟨c1, c2⟩ := w4 (by omega)
       refine ⟨fun j x hj hjx => ?_, ?_⟩
       ·by_cases hjq : j = q
        ·subst hjq
         rw [hx] at hjx
         exact Option.some.inj hjx ▸ c1
        ·exact s1 j x (by omega) hjx
       ·rw [walkVs_take hx, List.length_append]
        omega
     ·right
      refine ⟨t, ?_, h2, h3, fun hle => absurd hle (by omega)⟩
      unfold ref03_weight_s2
      dsimp only
      rw [decide_eq_true (by omega), cT, bnd, decide_eq_false ht, cF])
    (fun s hI => by
     obtain ⟨t, i⟩ := s
     obtain ⟨h1, h2, h3, h4⟩ := hI
     have h1' : i = (v.fList.length : Int) := h1
     subst h1'
     dsimp only at h2 h3 h4
     rw [List.take_length] at h4
     refine ⟨t, ?_, h2, h3, h4⟩
     unfold ref03_weight_s2
     dsimp only
     rw [decide_eq_false (by omega), cF, bnd, cF])
    (by omega)
   rw [hz, bnd]
   refine ⟨z, rfl, by omega, hz2, fun hle => ?_⟩
   obtain ⟨s1, s2⟩ := hz3 hle
   have s3 := hy3 (by omega)
   obtain ⟨d, rfl⟩ : ∃ e, d = e + 1 := ⟨d - 1, by omega⟩
   refine ⟨⟨by omega, by omega, by omega, fun q hq => ?_, fun x hx => ?_⟩, ?_⟩
   ·obtain ⟨j, hj, rfl⟩ := List.getElem_of_mem hq
    have := s3 j hj
    simpa [hj] using this
   ·obtain ⟨j, hj, rfl⟩ := List.getElem_of_mem hx
    exact s1 j _ hj (List.getElem?_eq_getElem hj)
   ·rw [walkV_eq, List.length_cons]
    push_cast
    omega
end Go.Proofs.YtfaedhhjamaniaaDoor
end
section
namespace Go.Proofs.YtfaedhhjamaniaaDoor
open Go Go.Vc
theorem and_tab : ((List.range 256).all fun c => bAnd .i64 (c : Int) 31 == ((c % 32 : Nat) : Int) && (bAnd .i64 (c : Int) 15 == ((c % 16 : Nat) : Int) && bAnd .i64 (c : Int) 7 == ((c % 8 : Nat) : Int))) = true := by kernel_rfl
theorem and_low (c : UInt8) : bAnd .i64 (c.toNat : Int) 31 = ((c.toNat % 32 : Nat) : Int) ∧ bAnd .i64 (c.toNat : Int) 15 = ((c.toNat % 16 : Nat) : Int) ∧ bAnd .i64 (c.toNat : Int) 7 = ((c.toNat % 8 : Nat) : Int) := by
 have h := List.all_eq_true.1 and_tab c.toNat (List.mem_range.2 c.toNat_lt)
 simp only [Bool.and_eq_true, beq_iff_eq] at h
 exact h
theorem one_s1 {n : Nat} {s : List UInt8} {i k : Nat} {y : Int × Int × Int} {r w : Nat} (hy : y.1 = (w : Int)) (hk : k < w) (hi : i + w ≤ s.length) (hs : s.length < 1000000) (hr : r < 1000000000) :
  ref01_One_s1 n s i y ((r : Int), (k : Int)) = some (if (s.getD (i + k) 0).toNat / 64 = 2 then .nx (((64 * r + (s.getD (i + k) 0).toNat % 64 : Nat) : Int), ((k + 1 : Nat) : Int)) else .br (.inl ())) := by
 unfold ref01_One_s1
 dsimp only
 have e : (i : Int) + (k : Int) = ((i + k : Nat) : Int) := by omega
 rw [hy, decide_eq_true (by omega : (k : Int) < (w : Int)), cT, need_i (by omega) (by omega), e, getI_at 0 (by omega), bnd]
 have hb := (s.getD (i + k) 0).toNat_lt
 generalize (s.getD (i + k) 0) = b at hb ⊢
 by_cases h1 : b.toNat < 128
 ·rw [decide_eq_true (by omega : (b.toNat : Int) < 128), cT, bnd, cT, if_neg (by omega)]
 ·rw [decide_eq_false (by omega : ¬ (b.toNat : Int) < 128), cF, bnd]
  by_cases h2 : 191 < b.toNat
  ·rw [decide_eq_true (by omega : (191 : Int) < (b.toNat : Int)), cT, if_neg (by omega)]
  ·rw [decide_eq_false (by omega : ¬ (191 : Int) < (b.toNat : Int)), cF, if_pos (by omega), need_i (by omega) (by omega), need_i (by omega) (by omega), need_i (by omega) (by omega), need_i (by omega) (by omega)]
   congr 3
   ·omega
theorem one_s1e {n : Nat} {s : List UInt8} {i : Nat} {y : Int × Int × Int} {r : Int} {w : Nat} (hy : y.1 = (w : Int)) :
  ref01_One_s1 n s i y (r, (w : Int)) = some (.br (.inr r)) := by
 unfold ref01_One_s1
 dsimp only
 rw [hy, decide_eq_false (by omega : ¬ (w : Int) < (w : Int)), cF]
def contB (s : List UInt8) (i : Nat) : Bool := decide ((s.getD i 0).toNat / 64 = 2)
theorem one_l2 {n : Nat} {s : List UInt8} {i : Nat} {y : Int × Int × Int} {r : Nat} (hy : y.1 = 2) (hi : i + 2 ≤ s.length) (hs : s.length < 1000000) (hr : r < 100) (hn : 5 ≤ n) :
  loopF (ref01_One_s1 n s i y) n ((r : Int), (1 : Int)) = some (if contB s (i + 1) then .inr (((64 * r + (s.getD (i + 1) 0).toNat % 64 : Nat) : Int)) else .inl ()) := by
 obtain ⟨n, rfl⟩ : ∃ q, n = q + 5 := ⟨n - 5, by omega⟩
 have h1 := one_s1 (n := n + 5) (k := 1) (w := 2) hy (by omega) hi hs (by omega : r < 1000000000)
 rw [show ((1 : Nat) : Int) = 1 from rfl] at h1
 rw [loopF, h1, bnd]
 unfold contB
 by_cases h2 : (s.getD (i + 1) 0).toNat / 64 = 2
 ·rw [if_pos h2, if_pos (by simpa using h2)]
  show loopF _ (n + 4) _ = _
  rw [loopF, one_s1e (w := 2) hy, bnd]
 ·rw [if_neg h2, if_neg (by simpa using h2)]
theorem one_l3 {n : Nat} {s : List UInt8} {i : Nat} {y : Int × Int × Int} {r : Nat} (hy : y.1 = 3) (hi : i + 3 ≤ s.length) (hs : s.length < 1000000) (hr : r < 100) (hn : 5 ≤ n) :
  loopF (ref01_One_s1 n s i y) n ((r : Int), (1 : Int)) = some (if contB s (i + 1) && contB s (i + 2) then .inr (((64 * (64 * r + (s.getD (i + 1) 0).toNat % 64) + (s.getD (i + 2) 0).toNat % 64 : Nat) : Int)) else .inl ()) := by
 obtain ⟨n, rfl⟩ : ∃ q, n = q + 5 := ⟨n - 5, by omega⟩
 have h1 := one_s1 (n := n + 5) (k := 1) (w := 3) hy (by omega) hi hs (by omega : r < 1000000000)
 rw [show ((1 : Nat) : Int) = 1 from rfl] at h1
 rw [loopF, h1, bnd]
 unfold contB
 by_cases h2 : (s.getD (i + 1) 0).toNat / 64 = 2
 ·rw [if_pos h2]
  show loopF _ (n + 4) _ = _
  rw [loopF, one_s1 (n := n + 5) (k := 2) (w := 3) hy (by omega) hi hs (by omega), bnd]
  by_cases h3 : (s.getD (i + 2) 0).toNat / 64 = 2
  ·rw [if_pos h3, if_pos (by simp only [h2, h3]; rfl)]
   show loopF _ (n + 3) _ = _
   rw [loopF, one_s1e (w := 3) hy, bnd]
  ·rw [if_neg h3, if_neg (by simp only [h2, h3]; decide)]
 ·rw [if_neg h2, if_neg (by simp only [h2]; simp)]
theorem one_l4 {n : Nat} {s : List UInt8} {i : Nat} {y : Int × Int × Int} {r : Nat} (hy : y.1 = 4) (hi : i + 4 ≤ s.length) (hs : s.length < 1000000) (hr : r < 100) (hn : 5 ≤ n) :
  loopF (ref01_One_s1 n s i y) n ((r : Int), (1 : Int)) = some (if contB s (i + 1) && (contB s (i + 2) && contB s (i + 3)) then .inr (((64 * (64 * (64 * r + (s.getD (i + 1) 0).toNat % 64) + (s.getD (i + 2) 0).toNat % 64) + (s.getD (i + 3) 0).toNat % 64 : Nat) : Int)) else .inl ()) := by
 obtain ⟨n, rfl⟩ : ∃ q, n = q + 5 := ⟨n - 5, by omega⟩
 have h1 := one_s1 (n := n + 5) (k := 1) (w := 4) hy (by omega) hi hs (by omega : r < 1000000000)
 rw [show ((1 : Nat) : Int) = 1 from rfl] at h1
 rw [loopF, h1, bnd]
 unfold contB
 by_cases h2 : (s.getD (i + 1) 0).toNat / 64 = 2
 ·rw [if_pos h2]
  show loopF _ (n + 4) _ = _
  rw [loopF, one_s1 (n := n + 5) (k := 2) (w := 4) hy (by omega) hi hs (by omega), bnd]
  by_cases h3 : (s.getD (i + 2) 0).toNat / 64 = 2
  ·rw [if_pos h3]
   show loopF _ (n + 3) _ = _
   rw [loopF, one_s1 (n := n + 5) (k := 3) (w := 4) hy (by omega) hi hs (by omega), bnd]
   by_cases h4 : (s.getD (i + 3) 0).toNat / 64 = 2
   ·rw [if_pos h4, if_pos (by simp only [h2, h3, h4]; rfl)]
    show loopF _ (n + 2) _ = _
    rw [loopF, one_s1e (w := 4) hy, bnd]
   ·rw [if_neg h4, if_neg (by simp only [h2, h3, h4]; decide)]
  ·rw [if_neg h3, if_neg (by simp only [h2, h3]; simp)]
 ·rw [if_neg h2, if_neg (by simp only [h2]; simp)]
theorem one_ref {n : Nat} {s : List UInt8} {i : Nat} (hi : i < s.length) (hs : s.length < 1000000) (hn : 5 ≤ n) :
  ref01_One n s i = some (if (Lib.decodeL (s.drop i)).1 = 65533 ∧ (Lib.decodeL (s.drop i)).2 = 1 then (0, 0) else (((Lib.decodeL (s.drop i)).1 : Int), ((Lib.decodeL (s.drop i)).2 : Int))) := by
 rw [Lib.decodeL_N, List.length_drop, Lib.getD_dropU, Lib.getD_dropU, Lib.getD_dropU, Lib.getD_dropU, Nat.add_zero]
 unfold ref01_One
 rw [decide_eq_false (by omega : ¬ (i : Int) < 0), cF, decide_eq_false (by omega : ¬ (s.length : Int) ≤ (i : Int)), bnd, cF, getI_at 0 hi, bnd]
 have hb0 := (s.getD i 0).toNat_lt
 have hb1 := (s.getD (i + 1) 0).toNat_lt
 have hb2 := (s.getD (i + 2) 0).toNat_lt
 have hb3 := (s.getD (i + 3) 0).toNat_lt
 obtain ⟨a1, a2, a3⟩ := and_low (s.getD i 0)
 by_cases h0 : (s.getD i 0).toNat < 128
 ·rw [decide_eq_true (by omega : ((s.getD i 0).toNat : Int) < 128), cT, Lib.decodeN_ascii _ _ _ _ _ h0]
  rw [mpS, bnd, jB, if_neg (by dsimp only; omega)]
  rfl
 rw [decide_eq_false (by omega : ¬ ((s.getD i 0).toNat : Int) < 128), cF]
 generalize hD : Lib.decodeN (s.length - i) (s.getD i 0).toNat (s.getD (i + 1) 0).toNat (s.getD (i + 2) 0).toNat (s.getD (i + 3) 0).toNat = D
 have hB : D = (65533, 1) → some ((0 : Int), (0 : Int)) = some (if D.1 = 65533 ∧ D.2 = 1 then (0, 0) else ((D.1 : Int), (D.2 : Int))) := fun e => by rw [e]; rfl
 have hG : ∀ (R w : Nat), D = (R, w) → 1 < w → some ((R : Int), (w : Int)) = some (if D.1 = 65533 ∧ D.2 = 1 then (0, 0) else ((D.1 : Int), (D.2 : Int))) := fun R w e hw => by rw [e, if_neg (by dsimp only; omega)]
 have bad : (s.getD i 0).toNat < 192 ∨ 248 ≤ (s.getD i 0).toNat → D = (65533, 1) := fun hb => by
  rw [← hD]
  unfold Lib.decodeN
  rw [if_neg h0, if_neg (by omega), if_neg (by omega), if_neg (by omega)]
 by_cases h1 : 192 ≤ (s.getD i 0).toNat
 case neg =>
  rw [decide_eq_false (by omega : ¬ (192 : Int) ≤ ((s.getD i 0).toNat : Int)), cF, bnd, cF, decide_eq_false (by omega : ¬ (224 : Int) ≤ ((s.getD i 0).toNat : Int)), cF, bnd, cF, decide_eq_false (by omega : ¬ (240 : Int) ≤ ((s.getD i 0).toNat : Int)), cF, bnd, cF, mpS, bnd, jB]
  exact hB (bad (by omega))
 rw [decide_eq_true (by omega : (192 : Int) ≤ ((s.getD i 0).toNat : Int)), cT]
 by_cases h2 : (s.getD i 0).toNat < 224
 ·rw [decide_eq_true (by omega : ((s.getD i 0).toNat : Int) < 224), bnd, cT, a1, bnd]
  rw [jN]
  dsimp only
  rw [need_i (by omega) (by omega)]
  unfold Lib.decodeN at hD
  rw [if_neg h0] at hD
  by_cases hl : s.length < i + 2
  ·rw [decide_eq_true (by omega : (s.length : Int) < (i : Int) + 2), cT]
   exact hB (by rw [← hD, if_neg (by omega), if_neg (by omega), if_neg (by omega)])
  rw [decide_eq_false (by omega : ¬ (s.length : Int) < (i : Int) + 2), cF, one_l2 rfl (by omega) hs (by omega) hn, bnd]
  unfold contB
  by_cases hc : (s.getD (i + 1) 0).toNat / 64 = 2
  ·rw [if_pos (by simp only [hc]; rfl)]
   rw [if_pos ⟨by omega, by omega, hc⟩] at hD
   dsimp only
   generalize hR : (64 * ((s.getD i 0).toNat % 32) + (s.getD (i + 1) 0).toNat % 64) = R
   rw [show (s.getD i 0).toNat % 32 * 64 + (s.getD (i + 1) 0).toNat % 64 = R by omega] at hD
   have hR2 : R < 2048 := by omega
   by_cases hv : R ≥ 128
   ·rw [if_pos hv] at hD
    rw [decide_eq_false (by omega : ¬ (R : Int) < 128), cF, decide_eq_false (by omega : ¬ (1114111 : Int) < (R : Int)), cF, decide_eq_false (by omega : ¬ (55296 : Int) ≤ (R : Int)), cF, bnd, cF]
    exact hG R 2 hD.symm (by omega)
   ·rw [if_neg hv] at hD
    rw [decide_eq_true (by omega : (R : Int) < 128), cT, bnd, cT]
    exact hB hD.symm
  ·rw [if_neg (by simp only [hc]; decide)]
   exact hB (by rw [← hD, if_neg (by omega), if_neg (by omega), if_neg (by omega)])
 rw [decide_eq_false (by omega : ¬ ((s.getD i 0).toNat : Int) < 224), bnd, cF, decide_eq_true (by omega : (224 : Int) ≤ ((s.getD i 0).toNat : Int)), cT]
 by_cases h3 : (s.getD i 0).toNat < 240
 ·rw [decide_eq_true (by omega : ((s.getD i 0).toNat : Int) < 240), bnd, cT, a2, bnd]
  rw [jN]
  dsimp only
  rw [need_i (by omega) (by omega)]
  unfold Lib.decodeN at hD
  rw [if_neg h0, if_neg (by omega)] at hD
  by_cases hl : s.length < i + 3
  ·rw [decide_eq_true (by omega : (s.length : Int) < (i : Int) + 3), cT]
   exact hB (by rw [← hD, if_neg (by omega), if_neg (by omega)])
  rw [decide_eq_false (by omega : ¬ (s.length : Int) < (i : Int) + 3), cF, one_l3 rfl (by omega) hs (by omega) hn, bnd]
  unfold contB
  by_cases hc : (s.getD (i + 1) 0).toNat / 64 = 2 ∧ (s.getD (i + 2) 0).toNat / 64 = 2
  ·rw [if_pos (by simp only [hc]; rfl)]
   rw [if_pos ⟨by omega, ⟨by omega, hc.1⟩, by omega, hc.2⟩] at hD
   dsimp only
   generalize hR : (64 * (64 * ((s.getD i 0).toNat % 16) + (s.getD (i + 1) 0).toNat % 64) + (s.getD (i + 2) 0).toNat % 64) = R
   rw [show (s.getD i 0).toNat % 16 * 4096 + (s.getD (i + 1) 0).toNat % 64 * 64 + (s.getD (i + 2) 0).toNat % 64 = R by omega] at hD
   have hR2 : R < 65536 := by omega
   by_cases hv : R < 2048
   ·rw [decide_eq_true (by omega : (R : Int) < 2048), cT, bnd, cT]
    exact hB (by rw [← hD, if_neg (by omega)])
   rw [decide_eq_false (by omega : ¬ (R : Int) < 2048), cF, decide_eq_false (by omega : ¬ (1114111 : Int) < (R : Int)), cF]
   by_cases hv2 : 55296 ≤ R
   ·rw [decide_eq_true (by omega : (55296 : Int) ≤ (R : Int)), cT, bnd]
    by_cases hv3 : R ≤ 57343
    ·rw [decide_eq_true (by omega : (R : Int) ≤ 57343), cT]
     exact hB (by rw [← hD, if_neg (by omega)])
    ·rw [decide_eq_false (by omega : ¬ (R : Int) ≤ 57343), cF]
     exact hG R 3 (by rw [← hD, if_pos (by omega)]) (by omega)
   ·rw [decide_eq_false (by omega : ¬ (55296 : Int) ≤ (R : Int)), cF, bnd, cF]
    exact hG R 3 (by rw [← hD, if_pos (by omega)]) (by omega)
  ·rw [if_neg (by simp only [Bool.and_eq_true, decide_eq_true_eq]; exact hc)]
   exact hB (by rw [← hD, if_neg (by omega), if_neg (by omega)])
 rw [decide_eq_false (by omega : ¬ ((s.getD i 0).toNat : Int) < 240), bnd, cF, decide_eq_true (by omega : (240 : Int) ≤ ((s.getD i 0).toNat : Int)), cT]
 by_cases h4 : (s.getD i 0).toNat < 248
 ·rw [decide_eq_true (by omega : ((s.getD i 0).toNat : Int) < 248), bnd, cT, a3, bnd]
  rw [jN]
  dsimp only
  rw [need_i (by omega) (by omega)]
  unfold Lib.decodeN at hD
  rw [if_neg h0, if_neg (by omega), if_neg (by omega)] at hD
  by_cases hl : s.length < i + 4
  ·rw [decide_eq_true (by omega : (s.length : Int) < (i : Int) + 4), cT]
   exact hB (by rw [← hD, if_neg (by omega)])
  rw [decide_eq_false (by omega : ¬ (s.length : Int) < (i : Int) + 4), cF, one_l4 rfl (by omega) hs (by omega) hn, bnd]
  unfold contB
  by_cases hc : (s.getD (i + 1) 0).toNat / 64 = 2 ∧ (s.getD (i + 2) 0).toNat / 64 = 2 ∧ (s.getD (i + 3) 0).toNat / 64 = 2
  ·rw [if_pos (by simp only [hc]; rfl)]
   rw [if_pos ⟨by omega, ⟨by omega, hc.1⟩, ⟨by omega, hc.2.1⟩, by omega, hc.2.2⟩] at hD
   dsimp only
   generalize hR : (64 * (64 * (64 * ((s.getD i 0).toNat % 8) + (s.getD (i + 1) 0).toNat % 64) + (s.getD (i + 2) 0).toNat % 64) + (s.getD (i + 3) 0).toNat % 64) = R
   rw [show (s.getD i 0).toNat % 8 * 262144 + (s.getD (i + 1) 0).toNat % 64 * 4096 + (s.getD (i + 2) 0).toNat % 64 * 64 + (s.getD (i + 3) 0).toNat % 64 = R by omega] at hD
   have hR2 : R < 16777216 := by omega
   by_cases hv : R < 65536
   ·rw [decide_eq_true (by omega : (R : Int) < 65536), cT, bnd, cT]
    exact hB (by rw [← hD, if_neg (by omega)])
   rw [decide_eq_false (by omega : ¬ (R : Int) < 65536), cF]
   by_cases hv2 : 1114111 < R
   ·rw [decide_eq_true (by omega : (1114111 : Int) < (R : Int)), cT, bnd, cT]
    exact hB (by rw [← hD, if_neg (by omega)])
   ·rw [decide_eq_false (by omega : ¬ (1114111 : Int) < (R : Int)), cF, decide_eq_true (by omega : (55296 : Int) ≤ (R : Int)), cT, bnd, decide_eq_false (by omega : ¬ (R : Int) ≤ 57343), cF]
    exact hG R 4 (by rw [← hD, if_pos (by omega)]) (by omega)
  ·rw [if_neg (by simp only [Bool.and_eq_true, decide_eq_true_eq]; exact hc)]
   exact hB (by rw [← hD, if_neg (by omega)])
 rw [decide_eq_false (by omega : ¬ ((s.getD i 0).toNat : Int) < 248), bnd, cF, mpS, bnd, jB]
 exact hB (bad (by omega))
theorem valid_loop {n : Nat} {s : List UInt8} (hs : s.length < 1000000) (hn : 5 ≤ n) : ∀ (m i : Nat), s.length ≤ i + m → i ≤ s.length → ∀ q, m < q → loopF (ref01_Valid_s1 n s) q (i : Int) = some (if Lib.validD (s.drop i) then .inr () else .inl ())
 | 0, i, hm, hi, q, hq => by
  obtain ⟨q, rfl⟩ : ∃ r, q = r + 1 := ⟨q - 1, by omega⟩
  have e : s.drop i = [] := List.drop_eq_nil_of_le (by omega)
  rw [loopF, e]
  unfold ref01_Valid_s1
  rw [decide_eq_false (by omega), cF, bnd]
  rfl
 | m + 1, i, hm, hi, q, hq => by
  obtain ⟨q, rfl⟩ : ∃ r, q = r + 1 := ⟨q - 1, by omega⟩
  by_cases hlt : i < s.length
  ·have hne : s.drop i ≠ [] := fun e => by
    have := congrArg List.length e
    rw [List.length_drop] at this
    simp at this
    omega
   have hst : ref01_Valid_s1 n s (i : Int) = some (if (Lib.decodeL (s.drop i)).1 = 65533 ∧ (Lib.decodeL (s.drop i)).2 = 1 then .br (.inl ()) else .nx (((i + (Lib.decodeL (s.drop i)).2 : Nat) : Int))) := by
    unfold ref01_Valid_s1
    rw [decide_eq_true (by omega : (i : Int) < (s.length : Int)), cT, one_ref hlt hs hn, bnd]
    by_cases hb : (Lib.decodeL (s.drop i)).1 = 65533 ∧ (Lib.decodeL (s.drop i)).2 = 1
    ·rw [if_pos hb, if_pos hb]
     rfl
    ·rw [if_neg hb, if_neg hb]
     have hw := Lib.decodeL_width (s.drop i)
     have hw4 : (Lib.decodeL (s.drop i)).2 ≤ 4 := by
      rcases dec_cases (s.drop i) hne with ⟨e, _⟩ | ⟨r, w, e, h1, h2, h3, _⟩
      ·rw [e]; decide
      ·rw [e]; exact h3
     dsimp only
     rw [decide_eq_false (by omega), cF, need_i (by omega) (by omega)]
     rfl
   rw [loopF, hst, bnd, Lib.validD_step _ hne]
   by_cases hb : (Lib.decodeL (s.drop i)).1 = 65533 ∧ (Lib.decodeL (s.drop i)).2 = 1
   ·rw [if_pos hb, if_pos hb]
    rfl
   ·rw [if_neg hb, if_neg hb]
    have hw := Lib.decodeL_width (s.drop i)
    have hle : (Lib.decodeL (s.drop i)).2 ≤ s.length - i := by
     rcases dec_cases (s.drop i) hne with ⟨e, _⟩ | ⟨r, w, e, h1, _⟩
     ·rw [e] at hb; exact absurd ⟨rfl, rfl⟩ hb
     ·rw [e]; rw [List.length_drop] at h1; exact h1
    dsimp only
    rw [valid_loop hs hn m _ (by omega) (by omega) q (by omega), List.drop_drop]
  ·have e : s.drop i = [] := List.drop_eq_nil_of_le (by omega)
   rw [loopF, e]
   unfold ref01_Valid_s1
   rw [decide_eq_false (by omega), cF, bnd]
   rfl
theorem valid_ref {n : Nat} {s : List UInt8} (hs : s.length < 1000000) (hn : 5 ≤ n) (hl : s.length < n) : ref01_Valid n s = some (Lib.validD s) := by
 unfold ref01_Valid
 have h := valid_loop hs hn s.length 0 (by omega) (by omega) n hl
 rw [show ((0 : Nat) : Int) = 0 from rfl, List.drop_zero] at h
 rw [h, bnd]
 cases Lib.validD s <;> rfl
end Go.Proofs.YtfaedhhjamaniaaDoor
end
section
namespace Go.Proofs.YtfaedhhjamaniaaDoor
open Go Go.Vc Go.RowKit
theorem great_ok {n : Nat} (hn : 3000 < n) (v : TA0) : ∃ g, ref03_Great n v = some g ∧ (g = false → Small 30 v ∧ (walkV v).length ≤ 5000) := by
 obtain ⟨W, w1, w2, w3, w4⟩ := weight_ok hn n 30 v (by omega) (by omega)
 refine ⟨decide ((5000 : Int) < W), ?_, fun h => ?_⟩
 ·unfold ref03_Great ref03_weight
  have e : ((30 : Nat) : Int) = 30 := rfl
  rw [e] at w1
  rw [w1, bnd]
 ·have h' := of_decide_eq_false h
  obtain ⟨a, b⟩ := w4 (by omega)
  exact ⟨a, by omega⟩
theorem wvs_mem : ∀ {l : List TA0} {x : TA0}, x ∈ l → (walkV x).length ≤ (walkVs l).length
 | y :: r, x, h => by
  rw [walkVs, List.length_append]
  rcases List.mem_cons.1 h with rfl | h
  ·omega
  ·have := wvs_mem h
   omega
theorem walkVs_le (l : List TA0) (i : Nat) : (walkVs (l.take i)).length ≤ (walkVs l).length := by
 have := congrArg List.length (walkVs_app (l.take i) (l.drop i))
 rw [List.take_append_drop, List.length_append] at this
 omega
theorem walk_k_ok {n : Nat} (hn : 3000 < n) : ∀ (k d : Nat) (v : TA0), d ≤ k → Small d v → (walkV v).length ≤ 5000 → ref03_Walk_k n k v = some (walkV v)
 | _, 0, v, _, h, _ => h.elim
 | 0, d + 1, v, h, _, _ => absurd h (by omega)
 | k + 1, d + 1, v, hk, hs, hl => by
  obtain ⟨h1, h2, h3, h4, h5⟩ := hs
  show ref03_Walk_b n (ref03_Walk_k n k) v = _
  unfold ref03_Walk_b
  have hw : (walkV v).length = (walkVs v.fList).length + 1 := by rw [walkV_eq, List.length_cons]
  have := loop_all (step := ref03_Walk_s1 n (ref03_Walk_k n k) v) (n := n) (fun q => (v :: walkVs (v.fList.take q), (q : Int))) v.fList.length (walkV v) (fun q hq => by
   have hx : v.fList[q]? = some v.fList[q] := List.getElem?_eq_getElem hq
   have hg : getI v.fList (q : Int) = some v.fList[q] := by simp [getI]
   have hm : v.fList[q] ∈ v.fList := List.getElem_mem hq
   have hml := wvs_mem hm
   have htl := walkVs_le v.fList q
   unfold ref03_Walk_s1
   dsimp only
   rw [decide_eq_true (by omega), cT, hg, bnd, walk_k_ok hn k d v.fList[q] (by omega) (h5 _ hm) (by omega), bnd, need_t (by rw [List.length_cons]; omega), need_i (by omega) (by omega), walkVs_take hx]
   rfl) (by
   unfold ref03_Walk_s1
   dsimp only
   rw [decide_eq_false (by omega), cF, List.take_length, walkV_eq]) (by omega)
  have e0 : ((0 : Nat) : Int) = 0 := rfl
  simp only [List.take_zero, walkVs, e0] at this
  have ev : (⟨v.fKind, (v.fBool), v.fNum, v.fText, v.fList, v.fKeys⟩ : TA0) = v := by cases v; rfl
  rw [ev]
  rw [this, bnd]
end Go.Proofs.YtfaedhhjamaniaaDoor
end
section
namespace Go.Proofs.YtfaedhhjamaniaaDoor
open Go Go.Vc Go.RowKit
def thenC (a b : Int) : Int := bif decide (a = 0) then b else a
theorem thenC0 (b : Int) : thenC 0 b = b := rfl
theorem thenCn {a : Int} (b : Int) (h : a ≠ 0) : thenC a b = a := by unfold thenC; rw [decide_eq_false h, cF]
def Tr (a b c : Int) : Prop := (a ≤ 0 → b ≤ 0 → c ≤ 0) ∧ (a ≤ 0 → b ≤ 0 → a < 0 ∨ b < 0 → c < 0) ∧ (a = 0 → b = 0 → c = 0)
theorem Tr.then {a b c a' b' c' : Int} (h : Tr a b c) (h' : a = 0 → b = 0 → Tr a' b' c') : Tr (thenC a a') (thenC b b') (thenC c c') := by
 obtain ⟨h1, h2, h3⟩ := h
 by_cases ha : a = 0
 ·by_cases hb : b = 0
  ·have hc := h3 ha hb
   subst ha hb hc
   rw [thenC0, thenC0, thenC0]
   exact h' rfl rfl
  ·subst ha
   rw [thenC0, thenCn b' hb]
   by_cases hc : c = 0
   ·exact ⟨fun x y => by have := h2 (by omega) y (.inr (by omega)); omega, fun x y _ => by have := h2 (by omega) y (.inr (by omega)); omega, fun _ y => absurd y hb⟩
   ·rw [thenCn c' hc]
    exact ⟨fun x y => by have := h2 (by omega) y (.inr (by omega)); omega, fun x y _ => by have := h2 (by omega) y (.inr (by omega)); omega, fun _ y => absurd y hb⟩
 ·rw [thenCn a' ha]
  have key : a ≤ 0 → thenC b b' ≤ 0 → c < 0 := fun x y => by
   by_cases hb : b = 0
   ·exact h2 x (by omega) (.inl (by omega))
   ·rw [thenCn b' hb] at y
    exact h2 x y (.inl (by omega))
  have key2 : a ≤ 0 → thenC b b' ≤ 0 → thenC c c' < 0 := fun x y => by
   have := key x y
   rw [thenCn c' (by omega)]
   exact this
  exact ⟨fun x y => Int.le_of_lt (key2 x y), fun x y _ => key2 x y, fun x _ => absurd x ha⟩
end Go.Proofs.YtfaedhhjamaniaaDoor
end
section
namespace Go.Proofs.YtfaedhhjamaniaaDoor
open Go Go.Vc Go.RowKit
def PlainV (v : TA0) : Prop := 0 ≤ v.fKind ∧ v.fKind ≤ 5 ∧ (v.fBool = true → v.fKind = 1) ∧ (v.fNum ≠ 0 → v.fKind = 2) ∧ (v.fText ≠ [] → v.fKind = 3) ∧ (v.fList.length ≠ 0 → v.fKind = 4 ∨ v.fKind = 5) ∧ (v.fKind = 5 → v.fKeys.length = v.fList.length) ∧ (v.fKind ≠ 5 → v.fKeys.length = 0)
instance (v : TA0) : Decidable (PlainV v) := by unfold PlainV; exact inferInstance
def aloneV (v : TA0) : Int :=
  if PlainV v then (if v.fNum < -9007199254740992 ∨ 9007199254740992 < v.fNum then 20 else if Lib.validD v.fText = true ∧ ∀ k ∈ v.fKeys, Lib.validD k = true then (if v.fKeys.Nodup then 0 else 41) else 10) else 2
def NumOut (v : TA0) : Prop := v.fNum < -9007199254740992 ∨ 9007199254740992 < v.fNum
def TextsOk (v : TA0) : Prop := Lib.validD v.fText = true ∧ ∀ k ∈ v.fKeys, Lib.validD k = true
theorem alone_2 {v : TA0} (h : ¬ PlainV v) : aloneV v = 2 := if_neg h
theorem alone_20 {v : TA0} (h : PlainV v) (hn : NumOut v) : aloneV v = 20 := (if_pos h).trans (if_pos hn)
theorem alone_10 {v : TA0} (h : PlainV v) (hn : ¬ NumOut v) (ht : ¬ TextsOk v) : aloneV v = 10 := ((if_pos h).trans (if_neg hn)).trans (if_neg ht)
theorem alone_41 {v : TA0} (h : PlainV v) (hn : ¬ NumOut v) (ht : TextsOk v) (hd : ¬ v.fKeys.Nodup) : aloneV v = 41 := (((if_pos h).trans (if_neg hn)).trans (if_pos ht)).trans (if_neg hd)
theorem alone_0 {v : TA0} (h : PlainV v) (hn : ¬ NumOut v) (ht : TextsOk v) (hd : v.fKeys.Nodup) : aloneV v = 0 := (((if_pos h).trans (if_neg hn)).trans (if_pos ht)).trans (if_pos hd)
theorem alone_ok {v : TA0} (h : aloneV v = 0) : PlainV v ∧ ¬ NumOut v ∧ TextsOk v ∧ v.fKeys.Nodup := by
 by_cases h1 : PlainV v
 ·by_cases h2 : NumOut v
  ·rw [alone_20 h1 h2] at h; omega
  ·by_cases h3 : TextsOk v
   ·by_cases h4 : v.fKeys.Nodup
    ·exact ⟨h1, h2, h3, h4⟩
    ·rw [alone_41 h1 h2 h3 h4] at h; omega
   ·rw [alone_10 h1 h2 h3] at h; omega
 ·rw [alone_2 h1] at h; omega
def Wide (v : TA0) : Prop := v.fList.length ≤ 3000 ∧ v.fKeys.length ≤ 3000 ∧ v.fText.length ≤ 5000 ∧ ∀ k ∈ v.fKeys, k.length ≤ 5000
theorem Small.wide : ∀ {d : Nat} {v : TA0}, Small d v → Wide v
 | _ + 1, _, h => ⟨h.1, h.2.1, h.2.2.1, h.2.2.2.1⟩
theorem plain_ref {n : Nat} (v : TA0) : ref03_plain n v = some (decide (PlainV v)) := by
  unfold ref03_plain
  by_cases h0 : v.fKind < 0
  · rw [decide_eq_true h0, cT, bnd, cT, decide_eq_false (fun h => by have := h.1; omega)]
  rw [decide_eq_false h0, cF, bnd]
  by_cases h5 : 5 < v.fKind
  · rw [decide_eq_true h5, cT, decide_eq_false (fun h => by have := h.2.1; omega)]
  rw [decide_eq_false h5, cF]
  have key : ((bif v.fBool then
        (bif (!(decide (v.fKind = 1))) then
          (some ((true)))
        else
          bif (!(decide (v.fNum = 0))) then
            (bif (!(decide (v.fKind = 2))) then
              (some ((true)))
            else
              bif (!(decide (v.fText = []))) then
                (some ((!(decide (v.fKind = 3)))))
              else
                some ((false)))
          else
            bif (!(decide (v.fText = []))) then
              (some ((!(decide (v.fKind = 3)))))
            else
              some ((false)))
      else
        bif (!(decide (v.fNum = 0))) then
          (bif (!(decide (v.fKind = 2))) then
            (some ((true)))
          else
            bif (!(decide (v.fText = []))) then
              (some ((!(decide (v.fKind = 3)))))
            else
              some ((false)))
        else
          bif (!(decide (v.fText = []))) then
            (some ((!(decide (v.fKind = 3)))))
          else
            some ((false)) : Option Bool)) = some (!decide ((v.fBool = true → v.fKind = 1) ∧ (v.fNum ≠ 0 → v.fKind = 2) ∧ (v.fText ≠ [] → v.fKind = 3))) := by
    cases v.fBool <;> by_cases h1 : v.fKind = 1 <;> by_cases h2 : v.fKind = 2 <;> by_cases h3 : v.fKind = 3 <;> by_cases hn : v.fNum = 0 <;> by_cases ht : v.fText = [] <;> simp [h1, h2, h3, hn, ht]
  rw [key, bnd]
  by_cases hk : (v.fBool = true → v.fKind = 1) ∧ (v.fNum ≠ 0 → v.fKind = 2) ∧ (v.fText ≠ [] → v.fKind = 3)
  · rw [decide_eq_true hk, Bool.not_true, cF]
    by_cases hl : v.fList.length = 0
    · rw [decide_eq_false (by omega), cF, bnd, cF]
      by_cases e5 : v.fKind = 5
      · rw [decide_eq_true e5, cT]
        refine congrArg some (decide_eq_decide.2 ?_)
        unfold PlainV
        constructor
        · intro h; exact ⟨by omega, by omega, hk.1, hk.2.1, hk.2.2, fun h => absurd hl h, fun _ => by omega, fun h => absurd e5 h⟩
        · intro h; have := h.2.2.2.2.2.2.1 e5; omega
      · rw [decide_eq_false e5, cF]
        refine congrArg some (decide_eq_decide.2 ?_)
        unfold PlainV
        constructor
        · intro h; exact ⟨by omega, by omega, hk.1, hk.2.1, hk.2.2, fun h => absurd hl h, fun h => absurd h e5, fun _ => by omega⟩
        · intro h; have := h.2.2.2.2.2.2.2 e5; omega
    · rw [decide_eq_true (by omega), cT]
      by_cases e4 : v.fKind = 4
      · rw [decide_eq_true e4, Bool.not_true, cF, bnd, cF, decide_eq_false (by omega), cF]
        refine congrArg some (decide_eq_decide.2 ?_)
        unfold PlainV
        constructor
        · intro h; exact ⟨by omega, by omega, hk.1, hk.2.1, hk.2.2, fun h => .inl e4, fun h => by omega, fun _ => by omega⟩
        · intro h; have := h.2.2.2.2.2.2.2 (by omega); omega
      · rw [decide_eq_false e4, Bool.not_false, cT]
        by_cases e5 : v.fKind = 5
        · rw [decide_eq_true e5, Bool.not_true, bnd, cF, cT]
          refine congrArg some (decide_eq_decide.2 ?_)
          unfold PlainV
          constructor
          · intro h; exact ⟨by omega, by omega, hk.1, hk.2.1, hk.2.2, fun h => .inr e5, fun _ => by omega, fun h => absurd e5 h⟩
          · intro h; have := h.2.2.2.2.2.2.1 e5; omega
        · rw [decide_eq_false e5, Bool.not_false, bnd, cT, decide_eq_false]
          intro h
          have := h.2.2.2.2.2.1 hl
          omega
  · rw [decide_eq_false hk, Bool.not_false, cT, decide_eq_false]
    intro h
    exact hk ⟨h.2.2.1, h.2.2.2.1, h.2.2.2.2.1⟩
theorem mem_take_succ {α : Type} {l : List α} {i : Nat} {x : α} (h : l[i]? = some x) (y : α) : y ∈ l.take (i + 1) ↔ y ∈ l.take i ∨ y = x := by
 rw [List.take_add_one, h, List.mem_append]
 simp
theorem nodup_take_succ {α : Type} {l : List α} {i : Nat} {x : α} (h : l[i]? = some x) : (l.take (i + 1)).Nodup ↔ (l.take i).Nodup ∧ x ∉ l.take i := by
 rw [List.take_add_one, h]
 simp only [Option.toList_some, List.nodup_append]
 constructor
 ·rintro ⟨h1, _, h3⟩
  exact ⟨h1, fun hx => h3 x hx x (by simp) rfl⟩
 ·rintro ⟨h1, h2⟩
  refine ⟨h1, by simp, fun a ha b hb => ?_⟩
  simp only [List.mem_singleton] at hb
  subst hb
  intro e
  exact h2 (e ▸ ha)
theorem nodup_of_take {α : Type} {l : List α} (i : Nat) (h : l.Nodup) : (l.take i).Nodup := (List.take_sublist i l).nodup h
theorem keys_ref {n : Nat} (hn : 6000 < n) {v : TA0} (hw : Wide v) : loopF (ref03_wrong_s1 n v) n (0 : Int) = some (bif v.fKeys.any (fun k => !Lib.validD k) then .inl () else .inr ()) := by
 rw [← any_range [] (fun k => !Lib.validD k) v.fKeys]
 refine loop_any (fun k => !Lib.validD (v.fKeys.getD k [])) v.fKeys.length _ _ (fun k hk => ?_) ?_ (by have := hw.2.1; omega)
 ·unfold ref03_wrong_s1
  have hm : v.fKeys.getD k [] ∈ v.fKeys := by simp [List.getD, hk]
  have hl := hw.2.2.2 _ hm
  rw [decide_eq_true (by omega), cT, getI_at [] hk, bnd, valid_ref (by omega) (by omega) (by omega), bnd]
  cases Lib.validD (v.fKeys.getD k []) with
  | true => rw [Bool.not_true, cF, need_i (by omega) (by have := hw.2.1; omega)]; simp
  | false => rw [Bool.not_false, cT]; simp
 ·unfold ref03_wrong_s1
  rw [decide_eq_false (by omega), cF]
theorem twice_in {n : Nat} (hn : 6000 < n) {v : TA0} (hw : Wide v) {i : Nat} (hi : i < v.fKeys.length) : loopF (ref03_wrong_s3 n v (i : Int)) n (0 : Int) = some (bif (List.range i).any (fun k => decide (v.fKeys.getD k [] = v.fKeys.getD i [])) then .inl () else .inr ()) := by
 refine loop_any (fun k => decide (v.fKeys.getD k [] = v.fKeys.getD i [])) i _ _ (fun k hk => ?_) ?_ (by have := hw.2.1; omega)
 ·unfold ref03_wrong_s3
  rw [decide_eq_true (by omega), cT, getI_at [] (by omega), bnd, getI_at [] hi, bnd]
  by_cases h : v.fKeys.getD k [] = v.fKeys.getD i []
  ·rw [decide_eq_true h, cT]; simp
  ·rw [decide_eq_false h, cF, need_i (by omega) (by have := hw.2.1; omega)]; simp
 ·unfold ref03_wrong_s3
  rw [decide_eq_false (by omega), cF]
theorem any_take {l : List (List UInt8)} {i : Nat} (hi : i < l.length) : (List.range i).any (fun k => decide (l.getD k [] = l.getD i [])) = decide (l[i] ∈ l.take i) := by
 rw [Bool.eq_iff_iff, List.any_eq_true, decide_eq_true_eq, List.mem_take_iff_getElem]
 constructor
 ·rintro ⟨k, hk, h⟩
  have hk' : k < i := by simpa using hk
  refine ⟨k, by omega, ?_⟩
  have := of_decide_eq_true h
  simpa [List.getD, hi, (by omega : k < l.length)] using this
 ·rintro ⟨k, hk, h⟩
  refine ⟨k, List.mem_range.2 (by omega), ?_⟩
  simpa [List.getD, hi, (by omega : k < l.length)] using h
theorem twice_ref {n : Nat} (hn : 6000 < n) {v : TA0} (hw : Wide v) : loopF (ref03_wrong_s2 n v) n (0 : Int) = some (bif decide v.fKeys.Nodup then .inr () else .inl ()) := by
 obtain ⟨b, hb, hp⟩ := loop_inv (step := ref03_wrong_s2 n v) (n := n) (s0 := (0 : Int)) (fun k s => s = (k : Int) ∧ (v.fKeys.take k).Nodup)
  (fun b => b = bif decide v.fKeys.Nodup then .inr () else .inl ()) v.fKeys.length ⟨rfl, by simp⟩
  (fun q s hq hI => by
   obtain ⟨rfl, hnd⟩ := hI
   unfold ref03_wrong_s2
   rw [decide_eq_true (by omega), cT, twice_in hn hw hq, bnd, any_take hq]
   have hx : v.fKeys[q]? = some v.fKeys[q] := List.getElem?_eq_getElem hq
   by_cases hm : v.fKeys[q] ∈ v.fKeys.take q
   ·rw [decide_eq_true hm, cT]
    refine .inr ⟨_, rfl, ?_⟩
    rw [decide_eq_false, cF]
    intro h
    exact ((nodup_take_succ hx).1 (nodup_of_take (q + 1) h)).2 hm
   ·rw [decide_eq_false hm, cF]
    dsimp only
    rw [need_i (by omega) (by have := hw.2.1; omega)]
    exact .inl ⟨_, rfl, by omega, (nodup_take_succ hx).2 ⟨hnd, hm⟩⟩)
  (fun s hI => by
   obtain ⟨rfl, hnd⟩ := hI
   rw [List.take_length] at hnd
   unfold ref03_wrong_s2
   rw [decide_eq_false (by omega), cF]
   exact ⟨_, rfl, by rw [decide_eq_true hnd, cT]⟩) (by have := hw.2.1; omega)
 rw [hb, hp]
def faultL : List TA0 → Int
  | [] => 0
  | x :: r => if aloneV x = 0 then faultL r else aloneV x
theorem faultL_app : ∀ l m : List TA0, faultL (l ++ m) = if faultL l = 0 then faultL m else faultL l
 | [], m => by simp [faultL]
 | x :: l, m => by
  rw [List.cons_append, faultL, faultL, faultL_app l m]
  by_cases h : aloneV x = 0
  ·rw [if_pos h, if_pos h]
  ·rw [if_neg h, if_neg h, if_neg h]
theorem faultL_cons_walk (v : TA0) : faultL (walkV v) = if aloneV v = 0 then faultL (walkVs v.fList) else aloneV v := by rw [walkV_eq, faultL]
theorem faultL_take {l : List TA0} {i : Nat} {x : TA0} (h : l[i]? = some x) : faultL (walkVs (l.take (i + 1))) = if faultL (walkVs (l.take i)) = 0 then faultL (walkV x) else faultL (walkVs (l.take i)) := by rw [walkVs_take h, faultL_app]
theorem wrong_ref {n : Nat} (hn : 6000 < n) : ∀ (k d : Nat) (v : TA0), d ≤ k → Small d v → ref03_wrong_k n k v = some (faultL (walkV v))
 | _, 0, v, _, h => h.elim
 | 0, d + 1, v, h, _ => absurd h (by omega)
 | k + 1, d + 1, v, hk, hs => by
  have hw := hs.wide
  obtain ⟨h1, h2, h3, h4, h5⟩ := hs
  show ref03_wrong_b n (ref03_wrong_k n k) v = _
  unfold ref03_wrong_b
  rw [faultL_cons_walk, plain_ref, bnd]
  by_cases hp : PlainV v
  ·rw [decide_eq_true hp, Bool.not_true, cF]
   by_cases hnum : NumOut v
   ·rw [alone_20 hp hnum, if_neg (by decide)]
    rcases hnum with hm | hm
    ·rw [decide_eq_true hm, cT, bnd, cT]
    ·by_cases hm' : v.fNum < -9007199254740992
     ·omega
     ·rw [decide_eq_false hm', cF, bnd, decide_eq_true hm, cT]
   ·have hnum' : ¬ (v.fNum < -9007199254740992 ∨ 9007199254740992 < v.fNum) := hnum
    rw [decide_eq_false (by omega), cF, bnd, decide_eq_false (by omega), cF, valid_ref (by omega) (by omega) (by omega), bnd, keys_ref hn hw, twice_ref hn hw]
    cases hv : Lib.validD v.fText with
    | false =>
     rw [Bool.not_false, cT, alone_10 hp hnum (fun h => by rw [h.1] at hv; cases hv), if_neg (by decide)]
    | true =>
     rw [Bool.not_true, cF, bnd]
     by_cases ha : ∀ k ∈ v.fKeys, Lib.validD k = true
     ·have : v.fKeys.any (fun k => !Lib.validD k) = false := by
       rw [List.any_eq_false]
       intro x hx
       simp [ha x hx]
      rw [this, cF]
      dsimp only
      rw [bnd]
      by_cases hd : v.fKeys.Nodup
      ·rw [decide_eq_true hd, cT, alone_0 hp hnum ⟨hv, ha⟩ hd, if_pos rfl]
       dsimp only
       obtain ⟨b, hb, hpost⟩ := loop_inv (step := ref03_wrong_s4 n (ref03_wrong_k n k) v) (n := n) (s0 := (0 : Int)) (fun q s => s = (q : Int) ∧ faultL (walkVs (v.fList.take q)) = 0)
        (fun b => match b with | .inl e => e = faultL (walkVs v.fList) | .inr () => faultL (walkVs v.fList) = 0) v.fList.length ⟨rfl, by simp [walkVs, faultL]⟩
        (fun q s hq hI => by
         obtain ⟨rfl, hf⟩ := hI
         have hx : v.fList[q]? = some v.fList[q] := List.getElem?_eq_getElem hq
         have hg : getI v.fList (q : Int) = some v.fList[q] := by simp [getI]
         have hft := faultL_take hx
         rw [if_pos hf] at hft
         unfold ref03_wrong_s4
         rw [decide_eq_true (by omega), cT, hg, bnd, wrong_ref hn k d _ (by omega) (h5 _ (List.getElem_mem hq)), bnd]
         by_cases he : faultL (walkV v.fList[q]) = 0
         ·rw [decide_eq_true he, Bool.not_true, cF, need_i (by omega) (by omega)]
          exact .inl ⟨_, rfl, by omega, by rw [hft]; exact he⟩
         ·rw [decide_eq_false he, Bool.not_false, cT]
          refine .inr ⟨_, rfl, ?_⟩
          have hsplit : walkVs v.fList = walkVs (v.fList.take (q + 1)) ++ walkVs (v.fList.drop (q + 1)) := by rw [← walkVs_app, List.take_append_drop]
          dsimp only
          rw [hsplit, faultL_app, hft, if_neg he])
        (fun s hI => by
         obtain ⟨rfl, hf⟩ := hI
         rw [List.take_length] at hf
         unfold ref03_wrong_s4
         rw [decide_eq_false (by omega), cF]
         exact ⟨_, rfl, hf⟩) (by omega)
       rw [hb, bnd]
       cases b with
       | inl e => dsimp only at hpost ⊢; rw [hpost]
       | inr u => dsimp only at hpost ⊢; rw [hpost]
      ·rw [decide_eq_false hd, cF, alone_41 hp hnum ⟨hv, ha⟩ hd, if_neg (by decide)]
     ·rw [alone_10 hp hnum (fun h => ha h.2), if_neg (by decide)]
      have : v.fKeys.any (fun k => !Lib.validD k) = true := by
       rw [List.any_eq_true]
       apply Classical.byContradiction
       intro h
       apply ha
       intro k hk
       cases hvk : Lib.validD k with
       | true => rfl
       | false => exact absurd ⟨k, hk, by simp [hvk]⟩ h
      rw [this, cT]
  ·rw [decide_eq_false hp, Bool.not_false, cT, alone_2 hp, if_neg (by decide)]
end Go.Proofs.YtfaedhhjamaniaaDoor
end
section
namespace Go.Proofs.YtfaedhhjamaniaaDoor
open Go Go.Vc Go.RowKit
theorem valid_run {n : Nat} {s : List UInt8} (h : s.length < 1000000) : runes_Valid n s = some (Lib.validD s) := by
 unfold runes_Valid h_ValidString
 rw [need_t (by omega), bnd]
theorem contains_run {n : Nat} (hn : 6000 < n) {v : TA0} (hw : Wide v) : slices_ContainsFuncstring_string n v.fKeys = some (v.fKeys.any (fun k => !Lib.validD k)) := by
 unfold slices_ContainsFuncstring_string slices_IndexFuncstring_string
 have hl := hw.2.1
 have hd : ∀ k : Nat, k < v.fKeys.length → slices_IndexFuncstring_string_s1 n v.fKeys (k : Int) = some (if !Lib.validD (v.fKeys.getD k []) then .br (.inl (k : Int)) else .nx ((k : Int) + 1)) := fun k hk => by
  unfold slices_IndexFuncstring_string_s1 tree_alone_1
  have hm : v.fKeys.getD k [] ∈ v.fKeys := by simp [List.getD, hk]
  have := hw.2.2.2 _ hm
  rw [decide_eq_true (by omega), cT, getI_at [] hk, bnd, valid_run (by omega), bnd, bnd]
  cases Lib.validD (v.fKeys.getD k []) with
  | true => rw [Bool.not_true, cF, need_i (by omega) (by omega)]; rfl
  | false => rw [Bool.not_false, cT]; rfl
 obtain ⟨b, hb, hp⟩ := loop_inv (step := slices_IndexFuncstring_string_s1 n v.fKeys) (n := n) (s0 := (0 : Int)) (fun q s => s = (q : Int) ∧ ∀ k ∈ v.fKeys.take q, Lib.validD k = true)
  (fun b => match b with | .inl i => 0 ≤ i ∧ v.fKeys.any (fun k => !Lib.validD k) = true | .inr () => v.fKeys.any (fun k => !Lib.validD k) = false) v.fKeys.length ⟨rfl, by simp⟩
  (fun q s hq hI => by
   obtain ⟨rfl, hf⟩ := hI
   have hx : v.fKeys[q]? = some v.fKeys[q] := List.getElem?_eq_getElem hq
   rw [hd q hq]
   have hg : v.fKeys.getD q [] = v.fKeys[q] := by simp [List.getD, hq]
   rw [hg]
   cases hv : Lib.validD v.fKeys[q] with
   | true =>
    refine .inl ⟨_, rfl, by omega, fun k hk => ?_⟩
    rcases (mem_take_succ hx k).1 hk with h | h
    ·exact hf k h
    ·rw [h]; exact hv
   | false =>
    refine .inr ⟨_, rfl, by omega, ?_⟩
    rw [List.any_eq_true]
    exact ⟨_, List.getElem_mem hq, by simp [hv]⟩)
  (fun s hI => by
   obtain ⟨rfl, hf⟩ := hI
   rw [List.take_length] at hf
   unfold slices_IndexFuncstring_string_s1
   rw [decide_eq_false (by omega), cF]
   refine ⟨_, rfl, ?_⟩
   dsimp only
   rw [List.any_eq_false]
   intro x hx
   simp [hf x hx]) (by omega)
 rw [hb, bnd]
 cases b with
 | inl i => dsimp only at hp ⊢; rw [bnd, hp.2, decide_eq_true hp.1]
 | inr u => dsimp only at hp ⊢; rw [bnd, hp]; rfl
theorem twice_run {n : Nat} (hn : 6000 < n) {v : TA0} (hw : Wide v) : ∃ b, loopF (tree_alone_s1 n v) n ((0 : Int), ([] : List ((List UInt8) × Bool))) = some b ∧ (match b with | .inl _ => ¬ v.fKeys.Nodup | .inr _ => v.fKeys.Nodup) := by
 have hl := hw.2.1
 refine loop_inv (step := tree_alone_s1 n v) (n := n) (fun q s => s.1 = (q : Int) ∧ (∀ x, (mget s.2 x).getD false = decide (x ∈ v.fKeys.take q)) ∧ (v.fKeys.take q).Nodup)
  (fun b => match b with | .inl _ => ¬ v.fKeys.Nodup | .inr _ => v.fKeys.Nodup) v.fKeys.length ⟨rfl, fun x => by simp [mget], by simp⟩
  (fun q s hq hI => ?_) (fun s hI => ?_) (by omega)
 ·obtain ⟨i, m⟩ := s
  obtain ⟨h1, h2, h3⟩ := hI
  have h1' : i = (q : Int) := h1
  subst h1'
  dsimp only at h2
  have hx : v.fKeys[q]? = some v.fKeys[q] := List.getElem?_eq_getElem hq
  have hg : getI v.fKeys (q : Int) = some v.fKeys[q] := by simp [getI]
  unfold tree_alone_s1
  dsimp only
  rw [decide_eq_true (by omega), cT, hg, bnd, h2]
  by_cases hm : v.fKeys[q] ∈ v.fKeys.take q
  ·rw [decide_eq_true hm, cT]
   exact .inr ⟨_, rfl, fun h => ((nodup_take_succ hx).1 (nodup_of_take (q + 1) h)).2 hm⟩
  ·rw [decide_eq_false hm, cF, need_i (by omega) (by omega)]
   refine .inl ⟨_, rfl, by dsimp only; omega, fun x => ?_, (nodup_take_succ hx).2 ⟨h3, hm⟩⟩
   dsimp only
   rw [mget_mput]
   by_cases hxe : v.fKeys[q] = x
   ·rw [if_pos hxe, decide_eq_true ((mem_take_succ hx x).2 (.inr hxe.symm))]; rfl
   ·rw [if_neg hxe, h2]
    refine decide_eq_decide.2 ?_
    rw [mem_take_succ hx]
    exact ⟨.inl, fun h => h.elim id fun h => absurd h.symm hxe⟩
 ·obtain ⟨i, m⟩ := s
  obtain ⟨h1, h2, h3⟩ := hI
  have h1' : i = (v.fKeys.length : Int) := h1
  subst h1'
  rw [List.take_length] at h3
  unfold tree_alone_s1
  dsimp only
  rw [decide_eq_false (by omega), cF]
  exact ⟨_, rfl, h3⟩
theorem alone_run {n : Nat} (hn : 6000 < n) {v : TA0} (hw : Wide v) : tree_alone n v = some (aloneV v) := by
 obtain ⟨hl, hk, ht, hkk⟩ := id hw
 unfold tree_alone
 -- the rest: either 2 at once, or what is left
 have tail : ∀ y : Bool × Int × List UInt8 × List TA0 × List (List UInt8), y.2.2.2.1.length ≤ 3000 → y.2.2.2.2.length ≤ 3000 → (PlainV v ↔ (y.1 = false ∧ y.2.1 = 0 ∧ y.2.2.1 = [] ∧ y.2.2.2.1.length = 0 ∧ y.2.2.2.2.length = 0)) →
   (((((bif y.1 then
    (some ((true)))
   else
    bif (!(decide (y.2.1 = 0))) then
     (some ((true)))
    else
     bif (!(decide (y.2.2.1 = []))) then
      (some ((true)))
     else
      need (inR .i64 (((y.2.2.2.1.length : Nat) : Int) + ((y.2.2.2.2.length : Nat) : Int))) <|
      some ((decide ((0 : Int) < (((y.2.2.2.1.length : Nat) : Int) + ((y.2.2.2.2.length : Nat) : Int))))) : Option Bool)).bind fun y_2 =>
  bif y_2 then
   (((some ((2 : Int)) : Option Int)).map Lp.br)
  else
   ((bif (decide (v.fNum < (-9007199254740992))) then
     (some ((true)))
    else
     some ((decide ((9007199254740992 : Int) < v.fNum))) : Option Bool)).bind fun y_3 =>
   bif y_3 then
    (((some ((20 : Int)) : Option Int)).map Lp.br)
   else
    (runes_Valid n v.fText).bind fun x_1 =>
    bif !x_1 then
     (((some ((10 : Int)) : Option Int)).map Lp.br)
    else
     (slices_ContainsFuncstring_string n v.fKeys).bind fun x_2 =>
     bif x_2 then
      (((some ((10 : Int)) : Option Int)).map Lp.br)
     else
      some (.nx ()) : Option (Lp Unit Int))).bind fun j => joinF j fun _ =>
 (loopF (tree_alone_s1 n v) n ((0 : Int), ([] : List ((List UInt8) × Bool)))).bind fun b_2 =>
 (match b_2 with 
 | .inl y_5 => some ((41 : Int)) 
 | .inr y_6 => some ((0 : Int)))) = some (aloneV v) := by
  intro y hy1 hy2 hy
  have e : (bif y.1 then
    (some ((true)))
   else
    bif (!(decide (y.2.1 = 0))) then
     (some ((true)))
    else
     bif (!(decide (y.2.2.1 = []))) then
      (some ((true)))
     else
      need (inR .i64 (((y.2.2.2.1.length : Nat) : Int) + ((y.2.2.2.2.length : Nat) : Int))) <|
      some ((decide ((0 : Int) < (((y.2.2.2.1.length : Nat) : Int) + ((y.2.2.2.2.length : Nat) : Int))))) : Option Bool) = some (!decide (PlainV v)) := by
   rw [need_i (by omega) (by omega)]
   by_cases hp : PlainV v
   ·obtain ⟨a1, a2, a3, a4, a5⟩ := hy.1 hp
    rw [a1, cF, decide_eq_true a2, Bool.not_true, cF, decide_eq_true a3, Bool.not_true, cF, decide_eq_false (by omega), decide_eq_true hp]; rfl
   ·rw [decide_eq_false hp, Bool.not_false]
    cases hb : y.1 with
    | true => rw [cT]
    | false =>
     rw [cF]
     by_cases h2 : y.2.1 = 0
     ·rw [decide_eq_true h2, Bool.not_true, cF]
      by_cases h3 : y.2.2.1 = []
      ·rw [decide_eq_true h3, Bool.not_true, cF, decide_eq_true]
       by_cases h4 : y.2.2.2.1.length = 0
       ·by_cases h5 : y.2.2.2.2.length = 0
        ·exact absurd (hy.2 ⟨hb, h2, h3, h4, h5⟩) hp
        ·omega
       ·omega
      ·rw [decide_eq_false h3, Bool.not_false, cT]
     ·rw [decide_eq_false h2, Bool.not_false, cT]
  rw [e, bnd]
  by_cases hp : PlainV v
  ·rw [decide_eq_true hp, Bool.not_true, cF]
   by_cases hnum : NumOut v
   ·rw [alone_20 hp hnum]
    rcases hnum with hm | hm
    ·rw [decide_eq_true hm, cT, bnd, cT, mpS, bnd, jB]
    ·by_cases hm' : v.fNum < -9007199254740992
     ·omega
     ·rw [decide_eq_false hm', cF, bnd, decide_eq_true hm, cT, mpS, bnd, jB]
   ·have hnum' : ¬ (v.fNum < -9007199254740992 ∨ 9007199254740992 < v.fNum) := hnum
    rw [decide_eq_false (by omega), cF, bnd, decide_eq_false (by omega), cF, valid_run (by omega), bnd, contains_run hn hw]
    cases hv : Lib.validD v.fText with
    | false => rw [Bool.not_false, cT, mpS, bnd, jB, alone_10 hp hnum (fun h => by rw [h.1] at hv; cases hv)]
    | true =>
     rw [Bool.not_true, cF, bnd]
     by_cases ha : ∀ k ∈ v.fKeys, Lib.validD k = true
     ·have : v.fKeys.any (fun k => !Lib.validD k) = false := by
       rw [List.any_eq_false]
       intro x hx
       simp [ha x hx]
      rw [this, cF, bnd, jN]
      obtain ⟨b, hb, hpost⟩ := twice_run hn hw
      rw [hb, bnd]
      cases b with
      | inl m => dsimp only at hpost ⊢; rw [alone_41 hp hnum ⟨hv, ha⟩ hpost]
      | inr m => dsimp only at hpost ⊢; rw [alone_0 hp hnum ⟨hv, ha⟩ hpost]
     ·have : v.fKeys.any (fun k => !Lib.validD k) = true := by
       rw [List.any_eq_true]
       apply Classical.byContradiction
       intro h
       apply ha
       intro k hk
       cases hvk : Lib.validD k with
       | true => rfl
       | false => exact absurd ⟨k, hk, by simp [hvk]⟩ h
      rw [this, cT, mpS, bnd, jB, alone_10 hp hnum (fun h => ha h.2)]
  ·rw [decide_eq_false hp, Bool.not_false, cT, mpS, bnd, jB, alone_2 hp]
 have len0 : ∀ {α : Type} {l : List α}, l = [] ↔ l.length = 0 := fun {α l} => by simp
 by_cases h0 : v.fKind = 0
 ·rw [decide_eq_true h0, cT, bnd, jN]
  refine tail _ hl hk ?_
  unfold PlainV
  dsimp only
  rw [h0]
  constructor
  ·rintro ⟨_, _, a, b, c, d, _, e⟩
   refine ⟨?_, ?_, ?_, ?_, e (by omega)⟩
   ·cases hb : v.fBool with
    | false => rfl
    | true => have := a hb; omega
   ·apply Classical.byContradiction; intro h; have := b h; omega
   ·apply Classical.byContradiction; intro h; have := c h; omega
   ·apply Classical.byContradiction; intro h; have := d h; omega
  ·rintro ⟨a, b, c, d, e⟩
   exact ⟨by omega, by omega, fun h => (by rw [a] at h; cases h), fun h => absurd b h, fun h => absurd c h, fun h => absurd d h, fun h => by omega, fun _ => e⟩
 rw [decide_eq_false h0, cF]
 by_cases h1 : v.fKind = 1
 ·rw [decide_eq_true h1, cT, bnd, jN]
  refine tail _ hl hk ?_
  unfold PlainV
  dsimp only
  rw [h1]
  constructor
  ·rintro ⟨_, _, a, b, c, d, _, e⟩
   refine ⟨rfl, ?_, ?_, ?_, e (by omega)⟩
   ·apply Classical.byContradiction; intro h; have := b h; omega
   ·apply Classical.byContradiction; intro h; have := c h; omega
   ·apply Classical.byContradiction; intro h; have := d h; omega
  ·rintro ⟨_, b, c, d, e⟩
   exact ⟨by omega, by omega, fun _ => rfl, fun h => absurd b h, fun h => absurd c h, fun h => absurd d h, fun h => by omega, fun _ => e⟩
 rw [decide_eq_false h1, cF]
 by_cases h2 : v.fKind = 2
 ·rw [decide_eq_true h2, cT, bnd, jN]
  refine tail _ hl hk ?_
  unfold PlainV
  dsimp only
  rw [h2]
  constructor
  ·rintro ⟨_, _, a, b, c, d, _, e⟩
   refine ⟨?_, rfl, ?_, ?_, e (by omega)⟩
   ·cases hb : v.fBool with
    | false => rfl
    | true => have := a hb; omega
   ·apply Classical.byContradiction; intro h; have := c h; omega
   ·apply Classical.byContradiction; intro h; have := d h; omega
  ·rintro ⟨a, _, c, d, e⟩
   exact ⟨by omega, by omega, fun h => (by rw [a] at h; cases h), fun _ => rfl, fun h => absurd c h, fun h => absurd d h, fun h => by omega, fun _ => e⟩
 rw [decide_eq_false h2, cF]
 by_cases h3 : v.fKind = 3
 ·rw [decide_eq_true h3, cT, bnd, jN]
  refine tail _ hl hk ?_
  unfold PlainV
  dsimp only
  rw [h3]
  constructor
  ·rintro ⟨_, _, a, b, c, d, _, e⟩
   refine ⟨?_, ?_, rfl, ?_, e (by omega)⟩
   ·cases hb : v.fBool with
    | false => rfl
    | true => have := a hb; omega
   ·apply Classical.byContradiction; intro h; have := b h; omega
   ·apply Classical.byContradiction; intro h; have := d h; omega
  ·rintro ⟨a, b, _, d, e⟩
   exact ⟨by omega, by omega, fun h => (by rw [a] at h; cases h), fun h => absurd b h, fun _ => rfl, fun h => absurd d h, fun h => by omega, fun _ => e⟩
 rw [decide_eq_false h3, cF]
 by_cases h4 : v.fKind = 4
 ·rw [decide_eq_true h4, cT, bnd, jN]
  refine tail _ (by simp) hk ?_
  unfold PlainV
  dsimp only
  rw [h4]
  constructor
  ·rintro ⟨_, _, a, b, c, d, _, e⟩
   refine ⟨?_, ?_, ?_, rfl, e (by omega)⟩
   ·cases hb : v.fBool with
    | false => rfl
    | true => have := a hb; omega
   ·apply Classical.byContradiction; intro h; have := b h; omega
   ·apply Classical.byContradiction; intro h; have := c h; omega
  ·rintro ⟨a, b, c, _, e⟩
   exact ⟨by omega, by omega, fun h => (by rw [a] at h; cases h), fun h => absurd b h, fun h => absurd c h, fun _ => .inl rfl, fun h => by omega, fun _ => e⟩
 rw [decide_eq_false h4, cF]
 by_cases h5 : v.fKind = 5
 ·rw [decide_eq_true h5, cT]
  by_cases hkl : v.fKeys.length = v.fList.length
  ·rw [decide_eq_true (by omega), Bool.not_true, cF, bnd, jN]
   refine tail _ (by simp) (by simp) ?_
   unfold PlainV
   dsimp only
   rw [h5]
   constructor
   ·rintro ⟨_, _, a, b, c, d, _, e⟩
    refine ⟨?_, ?_, ?_, rfl, rfl⟩
    ·cases hb : v.fBool with
     | false => rfl
     | true => have := a hb; omega
    ·apply Classical.byContradiction; intro h; have := b h; omega
    ·apply Classical.byContradiction; intro h; have := c h; omega
   ·rintro ⟨a, b, c, _, _⟩
    exact ⟨by omega, by omega, fun h => (by rw [a] at h; cases h), fun h => absurd b h, fun h => absurd c h, fun _ => .inr rfl, fun _ => hkl, fun h => absurd rfl h⟩
  ·rw [decide_eq_false (by omega), Bool.not_false, cT, mpS, bnd, jB, alone_2 (fun h => hkl (h.2.2.2.2.2.2.1 h5))]
 ·rw [decide_eq_false h5, cF, mpS, bnd, jB, alone_2]
  intro h
  have a := h.1
  have b := h.2.1
  omega
end Go.Proofs.YtfaedhhjamaniaaDoor
end
section
namespace Go.Proofs.YtfaedhhjamaniaaDoor
open Go Go.Vc Go.RowKit
mutual
def depthV : TA0 → Nat
  | ⟨_, _, _, _, l, _⟩ => depthVs l + 1
def depthVs : List TA0 → Nat
  | [] => 0
  | x :: r => max (depthV x) (depthVs r)
end
theorem depthV_eq (v : TA0) : depthV v = depthVs v.fList + 1 := by cases v; rw [depthV]
theorem depthVs_app : ∀ l m : List TA0, depthVs (l ++ m) = max (depthVs l) (depthVs m)
 | [], m => by simp [depthVs]
 | x :: l, m => by rw [List.cons_append, depthVs, depthVs, depthVs_app l m]; omega
theorem depthVs_take {l : List TA0} {i : Nat} {x : TA0} (h : l[i]? = some x) : depthVs (l.take (i + 1)) = max (depthVs (l.take i)) (depthV x) := by
 rw [List.take_add_one, h, depthVs_app]
 simp [depthVs]
theorem depthVs_mem : ∀ {l : List TA0} {x : TA0}, x ∈ l → depthV x ≤ depthVs l
 | y :: r, x, h => by
  rw [depthVs]
  rcases List.mem_cons.1 h with rfl | h
  ·omega
  ·have := depthVs_mem h
   omega
theorem depthV_pos (v : TA0) : 1 ≤ depthV v := by rw [depthV_eq]; omega
theorem depth_run {n : Nat} (hn : 6000 < n) : ∀ (k d : Nat) (v : TA0) (left : Nat), d ≤ k → Small d v → left ≤ 1000 → tree_depth_k n k v (left : Int) = some ((min (depthV v) (left + 1) : Nat) : Int)
 | _, 0, v, _, _, h, _ => h.elim
 | 0, d + 1, v, _, h, _, _ => absurd h (by omega)
 | k + 1, d + 1, v, left, hk, hs, hle => by
  obtain ⟨h1, h2, h3, h4, h5⟩ := hs
  show tree_depth_b n (tree_depth_k n k) v left = _
  unfold tree_depth_b
  have := loop_all (step := tree_depth_s1 n (tree_depth_k n k) v (left : Int)) (n := n) (fun q => (((min (depthVs (v.fList.take q)) left : Nat) : Int), (q : Int))) v.fList.length ((min (depthVs v.fList) left : Nat) : Int) (fun q hq => by
   have hx : v.fList[q]? = some v.fList[q] := List.getElem?_eq_getElem hq
   have hg : getI v.fList (q : Int) = some v.fList[q] := by simp [getI]
   unfold tree_depth_s1
   dsimp only
   rw [decide_eq_true (by omega), cT]
   by_cases hl : left = 0
   ·subst hl
    rw [decide_eq_false (by omega), cF, need_i (by omega) (by omega)]
    simp
   ·have hl1 : ((left : Nat) : Int) - 1 = ((left - 1 : Nat) : Int) := by omega
    rw [decide_eq_true (by omega), cT, hg, bnd, need_i (by omega) (by omega), hl1, depth_run hn k d _ (left - 1) (by omega) (h5 _ (List.getElem_mem hq)) (by omega), bnd, need_i (by omega) (by omega), depthVs_take hx]
    congr 3
    omega) (by
   unfold tree_depth_s1
   dsimp only
   rw [decide_eq_false (by omega), cF, List.take_length]) (by omega)
  have e0 : ((0 : Nat) : Int) = 0 := rfl
  simp only [List.take_zero, depthVs, Nat.zero_min, e0] at this
  rw [this, bnd, need_i (by omega) (by omega), depthV_eq]
  congr 1
  omega
theorem deeper_ref {n : Nat} (hn : 6000 < n) : ∀ (k d : Nat) (v : TA0) (left : Nat), d ≤ k → Small d v → left ≤ 1000 → ref03_deeper_k n k v (left : Int) = some (decide (left < depthV v))
 | _, 0, v, _, _, h, _ => h.elim
 | 0, d + 1, v, _, h, _, _ => absurd h (by omega)
 | k + 1, d + 1, v, left, hk, hs, hle => by
  obtain ⟨h1, h2, h3, h4, h5⟩ := hs
  show ref03_deeper_b n (ref03_deeper_k n k) v left = _
  unfold ref03_deeper_b
  by_cases hl : left = 0
  ·subst hl
   have := depthV_pos v
   rw [decide_eq_true (by omega), cT, decide_eq_true (by omega)]
  rw [decide_eq_false (by omega), cF]
  obtain ⟨b, hb, hp⟩ := loop_inv (step := ref03_deeper_s1 n (ref03_deeper_k n k) v (left : Int)) (n := n) (s0 := (0 : Int)) (fun q s => s = (q : Int) ∧ depthVs (v.fList.take q) < left) (fun b => match b with | .inl _ => left ≤ depthVs v.fList | .inr _ => depthVs v.fList < left) v.fList.length ⟨rfl, by simp [depthVs]; omega⟩ (fun q s hq hI => by
   obtain ⟨rfl, hI⟩ := hI
   have hx : v.fList[q]? = some v.fList[q] := List.getElem?_eq_getElem hq
   have hg : getI v.fList (q : Int) = some v.fList[q] := by simp [getI]
   have hm : v.fList[q] ∈ v.fList := List.getElem_mem hq
   have hdm := depthVs_mem hm
   unfold ref03_deeper_s1
   have hl1 : ((left : Nat) : Int) - 1 = ((left - 1 : Nat) : Int) := by omega
   rw [decide_eq_true (by omega), cT, hg, bnd, need_i (by omega) (by omega), hl1, deeper_ref hn k d _ (left - 1) (by omega) (h5 _ hm) (by omega), bnd]
   by_cases hd : left - 1 < depthV v.fList[q]
   ·rw [decide_eq_true hd, cT]
    refine .inr ⟨_, rfl, ?_⟩
    dsimp only
    omega
   ·rw [decide_eq_false hd, cF, need_i (by omega) (by omega)]
    refine .inl ⟨_, rfl, by omega, ?_⟩
    rw [depthVs_take hx]
    omega) (fun s hI => by
   obtain ⟨rfl, hI⟩ := hI
   rw [List.take_length] at hI
   unfold ref03_deeper_s1
   rw [decide_eq_false (by omega), cF]
   exact ⟨_, rfl, hI⟩) (by omega)
  rw [hb, bnd]
  have := depthV_eq v
  cases b with
  | inl u => dsimp only at hp ⊢; rw [decide_eq_true (by omega)]
  | inr u => dsimp only at hp ⊢; rw [decide_eq_false (by omega)]
theorem count_ref {n : Nat} (hn : 6000 < n) : ∀ (k d : Nat) (v : TA0), d ≤ k → Small d v → (walkV v).length ≤ 5900 → ref03_Count_k n k v = some ((walkV v).length : Int)
 | _, 0, v, _, h, _ => h.elim
 | 0, d + 1, v, h, _, _ => absurd h (by omega)
 | k + 1, d + 1, v, hk, hs, hlen => by
  obtain ⟨h1, h2, h3, h4, h5⟩ := hs
  show ref03_Count_b n (ref03_Count_k n k) v = _
  unfold ref03_Count_b
  have hwl : (walkV v).length = (walkVs v.fList).length + 1 := by rw [walkV_eq, List.length_cons]
  have := loop_all (step := ref03_Count_s1 n (ref03_Count_k n k) v) (n := n) (fun q => (((walkVs (v.fList.take q)).length : Int) + 1, (q : Int))) v.fList.length ((walkVs v.fList).length + 1 : Int) (fun q hq => by
   have hx : v.fList[q]? = some v.fList[q] := List.getElem?_eq_getElem hq
   have hg : getI v.fList (q : Int) = some v.fList[q] := by simp [getI]
   have hm : v.fList[q] ∈ v.fList := List.getElem_mem hq
   have hw1 := walkVs_mem hm
   have hw2 : (walkVs (v.fList.take q)).length ≤ (walkVs v.fList).length := by
    have := congrArg List.length (walkVs_app (v.fList.take q) (v.fList.drop q))
    rw [List.take_append_drop, List.length_append] at this
    omega
   unfold ref03_Count_s1
   dsimp only
   rw [decide_eq_true (by omega), cT, hg, bnd, count_ref hn k d _ (by omega) (h5 _ hm) (by omega), bnd, need_i (by omega) (by omega), need_i (by omega) (by omega), walkVs_take hx, List.length_append]
   congr 3
   push_cast
   omega) (by
   unfold ref03_Count_s1
   dsimp only
   rw [decide_eq_false (by omega), cF, List.take_length]) (by omega)
  have e0 : ((0 : Nat) : Int) = 0 := rfl
  have e1 : (0 : Int) + 1 = 1 := rfl
  simp only [List.take_zero, walkVs, List.length_nil, e0, e1] at this
  rw [this, bnd, hwl]
  rfl
structure Fine (v : TA0) : Prop where
  small : Small 60 v
  few : (walkV v).length ≤ 5900
theorem Small.le : ∀ {d e : Nat} {v : TA0}, d ≤ e → Small d v → Small e v
 | 0, _, _, _, h => h.elim
 | d + 1, 0, _, hde, _ => absurd hde (by omega)
 | d + 1, e + 1, _, hde, h => ⟨h.1, h.2.1, h.2.2.1, h.2.2.2.1, fun x hx => Small.le (by omega) (h.2.2.2.2 x hx)⟩
theorem Fine.part {v x : TA0} (h : Fine v) (hx : x ∈ v.fList) : Fine x := by
 refine ⟨Small.le (d := 59) (by omega) (h.small.2.2.2.2 x hx), ?_⟩
 have := walkVs_mem hx
 have := h.few
 rw [walkV_eq, List.length_cons] at this
 omega
theorem small_walk : ∀ {d : Nat} {v x : TA0}, Small d v → x ∈ walkV v → Small d x
 | d + 1, v, x, h, hx => by
  rw [walkV_eq] at hx
  rcases List.mem_cons.1 hx with rfl | hx
  ·exact h
  ·have key : ∀ l : List TA0, (∀ y ∈ l, Small d y) → x ∈ walkVs l → Small d x := by
    intro l
    induction l with
    | nil => intro _ hx; simp [walkVs] at hx
    | cons y r ih =>
     intro hl hx
     rw [walkVs, List.mem_append] at hx
     rcases hx with hx | hx
     ·exact small_walk (hl y List.mem_cons_self) hx
     ·exact ih (fun z hz => hl z (List.mem_cons_of_mem _ hz)) hx
   exact Small.le (by omega) (key _ h.2.2.2.2 hx)
def checkV (v : TA0) : Int := if 24 < depthV v then 30 else if faultL (walkV v) = 0 then (if 4096 < (walkV v).length then 3 else 0) else faultL (walkV v)
theorem check_ref {n : Nat} (hn : 6000 < n) {v : TA0} (h : Fine v) : ref03_Check n v = some (checkV v) := by
 unfold ref03_Check ref03_deeper ref03_wrong ref03_Count checkV
 have e : ((24 : Nat) : Int) = 24 := rfl
 have := deeper_ref hn n 60 v 24 (by omega) h.small (by omega)
 rw [e] at this
 rw [this, bnd]
 by_cases hd : 24 < depthV v
 ·rw [decide_eq_true hd, cT, if_pos hd]
 ·rw [decide_eq_false hd, cF, if_neg hd, wrong_ref hn n 60 v (by omega) h.small, bnd]
  by_cases hf : faultL (walkV v) = 0
  ·rw [if_pos hf, decide_eq_true hf, Bool.not_true, cF, count_ref hn n 60 v (by omega) h.small h.few, bnd]
   by_cases hc : 4096 < (walkV v).length
   ·rw [if_pos hc, decide_eq_true (by omega), cT]
   ·rw [if_neg hc, decide_eq_false (by omega), cF]
  ·rw [if_neg hf, decide_eq_false hf, Bool.not_false, cT]
theorem check_fold {n : Nat} (hn : 6000 < n) : ∀ (l : List TA0) (s : Nat), (∀ x ∈ l, Wide x) → s + l.length ≤ 6000 → ∃ j, foldY (tree_Check_s1 n) l (s : Int) = some j ∧ (match j with | .nx t => faultL l = 0 ∧ t = ((s + l.length : Nat) : Int) | .br b => faultL l ≠ 0 ∧ b.2 = faultL l)
 | [], s, _, _ => ⟨_, rfl, rfl, by simp⟩
 | x :: r, s, hw, hl => by
  rw [List.length_cons] at hl
  unfold foldY faultL
  have e : tree_Check_s1 n (s : Int) x = if aloneV x = 0 then some (.nx ((s + 1 : Nat) : Int)) else some (.br ((s : Int), aloneV x)) := by
   unfold tree_Check_s1
   have ex : (⟨x.fKind, (x.fBool), x.fNum, x.fText, x.fList, x.fKeys⟩ : TA0) = x := by cases x; rfl
   try rw [ex]
   rw [alone_run hn (hw x List.mem_cons_self), bnd]
   by_cases h : aloneV x = 0
   ·rw [if_pos h, decide_eq_true h, Bool.not_true, cF, need_i (by omega) (by omega)]
    congr 2
   ·rw [if_neg h, decide_eq_false h, Bool.not_false, cT]
  rw [e]
  by_cases h : aloneV x = 0
  ·rw [if_pos h, if_pos h, bnd]
   obtain ⟨j, hj, hp⟩ := check_fold hn r (s + 1) (fun y hy => hw y (List.mem_cons_of_mem _ hy)) (by omega)
   refine ⟨j, hj, ?_⟩
   cases j with
   | nx t => dsimp only at hp ⊢; exact ⟨hp.1, by rw [hp.2, List.length_cons]; omega⟩
   | br b => exact hp
  ·rw [if_neg h, if_neg h, bnd]
   exact ⟨_, rfl, h, rfl⟩
theorem check_run {n : Nat} (hn : 6000 < n) {v : TA0} (h : Fine v) : tree_Check n v = some (checkV v) := by
 unfold tree_Check tree_depth checkV
 have e : ((24 : Nat) : Int) = 24 := rfl
 have hd0 := depth_run hn n 60 v 24 (by omega) h.small (by omega)
 rw [e] at hd0
 rw [hd0, bnd]
 by_cases hd : 24 < depthV v
 ·rw [decide_eq_true (by omega), cT, if_pos hd]
 ·rw [decide_eq_false (by omega), cF, if_neg hd, need_t (by have := h.few; omega)]
  obtain ⟨j, hj, hp⟩ := check_fold hn (walkV v) 0 (fun x hx => (small_walk h.small hx).wide) (by have := h.few; omega)
  have e0 : ((0 : Nat) : Int) = 0 := rfl
  rw [e0] at hj
  rw [hj, bnd]
  cases j with
  | nx t =>
   dsimp only at hp ⊢
   rw [if_pos hp.1]
   by_cases hc : 4096 < (walkV v).length
   ·rw [if_pos hc, decide_eq_true (by omega), cT]
   ·rw [if_neg hc, decide_eq_false (by omega), cF]
  | br b =>
   dsimp only at hp ⊢
   rw [if_neg hp.1, hp.2]
end Go.Proofs.YtfaedhhjamaniaaDoor
end
section
namespace Go.Proofs.YtfaedhhjamaniaaDoor
open Go Go.Vc Go.RowKit
abbrev KV := List UInt8 × TA0
def leK (p q : KV) : Bool := !(decide (Lib.compareBytes q.1 p.1 < 0))
def insP (p : KV) : List KV → List KV
  | [] => [p]
  | q :: r => bif leK p q then p :: q :: r else q :: insP p r
def isortP : List KV → List KV
  | [] => []
  | p :: r => insP p (isortP r)
theorem insP_perm (p : KV) : ∀ l, (insP p l).Perm (p :: l)
 | [] => List.Perm.refl _
 | q :: r => by
  unfold insP
  cases leK p q with
  | true => exact List.Perm.refl _
  | false => exact ((insP_perm p r).cons q).trans (List.Perm.swap p q r)
theorem isortP_perm : ∀ l, (isortP l).Perm l
 | [] => List.Perm.refl _
 | p :: r => (insP_perm p _).trans ((isortP_perm r).cons p)
theorem ins_map (keys : List (List UInt8)) (f : Int → KV) (hf : ∀ i, (f i).1 = keys.getD i.toNat []) (x : Int) : ∀ l, (ins (keyLe keys) x l).map f = insP (f x) (l.map f)
 | [] => rfl
 | y :: r => by
  have e : leK (f x) (f y) = keyLe keys x y := by unfold leK keyLe; rw [hf, hf]
  unfold ins
  rw [List.map_cons, insP, e]
  cases keyLe keys x y with
  | true => rfl
  | false => rw [cF, cF, List.map_cons, ins_map keys f hf x r]
theorem isort_map (keys : List (List UInt8)) (f : Int → KV) (hf : ∀ i, (f i).1 = keys.getD i.toNat []) : ∀ l, (isort (keyLe keys) l).map f = isortP (l.map f)
 | [] => rfl
 | x :: r => by
  unfold isort
  rw [ins_map keys f hf, isort_map keys f hf r, List.map_cons, isortP]
mutual
def sortV : TA0 → TA0
  | ⟨k, b, n, t, l, ks⟩ => bif decide (k = 5) then ⟨k, b, n, t, (isortP (ks.zip (sortVs l))).map (·.2), (isortP (ks.zip (sortVs l))).map (·.1)⟩ else ⟨k, b, n, t, sortVs l, []⟩
def sortVs : List TA0 → List TA0
  | [] => []
  | x :: r => sortV x :: sortVs r
end
theorem sortVs_map : ∀ l, sortVs l = l.map sortV
 | [] => rfl
 | x :: r => by rw [sortVs, sortVs_map r, List.map_cons]
def pairsV (v : TA0) : List KV := isortP (v.fKeys.zip (v.fList.map sortV))
theorem sortV_5 {v : TA0} (h : v.fKind = 5) : sortV v = ⟨v.fKind, v.fBool, v.fNum, v.fText, (pairsV v).map (·.2), (pairsV v).map (·.1)⟩ := by
 cases v with
 | mk k b n t l ks =>
  dsimp only at h
  rw [sortV, sortVs_map, decide_eq_true h, cT]
  rfl
theorem sortV_n {v : TA0} (h : v.fKind ≠ 5) : sortV v = ⟨v.fKind, v.fBool, v.fNum, v.fText, v.fList.map sortV, []⟩ := by
 cases v with
 | mk k b n t l ks =>
  dsimp only at h
  rw [sortV, sortVs_map, decide_eq_false h, cF]
def OkV (v : TA0) : Prop := faultL (walkV v) = 0
theorem faultL_zero : ∀ {l : List TA0}, faultL l = 0 ↔ ∀ x ∈ l, aloneV x = 0
 | [] => by simp [faultL]
 | x :: r => by
  rw [faultL]
  by_cases h : aloneV x = 0
  ·rw [if_pos h, faultL_zero (l := r)]
   simp [h]
  ·rw [if_neg h]
   constructor
   ·intro e; exact absurd e h
   ·intro e; exact absurd (e x List.mem_cons_self) h
theorem mem_walkVs {x : TA0} : ∀ {l : List TA0}, x ∈ walkVs l ↔ ∃ y ∈ l, x ∈ walkV y
 | [] => by simp [walkVs]
 | y :: r => by
  rw [walkVs, List.mem_append, mem_walkVs (l := r)]
  simp
theorem OkV_iff {v : TA0} : OkV v ↔ aloneV v = 0 ∧ ∀ x ∈ v.fList, OkV x := by
 unfold OkV
 rw [faultL_zero, walkV_eq]
 constructor
 ·intro h
  refine ⟨h v List.mem_cons_self, fun x hx => ?_⟩
  rw [faultL_zero]
  intro y hy
  exact h y (List.mem_cons_of_mem _ (mem_walkVs.2 ⟨x, hx, hy⟩))
 ·rintro ⟨h1, h2⟩ x hx
  rcases List.mem_cons.1 hx with rfl | hx
  ·exact h1
  ·obtain ⟨y, hy, hxy⟩ := mem_walkVs.1 hx
   exact faultL_zero.1 (h2 y hy) x hxy
theorem checkV_ok {v : TA0} (h : checkV v = 0) : OkV v ∧ depthV v ≤ 24 ∧ (walkV v).length ≤ 4096 := by
 unfold checkV at h
 by_cases h1 : 24 < depthV v
 ·rw [if_pos h1] at h; omega
 ·rw [if_neg h1] at h
  by_cases h2 : faultL (walkV v) = 0
  ·rw [if_pos h2] at h
   by_cases h3 : 4096 < (walkV v).length
   ·rw [if_pos h3] at h; omega
   ·exact ⟨h2, by omega, by omega⟩
  ·rw [if_neg h2] at h; exact absurd h h2
theorem checkV_of {v : TA0} (h1 : OkV v) (h2 : depthV v ≤ 24) (h3 : (walkV v).length ≤ 4096) : checkV v = 0 := by
 unfold checkV
 unfold OkV at h1
 rw [if_neg (by omega), if_pos h1, if_neg (by omega)]
def upto (n : Nat) : List Int := (List.range n).map Int.ofNat
theorem upto_succ (q : Nat) : upto (q + 1) = upto q ++ [(q : Int)] := by unfold upto; rw [List.range_succ, List.map_append]; rfl
theorem upto_len (q : Nat) : (upto q).length = q := by simp [upto]
theorem order_run {n : Nat} (hn : 6000 < n) {v : TA0} (hw : v.fKeys.length ≤ 3000) (hd : v.fKeys.Nodup) : tree_order n v = some (isort (keyLe v.fKeys) (upto v.fKeys.length)) := by
 unfold tree_order
 rw [need_t ⟨by omega, by omega, by omega⟩]
 have := loop_all (step := tree_order_s1 n v) (n := n) (fun q => (upto q ++ List.replicate (v.fKeys.length - q) (0 : Int), (q : Int))) v.fKeys.length (upto v.fKeys.length) (fun q hq => by
  unfold tree_order_s1
  dsimp only
  have hll : (List.replicate ((v.fKeys.length : Nat) : Int).toNat (0 : Int)).length = v.fKeys.length := by simp
  have hg : getI (upto q ++ List.replicate (v.fKeys.length - q) (0 : Int)) (q : Int) = some 0 := by
   rw [getI_at (k := q) 0 (by simp [upto_len]; omega)]
   rw [List.getD_eq_getElem?_getD, List.getElem?_append_right (by rw [upto_len]; omega), upto_len]
   simp [(by omega : 0 < v.fKeys.length - q)]
  rw [hll, decide_eq_true (by omega), cT, hg, bnd, need_i (by omega) (by omega)]
  congr 3
  have e : v.fKeys.length - q = (v.fKeys.length - (q + 1)) + 1 := by omega
  rw [Int.toNat_natCast, e, List.replicate_succ, List.set_append_right _ _ (by rw [upto_len]; omega), upto_len, Nat.sub_self, List.set_cons_zero, upto_succ, List.append_assoc]
  rfl) (by
  unfold tree_order_s1
  dsimp only
  have hll : (List.replicate ((v.fKeys.length : Nat) : Int).toNat (0 : Int)).length = v.fKeys.length := by simp
  rw [hll, decide_eq_false (by omega), cF, Nat.sub_self, List.replicate_zero, List.append_nil]) (by omega)
 have e0 : ((0 : Nat) : Int) = 0 := rfl
 have e1 : upto 0 = [] := rfl
 simp only [e1, e0, Nat.sub_zero, List.nil_append] at this
 rw [Int.toNat_natCast, this, bnd]
 unfold h_sortKeys
 rw [need_t, need_t (by rw [upto_len]; omega), bnd]
 refine ⟨hd, fun i hi => ?_⟩
 simp only [upto, List.mem_map, List.mem_range] at hi
 obtain ⟨j, hj, rfl⟩ := hi
 have : Int.ofNat j = (j : Int) := rfl
 omega
theorem map_take_succ {α β : Type} (f : α → β) {l : List α} {i : Nat} {x : α} (h : l[i]? = some x) : (l.take (i + 1)).map f = (l.take i).map f ++ [f x] := by
 rw [List.take_add_one, h]
 simp
theorem zip_upto (ks : List (List UInt8)) (l : List TA0) (hl : ks.length = l.length) (g : TA0 → TA0) (z : TA0) : (upto ks.length).map (fun i => (ks.getD i.toNat [], g (l.getD i.toNat z))) = ks.zip (l.map g) := by
 apply List.ext_getElem
 ·simp [upto, hl]
 ·intro i h1 h2
  simp [upto_len] at h1
  have h3 : i < l.length := by omega
  simp [upto, List.getD, h1, h3]
theorem sorted_run {n : Nat} (hn : 6000 < n) : ∀ (k d : Nat) (v : TA0), d ≤ k → Small d v → OkV v → tree_sorted_k n k v = some (sortV v)
 | _, 0, v, _, h, _ => h.elim
 | 0, d + 1, v, h, _, _ => absurd h (by omega)
 | k + 1, d + 1, v, hk, hs, hok => by
  obtain ⟨h1, h2, h3, h4, h5⟩ := hs
  obtain ⟨ha, hl⟩ := OkV_iff.1 hok
  obtain ⟨hp, _, _, hnd⟩ := alone_ok ha
  show tree_sorted_b n (tree_sorted_k n k) v = _
  unfold tree_sorted_b
  have ih : ∀ x ∈ v.fList, tree_sorted_k n k x = some (sortV x) := fun x hx => sorted_run hn k d x (by omega) (h5 x hx) (hl x hx)
  by_cases hkind : v.fKind = 5
  ·have hkl : v.fKeys.length = v.fList.length := hp.2.2.2.2.2.2.1 hkind
   rw [decide_eq_true hkind, cT, order_run hn h2 hnd, bnd]
   obtain ⟨idx, hidx⟩ : ∃ idx, idx = isort (keyLe v.fKeys) (upto v.fKeys.length) := ⟨_, rfl⟩
   rw [← hidx]
   have hperm : idx.Perm (upto v.fKeys.length) := hidx ▸ isort_perm _ _
   have hlen : idx.length = v.fKeys.length := by rw [hperm.length_eq, upto_len]
   have hin : ∀ i ∈ idx, ∃ j : Nat, i = (j : Int) ∧ j < v.fKeys.length := fun i hi => by
    have := hperm.mem_iff.1 hi
    simp only [upto, List.mem_map, List.mem_range] at this
    obtain ⟨j, hj, rfl⟩ := this
    exact ⟨j, rfl, hj⟩
   obtain ⟨f, hf⟩ : ∃ f : Int → KV, f = fun i => (v.fKeys.getD i.toNat [], sortV (v.fList.getD i.toNat v)) := ⟨_, rfl⟩
   have := loop_all (step := tree_sorted_s1 n (tree_sorted_k n k) v idx) (n := n) (fun q => ((q : Int), ((idx.take q).map f).map (·.2), ((idx.take q).map f).map (·.1))) idx.length ((idx.map f).map (·.2), (idx.map f).map (·.1)) (fun q hq => by
    have hx : idx[q]? = some idx[q] := List.getElem?_eq_getElem hq
    obtain ⟨j, hj, hjl⟩ := hin _ (List.getElem_mem hq)
    rw [hj] at hx
    have hg : getI idx (q : Int) = some (j : Int) := by simp [getI, hx]
    have hgk : getI v.fKeys (j : Int) = some (f j).1 := by rw [getI_at [] hjl, hf]; rfl
    have hgl : getI v.fList (j : Int) = some (v.fList.getD j v) := getI_at v (by omega)
    have hm : v.fList.getD j v ∈ v.fList := by simp [List.getD, (by omega : j < v.fList.length)]
    have ef : sortV (v.fList.getD j v) = (f j).2 := by rw [hf]; rfl
    unfold tree_sorted_s1
    dsimp only
    have ev : ∀ x : TA0, (⟨x.fKind, (x.fBool), x.fNum, x.fText, x.fList, x.fKeys⟩ : TA0) = x := fun x => by cases x; rfl
    have hlq : ((idx.take q).map f).length ≤ 3000 := by simp; omega
    rw [decide_eq_true (by omega), cT, hg, bnd, hgk, bnd, need_t (by rw [List.length_map]; omega), bnd, hgl, bnd, ih _ hm, bnd, need_t (by rw [List.length_map]; omega), bnd, need_i (by omega) (by omega), ev, ef, map_take_succ f hx, List.map_append, List.map_append]
    rfl) (by
    unfold tree_sorted_s1
    dsimp only
    rw [decide_eq_false (by omega), cF, List.take_length]) (by omega)
   have e0 : ((0 : Nat) : Int) = 0 := rfl
   simp only [List.take_zero, List.map_nil, e0] at this
   rw [this, bnd, sortV_5 hkind]
   have e : idx.map f = pairsV v := by
    rw [hidx, isort_map v.fKeys f (fun i => by rw [hf]), hf]
    unfold pairsV
    rw [zip_upto v.fKeys v.fList hkl sortV v]
   rw [e]
  ·rw [decide_eq_false hkind, cF]
   have := loop_all (step := tree_sorted_s2 n (tree_sorted_k n k) v) (n := n) (fun q => ((q : Int), (v.fList.take q).map sortV)) v.fList.length (v.fList.map sortV) (fun q hq => by
    have hx : v.fList[q]? = some v.fList[q] := List.getElem?_eq_getElem hq
    have hg : getI v.fList (q : Int) = some v.fList[q] := by simp [getI]
    unfold tree_sorted_s2
    dsimp only
    have ev : ∀ x : TA0, (⟨x.fKind, (x.fBool), x.fNum, x.fText, x.fList, x.fKeys⟩ : TA0) = x := fun x => by cases x; rfl
    rw [decide_eq_true (by omega), cT, hg, bnd, ih _ (List.getElem_mem hq), bnd, need_t (by simp; omega), bnd, need_i (by omega) (by omega), ev, map_take_succ sortV hx]
    rfl) (by
    unfold tree_sorted_s2
    dsimp only
    rw [decide_eq_false (by omega), cF, List.take_length]) (by omega)
   have e0 : ((0 : Nat) : Int) = 0 := rfl
   simp only [List.take_zero, List.map_nil, e0] at this
   rw [this, bnd, sortV_n hkind]
end Go.Proofs.YtfaedhhjamaniaaDoor
end
section
namespace Go.Proofs.YtfaedhhjamaniaaDoor
open Go Go.Vc Go.RowKit
theorem pairs_perm (v : TA0) : (pairsV v).Perm (v.fKeys.zip (v.fList.map sortV)) := isortP_perm _
theorem pairs_snd {v : TA0} (h : v.fKeys.length = v.fList.length) : ((pairsV v).map (·.2)).Perm (v.fList.map sortV) := by
 have := (pairs_perm v).map (·.2)
 rwa [List.map_snd_zip (by simp [h])] at this
theorem pairs_fst {v : TA0} (h : v.fKeys.length = v.fList.length) : ((pairsV v).map (·.1)).Perm v.fKeys := by
 have := (pairs_perm v).map (·.1)
 rwa [List.map_fst_zip (by simp [h])] at this
theorem plain_len {v : TA0} (h : PlainV v) (hk : v.fKind = 5) : v.fKeys.length = v.fList.length := h.2.2.2.2.2.2.1 hk
theorem sort_perm {v : TA0} (h : PlainV v) : (sortV v).fList.Perm (v.fList.map sortV) := by
 by_cases hk : v.fKind = 5
 ·rw [sortV_5 hk]; exact pairs_snd (plain_len h hk)
 ·rw [sortV_n hk]
theorem sort_keys {v : TA0} (h : PlainV v) : (sortV v).fKeys.Perm v.fKeys := by
 by_cases hk : v.fKind = 5
 ·rw [sortV_5 hk]; exact pairs_fst (plain_len h hk)
 ·rw [sortV_n hk]
  have := h.2.2.2.2.2.2.2 hk
  have e : v.fKeys = [] := by simpa using this
  rw [e]
theorem sort_kind (v : TA0) : (sortV v).fKind = v.fKind := by
 by_cases hk : v.fKind = 5
 ·rw [sortV_5 hk]
 ·rw [sortV_n hk]
theorem sort_bool (v : TA0) : (sortV v).fBool = v.fBool := by
 by_cases hk : v.fKind = 5
 ·rw [sortV_5 hk]
 ·rw [sortV_n hk]
theorem sort_num (v : TA0) : (sortV v).fNum = v.fNum := by
 by_cases hk : v.fKind = 5
 ·rw [sortV_5 hk]
 ·rw [sortV_n hk]
theorem sort_text (v : TA0) : (sortV v).fText = v.fText := by
 by_cases hk : v.fKind = 5
 ·rw [sortV_5 hk]
 ·rw [sortV_n hk]
theorem OkV.plain {v : TA0} (h : OkV v) : PlainV v := (alone_ok (OkV_iff.1 h).1).1
theorem OkV.part {v x : TA0} (h : OkV v) (hx : x ∈ v.fList) : OkV x := (OkV_iff.1 h).2 x hx
theorem sort_small : ∀ {d : Nat} {v : TA0}, Small d v → OkV v → Small d (sortV v)
 | d + 1, v, h, hok => by
  have hp := hok.plain
  have h1 := sort_perm hp
  have h2 := sort_keys hp
  refine ⟨by rw [h1.length_eq, List.length_map]; exact h.1, by rw [h2.length_eq]; exact h.2.1, by rw [sort_text]; exact h.2.2.1, fun k hk => h.2.2.2.1 k (h2.mem_iff.1 hk), fun x hx => ?_⟩
  obtain ⟨y, hy, rfl⟩ := List.mem_map.1 (h1.mem_iff.1 hx)
  exact sort_small (h.2.2.2.2 y hy) (hok.part hy)
theorem sort_ok : ∀ (m : Nat) {v : TA0}, SizeOf.sizeOf v < m → OkV v → OkV (sortV v)
 | 0, v, hm, _ => absurd hm (by omega)
 | m + 1, v, hm, hok => by
  have hp := hok.plain
  obtain ⟨_, hn, ht, hd⟩ := alone_ok (OkV_iff.1 hok).1
  have h1 := sort_perm hp
  have h2 := sort_keys hp
  rw [OkV_iff]
  constructor
  ·refine alone_0 ?_ ?_ ?_ ?_
   ·obtain ⟨a, b, c, d, e, f, g, i⟩ := hp
    refine ⟨by rw [sort_kind]; exact a, by rw [sort_kind]; exact b, by rw [sort_kind, sort_bool]; exact c, by rw [sort_kind, sort_num]; exact d, by rw [sort_kind, sort_text]; exact e, ?_, ?_, ?_⟩
    ·rw [sort_kind, h1.length_eq, List.length_map]; exact f
    ·rw [sort_kind, h1.length_eq, List.length_map, h2.length_eq]; exact g
    ·rw [sort_kind, h2.length_eq]; exact i
   ·unfold NumOut; rw [sort_num]; exact hn
   ·unfold TextsOk; rw [sort_text]; exact ⟨ht.1, fun k hk => ht.2 k (h2.mem_iff.1 hk)⟩
   ·exact h2.nodup_iff.2 hd
  ·intro x hx
   obtain ⟨y, hy, rfl⟩ := List.mem_map.1 (h1.mem_iff.1 hx)
   exact sort_ok m (by have := part_small hy; omega) (hok.part hy)
theorem OkV.sort {v : TA0} (h : OkV v) : OkV (sortV v) := sort_ok _ (Nat.lt_succ_self _) h
def lenW (l : List TA0) : List Nat := l.map fun x => (walkV x).length
theorem walkVs_sum : ∀ l : List TA0, (walkVs l).length = (lenW l).sum
 | [] => rfl
 | x :: r => by rw [walkVs, List.length_append, walkVs_sum r]; rfl
theorem sort_count : ∀ (m : Nat) {v : TA0}, SizeOf.sizeOf v < m → OkV v → (walkV (sortV v)).length = (walkV v).length
 | 0, v, hm, _ => absurd hm (by omega)
 | m + 1, v, hm, hok => by
  rw [walkV_eq, walkV_eq v, List.length_cons, List.length_cons, walkVs_sum, walkVs_sum]
  have h1 := (sort_perm hok.plain).map fun x => (walkV x).length
  have e : (lenW (sortV v).fList).sum = (lenW (v.fList.map sortV)).sum := h1.sum_nat
  rw [e]
  unfold lenW
  rw [List.map_map]
  congr 2
  refine List.map_congr_left fun x hx => ?_
  exact sort_count m (by have := part_small hx; omega) (hok.part hx)
theorem Fine.sort {v : TA0} (h : Fine v) (hok : OkV v) : Fine (sortV v) := ⟨sort_small h.small hok, by rw [sort_count _ (Nat.lt_succ_self _) hok]; exact h.few⟩
end Go.Proofs.YtfaedhhjamaniaaDoor
end
section
namespace Go.Proofs.YtfaedhhjamaniaaDoor
open Go Go.Vc Go.RowKit
theorem great_fine {n : Nat} (hn : 6000 < n) (v : TA0) : ∃ g, ref03_Great n v = some g ∧ (g = false → Fine v ∧ Small 30 v ∧ (walkV v).length ≤ 5000) := by
 obtain ⟨g, h1, h2⟩ := great_ok (n := n) (by omega) v
 exact ⟨g, h1, fun h => ⟨⟨Small.le (by omega) (h2 h).1, by have := (h2 h).2; omega⟩, h2 h⟩⟩
def sortedV (a : TA0) : TA0 := if checkV a = 0 then sortV a else a
theorem sortedT_run {n : Nat} (hn : 6000 < n) {v : TA0} (h : Fine v) (hok : OkV v) : tree_sorted n v = some (sortV v) := sorted_run hn n 60 v (by omega) h.small hok
theorem Sorted_run {n : Nat} (hn : 6000 < n) {v : TA0} (h : Fine v) : tree_Sorted n v = some (sortedV v) := by
 unfold tree_Sorted sortedV
 rw [check_run hn h, bnd]
 by_cases a : checkV v = 0
 ·rw [decide_eq_true a, Bool.not_true, cF, if_pos a, sortedT_run hn h (checkV_ok a).1, bnd]
 ·rw [decide_eq_false a, Bool.not_false, cT, if_neg a]
end Go.Proofs.YtfaedhhjamaniaaDoor
end
end

section
namespace Go.Num
def dig (c : UInt8) : Bool := 48 ≤ c && c ≤ 57
def nd : List UInt8 → Nat → Nat
  | [], k => k
  | c :: r, k => if dig c then nd r (k + 1) else k
def vl : List UInt8 → Nat → Nat
  | [], v => v
  | c :: r, v => if dig c then vl r (10 * v + (c.toNat - 48)) else v
def neg (l : List UInt8) : Bool := decide (l.getD 0 0 = 45)
def fst (l : List UInt8) : Nat := if neg l then 1 else 0
def big : Nat := 9007199254740992
def scanL (l : List UInt8) (at_ : Int) : Int × Int × Int :=
  let f := fst l
  let k := nd (l.drop f) f
  let v := vl (l.drop f) 0
  if l.getD f 0 = 48 ∧ f + 2 ≤ k then (0, at_ + (f + 1), 20)
  else if k = f ∨ l.getD k 0 = 46 ∨ l.getD k 0 = 101 ∨ l.getD k 0 = 69 then (0, at_ + k, 20)
  else if big < v ∨ (neg l = true ∧ v = 0) then (0, at_, 20)
  else (if neg l then -(v : Int) else v, at_ + k, 0)
theorem drop_cons (l : List UInt8) (k : Nat) (h : k < l.length) : l.drop k = l.getD k 0 :: l.drop (k + 1) := by
 rw [List.drop_eq_getElem_cons h]; simp [List.getD, h]
theorem nd_step (l : List UInt8) (k : Nat) (h : k < l.length) (hd : dig (l.getD k 0) = true) : nd (l.drop k) k = nd (l.drop (k + 1)) (k + 1) := by
 rw [drop_cons l k h]; simp only [nd, hd, if_true]
theorem nd_stop (l : List UInt8) (k : Nat) (hd : dig (l.getD k 0) = false) : nd (l.drop k) k = k := by
 by_cases h : k < l.length
 ·rw [drop_cons l k h]; simp only [nd, hd]; rfl
 ·rw [List.drop_eq_nil_of_le (by omega)]; rfl
theorem vl_step (l : List UInt8) (k v : Nat) (h : k < l.length) (hd : dig (l.getD k 0) = true) : vl (l.drop k) v = vl (l.drop (k + 1)) (10 * v + ((l.getD k 0).toNat - 48)) := by
 rw [drop_cons l k h]; simp only [vl, hd, if_true]
theorem vl_stop (l : List UInt8) (k v : Nat) (hd : dig (l.getD k 0) = false) : vl (l.drop k) v = v := by
 by_cases h : k < l.length
 ·rw [drop_cons l k h]; simp only [vl, hd]; rfl
 ·rw [List.drop_eq_nil_of_le (by omega)]; rfl
structure ScanI (l : List UInt8) (k : Nat) (v : Nat) : Prop where
  ge : fst l ≤ k
  le : k ≤ l.length
  nd : nd (l.drop k) k = nd (l.drop (fst l)) (fst l)
  vl : vl (l.drop k) v = vl (l.drop (fst l)) 0
  zero : fst l + 2 ≤ k → l.getD (fst l) 0 ≠ 48
  one : fst l + 1 ≤ k → dig (l.getD (fst l) 0) = true
theorem ScanI.step {l : List UInt8} {k v : Nat} (h : ScanI l k v) (hd : dig (l.getD k 0) = true) (hk : k < l.length) (hz : ¬ (k = fst l + 1 ∧ l.getD (fst l) 0 = 48)) : ScanI l (k + 1) (10 * v + ((l.getD k 0).toNat - 48)) := by
 refine ⟨by have := h.ge; omega, by omega, by rw [← nd_step l k hk hd]; exact h.nd, by rw [← vl_step l k v hk hd]; exact h.vl, fun hge h0 => ?_, fun hge => ?_⟩
 ·rcases Nat.lt_or_ge k (fst l + 2) with hlt | hge2
  ·exact hz ⟨by omega, h0⟩
  ·exact h.zero hge2 h0
 ·rcases Nat.lt_or_ge k (fst l + 1) with hlt | hge2
  ·have : k = fst l := by have := h.ge; omega
   subst this; exact hd
  ·exact h.one hge2
theorem ScanI.lt {l : List UInt8} {k v : Nat} (_ : ScanI l k v) (hd : dig (l.getD k 0) = true) : k < l.length := by
 rcases Nat.lt_or_ge k l.length with h | h
 ·exact h
 ·have : l.getD k 0 = 0 := by simp [List.getD, List.getElem?_eq_none h]
  rw [this] at hd; simp [dig] at hd
theorem ScanI.stop {l : List UInt8} {k v : Nat} (h : ScanI l k v) (at_ : Int) (hd : dig (l.getD k 0) = false) :
  scanL l at_ = if k = fst l ∨ l.getD k 0 = 46 ∨ l.getD k 0 = 101 ∨ l.getD k 0 = 69 then (0, at_ + k, 20)
   else if big < v ∨ (neg l = true ∧ v = 0) then (0, at_, 20)
   else (if neg l then -(v : Int) else v, at_ + k, 0) := by
 have h1 := h.nd
 rw [nd_stop l k hd] at h1
 have h2 := h.vl
 rw [vl_stop l k v hd] at h2
 unfold scanL
 simp only []
 rw [← h1, ← h2, if_neg]
 rintro ⟨h3, h4⟩
 exact h.zero h4 h3
theorem byte_of {c : UInt8} {n : Int} (d : UInt8) (h : ((c.toNat : Nat) : Int) = n) (hd : (d.toNat : Int) = n) : c = d := UInt8.toNat_inj.1 (by omega)
def KeepP (n : Int) (v : Nat) : Prop := 0 ≤ n ∧ n ≤ 90071992547409929 ∧ (v ≤ 9007199254740992 → n = v) ∧ (9007199254740992 < v → 9007199254740992 < n)
theorem KeepP.fits {n : Int} {v : Nat} (h : KeepP n v) : (decide (-9007199254740992 ≤ n) && decide (n ≤ 9007199254740992)) = decide (v ≤ 9007199254740992) := by
 obtain ⟨h1, h2, h3, h4⟩ := h
 rw [Bool.eq_iff_iff]
 simp only [Bool.and_eq_true, decide_eq_true_eq]
 constructor
 ·rintro ⟨_, h⟩
  rcases Nat.lt_or_ge 9007199254740992 v with h' | h'
  ·have := h4 h'; omega
  ·exact h'
 ·intro h; have := h3 h; omega
def fitsB (n : Int) : Bool := decide (-9007199254740992 ≤ n ∧ n ≤ 9007199254740992)
theorem fits_eq (n : Int) : (decide ((-9007199254740992 : Int) ≤ n) && decide (n ≤ 9007199254740992)) = fitsB n := by simp [fitsB]
theorem KeepP.fitsEq {n : Int} {v : Nat} (h : KeepP n v) : fitsB n = decide (v ≤ 9007199254740992) := by rw [← fits_eq]; exact h.fits
section
variable {l : List UInt8} {k v : Nat} {n at_ sl : Int} (I : ScanI l k v) (hd : dig (l.getD k 0) = false)
include I hd
theorem ScanI.e1 (h : (k : Int) = (fst l : Int) ∨ (at_ + (k : Int) < sl ∧ (((l.getD k 0).toNat : Int) = 46 ∨ (((l.getD k 0).toNat : Int) = 101 ∨ ((l.getD k 0).toNat : Int) = 69)))) : scanL l at_ = (0, at_ + k, 20) := by
 rw [I.stop at_ hd, if_pos]
 rcases h with h | ⟨_, h | h | h⟩
 ·exact .inl (by omega)
 ·exact .inr (.inl (byte_of 46 h rfl))
 ·exact .inr (.inr (.inl (byte_of 101 h rfl)))
 ·exact .inr (.inr (.inr (byte_of 69 h rfl)))
theorem ScanI.e2 (hno : ¬ (k = fst l ∨ l.getD k 0 = 46 ∨ l.getD k 0 = 101 ∨ l.getD k 0 = 69)) (h : 9007199254740992 < v ∨ (neg l = true ∧ v = 0)) : scanL l at_ = (0, at_, 20) := by
 rw [I.stop at_ hd, if_neg hno, if_pos (by unfold big; exact h)]
theorem ScanI.e3 (hno : ¬ (k = fst l ∨ l.getD k 0 = 46 ∨ l.getD k 0 = 101 ∨ l.getD k 0 = 69)) (h : ¬ (9007199254740992 < v ∨ (neg l = true ∧ v = 0))) : scanL l at_ = (if neg l then -(v : Int) else v, at_ + k, 0) := by
 rw [I.stop at_ hd, if_neg hno, if_neg (by unfold big; exact h)]
end
theorem KeepP.bad {l : List UInt8} {n : Int} {v : Nat} (K : KeepP n v) : (¬ (fitsB n = true) ∨ (neg l = true ∧ n = 0)) ↔ (9007199254740992 < v ∨ (neg l = true ∧ v = 0)) := by
 rw [K.fitsEq]
 obtain ⟨h1, h2, h3, h4⟩ := K
 simp only [decide_eq_true_eq]
 constructor
 ·rintro (h | ⟨a, h⟩)
  ·exact .inl (by omega)
  ·rcases Nat.lt_or_ge 9007199254740992 v with hv | hv
   ·exact .inl hv
   ·exact .inr ⟨a, by have := h3 hv; omega⟩
 ·rintro (h | ⟨a, h⟩)
  ·exact .inl (by omega)
  ·exact .inr ⟨a, by have := h3 (by omega); omega⟩
def KeepR (n : Int) (gr : Bool) (v : Nat) : Prop := 0 ≤ n ∧ n ≤ 9007199254740992 ∧ (v ≤ 9007199254740992 → n = v ∧ gr = false) ∧ (9007199254740992 < v → n = 9007199254740992 ∧ gr = true)
theorem KeepR.bad {l : List UInt8} {n : Int} {gr : Bool} {v : Nat} (K : KeepR n gr v) : (gr = true ∨ (neg l = true ∧ n = 0)) ↔ (9007199254740992 < v ∨ (neg l = true ∧ v = 0)) := by
 obtain ⟨h1, h2, h3, h4⟩ := K
 constructor
 ·rintro (h | ⟨a, h⟩)
  ·rcases Nat.lt_or_ge 9007199254740992 v with hv | hv
   ·exact .inl hv
   ·rw [(h3 hv).2] at h; cases h
  ·rcases Nat.lt_or_ge 9007199254740992 v with hv | hv
   ·exact .inl hv
   ·exact .inr ⟨a, by have := (h3 hv).1; omega⟩
 ·rintro (h | ⟨a, h⟩)
  ·exact .inl (h4 h).2
  ·exact .inr ⟨a, by have := (h3 (by omega)).1; omega⟩
def dch (n : Nat) : UInt8 := UInt8.ofNat (48 + n % 10)
def digsF : Nat → Nat → List UInt8
  | 0, _ => []
  | f + 1, n => if n < 10 then [dch n] else digsF f (n / 10) ++ [dch n]
def digs (n : Nat) : List UInt8 := digsF (n + 1) n
theorem digsF_more : ∀ (f g n : Nat), n < f → n < g → digsF f n = digsF g n
 | 0, _, n, h, _ => by omega
 | f + 1, 0, n, _, h => by omega
 | f + 1, g + 1, n, h1, h2 => by
  simp only [digsF]
  split
  ·rfl
  ·rw [digsF_more f g (n / 10) (by omega) (by omega)]
theorem digs_lt {n : Nat} (h : n < 10) : digs n = [dch n] := by unfold digs; simp only [digsF]; rw [if_pos h]
theorem digs_ge {n : Nat} (h : ¬ n < 10) : digs n = digs (n / 10) ++ [dch n] := by
 unfold digs
 rw [digsF, if_neg h, digsF_more n (n / 10 + 1) (n / 10) (by omega) (by omega)]
theorem dch_toNat (n : Nat) : (dch n).toNat = 48 + n % 10 := by
 unfold dch; rw [UInt8.toNat_ofNat']; omega
theorem dch_int (n : Nat) : (48 + (n : Int) % 10) % 256 = ((dch n).toNat : Int) := by rw [dch_toNat]; omega
theorem digs_len : ∀ (k n : Nat), n < 10 ^ (k + 1) → (digs n).length ≤ k + 1
 | 0, n, h => by rw [digs_lt (by omega)]; simp
 | k + 1, n, h => by
  by_cases h10 : n < 10
  ·rw [digs_lt h10]; simp
  ·rw [digs_ge h10]
   have := digs_len k (n / 10) (by rw [Nat.pow_succ] at h; omega)
   simp; omega
theorem digs_len16 {n : Nat} (h : n ≤ 9007199254740992) : (digs n).length ≤ 16 := digs_len 15 n (by omega)
def text (n : Int) : List UInt8 × Int := if fitsB n then (if n < 0 then 45 :: digs (-n).toNat else digs n.toNat, 0) else ([], 20)
theorem fitsB_iff {n : Int} : fitsB n = true ↔ -9007199254740992 ≤ n ∧ n ≤ 9007199254740992 := by simp [fitsB]
theorem text_no {n : Int} (h : fitsB n = false) : text n = ([], 20) := by simp [text, h]
theorem text_neg {n : Int} (h : fitsB n = true) (h0 : n < 0) : text n = (45 :: digs (-n).toNat, 0) := by simp [text, h, h0]
theorem text_pos {n : Int} (h : fitsB n = true) (h0 : ¬ n < 0) : text n = (digs n.toNat, 0) := by simp [text, h, h0]
end Go.Num
end

section
namespace Go.Num
open Go
end Go.Num
namespace Go.Num
open Go
theorem text_len {n : Int} (h : fitsB n = true) : (text n).1.length ≤ 17 := by
 have h2 := fitsB_iff.1 h
 by_cases h0 : n < 0
 ·rw [text_neg h h0]; have := digs_len16 (n := (-n).toNat) (by omega); simp; omega
 ·rw [text_pos h h0]; have := digs_len16 (n := n.toNat) (by omega); dsimp only; omega
end Go.Num
end
