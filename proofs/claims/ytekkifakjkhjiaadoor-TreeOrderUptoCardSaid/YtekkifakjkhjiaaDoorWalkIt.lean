/-
  Chapter 3: the iterator tree.Walk, by hand. Own work.
-/
import Derived.Test.YtekkifakjkhjiaaDoorVkC
import Derived.Test.YtekkifakjkhjiaaDoorTy
import Derived.Test.YtekkifakjkhjiaaDoorRows
import Derived.Shelf.Abstract
namespace Go.Proofs.YtekkifakjkhjiaaDoor
open Go Go.Vc Go.RowKit

mutual
/-- A value's parts, each whole ahead of its own. -/
def walkV : T_api_Value → List T_api_Value
  | ⟨k, b, n, t, l, ks⟩ => ⟨k, b, n, t, l, ks⟩ :: walkVs l
def walkVs : List T_api_Value → List T_api_Value
  | [] => []
  | x :: r => walkV x ++ walkVs r
end
theorem walkV_eq (v : T_api_Value) : walkV v = v :: walkVs v.fList := by cases v; rw [walkV]
theorem walkVs_drop {l : List T_api_Value} {i : Nat} {x : T_api_Value} (h : l[i]? = some x) : walkVs (l.drop i) = walkV x ++ walkVs (l.drop (i + 1)) := by
  obtain ⟨hi, hx⟩ := List.getElem?_eq_some_iff.1 h
  rw [List.drop_eq_getElem_cons hi, hx, walkVs]
theorem part_small {v x : T_api_Value} (h : x ∈ v.fList) : SizeOf.sizeOf x < SizeOf.sizeOf v := by
  have := List.sizeOf_lt_of_mem h
  cases v
  simp only [T_api_Value.mk.sizeOf_spec]
  dsimp only at this
  omega
theorem walkV_pos (v : T_api_Value) : 1 ≤ (walkV v).length := by rw [walkV_eq, List.length_cons]; omega
theorem walkVs_len : ∀ l : List T_api_Value, l.length ≤ (walkVs l).length
  | [] => Nat.zero_le _
  | x :: r => by
    have h1 := walkVs_len r
    have h2 := walkV_pos x
    rw [walkVs, List.length_append, List.length_cons]
    omega
theorem walkVs_mem : ∀ {l : List T_api_Value} {x : T_api_Value}, x ∈ l → (walkV x).length ≤ (walkVs l).length
  | y :: r, x, h => by
    rw [walkVs, List.length_append]
    rcases List.mem_cons.1 h with rfl | h
    · omega
    · have := walkVs_mem h
      omega
def valsV (M : Mem) (x : T_api_Value) (vs : List Value) : Prop := ∃ cs, vs = [.agg cs.toArray] ∧ Rep M (emb_T_api_Value x) cs

def WalkPost {σ β : Type} (J : σ → Mem → List Ent → Prop) (Jx : β → Mem → List Ent → Prop) (r : Lp σ β) (w0 : World) (M1 : Mem) (H : List Ent) : Ending → World → Prop := fun e w' =>
  ∃ M' E', M1.le M' ∧ Hp w0 M' (E' ++ H) w' ∧ match r with
    | .nx s' => e = .returned (.bool true) ∧ J s' M' E'
    | .br b => e = .returned (.bool false) ∧ Jx b M' E'
theorem walkPost_out {σ β : Type} {J : σ → Mem → List Ent → Prop} {Jx : β → Mem → List Ent → Prop} {r : Lp σ β} {w0 : World} {M1 : Mem} {H : List Ent} : ¬ LetsOut (bodyPost Tryd.prog Tryd.f41 (WalkPost J Jx r w0 M1 H)) := by
  rintro ⟨a, w, M', E', _, _, h⟩
  cases r with
  | nx s => cases h.1
  | br b => cases h.1

set_option maxRecDepth 100000 in
theorem walkIns (by_ bs l : Nat) {σ β : Type} (Y : σ → T_api_Value → Option (Lp σ β)) (J : σ → Mem → List Ent → Prop) (Jx : β → Mem → List Ent → Prop) (hJ : Grows J) (hY : Yld Tryd.prog l valsV J Jx Y) :
    ∀ (m : Nat) (v : T_api_Value), SizeOf.sizeOf v < m → (walkV v).length ≤ 9223372036854775806 → ∀ (s0 : σ) (r : Lp σ β), foldY Y (walkV v) s0 = some r → ∀ (M : Mem) (ad : Addr) (c0 : List Value), Rep M (emb_T_api_Value v) c0 → (∀ j u, c0[j]? = some u → M.cell? (ad.add j) = some u) →
      M.cell? ⟨by_, 0, none⟩ = some (.func (.yield l) #[] #[]) → M.cell? ⟨bs, 0, none⟩ = some (.func (.func 41) #[] #[.pointer (some ⟨by_, 0, none⟩), .pointer (some ⟨bs, 0, none⟩)]) →
      ∀ w0 M1 E H w, M.le M1 → J s0 M1 E → Hp w0 M1 (E ++ H) w → Calls Tryd.prog 41 [.pointer (some ad), .pointer (some ⟨by_, 0, none⟩), .pointer (some ⟨bs, 0, none⟩)].toArray w (WalkPost J Jx r w0 M1 H)
  | 0, v, hm => fun _ _ _ => absurd hm (by omega)
  | m + 1, v, hm => by
    intro hw0 s0 r hfold M ad c0 h0 q0 hby hbs w0 M1 E H w hM0 hj p0
    replace h0 := Rep.mono hM0 _ _ h0
    replace q0 := fun j u h => hM0.cell (q0 j u h)
    replace hby := hM0.cell hby
    replace hbs := hM0.cell hbs
    have hvl : v.fList.length < 9223372036854775806 := by
      have h1 := walkVs_len v.fList
      rw [walkV_eq, List.length_cons] at hw0
      omega
    rw [walkV_eq] at hfold
    obtain ⟨r1, hy1, hfold⟩ := Option.bind_eq_some_iff.1 hfold
    have hrep := h0
    obtain ⟨A_1, cap_1, A_2, cap_2, rfl, h_1, h_2⟩ := T_api_Value.opn h0
    refine R_enter 30 Tryd.func41 rfl rfl (by simp) (fun a0 f0 => ?_)
    replace f0 : Frm 30 [(0, .pointer (some ad)), (1, .pointer (some ⟨by_, 0, none⟩)), (2, .pointer (some ⟨bs, 0, none⟩))] a0 := f0
    refine R_seq ?_
    refine R_reg ?_
    refine W_run (L' := [(0, .pointer (some ad)), (1, .pointer (some ⟨by_, 0, none⟩)), (2, .pointer (some ⟨bs, 0, none⟩))]) (w' := w) f0 1 [0, 1, 2] (by kernel_rfl) (fun a_1 f_1 => ?_)
    refine W_end rfl ?_
    refine T_n ?_
    refine R_seq ?_
    refine R_seq ?_
    -- the call of yield
    refine RI_out (RI_drawT 4 p0 (by kernel_rfl) (by kernel_rfl) (then_out (then_out walkPost_out)) (by kernel_rfl) (fun w p0 => ?_))
    refine ST_eq (v := .func (.yield l) #[] #[]) f_1 (by kernel_rfl) (by kernel_rfl) rfl rfl (X_load1 (v := .func (.yield l) #[] #[]) rfl (ad := ⟨by_, 0, none⟩) (by kernel_rfl) (by kernel_rfl) (p0.cell hby)) (fun a_2 f_2 => ?_)
    refine ST_eq (v := .pointer (some ad)) f_2 (by kernel_rfl) (by kernel_rfl) rfl rfl (by kernel_rfl) (fun a_3 f_3 => ?_)
    refine ST_eq (v := .pointer (some ad)) f_3 (by kernel_rfl) (by kernel_rfl) rfl rfl (by kernel_rfl) (fun a_4 f_4 => ?_)
    refine ST_eq (v := .agg #[.int .i8 v.fKind, .bool v.fBool, .int .i64 v.fNum, S v.fText, .slice A_1 v.fList.length cap_1, .slice A_2 v.fKeys.length cap_2]) f_4 (by kernel_rfl) (by kernel_rfl) rfl rfl
      (X_loadN (cs := [.int .i8 v.fKind, .bool v.fBool, .int .i64 v.fNum, S v.fText, .slice A_1 v.fList.length cap_1, .slice A_2 v.fKeys.length cap_2]) rfl (ad := ad) (by kernel_rfl) (by kernel_rfl) (fun j u h => p0.cell (q0 j u h))) (fun a_5 f_5 => ?_)
    refine ST_end rfl ?_
    obtain ⟨fn, tmps, asg, bd, hrun, hR⟩ := hY s0 v r1 hy1 w0 M1 E H w _ hj ⟨_, rfl, hrep⟩ p0
    refine WI_round f_5 (by kernel_rfl) (by kernel_rfl) rfl rfl (fun c e => by cases e) (hx := Eq.trans (by kernel_rfl) hrun) hR ?_
    rintro e w_1 ⟨M2, E2, hM2, p_1, hr⟩
    cases r1 with
    | br b =>
      obtain ⟨rfl, hjx⟩ := hr
      refine ⟨_, rfl, fun a_6 f_6 => ?_⟩
      refine list_in (ro := none) (then_out (then_out walkPost_out)) _ (by kernel_rfl) _ _ ?_
      refine W_run (L' := [(0, .pointer (some ad)), (1, .pointer (some ⟨by_, 0, none⟩)), (2, .pointer (some ⟨bs, 0, none⟩)), (11, .bool true)]) (w' := w_1) f_6 1 [0, 1, 2, 11] (by kernel_rfl) (fun a_7 f_7 => ?_)
      refine W_end rfl ?_
      refine T_n ?_
      refine R_cond_t f_7 (by kernel_rfl) (by kernel_rfl) ?_
      refine R_seq ?_
      refine R_reg ?_
      refine W_run (L' := [(4, .bool false)]) (w' := w_1) f_7 1 [4] (by kernel_rfl) (fun a_8 f_8 => ?_)
      refine W_end rfl ?_
      refine T_n ?_
      refine wp_ret ?_
      refine T_r ?_
      refine E_ret1 f_8 rfl (by kernel_rfl : Vc.look _ 4 = some (.bool false)) ?_
      obtain rfl := Option.some.inj hfold
      exact ⟨M2, E2, hM2, p_1, rfl, hjx⟩
    | nx s1 =>
      obtain ⟨rfl, hj1⟩ := hr
      refine ⟨_, rfl, fun a_6 f_6 => ?_⟩
      refine list_in (ro := none) (then_out (then_out walkPost_out)) _ (by kernel_rfl) _ _ ?_
      refine W_run (L' := [(0, .pointer (some ad)), (1, .pointer (some ⟨by_, 0, none⟩)), (2, .pointer (some ⟨bs, 0, none⟩)), (11, .bool false)]) (w' := w_1) f_6 1 [0, 1, 2, 11] (by kernel_rfl) (fun a_7 f_7 => ?_)
      refine W_end rfl ?_
      refine T_n ?_
      refine R_cond_f f_7 (by kernel_rfl) (by kernel_rfl) ?_
      refine wp_skip ?_
      refine T_n ?_
      replace q0 := fun j u h => hM2.cell (q0 j u h)
      replace hby := hM2.cell hby
      replace hbs := hM2.cell hbs
      replace h_1 := h_1.mono hM2
      replace hM0 := hM0.trans hM2
      replace hfold : foldY Y (walkVs v.fList) s1 = some r := hfold
      refine R_seq ?_
      refine R_seq ?_
      refine R_reg ?_
      refine W_run (L' := [(0, .pointer (some ad)), (1, .pointer (some ⟨by_, 0, none⟩)), (2, .pointer (some ⟨bs, 0, none⟩)), (14, .pointer (some (ad.add 4)))]) (w' := w_1) f_7 3 [0, 1, 2, 14] (by kernel_rfl) (fun a_8 f_8 => ?_)
      refine W_eq (v := .slice A_1 v.fList.length cap_1) f_8 (by kernel_rfl) (by kernel_rfl) rfl rfl (X_load1 (v := .slice A_1 v.fList.length cap_1) rfl (ad := ad.add 4) (by kernel_rfl) (by kernel_rfl) (p_1.cell (q0 4 _ rfl))) (fun a_9 f_9 => ?_)
      refine W_run (L' := [(0, .pointer (some ad)), (1, .pointer (some ⟨by_, 0, none⟩)), (2, .pointer (some ⟨bs, 0, none⟩)), (16, .int .i64 ((v.fList.length : Nat) : Int)), (17, .int .i64 0)]) (w' := w_1) f_9 2 [0, 1, 2, 16, 17] (by kernel_rfl) (fun a_10 f_10 => ?_)
      refine W_end rfl ?_
      refine T_n ?_
      refine wp_block ?_
      refine wp_mono (Q := fun e a w => (e = .exit 0 ∧ ∃ s' M' E', r = .nx s' ∧ M1.le M' ∧ J s' M' E' ∧ Frm 30 [(0, .pointer (some ad))] a ∧ Hp w0 M' (E' ++ H) w) ∨ (e = .ret ∧ ∃ b M' E', r = .br b ∧ M1.le M' ∧ Jx b M' E' ∧ Frm 30 [(4, .bool false)] a ∧ Hp w0 M' (E' ++ H) w))
        (R_loop (n := 30) (w0 := w0) (M := M2) (fun (x : Nat × σ × List Ent) => [(0, .pointer (some ad)), (1, .pointer (some ⟨by_, 0, none⟩)), (2, .pointer (some ⟨bs, 0, none⟩)), (16, .int .i64 ((v.fList.length : Nat) : Int)), (17, .int .i64 (x.1 : Int))]) (fun x => x.2.2 ++ H)
          (fun x (MM : Mem) => J x.2.1 MM x.2.2 ∧ foldY Y (walkVs (v.fList.drop x.1)) x.2.1 = some r ∧ x.1 ≤ v.fList.length) (fun x => v.fList.length - x.1) (0, s1, E2) (f_10.keep (ks := [0, 1, 2, 16, 17]) (by kernel_rfl)) p_1 ⟨hj1, by rw [List.drop_zero]; exact hfold, Nat.zero_le _⟩ ?_) ?_
      · rintro ⟨i, s, Es⟩ M_3 a_11 w_2 hM3 ⟨hjs, hfs, hi⟩ f_11 p_2
        dsimp only at hjs hfs hi
        replace f_11 : Frm 30 [(0, .pointer (some ad)), (1, .pointer (some ⟨by_, 0, none⟩)), (2, .pointer (some ⟨bs, 0, none⟩)), (16, .int .i64 ((v.fList.length : Nat) : Int)), (17, .int .i64 (i : Int))] a_11 := f_11
        replace p_2 : Hp w0 M_3 (Es ++ H) w_2 := p_2
        refine R_seq ?_
        refine R_reg ?_
        refine W_run (L' := [(0, .pointer (some ad)), (1, .pointer (some ⟨by_, 0, none⟩)), (2, .pointer (some ⟨bs, 0, none⟩)), (16, .int .i64 ((v.fList.length : Nat) : Int)), (17, .int .i64 (i : Int)), (18, .bool (decide ((i : Int) < ((v.fList.length : Nat) : Int))))]) (w' := w_2) f_11 1 [0, 1, 2, 16, 17, 18] (by kernel_rfl) (fun a_12 f_12 => ?_)
        refine W_end rfl ?_
        refine T_n ?_
        refine R_seq ?_
        refine R_cond f_12 (b := decide ((i : Int) < ((v.fList.length : Nat) : Int))) (by kernel_rfl) (by kernel_rfl) (fun h_3 => ?_) (fun h_3 => ?_)
        · have k_1 : i < v.fList.length := by have := of_decide_eq_true h_3; omega
          refine wp_skip ?_
          refine T_n ?_
          refine R_seq ?_
          refine wp_block ?_
          refine R_seq ?_
          refine R_reg ?_
          refine W_run (L' := [(0, .pointer (some ad)), (1, .pointer (some ⟨by_, 0, none⟩)), (2, .pointer (some ⟨bs, 0, none⟩)), (5, .int .i64 (i : Int)), (16, .int .i64 ((v.fList.length : Nat) : Int)), (17, .int .i64 (i : Int))]) (w' := w_2) f_12 2 [0, 1, 2, 5, 16, 17] (by kernel_rfl) (fun a_13 f_13 => ?_)
          refine W_end rfl ?_
          refine T_n ?_
          have hx : v.fList[i]? = some v.fList[i] := List.getElem?_eq_getElem k_1
          have hgx : getI v.fList (i : Int) = some v.fList[i] := by unfold getI; rw [if_pos (by omega)]; exact hx
          rw [walkVs_drop hx, foldY_app] at hfs
          obtain ⟨r2, hr2, hfs⟩ := Option.bind_eq_some_iff.1 hfs
          obtain ⟨ad_1, c_1, e_1, hl_1, hr_1, hc_1⟩ := Sli.at_ (h_1.mono hM3) hgx
          refine R_seq ?_
          refine R_drawT 7 p_2 (by kernel_rfl) (by kernel_rfl) (fun w_3 p_3 => ?_)
          refine ST_eq (v := .func (.func 41) #[] #[.pointer (some ⟨by_, 0, none⟩), .pointer (some ⟨bs, 0, none⟩)]) f_13 (by kernel_rfl) (by kernel_rfl) rfl rfl (X_load1 (v := .func (.func 41) #[] #[.pointer (some ⟨by_, 0, none⟩), .pointer (some ⟨bs, 0, none⟩)]) rfl (ad := ⟨bs, 0, none⟩) (by kernel_rfl) (by kernel_rfl) (p_3.cell (hM3.cell hbs))) (fun a_14 f_14 => ?_)
          refine ST_eq (v := .pointer (some ad)) f_14 (by kernel_rfl) (by kernel_rfl) rfl rfl (by kernel_rfl) (fun a_15 f_15 => ?_)
          refine ST_eq (v := .pointer (some ad)) f_15 (by kernel_rfl) (by kernel_rfl) rfl rfl (by kernel_rfl) (fun a_16 f_16 => ?_)
          refine ST_eq (v := .pointer (some (ad.add 4))) f_16 (by kernel_rfl) (by kernel_rfl) rfl rfl (by kernel_rfl) (fun a_17 f_17 => ?_)
          refine ST_eq (v := .slice A_1 v.fList.length cap_1) f_17 (by kernel_rfl) (by kernel_rfl) rfl rfl (X_load1 (v := .slice A_1 v.fList.length cap_1) rfl (ad := ad.add 4) (by kernel_rfl) (by kernel_rfl) (p_3.cell (hM3.cell (q0 4 _ rfl)))) (fun a_18 f_18 => ?_)
          refine ST_eq (v := .int .i64 (i : Int)) f_18 (by kernel_rfl) (by kernel_rfl) rfl rfl (by kernel_rfl) (fun a_19 f_19 => ?_)
          refine ST_eq (v := .pointer (some (ad_1.add ((i : Int).toNat * 6)))) f_19 (by kernel_rfl) (by kernel_rfl) rfl rfl (X_indexAddrA e_1 rfl (len := v.fList.length) (cap := cap_1) (k := .i64) (i := (i : Int)) (by kernel_rfl) (by kernel_rfl) (e := 26) (by kernel_rfl) (sz := 6) (by kernel_rfl) (getI_nn hgx) (getI_lt hgx)) (fun a_20 f_20 => ?_)
          refine ST_end rfl ?_
          have hcall := walkIns by_ bs l Y J Jx hJ hY m v.fList[i] (by have := part_small (v := v) (List.getElem_mem k_1); omega) (by
            have h1 := walkVs_mem (List.getElem_mem k_1)
            have h2 := hw0
            rw [walkV_eq, List.length_cons] at h2
            omega) s r2 hr2 M_3 _ c_1 hr_1 hc_1 (hM3.cell hby) (hM3.cell hbs) w0 M_3 Es H w_3 (Mem.le_refl _) hjs p_3
          refine W_call (R := fun v w' => ∃ M' E', M_3.le M' ∧ Hp w0 M' (E' ++ H) w' ∧ match r2 with
            | .nx s' => v = .bool true ∧ J s' M' E'
            | .br b => v = .bool false ∧ Jx b M' E') f_20 (by kernel_rfl) (by kernel_rfl) rfl rfl (by kernel_rfl) (hcall.mono fun e w' ⟨M', E', g1, g2, g3⟩ => ?_) ?_
          · cases r2 with
            | nx s' => exact ⟨_, g3.1, M', E', g1, g2, rfl, g3.2⟩
            | br b => exact ⟨_, g3.1, M', E', g1, g2, rfl, g3.2⟩
          rintro v_1 w_4 ⟨M4, E4, hM4, p_4, g4⟩ a_21 f_21
          cases r2 with
          | br b =>
            obtain ⟨rfl, hjx⟩ := g4
            obtain rfl := Option.some.inj hfs
            refine W_run (L' := [(28, .bool true)]) (w' := w_4) f_21 1 [28] (by kernel_rfl) (fun a_22 f_22 => ?_)
            refine W_end rfl ?_
            refine T_n ?_
            refine R_cond_t f_22 (by kernel_rfl) (by kernel_rfl) ?_
            refine R_seq ?_
            refine R_reg ?_
            refine W_run (L' := [(4, .bool false)]) (w' := w_4) f_22 1 [4] (by kernel_rfl) (fun a_23 f_23 => ?_)
            refine W_end rfl ?_
            refine T_n ?_
            refine wp_ret ?_
            refine B_r ?_
            refine T_r ?_
            refine T_r ?_
            exact .inr ⟨rfl, b, M4, E4, rfl, hM2.trans (hM3.trans hM4), hjx, f_23, p_4⟩
          | nx s2 =>
            obtain ⟨rfl, hj2⟩ := g4
            replace hfs : foldY Y (walkVs (v.fList.drop (i + 1))) s2 = some r := hfs
            refine W_run (L' := [(0, .pointer (some ad)), (1, .pointer (some ⟨by_, 0, none⟩)), (2, .pointer (some ⟨bs, 0, none⟩)), (16, .int .i64 ((v.fList.length : Nat) : Int)), (17, .int .i64 (i : Int)), (28, .bool false)]) (w' := w_4) f_21 1 [0, 1, 2, 16, 17, 28] (by kernel_rfl) (fun a_22 f_22 => ?_)
            refine W_end rfl ?_
            refine T_n ?_
            refine R_cond_f f_22 (by kernel_rfl) (by kernel_rfl) ?_
            refine wp_skip ?_
            refine B_n ?_
            refine T_n ?_
            refine R_reg ?_
            have hin : inR .i64 ((i : Int) + 1) := inR_mk.2 ⟨by omega, by omega⟩
            refine W_run (L' := [(0, .pointer (some ad)), (1, .pointer (some ⟨by_, 0, none⟩)), (2, .pointer (some ⟨bs, 0, none⟩)), (16, .int .i64 ((v.fList.length : Nat) : Int)), (29, .int .i64 (IntKind.wrap .i64 ((i : Int) + 1)))]) (w' := w_4) f_22 1 [0, 1, 2, 16, 29] (by kernel_rfl) (fun a_23 f_23 => ?_)
            have f_24 := Frm.set f_23 29 (v := .int .i64 (IntKind.wrap .i64 ((i : Int) + 1))) (v' := .int .i64 (((i + 1 : Nat) : Int))) (by kernel_rfl) (congrArg (Value.int .i64) ((inR_wrap hin).trans (by omega)))
            have f_25 : Frm 30 [(0, .pointer (some ad)), (1, .pointer (some ⟨by_, 0, none⟩)), (2, .pointer (some ⟨bs, 0, none⟩)), (16, .int .i64 ((v.fList.length : Nat) : Int)), (29, .int .i64 (((i + 1 : Nat) : Int)))] a_23 := f_24.keep (ks := [0, 1, 2, 16, 29]) (by kernel_rfl)
            refine W_run (L' := [(0, .pointer (some ad)), (1, .pointer (some ⟨by_, 0, none⟩)), (2, .pointer (some ⟨bs, 0, none⟩)), (16, .int .i64 ((v.fList.length : Nat) : Int)), (17, .int .i64 (((i + 1 : Nat) : Int)))]) (w' := w_4) f_25 1 [0, 1, 2, 16, 17] (by kernel_rfl) (fun a_26 f_26 => ?_)
            refine W_end rfl ?_
            refine T_n ?_
            exact ⟨(i + 1, s2, E4), by dsimp only; omega, M4, hM3.trans hM4, ⟨hj2, hfs, by dsimp only; omega⟩, f_26, p_4⟩
        · have k_1 : ¬ (i < v.fList.length) := fun h => by
            have := of_decide_eq_false h_3
            omega
          refine wp_exit ?_
          refine T_x ?_
          refine T_x ?_
          have : v.fList.drop i = [] := List.drop_eq_nil_of_le (by omega)
          rw [this] at hfs
          obtain rfl := Option.some.inj hfs
          exact .inl ⟨rfl, s, M_3, Es, rfl, hM2.trans hM3, hjs, f_12.keep (ks := [0]) (by kernel_rfl), p_2⟩
      · rintro _ a_24 w_4 (⟨rfl, s', M', E', rfl, g1, g2, f_29, p_3⟩ | ⟨rfl, b, M', E', rfl, g1, g2, f_29, p_3⟩)
        · refine B_x ?_
          refine T_n ?_
          refine R_seq ?_
          refine R_reg ?_
          refine W_run (L' := [(4, .bool true)]) (w' := w_4) f_29 1 [4] (by kernel_rfl) (fun a_25 f_30 => ?_)
          refine W_end rfl ?_
          refine T_n ?_
          refine wp_ret ?_
          refine E_ret1 f_30 rfl (by kernel_rfl : Vc.look _ 4 = some (.bool true)) ?_
          exact ⟨M', E', g1, p_3, rfl, g2⟩
        · refine B_r ?_
          refine T_r ?_
          refine E_ret1 f_29 rfl (by kernel_rfl : Vc.look _ 4 = some (.bool false)) ?_
          exact ⟨M', E', g1, p_3, rfl, g2⟩
end Go.Proofs.YtekkifakjkhjiaaDoor
