/-
  Chapter 9: the contract of schema.all, printed by a program: what it gives is known for ever. Own work.
-/
import Derived.Test.YtalifkcchfkgmaaDoorAllM
set_option linter.unusedVariables false
set_option linter.unusedSimpArgs false
namespace Go.Proofs.YtalifkcchfkgmaaDoor
open Go Go.Vc Go.RowKit
theorem X_lookupL {P : Program} {o : Oper} {ρ : Operand → Value} {w : World} {κ V : Type} [DecidableEq κ] {ek : κ → Value} {ev : V → Value} {t kt et : TypeId} {x ix : Operand} {b : Nat} {m : List (κ × V)} {k : κ} {z v : V} (ho : o.op = .lookup t x ix false) (hx : ρ x = .map (some b)) (hk : ρ ix = ek k) (ht : P.underlying t = some (.map kt et)) (K : KeyLaw P kt ek)
    (hz : (P.info? et).bind (·.zero) = some (ev z)) (hv : (mget m k).getD z = v) (hb : w.heap[b]? = some (mapO ek ev m)) : (execOp ρ o).run P w = .ok (.value (ev v)) w := by
  subst hv
  exact X_lookup1 ho hx hk ht K hz hb
theorem W_mapputL {P : Program} {ops : Array Oper} {n : Nat} {Q : Exit → Act → World → Prop} {L : Fr} {a : Act} {w0 w : World} {M : Mem} {H : List Ent} {κ V : Type} [DecidableEq κ] {ek : κ → Value} {ev : V → Value} {o : Oper} {rest : List Oper} {t kt et : TypeId} {x ix y : Operand} {b : Nat} {m m2 : List (κ × V)} {k : κ} {v : V} (hm : mput m k v = m2) (hf : Frm n L a) (hp : Hp w0 M (.obj b (mapO ek ev m) :: H) w) (hw : wantedL ops L o = some true) (hr : readyL L o = true) (hd : o.dst = none)
    (ho : o.op = .mapUpdate t x ix y ∨ o.op = .insert t x ix y) (hx : Vc.ev L x = .map (some b)) (hk : Vc.ev L ix = ek k) (hv : Vc.ev L y = ev v) (ht : P.underlying t = some (.map kt et)) (K : KeyLaw P kt ek)
    (hq : ∀ w', Hp w0 M (.obj b (mapO ek ev m2) :: H) w' → ∀ a', Frm n L a' → wpList P ops Q rest a' w') : wpList P ops Q (o :: rest) a w := by
  subst hm
  exact W_mapput hf hp hw hr hd ho hx hk hv ht K hq
theorem fzObj {w0 w : World} {M : Mem} {H : List Ent} {b : Nat} {o : Obj} (h : Hp w0 M (.obj b o :: H) w) : ∃ M', M.le M' ∧ Hp w0 M' H w ∧ M' b = some o :=
  ⟨_, h.freeze.1, h.freeze.2, by simp [Mem.add]⟩
theorem rounds_go {P : Program} {Q : Exit → Act → World → Prop} {c : Code} {n : Nat} {a : Act} {w : World} (h : c.wp P (Exit.then (Code.rounds P c Q n) Q) a w) : Code.rounds P c Q (n + 1) a w := h
set_option maxRecDepth 100000 in
set_option maxHeartbeats 4000000 in
theorem all_ok (M : Mem) : Ok Tryd.prog M 42 [] (fun M' v => ∃ b0 b1 b2 b3 b4, v = .map (some b0) ∧ AllAt M' b0 b1 b2 b3 b4) := by
  intro M1 hM0 w0 H w p0
  refine R_enter 47 Tryd.func42 rfl rfl (by simp) (fun a0 f0 => ?_)
  refine R_seq ?_
  refine R_reg ?_
  refine V_run f0 1 (by kernel_rfl) (fun a_1 f_1 => ?_)
  refine W_end rfl ?_
  refine T_n ?_
  refine R_seq ?_
  refine R_reg ?_
  refine W_newmap S mapE f_1 p0 (by kernel_rfl) (by kernel_rfl) rfl rfl rfl (fun bm_1 w_1 p_1 a_2 f_2 => ?_)
  refine W_newmap S specE f_2 p_1 (by kernel_rfl) (by kernel_rfl) rfl rfl rfl (fun bm_2 w_2 p_2 a_3 f_3 => ?_)
  have p_3 := p_2.pl [1]
  refine W_mapputL (ek := S) (ev := mapE) (m := ([] : List (List UInt8 × Option Nat))) (k := [68, 105, 115, 107]) (v := some bm_2) (m2 := [([68, 105, 115, 107], some bm_2)]) (kt := 9) (et := 70) (by kernel_rfl) f_3 p_3 (by kernel_rfl) (by kernel_rfl) rfl (.inr rfl) (by kernel_rfl) (by kernel_rfl) (by kernel_rfl) (by kernel_rfl) (strKey (by kernel_rfl)) (fun w_3 p_4 a_4 f_4 => ?_)
  refine W_newmap S specE f_4 p_4 (by kernel_rfl) (by kernel_rfl) rfl rfl rfl (fun bm_3 w_4 p_5 a_5 f_5 => ?_)
  have p_6 := p_5.pl [1]
  refine W_mapputL (ek := S) (ev := mapE) (m := [([68, 105, 115, 107], some bm_2)]) (k := [78, 101, 116]) (v := some bm_3) (m2 := [([68, 105, 115, 107], some bm_2), ([78, 101, 116], some bm_3)]) (kt := 9) (et := 70) (by kernel_rfl) f_5 p_6 (by kernel_rfl) (by kernel_rfl) rfl (.inr rfl) (by kernel_rfl) (by kernel_rfl) (by kernel_rfl) (by kernel_rfl) (strKey (by kernel_rfl)) (fun w_5 p_7 a_6 f_6 => ?_)
  refine W_newmap S specE f_6 p_7 (by kernel_rfl) (by kernel_rfl) rfl rfl rfl (fun bm_4 w_6 p_8 a_7 f_7 => ?_)
  have p_9 := p_8.pl [1]
  refine W_mapputL (ek := S) (ev := mapE) (m := [([68, 105, 115, 107], some bm_2), ([78, 101, 116], some bm_3)]) (k := [78, 111, 100, 101]) (v := some bm_4) (m2 := [([68, 105, 115, 107], some bm_2), ([78, 101, 116], some bm_3), ([78, 111, 100, 101], some bm_4)]) (kt := 9) (et := 70) (by kernel_rfl) f_7 p_9 (by kernel_rfl) (by kernel_rfl) rfl (.inr rfl) (by kernel_rfl) (by kernel_rfl) (by kernel_rfl) (by kernel_rfl) (strKey (by kernel_rfl)) (fun w_7 p_10 a_8 f_8 => ?_)
  refine W_newmap S specE f_8 p_10 (by kernel_rfl) (by kernel_rfl) rfl rfl rfl (fun bm_5 w_8 p_11 a_9 f_9 => ?_)
  have p_12 := p_11.pl [1]
  refine W_mapputL (ek := S) (ev := mapE) (m := [([68, 105, 115, 107], some bm_2), ([78, 101, 116], some bm_3), ([78, 111, 100, 101], some bm_4)]) (k := [82, 117, 108, 101]) (v := some bm_5) (m2 := [([68, 105, 115, 107], some bm_2), ([78, 101, 116], some bm_3), ([78, 111, 100, 101], some bm_4), ([82, 117, 108, 101], some bm_5)]) (kt := 9) (et := 70) (by kernel_rfl) f_9 p_12 (by kernel_rfl) (by kernel_rfl) rfl (.inr rfl) (by kernel_rfl) (by kernel_rfl) (by kernel_rfl) (by kernel_rfl) (strKey (by kernel_rfl)) (fun w_9 p_13 a_10 f_10 => ?_)
  refine V_run f_10 2 (by kernel_rfl) (fun a_11 f_11 => ?_)
  refine W_end rfl ?_
  refine T_n ?_
  refine R_seq ?_
  refine R_seq ?_
  refine R_reg ?_
  refine V_run f_11 24 (by kernel_rfl) (fun a_12 f_12 => ?_)
  refine W_end rfl ?_
  refine T_n ?_
  refine wp_block ?_
  refine wp_loop_rounds 12 ?_
  refine rounds_go ?_
  refine R_seq ?_
  refine R_reg ?_
  refine V_run f_12 1 (by kernel_rfl) (fun a_13 f_13 => ?_)
  refine W_end rfl ?_
  refine T_n ?_
  refine R_seq ?_
  refine R_cond_t f_13 (by kernel_rfl) (by kernel_rfl) ?_
  refine wp_skip ?_
  refine T_n ?_
  refine R_seq ?_
  refine wp_block ?_
  refine R_seq ?_
  refine R_reg ?_
  refine V_run f_13 1 (by kernel_rfl) (fun a_14 f_14 => ?_)
  refine V_alloc f_14 p_13 (.cells #[S [], S [], .int .i8 0, .bool false] 100 (0, 0)) (by kernel_rfl) (fun _ => by kernel_rfl) (fun b_1 w_10 p_14 a_15 f_15 => ?_)
  refine W_storeN (vs := [S [68, 105, 115, 107], S [83, 105, 122, 101], .int .i8 2, .bool false]) (j := 0) f_15 p_14 (by kernel_rfl) (by kernel_rfl) rfl rfl (by kernel_rfl) (by kernel_rfl) (by simp [Value.oneCell', S]) (by kernel_rfl) (by simp) (by decide) (cs' := #[S [68, 105, 115, 107], S [83, 105, 122, 101], .int .i8 2, .bool false]) rfl (fun w_11 p_15 a_16 f_16 => ?_)
  refine W_end rfl ?_
  refine T_n ?_
  refine R_reg ?_
  refine V_run f_16 2 (by kernel_rfl) (fun a_17 f_17 => ?_)
  refine V_eq (v := S [68, 105, 115, 107]) f_17 (by kernel_rfl) (X_load1 (v := S [68, 105, 115, 107]) rfl (ad := ⟨b_1, 0, none⟩) (by kernel_rfl) (by kernel_rfl) (p_15.ownCell 0 rfl 0)) (fun a_18 f_18 => ?_)
  refine V_eq (v := .map (some bm_2)) f_18 (by kernel_rfl) (X_lookupL (ek := S) (ev := mapE) (m := [([68, 105, 115, 107], some bm_2), ([78, 101, 116], some bm_3), ([78, 111, 100, 101], some bm_4), ([82, 117, 108, 101], some bm_5)]) (k := [68, 105, 115, 107]) (z := none) (v := some bm_2) (kt := 9) (et := 70) rfl (by kernel_rfl) (by kernel_rfl) (by kernel_rfl) (strKey (by kernel_rfl)) (by kernel_rfl) (by kernel_rfl) (p_15.ownObj 1 rfl)) (fun a_19 f_19 => ?_)
  refine V_run f_19 2 (by kernel_rfl) (fun a_20 f_20 => ?_)
  refine V_eq (v := S [83, 105, 122, 101]) f_20 (by kernel_rfl) (X_load1 (v := S [83, 105, 122, 101]) rfl (ad := ⟨b_1, 1, none⟩) (by kernel_rfl) (by kernel_rfl) (p_15.ownCell 0 rfl 1)) (fun a_21 f_21 => ?_)
  refine V_run f_21 1 (by kernel_rfl) (fun a_22 f_22 => ?_)
  refine V_eq (v := .agg #[S [83, 105, 122, 101], .int .i8 2, .bool false]) f_22 (by kernel_rfl) (X_loadN (cs := [S [83, 105, 122, 101], .int .i8 2, .bool false]) rfl (ad := ⟨b_1, 1, none⟩) (by kernel_rfl) (by kernel_rfl) (own_cells (p_15.ownCell 0 rfl) 1 rfl)) (fun a_23 f_23 => ?_)
  have p_16 := p_15.pl [5]
  refine W_mapputL (ek := S) (ev := specE) (m := ([] : List (List UInt8 × T_api_Spec))) (k := [83, 105, 122, 101]) (v := ⟨[83, 105, 122, 101], 2, false⟩) (m2 := [([83, 105, 122, 101], ⟨[83, 105, 122, 101], 2, false⟩)]) (kt := 9) (et := 81) (by kernel_rfl) f_23 p_16 (by kernel_rfl) (by kernel_rfl) rfl (.inl rfl) (by kernel_rfl) (by kernel_rfl) (by kernel_rfl) (by kernel_rfl) (strKey (by kernel_rfl)) (fun w_12 p_17 a_24 f_24 => ?_)
  refine W_end rfl ?_
  refine B_n ?_
  refine T_n ?_
  refine R_reg ?_
  refine V_run f_24 2 (by kernel_rfl) (fun a_25 f_25 => ?_)
  refine W_end rfl ?_
  refine T_n ?_
  refine rounds_go ?_
  refine R_seq ?_
  refine R_reg ?_
  refine V_run f_25 1 (by kernel_rfl) (fun a_26 f_26 => ?_)
  refine W_end rfl ?_
  refine T_n ?_
  refine R_seq ?_
  refine R_cond_t f_26 (by kernel_rfl) (by kernel_rfl) ?_
  refine wp_skip ?_
  refine T_n ?_
  refine R_seq ?_
  refine wp_block ?_
  refine R_seq ?_
  refine R_reg ?_
  refine V_run f_26 1 (by kernel_rfl) (fun a_27 f_27 => ?_)
  refine V_alloc f_27 p_17 (.cells #[S [], S [], .int .i8 0, .bool false] 100 (0, 0)) (by kernel_rfl) (fun _ => by kernel_rfl) (fun b_2 w_13 p_18 a_28 f_28 => ?_)
  refine W_storeN (vs := [S [68, 105, 115, 107], S [84, 97, 103, 115], .int .i8 4, .bool false]) (j := 0) f_28 p_18 (by kernel_rfl) (by kernel_rfl) rfl rfl (by kernel_rfl) (by kernel_rfl) (by simp [Value.oneCell', S]) (by kernel_rfl) (by simp) (by decide) (cs' := #[S [68, 105, 115, 107], S [84, 97, 103, 115], .int .i8 4, .bool false]) rfl (fun w_14 p_19 a_29 f_29 => ?_)
  refine W_end rfl ?_
  refine T_n ?_
  refine R_reg ?_
  refine V_run f_29 2 (by kernel_rfl) (fun a_30 f_30 => ?_)
  refine V_eq (v := S [68, 105, 115, 107]) f_30 (by kernel_rfl) (X_load1 (v := S [68, 105, 115, 107]) rfl (ad := ⟨b_2, 0, none⟩) (by kernel_rfl) (by kernel_rfl) (p_19.ownCell 0 rfl 0)) (fun a_31 f_31 => ?_)
  refine V_eq (v := .map (some bm_2)) f_31 (by kernel_rfl) (X_lookupL (ek := S) (ev := mapE) (m := [([68, 105, 115, 107], some bm_2), ([78, 101, 116], some bm_3), ([78, 111, 100, 101], some bm_4), ([82, 117, 108, 101], some bm_5)]) (k := [68, 105, 115, 107]) (z := none) (v := some bm_2) (kt := 9) (et := 70) rfl (by kernel_rfl) (by kernel_rfl) (by kernel_rfl) (strKey (by kernel_rfl)) (by kernel_rfl) (by kernel_rfl) (p_19.ownObj 3 rfl)) (fun a_32 f_32 => ?_)
  refine V_run f_32 2 (by kernel_rfl) (fun a_33 f_33 => ?_)
  refine V_eq (v := S [84, 97, 103, 115]) f_33 (by kernel_rfl) (X_load1 (v := S [84, 97, 103, 115]) rfl (ad := ⟨b_2, 1, none⟩) (by kernel_rfl) (by kernel_rfl) (p_19.ownCell 0 rfl 1)) (fun a_34 f_34 => ?_)
  refine V_run f_34 1 (by kernel_rfl) (fun a_35 f_35 => ?_)
  refine V_eq (v := .agg #[S [84, 97, 103, 115], .int .i8 4, .bool false]) f_35 (by kernel_rfl) (X_loadN (cs := [S [84, 97, 103, 115], .int .i8 4, .bool false]) rfl (ad := ⟨b_2, 1, none⟩) (by kernel_rfl) (by kernel_rfl) (own_cells (p_19.ownCell 0 rfl) 1 rfl)) (fun a_36 f_36 => ?_)
  have p_20 := p_19.pl [1]
  refine W_mapputL (ek := S) (ev := specE) (m := [([83, 105, 122, 101], ⟨[83, 105, 122, 101], 2, false⟩)]) (k := [84, 97, 103, 115]) (v := ⟨[84, 97, 103, 115], 4, false⟩) (m2 := [([83, 105, 122, 101], ⟨[83, 105, 122, 101], 2, false⟩), ([84, 97, 103, 115], ⟨[84, 97, 103, 115], 4, false⟩)]) (kt := 9) (et := 81) (by kernel_rfl) f_36 p_20 (by kernel_rfl) (by kernel_rfl) rfl (.inl rfl) (by kernel_rfl) (by kernel_rfl) (by kernel_rfl) (by kernel_rfl) (strKey (by kernel_rfl)) (fun w_15 p_21 a_37 f_37 => ?_)
  refine W_end rfl ?_
  refine B_n ?_
  refine T_n ?_
  refine R_reg ?_
  refine V_run f_37 2 (by kernel_rfl) (fun a_38 f_38 => ?_)
  refine W_end rfl ?_
  refine T_n ?_
  refine rounds_go ?_
  refine R_seq ?_
  refine R_reg ?_
  refine V_run f_38 1 (by kernel_rfl) (fun a_39 f_39 => ?_)
  refine W_end rfl ?_
  refine T_n ?_
  refine R_seq ?_
  refine R_cond_t f_39 (by kernel_rfl) (by kernel_rfl) ?_
  refine wp_skip ?_
  refine T_n ?_
  refine R_seq ?_
  refine wp_block ?_
  refine R_seq ?_
  refine R_reg ?_
  refine V_run f_39 1 (by kernel_rfl) (fun a_40 f_40 => ?_)
  refine V_alloc f_40 p_21 (.cells #[S [], S [], .int .i8 0, .bool false] 100 (0, 0)) (by kernel_rfl) (fun _ => by kernel_rfl) (fun b_3 w_16 p_22 a_41 f_41 => ?_)
  refine W_storeN (vs := [S [68, 105, 115, 107], S [75, 105, 110, 100], .int .i8 3, .bool true]) (j := 0) f_41 p_22 (by kernel_rfl) (by kernel_rfl) rfl rfl (by kernel_rfl) (by kernel_rfl) (by simp [Value.oneCell', S]) (by kernel_rfl) (by simp) (by decide) (cs' := #[S [68, 105, 115, 107], S [75, 105, 110, 100], .int .i8 3, .bool true]) rfl (fun w_17 p_23 a_42 f_42 => ?_)
  refine W_end rfl ?_
  refine T_n ?_
  refine R_reg ?_
  refine V_run f_42 2 (by kernel_rfl) (fun a_43 f_43 => ?_)
  refine V_eq (v := S [68, 105, 115, 107]) f_43 (by kernel_rfl) (X_load1 (v := S [68, 105, 115, 107]) rfl (ad := ⟨b_3, 0, none⟩) (by kernel_rfl) (by kernel_rfl) (p_23.ownCell 0 rfl 0)) (fun a_44 f_44 => ?_)
  refine V_eq (v := .map (some bm_2)) f_44 (by kernel_rfl) (X_lookupL (ek := S) (ev := mapE) (m := [([68, 105, 115, 107], some bm_2), ([78, 101, 116], some bm_3), ([78, 111, 100, 101], some bm_4), ([82, 117, 108, 101], some bm_5)]) (k := [68, 105, 115, 107]) (z := none) (v := some bm_2) (kt := 9) (et := 70) rfl (by kernel_rfl) (by kernel_rfl) (by kernel_rfl) (strKey (by kernel_rfl)) (by kernel_rfl) (by kernel_rfl) (p_23.ownObj 4 rfl)) (fun a_45 f_45 => ?_)
  refine V_run f_45 2 (by kernel_rfl) (fun a_46 f_46 => ?_)
  refine V_eq (v := S [75, 105, 110, 100]) f_46 (by kernel_rfl) (X_load1 (v := S [75, 105, 110, 100]) rfl (ad := ⟨b_3, 1, none⟩) (by kernel_rfl) (by kernel_rfl) (p_23.ownCell 0 rfl 1)) (fun a_47 f_47 => ?_)
  refine V_run f_47 1 (by kernel_rfl) (fun a_48 f_48 => ?_)
  refine V_eq (v := .agg #[S [75, 105, 110, 100], .int .i8 3, .bool true]) f_48 (by kernel_rfl) (X_loadN (cs := [S [75, 105, 110, 100], .int .i8 3, .bool true]) rfl (ad := ⟨b_3, 1, none⟩) (by kernel_rfl) (by kernel_rfl) (own_cells (p_23.ownCell 0 rfl) 1 rfl)) (fun a_49 f_49 => ?_)
  have p_24 := p_23.pl [1]
  refine W_mapputL (ek := S) (ev := specE) (m := [([83, 105, 122, 101], ⟨[83, 105, 122, 101], 2, false⟩), ([84, 97, 103, 115], ⟨[84, 97, 103, 115], 4, false⟩)]) (k := [75, 105, 110, 100]) (v := ⟨[75, 105, 110, 100], 3, true⟩) (m2 := [([83, 105, 122, 101], ⟨[83, 105, 122, 101], 2, false⟩), ([84, 97, 103, 115], ⟨[84, 97, 103, 115], 4, false⟩), ([75, 105, 110, 100], ⟨[75, 105, 110, 100], 3, true⟩)]) (kt := 9) (et := 81) (by kernel_rfl) f_49 p_24 (by kernel_rfl) (by kernel_rfl) rfl (.inl rfl) (by kernel_rfl) (by kernel_rfl) (by kernel_rfl) (by kernel_rfl) (strKey (by kernel_rfl)) (fun w_18 p_25 a_50 f_50 => ?_)
  refine W_end rfl ?_
  refine B_n ?_
  refine T_n ?_
  refine R_reg ?_
  refine V_run f_50 2 (by kernel_rfl) (fun a_51 f_51 => ?_)
  refine W_end rfl ?_
  refine T_n ?_
  refine rounds_go ?_
  refine R_seq ?_
  refine R_reg ?_
  refine V_run f_51 1 (by kernel_rfl) (fun a_52 f_52 => ?_)
  refine W_end rfl ?_
  refine T_n ?_
  refine R_seq ?_
  refine R_cond_t f_52 (by kernel_rfl) (by kernel_rfl) ?_
  refine wp_skip ?_
  refine T_n ?_
  refine R_seq ?_
  refine wp_block ?_
  refine R_seq ?_
  refine R_reg ?_
  refine V_run f_52 1 (by kernel_rfl) (fun a_53 f_53 => ?_)
  refine V_alloc f_53 p_25 (.cells #[S [], S [], .int .i8 0, .bool false] 100 (0, 0)) (by kernel_rfl) (fun _ => by kernel_rfl) (fun b_4 w_19 p_26 a_54 f_54 => ?_)
  refine W_storeN (vs := [S [78, 101, 116], S [76, 97, 98, 101, 108], .int .i8 3, .bool false]) (j := 0) f_54 p_26 (by kernel_rfl) (by kernel_rfl) rfl rfl (by kernel_rfl) (by kernel_rfl) (by simp [Value.oneCell', S]) (by kernel_rfl) (by simp) (by decide) (cs' := #[S [78, 101, 116], S [76, 97, 98, 101, 108], .int .i8 3, .bool false]) rfl (fun w_20 p_27 a_55 f_55 => ?_)
  refine W_end rfl ?_
  refine T_n ?_
  refine R_reg ?_
  refine V_run f_55 2 (by kernel_rfl) (fun a_56 f_56 => ?_)
  refine V_eq (v := S [78, 101, 116]) f_56 (by kernel_rfl) (X_load1 (v := S [78, 101, 116]) rfl (ad := ⟨b_4, 0, none⟩) (by kernel_rfl) (by kernel_rfl) (p_27.ownCell 0 rfl 0)) (fun a_57 f_57 => ?_)
  refine V_eq (v := .map (some bm_3)) f_57 (by kernel_rfl) (X_lookupL (ek := S) (ev := mapE) (m := [([68, 105, 115, 107], some bm_2), ([78, 101, 116], some bm_3), ([78, 111, 100, 101], some bm_4), ([82, 117, 108, 101], some bm_5)]) (k := [78, 101, 116]) (z := none) (v := some bm_3) (kt := 9) (et := 70) rfl (by kernel_rfl) (by kernel_rfl) (by kernel_rfl) (strKey (by kernel_rfl)) (by kernel_rfl) (by kernel_rfl) (p_27.ownObj 5 rfl)) (fun a_58 f_58 => ?_)
  refine V_run f_58 2 (by kernel_rfl) (fun a_59 f_59 => ?_)
  refine V_eq (v := S [76, 97, 98, 101, 108]) f_59 (by kernel_rfl) (X_load1 (v := S [76, 97, 98, 101, 108]) rfl (ad := ⟨b_4, 1, none⟩) (by kernel_rfl) (by kernel_rfl) (p_27.ownCell 0 rfl 1)) (fun a_60 f_60 => ?_)
  refine V_run f_60 1 (by kernel_rfl) (fun a_61 f_61 => ?_)
  refine V_eq (v := .agg #[S [76, 97, 98, 101, 108], .int .i8 3, .bool false]) f_61 (by kernel_rfl) (X_loadN (cs := [S [76, 97, 98, 101, 108], .int .i8 3, .bool false]) rfl (ad := ⟨b_4, 1, none⟩) (by kernel_rfl) (by kernel_rfl) (own_cells (p_27.ownCell 0 rfl) 1 rfl)) (fun a_62 f_62 => ?_)
  have p_28 := p_27.pl [8]
  refine W_mapputL (ek := S) (ev := specE) (m := ([] : List (List UInt8 × T_api_Spec))) (k := [76, 97, 98, 101, 108]) (v := ⟨[76, 97, 98, 101, 108], 3, false⟩) (m2 := [([76, 97, 98, 101, 108], ⟨[76, 97, 98, 101, 108], 3, false⟩)]) (kt := 9) (et := 81) (by kernel_rfl) f_62 p_28 (by kernel_rfl) (by kernel_rfl) rfl (.inl rfl) (by kernel_rfl) (by kernel_rfl) (by kernel_rfl) (by kernel_rfl) (strKey (by kernel_rfl)) (fun w_21 p_29 a_63 f_63 => ?_)
  refine W_end rfl ?_
  refine B_n ?_
  refine T_n ?_
  refine R_reg ?_
  refine V_run f_63 2 (by kernel_rfl) (fun a_64 f_64 => ?_)
  refine W_end rfl ?_
  refine T_n ?_
  refine rounds_go ?_
  refine R_seq ?_
  refine R_reg ?_
  refine V_run f_64 1 (by kernel_rfl) (fun a_65 f_65 => ?_)
  refine W_end rfl ?_
  refine T_n ?_
  refine R_seq ?_
  refine R_cond_t f_65 (by kernel_rfl) (by kernel_rfl) ?_
  refine wp_skip ?_
  refine T_n ?_
  refine R_seq ?_
  refine wp_block ?_
  refine R_seq ?_
  refine R_reg ?_
  refine V_run f_65 1 (by kernel_rfl) (fun a_66 f_66 => ?_)
  refine V_alloc f_66 p_29 (.cells #[S [], S [], .int .i8 0, .bool false] 100 (0, 0)) (by kernel_rfl) (fun _ => by kernel_rfl) (fun b_5 w_22 p_30 a_67 f_67 => ?_)
  refine W_storeN (vs := [S [78, 101, 116], S [82, 97, 110, 103, 101], .int .i8 3, .bool true]) (j := 0) f_67 p_30 (by kernel_rfl) (by kernel_rfl) rfl rfl (by kernel_rfl) (by kernel_rfl) (by simp [Value.oneCell', S]) (by kernel_rfl) (by simp) (by decide) (cs' := #[S [78, 101, 116], S [82, 97, 110, 103, 101], .int .i8 3, .bool true]) rfl (fun w_23 p_31 a_68 f_68 => ?_)
  refine W_end rfl ?_
  refine T_n ?_
  refine R_reg ?_
  refine V_run f_68 2 (by kernel_rfl) (fun a_69 f_69 => ?_)
  refine V_eq (v := S [78, 101, 116]) f_69 (by kernel_rfl) (X_load1 (v := S [78, 101, 116]) rfl (ad := ⟨b_5, 0, none⟩) (by kernel_rfl) (by kernel_rfl) (p_31.ownCell 0 rfl 0)) (fun a_70 f_70 => ?_)
  refine V_eq (v := .map (some bm_3)) f_70 (by kernel_rfl) (X_lookupL (ek := S) (ev := mapE) (m := [([68, 105, 115, 107], some bm_2), ([78, 101, 116], some bm_3), ([78, 111, 100, 101], some bm_4), ([82, 117, 108, 101], some bm_5)]) (k := [78, 101, 116]) (z := none) (v := some bm_3) (kt := 9) (et := 70) rfl (by kernel_rfl) (by kernel_rfl) (by kernel_rfl) (strKey (by kernel_rfl)) (by kernel_rfl) (by kernel_rfl) (p_31.ownObj 7 rfl)) (fun a_71 f_71 => ?_)
  refine V_run f_71 2 (by kernel_rfl) (fun a_72 f_72 => ?_)
  refine V_eq (v := S [82, 97, 110, 103, 101]) f_72 (by kernel_rfl) (X_load1 (v := S [82, 97, 110, 103, 101]) rfl (ad := ⟨b_5, 1, none⟩) (by kernel_rfl) (by kernel_rfl) (p_31.ownCell 0 rfl 1)) (fun a_73 f_73 => ?_)
  refine V_run f_73 1 (by kernel_rfl) (fun a_74 f_74 => ?_)
  refine V_eq (v := .agg #[S [82, 97, 110, 103, 101], .int .i8 3, .bool true]) f_74 (by kernel_rfl) (X_loadN (cs := [S [82, 97, 110, 103, 101], .int .i8 3, .bool true]) rfl (ad := ⟨b_5, 1, none⟩) (by kernel_rfl) (by kernel_rfl) (own_cells (p_31.ownCell 0 rfl) 1 rfl)) (fun a_75 f_75 => ?_)
  have p_32 := p_31.pl [1]
  refine W_mapputL (ek := S) (ev := specE) (m := [([76, 97, 98, 101, 108], ⟨[76, 97, 98, 101, 108], 3, false⟩)]) (k := [82, 97, 110, 103, 101]) (v := ⟨[82, 97, 110, 103, 101], 3, true⟩) (m2 := [([76, 97, 98, 101, 108], ⟨[76, 97, 98, 101, 108], 3, false⟩), ([82, 97, 110, 103, 101], ⟨[82, 97, 110, 103, 101], 3, true⟩)]) (kt := 9) (et := 81) (by kernel_rfl) f_75 p_32 (by kernel_rfl) (by kernel_rfl) rfl (.inl rfl) (by kernel_rfl) (by kernel_rfl) (by kernel_rfl) (by kernel_rfl) (strKey (by kernel_rfl)) (fun w_24 p_33 a_76 f_76 => ?_)
  refine W_end rfl ?_
  refine B_n ?_
  refine T_n ?_
  refine R_reg ?_
  refine V_run f_76 2 (by kernel_rfl) (fun a_77 f_77 => ?_)
  refine W_end rfl ?_
  refine T_n ?_
  refine rounds_go ?_
  refine R_seq ?_
  refine R_reg ?_
  refine V_run f_77 1 (by kernel_rfl) (fun a_78 f_78 => ?_)
  refine W_end rfl ?_
  refine T_n ?_
  refine R_seq ?_
  refine R_cond_t f_78 (by kernel_rfl) (by kernel_rfl) ?_
  refine wp_skip ?_
  refine T_n ?_
  refine R_seq ?_
  refine wp_block ?_
  refine R_seq ?_
  refine R_reg ?_
  refine V_run f_78 1 (by kernel_rfl) (fun a_79 f_79 => ?_)
  refine V_alloc f_79 p_33 (.cells #[S [], S [], .int .i8 0, .bool false] 100 (0, 0)) (by kernel_rfl) (fun _ => by kernel_rfl) (fun b_6 w_25 p_34 a_80 f_80 => ?_)
  refine W_storeN (vs := [S [78, 111, 100, 101], S [67, 111, 117, 110, 116], .int .i8 2, .bool false]) (j := 0) f_80 p_34 (by kernel_rfl) (by kernel_rfl) rfl rfl (by kernel_rfl) (by kernel_rfl) (by simp [Value.oneCell', S]) (by kernel_rfl) (by simp) (by decide) (cs' := #[S [78, 111, 100, 101], S [67, 111, 117, 110, 116], .int .i8 2, .bool false]) rfl (fun w_26 p_35 a_81 f_81 => ?_)
  refine W_end rfl ?_
  refine T_n ?_
  refine R_reg ?_
  refine V_run f_81 2 (by kernel_rfl) (fun a_82 f_82 => ?_)
  refine V_eq (v := S [78, 111, 100, 101]) f_82 (by kernel_rfl) (X_load1 (v := S [78, 111, 100, 101]) rfl (ad := ⟨b_6, 0, none⟩) (by kernel_rfl) (by kernel_rfl) (p_35.ownCell 0 rfl 0)) (fun a_83 f_83 => ?_)
  refine V_eq (v := .map (some bm_4)) f_83 (by kernel_rfl) (X_lookupL (ek := S) (ev := mapE) (m := [([68, 105, 115, 107], some bm_2), ([78, 101, 116], some bm_3), ([78, 111, 100, 101], some bm_4), ([82, 117, 108, 101], some bm_5)]) (k := [78, 111, 100, 101]) (z := none) (v := some bm_4) (kt := 9) (et := 70) rfl (by kernel_rfl) (by kernel_rfl) (by kernel_rfl) (strKey (by kernel_rfl)) (by kernel_rfl) (by kernel_rfl) (p_35.ownObj 8 rfl)) (fun a_84 f_84 => ?_)
  refine V_run f_84 2 (by kernel_rfl) (fun a_85 f_85 => ?_)
  refine V_eq (v := S [67, 111, 117, 110, 116]) f_85 (by kernel_rfl) (X_load1 (v := S [67, 111, 117, 110, 116]) rfl (ad := ⟨b_6, 1, none⟩) (by kernel_rfl) (by kernel_rfl) (p_35.ownCell 0 rfl 1)) (fun a_86 f_86 => ?_)
  refine V_run f_86 1 (by kernel_rfl) (fun a_87 f_87 => ?_)
  refine V_eq (v := .agg #[S [67, 111, 117, 110, 116], .int .i8 2, .bool false]) f_87 (by kernel_rfl) (X_loadN (cs := [S [67, 111, 117, 110, 116], .int .i8 2, .bool false]) rfl (ad := ⟨b_6, 1, none⟩) (by kernel_rfl) (by kernel_rfl) (own_cells (p_35.ownCell 0 rfl) 1 rfl)) (fun a_88 f_88 => ?_)
  have p_36 := p_35.pl [10]
  refine W_mapputL (ek := S) (ev := specE) (m := ([] : List (List UInt8 × T_api_Spec))) (k := [67, 111, 117, 110, 116]) (v := ⟨[67, 111, 117, 110, 116], 2, false⟩) (m2 := [([67, 111, 117, 110, 116], ⟨[67, 111, 117, 110, 116], 2, false⟩)]) (kt := 9) (et := 81) (by kernel_rfl) f_88 p_36 (by kernel_rfl) (by kernel_rfl) rfl (.inl rfl) (by kernel_rfl) (by kernel_rfl) (by kernel_rfl) (by kernel_rfl) (strKey (by kernel_rfl)) (fun w_27 p_37 a_89 f_89 => ?_)
  refine W_end rfl ?_
  refine B_n ?_
  refine T_n ?_
  refine R_reg ?_
  refine V_run f_89 2 (by kernel_rfl) (fun a_90 f_90 => ?_)
  refine W_end rfl ?_
  refine T_n ?_
  refine rounds_go ?_
  refine R_seq ?_
  refine R_reg ?_
  refine V_run f_90 1 (by kernel_rfl) (fun a_91 f_91 => ?_)
  refine W_end rfl ?_
  refine T_n ?_
  refine R_seq ?_
  refine R_cond_t f_91 (by kernel_rfl) (by kernel_rfl) ?_
  refine wp_skip ?_
  refine T_n ?_
  refine R_seq ?_
  refine wp_block ?_
  refine R_seq ?_
  refine R_reg ?_
  refine V_run f_91 1 (by kernel_rfl) (fun a_92 f_92 => ?_)
  refine V_alloc f_92 p_37 (.cells #[S [], S [], .int .i8 0, .bool false] 100 (0, 0)) (by kernel_rfl) (fun _ => by kernel_rfl) (fun b_7 w_28 p_38 a_93 f_93 => ?_)
  refine W_storeN (vs := [S [78, 111, 100, 101], S [68, 105, 115, 107], .int .i8 3, .bool false]) (j := 0) f_93 p_38 (by kernel_rfl) (by kernel_rfl) rfl rfl (by kernel_rfl) (by kernel_rfl) (by simp [Value.oneCell', S]) (by kernel_rfl) (by simp) (by decide) (cs' := #[S [78, 111, 100, 101], S [68, 105, 115, 107], .int .i8 3, .bool false]) rfl (fun w_29 p_39 a_94 f_94 => ?_)
  refine W_end rfl ?_
  refine T_n ?_
  refine R_reg ?_
  refine V_run f_94 2 (by kernel_rfl) (fun a_95 f_95 => ?_)
  refine V_eq (v := S [78, 111, 100, 101]) f_95 (by kernel_rfl) (X_load1 (v := S [78, 111, 100, 101]) rfl (ad := ⟨b_7, 0, none⟩) (by kernel_rfl) (by kernel_rfl) (p_39.ownCell 0 rfl 0)) (fun a_96 f_96 => ?_)
  refine V_eq (v := .map (some bm_4)) f_96 (by kernel_rfl) (X_lookupL (ek := S) (ev := mapE) (m := [([68, 105, 115, 107], some bm_2), ([78, 101, 116], some bm_3), ([78, 111, 100, 101], some bm_4), ([82, 117, 108, 101], some bm_5)]) (k := [78, 111, 100, 101]) (z := none) (v := some bm_4) (kt := 9) (et := 70) rfl (by kernel_rfl) (by kernel_rfl) (by kernel_rfl) (strKey (by kernel_rfl)) (by kernel_rfl) (by kernel_rfl) (p_39.ownObj 10 rfl)) (fun a_97 f_97 => ?_)
  refine V_run f_97 2 (by kernel_rfl) (fun a_98 f_98 => ?_)
  refine V_eq (v := S [68, 105, 115, 107]) f_98 (by kernel_rfl) (X_load1 (v := S [68, 105, 115, 107]) rfl (ad := ⟨b_7, 1, none⟩) (by kernel_rfl) (by kernel_rfl) (p_39.ownCell 0 rfl 1)) (fun a_99 f_99 => ?_)
  refine V_run f_99 1 (by kernel_rfl) (fun a_100 f_100 => ?_)
  refine V_eq (v := .agg #[S [68, 105, 115, 107], .int .i8 3, .bool false]) f_100 (by kernel_rfl) (X_loadN (cs := [S [68, 105, 115, 107], .int .i8 3, .bool false]) rfl (ad := ⟨b_7, 1, none⟩) (by kernel_rfl) (by kernel_rfl) (own_cells (p_39.ownCell 0 rfl) 1 rfl)) (fun a_101 f_101 => ?_)
  have p_40 := p_39.pl [1]
  refine W_mapputL (ek := S) (ev := specE) (m := [([67, 111, 117, 110, 116], ⟨[67, 111, 117, 110, 116], 2, false⟩)]) (k := [68, 105, 115, 107]) (v := ⟨[68, 105, 115, 107], 3, false⟩) (m2 := [([67, 111, 117, 110, 116], ⟨[67, 111, 117, 110, 116], 2, false⟩), ([68, 105, 115, 107], ⟨[68, 105, 115, 107], 3, false⟩)]) (kt := 9) (et := 81) (by kernel_rfl) f_101 p_40 (by kernel_rfl) (by kernel_rfl) rfl (.inl rfl) (by kernel_rfl) (by kernel_rfl) (by kernel_rfl) (by kernel_rfl) (strKey (by kernel_rfl)) (fun w_30 p_41 a_102 f_102 => ?_)
  refine W_end rfl ?_
  refine B_n ?_
  refine T_n ?_
  refine R_reg ?_
  refine V_run f_102 2 (by kernel_rfl) (fun a_103 f_103 => ?_)
  refine W_end rfl ?_
  refine T_n ?_
  refine rounds_go ?_
  refine R_seq ?_
  refine R_reg ?_
  refine V_run f_103 1 (by kernel_rfl) (fun a_104 f_104 => ?_)
  refine W_end rfl ?_
  refine T_n ?_
  refine R_seq ?_
  refine R_cond_t f_104 (by kernel_rfl) (by kernel_rfl) ?_
  refine wp_skip ?_
  refine T_n ?_
  refine R_seq ?_
  refine wp_block ?_
  refine R_seq ?_
  refine R_reg ?_
  refine V_run f_104 1 (by kernel_rfl) (fun a_105 f_105 => ?_)
  refine V_alloc f_105 p_41 (.cells #[S [], S [], .int .i8 0, .bool false] 100 (0, 0)) (by kernel_rfl) (fun _ => by kernel_rfl) (fun b_8 w_31 p_42 a_106 f_106 => ?_)
  refine W_storeN (vs := [S [78, 111, 100, 101], S [73, 109, 97, 103, 101], .int .i8 3, .bool true]) (j := 0) f_106 p_42 (by kernel_rfl) (by kernel_rfl) rfl rfl (by kernel_rfl) (by kernel_rfl) (by simp [Value.oneCell', S]) (by kernel_rfl) (by simp) (by decide) (cs' := #[S [78, 111, 100, 101], S [73, 109, 97, 103, 101], .int .i8 3, .bool true]) rfl (fun w_32 p_43 a_107 f_107 => ?_)
  refine W_end rfl ?_
  refine T_n ?_
  refine R_reg ?_
  refine V_run f_107 2 (by kernel_rfl) (fun a_108 f_108 => ?_)
  refine V_eq (v := S [78, 111, 100, 101]) f_108 (by kernel_rfl) (X_load1 (v := S [78, 111, 100, 101]) rfl (ad := ⟨b_8, 0, none⟩) (by kernel_rfl) (by kernel_rfl) (p_43.ownCell 0 rfl 0)) (fun a_109 f_109 => ?_)
  refine V_eq (v := .map (some bm_4)) f_109 (by kernel_rfl) (X_lookupL (ek := S) (ev := mapE) (m := [([68, 105, 115, 107], some bm_2), ([78, 101, 116], some bm_3), ([78, 111, 100, 101], some bm_4), ([82, 117, 108, 101], some bm_5)]) (k := [78, 111, 100, 101]) (z := none) (v := some bm_4) (kt := 9) (et := 70) rfl (by kernel_rfl) (by kernel_rfl) (by kernel_rfl) (strKey (by kernel_rfl)) (by kernel_rfl) (by kernel_rfl) (p_43.ownObj 11 rfl)) (fun a_110 f_110 => ?_)
  refine V_run f_110 2 (by kernel_rfl) (fun a_111 f_111 => ?_)
  refine V_eq (v := S [73, 109, 97, 103, 101]) f_111 (by kernel_rfl) (X_load1 (v := S [73, 109, 97, 103, 101]) rfl (ad := ⟨b_8, 1, none⟩) (by kernel_rfl) (by kernel_rfl) (p_43.ownCell 0 rfl 1)) (fun a_112 f_112 => ?_)
  refine V_run f_112 1 (by kernel_rfl) (fun a_113 f_113 => ?_)
  refine V_eq (v := .agg #[S [73, 109, 97, 103, 101], .int .i8 3, .bool true]) f_113 (by kernel_rfl) (X_loadN (cs := [S [73, 109, 97, 103, 101], .int .i8 3, .bool true]) rfl (ad := ⟨b_8, 1, none⟩) (by kernel_rfl) (by kernel_rfl) (own_cells (p_43.ownCell 0 rfl) 1 rfl)) (fun a_114 f_114 => ?_)
  have p_44 := p_43.pl [1]
  refine W_mapputL (ek := S) (ev := specE) (m := [([67, 111, 117, 110, 116], ⟨[67, 111, 117, 110, 116], 2, false⟩), ([68, 105, 115, 107], ⟨[68, 105, 115, 107], 3, false⟩)]) (k := [73, 109, 97, 103, 101]) (v := ⟨[73, 109, 97, 103, 101], 3, true⟩) (m2 := [([67, 111, 117, 110, 116], ⟨[67, 111, 117, 110, 116], 2, false⟩), ([68, 105, 115, 107], ⟨[68, 105, 115, 107], 3, false⟩), ([73, 109, 97, 103, 101], ⟨[73, 109, 97, 103, 101], 3, true⟩)]) (kt := 9) (et := 81) (by kernel_rfl) f_114 p_44 (by kernel_rfl) (by kernel_rfl) rfl (.inl rfl) (by kernel_rfl) (by kernel_rfl) (by kernel_rfl) (by kernel_rfl) (strKey (by kernel_rfl)) (fun w_33 p_45 a_115 f_115 => ?_)
  refine W_end rfl ?_
  refine B_n ?_
  refine T_n ?_
  refine R_reg ?_
  refine V_run f_115 2 (by kernel_rfl) (fun a_116 f_116 => ?_)
  refine W_end rfl ?_
  refine T_n ?_
  refine rounds_go ?_
  refine R_seq ?_
  refine R_reg ?_
  refine V_run f_116 1 (by kernel_rfl) (fun a_117 f_117 => ?_)
  refine W_end rfl ?_
  refine T_n ?_
  refine R_seq ?_
  refine R_cond_t f_117 (by kernel_rfl) (by kernel_rfl) ?_
  refine wp_skip ?_
  refine T_n ?_
  refine R_seq ?_
  refine wp_block ?_
  refine R_seq ?_
  refine R_reg ?_
  refine V_run f_117 1 (by kernel_rfl) (fun a_118 f_118 => ?_)
  refine V_alloc f_118 p_45 (.cells #[S [], S [], .int .i8 0, .bool false] 100 (0, 0)) (by kernel_rfl) (fun _ => by kernel_rfl) (fun b_9 w_34 p_46 a_119 f_119 => ?_)
  refine W_storeN (vs := [S [78, 111, 100, 101], S [78, 101, 116], .int .i8 3, .bool true]) (j := 0) f_119 p_46 (by kernel_rfl) (by kernel_rfl) rfl rfl (by kernel_rfl) (by kernel_rfl) (by simp [Value.oneCell', S]) (by kernel_rfl) (by simp) (by decide) (cs' := #[S [78, 111, 100, 101], S [78, 101, 116], .int .i8 3, .bool true]) rfl (fun w_35 p_47 a_120 f_120 => ?_)
  refine W_end rfl ?_
  refine T_n ?_
  refine R_reg ?_
  refine V_run f_120 2 (by kernel_rfl) (fun a_121 f_121 => ?_)
  refine V_eq (v := S [78, 111, 100, 101]) f_121 (by kernel_rfl) (X_load1 (v := S [78, 111, 100, 101]) rfl (ad := ⟨b_9, 0, none⟩) (by kernel_rfl) (by kernel_rfl) (p_47.ownCell 0 rfl 0)) (fun a_122 f_122 => ?_)
  refine V_eq (v := .map (some bm_4)) f_122 (by kernel_rfl) (X_lookupL (ek := S) (ev := mapE) (m := [([68, 105, 115, 107], some bm_2), ([78, 101, 116], some bm_3), ([78, 111, 100, 101], some bm_4), ([82, 117, 108, 101], some bm_5)]) (k := [78, 111, 100, 101]) (z := none) (v := some bm_4) (kt := 9) (et := 70) rfl (by kernel_rfl) (by kernel_rfl) (by kernel_rfl) (strKey (by kernel_rfl)) (by kernel_rfl) (by kernel_rfl) (p_47.ownObj 12 rfl)) (fun a_123 f_123 => ?_)
  refine V_run f_123 2 (by kernel_rfl) (fun a_124 f_124 => ?_)
  refine V_eq (v := S [78, 101, 116]) f_124 (by kernel_rfl) (X_load1 (v := S [78, 101, 116]) rfl (ad := ⟨b_9, 1, none⟩) (by kernel_rfl) (by kernel_rfl) (p_47.ownCell 0 rfl 1)) (fun a_125 f_125 => ?_)
  refine V_run f_125 1 (by kernel_rfl) (fun a_126 f_126 => ?_)
  refine V_eq (v := .agg #[S [78, 101, 116], .int .i8 3, .bool true]) f_126 (by kernel_rfl) (X_loadN (cs := [S [78, 101, 116], .int .i8 3, .bool true]) rfl (ad := ⟨b_9, 1, none⟩) (by kernel_rfl) (by kernel_rfl) (own_cells (p_47.ownCell 0 rfl) 1 rfl)) (fun a_127 f_127 => ?_)
  have p_48 := p_47.pl [1]
  refine W_mapputL (ek := S) (ev := specE) (m := [([67, 111, 117, 110, 116], ⟨[67, 111, 117, 110, 116], 2, false⟩), ([68, 105, 115, 107], ⟨[68, 105, 115, 107], 3, false⟩), ([73, 109, 97, 103, 101], ⟨[73, 109, 97, 103, 101], 3, true⟩)]) (k := [78, 101, 116]) (v := ⟨[78, 101, 116], 3, true⟩) (m2 := [([67, 111, 117, 110, 116], ⟨[67, 111, 117, 110, 116], 2, false⟩), ([68, 105, 115, 107], ⟨[68, 105, 115, 107], 3, false⟩), ([73, 109, 97, 103, 101], ⟨[73, 109, 97, 103, 101], 3, true⟩), ([78, 101, 116], ⟨[78, 101, 116], 3, true⟩)]) (kt := 9) (et := 81) (by kernel_rfl) f_127 p_48 (by kernel_rfl) (by kernel_rfl) rfl (.inl rfl) (by kernel_rfl) (by kernel_rfl) (by kernel_rfl) (by kernel_rfl) (strKey (by kernel_rfl)) (fun w_36 p_49 a_128 f_128 => ?_)
  refine W_end rfl ?_
  refine B_n ?_
  refine T_n ?_
  refine R_reg ?_
  refine V_run f_128 2 (by kernel_rfl) (fun a_129 f_129 => ?_)
  refine W_end rfl ?_
  refine T_n ?_
  refine rounds_go ?_
  refine R_seq ?_
  refine R_reg ?_
  refine V_run f_129 1 (by kernel_rfl) (fun a_130 f_130 => ?_)
  refine W_end rfl ?_
  refine T_n ?_
  refine R_seq ?_
  refine R_cond_t f_130 (by kernel_rfl) (by kernel_rfl) ?_
  refine wp_skip ?_
  refine T_n ?_
  refine R_seq ?_
  refine wp_block ?_
  refine R_seq ?_
  refine R_reg ?_
  refine V_run f_130 1 (by kernel_rfl) (fun a_131 f_131 => ?_)
  refine V_alloc f_131 p_49 (.cells #[S [], S [], .int .i8 0, .bool false] 100 (0, 0)) (by kernel_rfl) (fun _ => by kernel_rfl) (fun b_10 w_37 p_50 a_132 f_132 => ?_)
  refine W_storeN (vs := [S [82, 117, 108, 101], S [78, 111, 100, 101], .int .i8 3, .bool false]) (j := 0) f_132 p_50 (by kernel_rfl) (by kernel_rfl) rfl rfl (by kernel_rfl) (by kernel_rfl) (by simp [Value.oneCell', S]) (by kernel_rfl) (by simp) (by decide) (cs' := #[S [82, 117, 108, 101], S [78, 111, 100, 101], .int .i8 3, .bool false]) rfl (fun w_38 p_51 a_133 f_133 => ?_)
  refine W_end rfl ?_
  refine T_n ?_
  refine R_reg ?_
  refine V_run f_133 2 (by kernel_rfl) (fun a_134 f_134 => ?_)
  refine V_eq (v := S [82, 117, 108, 101]) f_134 (by kernel_rfl) (X_load1 (v := S [82, 117, 108, 101]) rfl (ad := ⟨b_10, 0, none⟩) (by kernel_rfl) (by kernel_rfl) (p_51.ownCell 0 rfl 0)) (fun a_135 f_135 => ?_)
  refine V_eq (v := .map (some bm_5)) f_135 (by kernel_rfl) (X_lookupL (ek := S) (ev := mapE) (m := [([68, 105, 115, 107], some bm_2), ([78, 101, 116], some bm_3), ([78, 111, 100, 101], some bm_4), ([82, 117, 108, 101], some bm_5)]) (k := [82, 117, 108, 101]) (z := none) (v := some bm_5) (kt := 9) (et := 70) rfl (by kernel_rfl) (by kernel_rfl) (by kernel_rfl) (strKey (by kernel_rfl)) (by kernel_rfl) (by kernel_rfl) (p_51.ownObj 13 rfl)) (fun a_136 f_136 => ?_)
  refine V_run f_136 2 (by kernel_rfl) (fun a_137 f_137 => ?_)
  refine V_eq (v := S [78, 111, 100, 101]) f_137 (by kernel_rfl) (X_load1 (v := S [78, 111, 100, 101]) rfl (ad := ⟨b_10, 1, none⟩) (by kernel_rfl) (by kernel_rfl) (p_51.ownCell 0 rfl 1)) (fun a_138 f_138 => ?_)
  refine V_run f_138 1 (by kernel_rfl) (fun a_139 f_139 => ?_)
  refine V_eq (v := .agg #[S [78, 111, 100, 101], .int .i8 3, .bool false]) f_139 (by kernel_rfl) (X_loadN (cs := [S [78, 111, 100, 101], .int .i8 3, .bool false]) rfl (ad := ⟨b_10, 1, none⟩) (by kernel_rfl) (by kernel_rfl) (own_cells (p_51.ownCell 0 rfl) 1 rfl)) (fun a_140 f_140 => ?_)
  have p_52 := p_51.pl [14]
  refine W_mapputL (ek := S) (ev := specE) (m := ([] : List (List UInt8 × T_api_Spec))) (k := [78, 111, 100, 101]) (v := ⟨[78, 111, 100, 101], 3, false⟩) (m2 := [([78, 111, 100, 101], ⟨[78, 111, 100, 101], 3, false⟩)]) (kt := 9) (et := 81) (by kernel_rfl) f_140 p_52 (by kernel_rfl) (by kernel_rfl) rfl (.inl rfl) (by kernel_rfl) (by kernel_rfl) (by kernel_rfl) (by kernel_rfl) (strKey (by kernel_rfl)) (fun w_39 p_53 a_141 f_141 => ?_)
  refine W_end rfl ?_
  refine B_n ?_
  refine T_n ?_
  refine R_reg ?_
  refine V_run f_141 2 (by kernel_rfl) (fun a_142 f_142 => ?_)
  refine W_end rfl ?_
  refine T_n ?_
  refine rounds_go ?_
  refine R_seq ?_
  refine R_reg ?_
  refine V_run f_142 1 (by kernel_rfl) (fun a_143 f_143 => ?_)
  refine W_end rfl ?_
  refine T_n ?_
  refine R_seq ?_
  refine R_cond_t f_143 (by kernel_rfl) (by kernel_rfl) ?_
  refine wp_skip ?_
  refine T_n ?_
  refine R_seq ?_
  refine wp_block ?_
  refine R_seq ?_
  refine R_reg ?_
  refine V_run f_143 1 (by kernel_rfl) (fun a_144 f_144 => ?_)
  refine V_alloc f_144 p_53 (.cells #[S [], S [], .int .i8 0, .bool false] 100 (0, 0)) (by kernel_rfl) (fun _ => by kernel_rfl) (fun b_11 w_40 p_54 a_145 f_145 => ?_)
  refine W_storeN (vs := [S [82, 117, 108, 101], S [80, 111, 114, 116], .int .i8 2, .bool true]) (j := 0) f_145 p_54 (by kernel_rfl) (by kernel_rfl) rfl rfl (by kernel_rfl) (by kernel_rfl) (by simp [Value.oneCell', S]) (by kernel_rfl) (by simp) (by decide) (cs' := #[S [82, 117, 108, 101], S [80, 111, 114, 116], .int .i8 2, .bool true]) rfl (fun w_41 p_55 a_146 f_146 => ?_)
  refine W_end rfl ?_
  refine T_n ?_
  refine R_reg ?_
  refine V_run f_146 2 (by kernel_rfl) (fun a_147 f_147 => ?_)
  refine V_eq (v := S [82, 117, 108, 101]) f_147 (by kernel_rfl) (X_load1 (v := S [82, 117, 108, 101]) rfl (ad := ⟨b_11, 0, none⟩) (by kernel_rfl) (by kernel_rfl) (p_55.ownCell 0 rfl 0)) (fun a_148 f_148 => ?_)
  refine V_eq (v := .map (some bm_5)) f_148 (by kernel_rfl) (X_lookupL (ek := S) (ev := mapE) (m := [([68, 105, 115, 107], some bm_2), ([78, 101, 116], some bm_3), ([78, 111, 100, 101], some bm_4), ([82, 117, 108, 101], some bm_5)]) (k := [82, 117, 108, 101]) (z := none) (v := some bm_5) (kt := 9) (et := 70) rfl (by kernel_rfl) (by kernel_rfl) (by kernel_rfl) (strKey (by kernel_rfl)) (by kernel_rfl) (by kernel_rfl) (p_55.ownObj 15 rfl)) (fun a_149 f_149 => ?_)
  refine V_run f_149 2 (by kernel_rfl) (fun a_150 f_150 => ?_)
  refine V_eq (v := S [80, 111, 114, 116]) f_150 (by kernel_rfl) (X_load1 (v := S [80, 111, 114, 116]) rfl (ad := ⟨b_11, 1, none⟩) (by kernel_rfl) (by kernel_rfl) (p_55.ownCell 0 rfl 1)) (fun a_151 f_151 => ?_)
  refine V_run f_151 1 (by kernel_rfl) (fun a_152 f_152 => ?_)
  refine V_eq (v := .agg #[S [80, 111, 114, 116], .int .i8 2, .bool true]) f_152 (by kernel_rfl) (X_loadN (cs := [S [80, 111, 114, 116], .int .i8 2, .bool true]) rfl (ad := ⟨b_11, 1, none⟩) (by kernel_rfl) (by kernel_rfl) (own_cells (p_55.ownCell 0 rfl) 1 rfl)) (fun a_153 f_153 => ?_)
  have p_56 := p_55.pl [1]
  refine W_mapputL (ek := S) (ev := specE) (m := [([78, 111, 100, 101], ⟨[78, 111, 100, 101], 3, false⟩)]) (k := [80, 111, 114, 116]) (v := ⟨[80, 111, 114, 116], 2, true⟩) (m2 := [([78, 111, 100, 101], ⟨[78, 111, 100, 101], 3, false⟩), ([80, 111, 114, 116], ⟨[80, 111, 114, 116], 2, true⟩)]) (kt := 9) (et := 81) (by kernel_rfl) f_153 p_56 (by kernel_rfl) (by kernel_rfl) rfl (.inl rfl) (by kernel_rfl) (by kernel_rfl) (by kernel_rfl) (by kernel_rfl) (strKey (by kernel_rfl)) (fun w_42 p_57 a_154 f_154 => ?_)
  refine W_end rfl ?_
  refine B_n ?_
  refine T_n ?_
  refine R_reg ?_
  refine V_run f_154 2 (by kernel_rfl) (fun a_155 f_155 => ?_)
  refine W_end rfl ?_
  refine T_n ?_
  refine rounds_go ?_
  refine R_seq ?_
  refine R_reg ?_
  refine V_run f_155 1 (by kernel_rfl) (fun a_156 f_156 => ?_)
  refine W_end rfl ?_
  refine T_n ?_
  refine R_seq ?_
  refine R_cond_f f_156 (by kernel_rfl) (by kernel_rfl) ?_
  refine wp_exit ?_
  refine T_x ?_
  refine T_x ?_
  refine B_x ?_
  refine T_n ?_
  refine R_seq ?_
  refine R_reg ?_
  refine V_run f_156 2 (by kernel_rfl) (fun a_157 f_157 => ?_)
  refine W_end rfl ?_
  refine T_n ?_
  refine wp_ret ?_
  have p_58 := p_57.pl [15]
  obtain ⟨M_1, hM_1, p_59, h_1⟩ := fzObj p_58
  have p_60 := p_59.pl [11]
  obtain ⟨M_2, hM_2, p_61, h_2⟩ := fzObj p_60
  have p_62 := p_61.pl [8]
  obtain ⟨M_3, hM_3, p_63, h_3⟩ := fzObj p_62
  have p_64 := p_63.pl [3]
  obtain ⟨M_4, hM_4, p_65, h_4⟩ := fzObj p_64
  obtain ⟨M_5, hM_5, p_66, h_5⟩ := fzObj p_65
  refine E_ret1 f_157 rfl (by kernel_rfl : Vc.look _ 0 = some (.map (some bm_1))) ?_
  exact ⟨_, rfl, M_5, ((((hM_1.trans hM_2).trans hM_3).trans hM_4).trans hM_5), (p_66.dropN 11), bm_1, bm_2, bm_3, bm_4, bm_5, rfl, ⟨((((hM_2.trans hM_3).trans hM_4).trans hM_5) _ _ h_1), (((hM_3.trans hM_4).trans hM_5) _ _ h_2), ((hM_4.trans hM_5) _ _ h_3), (hM_5 _ _ h_4), h_5⟩⟩
end Go.Proofs.YtalifkcchfkgmaaDoor
