/-
  The order of byte strings, and the closure of tree.order. Own work.
-/
import Derived.Test.YtalifkcchfkgmaaDoorHd
import Derived.Test.YtalifkcchfkgmaaDoorTy
import Derived.Lib.Bytealg
namespace Go.Proofs.YtalifkcchfkgmaaDoor
open Go Go.Vc Go.RowKit

/-! ### compareBytes -/
theorem cb_self : ∀ a : List UInt8, Lib.compareBytes a a = 0
  | [] => rfl
  | x :: r => by simp [Lib.compareBytes, cb_self r]
theorem cb_eq : ∀ a b : List UInt8, Lib.compareBytes a b = 0 → a = b
  | [], [], _ => rfl
  | [], _ :: _, h => by simp [Lib.compareBytes] at h
  | _ :: _, [], h => by simp [Lib.compareBytes] at h
  | x :: r, y :: s, h => by
    unfold Lib.compareBytes at h
    by_cases h1 : x < y
    · simp [h1] at h
    · by_cases h2 : y < x
      · simp [h1, h2] at h
      · simp only [h1, h2, if_false] at h
        have hxy : x = y := UInt8.toNat_inj.1 (by rw [UInt8.lt_iff_toNat_lt] at h1 h2; omega)
        rw [hxy, cb_eq r s h]
theorem cb_anti : ∀ a b : List UInt8, Lib.compareBytes b a = - Lib.compareBytes a b
  | [], [] => rfl
  | [], _ :: _ => rfl
  | _ :: _, [] => rfl
  | x :: r, y :: s => by
    unfold Lib.compareBytes
    by_cases h1 : x < y
    · have h2 : ¬ y < x := by rw [UInt8.lt_iff_toNat_lt] at h1 ⊢; omega
      simp [h1, h2]
    · by_cases h2 : y < x
      · simp [h1, h2]
      · simp [h1, h2, cb_anti r s]
theorem cb_trans : ∀ a b c : List UInt8, Lib.compareBytes a b ≤ 0 → Lib.compareBytes b c ≤ 0 → Lib.compareBytes a c ≤ 0 ∧ (Lib.compareBytes a b < 0 ∨ Lib.compareBytes b c < 0 → Lib.compareBytes a c < 0)
  | [], [], c, h1, h2 => ⟨h2, fun h => h.elim (fun h => absurd h (by simp [Lib.compareBytes])) id⟩
  | [], _ :: _, [], h1, h2 => absurd h2 (by simp [Lib.compareBytes])
  | [], _ :: _, _ :: _, h1, h2 => by simp [Lib.compareBytes]
  | _ :: _, [], _, h1, h2 => absurd h1 (by simp [Lib.compareBytes])
  | _ :: _, _ :: _, [], h1, h2 => absurd h2 (by simp [Lib.compareBytes])
  | x :: r, y :: s, z :: t, h1, h2 => by
    have ih := cb_trans r s t
    unfold Lib.compareBytes at h1 h2 ⊢
    by_cases a1 : x < y
    · by_cases b1 : y < z
      · have : x < z := by rw [UInt8.lt_iff_toNat_lt] at *; omega
        simp [this]
      · by_cases b2 : z < y
        · simp [b1, b2] at h2
        · have : x < z := by rw [UInt8.lt_iff_toNat_lt] at *; omega
          simp [this]
    · by_cases a2 : y < x
      · simp [a1, a2] at h1
      · have hxy : x = y := UInt8.toNat_inj.1 (by rw [UInt8.lt_iff_toNat_lt] at a1 a2; omega)
        subst hxy
        by_cases b1 : x < z
        · simp [b1]
        · by_cases b2 : z < x
          · simp [b1, b2] at h2
          · simp only [a1, b1, b2, if_false] at h1 h2 ⊢
            exact ih h1 h2

theorem repInts {M : Mem} {k : IntKind} : ∀ {d : List Int} {cs : List Value}, RepSeq M (d.map (Dat.int k)) cs → cs = d.map (Value.int k)
  | [], cs, h => h
  | x :: r, cs, h => by
    obtain ⟨c1, c2, rfl, h1, h2⟩ := h
    have h1' : c1 = [.int k x] := h1
    rw [h1', repInts h2]
    rfl
theorem intsRep {M : Mem} {k : IntKind} : ∀ d : List Int, RepSeq M (d.map (Dat.int k)) (d.map (Value.int k))
  | [] => rfl
  | x :: r => ⟨[.int k x], r.map (Value.int k), rfl, rfl, intsRep r⟩

section
variable {P : Program} {ops : Array Oper} {K : Act → Prop} {C : World → Prop} {L : Fr} {n : Nat} {dd : List Deferred} {a : Act}
/-- A call that leaves the world as it was, in a region that draws. -/
theorem Q_pure {o : Oper} {rest : List Oper} {d : Nat} {f : FuncId} {args : List Value} {v : Value} (hf : Frm n L a dd) (hw : wantedL ops L o = some true) (hr : readyL L o = true)
    (hd : o.dst = some d) (hdn : Nat.blt d n = true) (hx : ∀ w, (execOp (ev L) o).run P w = .ok (.enter f args.toArray) w) (hc : ∀ w, Calls P f args.toArray w fun e w' => e = .returned v ∧ w' = w)
    (hk : ∀ a', Frm n ((d, v) :: L) a' dd → wpQuiet P ops C K rest a') : wpQuiet P ops C K (o :: rest) a := by
  simp only [wpQuiet]
  rw [hf.wanted hw, if_pos rfl]
  refine ⟨v, fun w hC => ?_, ?_⟩
  · unfold Oper.quietAt
    rw [hf.exec hr, hx w]
    exact ⟨rfl, (hc w).mono fun e w' ⟨he, hw'⟩ => ⟨he, hw' ▸ hC⟩⟩
  · rw [hd]; exact hk _ (hf.put (by simpa [Nat.blt_eq] using hdn) v)
end

set_option maxRecDepth 100000 in
theorem order1_calls {w0 : World} {M : Mem} {H : List Ent} {W : World} (hp : Hp w0 M H W) {bA ad0 : Addr} {v : T_api_Value} {c0 : List Value} (h0 : Rep M (emb_T_api_Value v) c0) (q0 : ∀ j u, c0[j]? = some u → M.cell? (ad0.add j) = some u)
    (hb : M.cell? bA = some (.pointer (some ad0))) (x y : Int) (kx ky : List UInt8) (hx : getI v.fKeys x = some kx) (hy : getI v.fKeys y = some ky) :
    Calls Tryd.prog 115 [.int .i64 x, .int .i64 y, .pointer (some bA)].toArray W fun e w' => e = .returned (.int .i64 (Lib.compareBytes kx ky)) ∧ ∃ q, w' = W.drewN q := by
  obtain ⟨A_1, cap_1, A_2, cap_2, rfl, h_1, h_2⟩ := T_api_Value.opn h0
  refine R_enter 21 Tryd.func115 rfl rfl (by simp) (fun a0 f0 => ?_)
  replace f0 : Frm 21 [(0, .int .i64 x), (1, .int .i64 y), (2, .pointer (some bA))] a0 := f0
  refine R_seq ?_
  refine R_reg ?_
  refine W_run (L' := [(0, .int .i64 x), (1, .int .i64 y), (2, .pointer (some bA)), (5, .int .i64 0)]) (w' := W) f0 1 [0, 1, 2, 5] (by kernel_rfl) (fun a_1 f_1 => ?_)
  refine W_end rfl ?_
  refine T_n ?_
  refine R_seq ?_
  refine wp_region_quiet (C := fun w' => ∃ n, w' = W.drewN n) (by kernel_rfl) (by kernel_rfl) ⟨1, rfl⟩ ?_
  refine Q_eq (v := .pointer (some ad0)) f_1 (by kernel_rfl) (by kernel_rfl) rfl rfl (fun _ pq => by obtain ⟨n, rfl⟩ := pq; exact X_load1 (v := .pointer (some ad0)) rfl (ad := bA) (by kernel_rfl) (by kernel_rfl) ((hp.drewN n).cell hb)) (fun a_2 f_2 => ?_)
  refine Q_eq (v := .pointer (some ad0)) f_2 (by kernel_rfl) (by kernel_rfl) rfl rfl (fun _ _ => by kernel_rfl) (fun a_3 f_3 => ?_)
  refine Q_eq (v := .pointer (some (ad0.add 5))) f_3 (by kernel_rfl) (by kernel_rfl) rfl rfl (fun _ _ => by kernel_rfl) (fun a_4 f_4 => ?_)
  refine Q_eq (v := .slice A_2 v.fKeys.length cap_2) f_4 (by kernel_rfl) (by kernel_rfl) rfl rfl (fun _ pq => by obtain ⟨n, rfl⟩ := pq; exact X_load1 (v := .slice A_2 v.fKeys.length cap_2) rfl (ad := ad0.add 5) (by kernel_rfl) (by kernel_rfl) ((hp.drewN n).cell (q0 5 _ rfl))) (fun a_5 f_5 => ?_)
  refine Q_eq (v := .int .i64 x) f_5 (by kernel_rfl) (by kernel_rfl) rfl rfl (fun _ _ => by kernel_rfl) (fun a_6 f_6 => ?_)
  obtain ⟨ad_1, c_1, e_1, hl_1, hr_1, hc_1⟩ := Sli.at_ h_2 hx
  obtain rfl : c_1 = [S kx] := hr_1
  refine Q_eq (v := .pointer (some (ad_1.add (x.toNat * 1)))) f_6 (by kernel_rfl) (by kernel_rfl) rfl rfl (fun _ pq => X_indexAddrA e_1 rfl (len := v.fKeys.length) (cap := cap_2) (k := .i64) (i := x) (by kernel_rfl) (by kernel_rfl) (e := 9) (by kernel_rfl) (sz := 1) (by kernel_rfl) (getI_nn hx) (getI_lt hx)) (fun a_7 f_7 => ?_)
  refine Q_eq (v := S kx) f_7 (by kernel_rfl) (by kernel_rfl) rfl rfl (fun _ pq => by obtain ⟨n, rfl⟩ := pq; exact X_load1 (v := S kx) rfl (ad := ad_1.add (x.toNat * 1)) (by kernel_rfl) (by kernel_rfl) ((hp.drewN n).cell (hc_1 0 _ rfl))) (fun a_8 f_8 => ?_)
  refine Q_eq (v := .pointer (some ad0)) f_8 (by kernel_rfl) (by kernel_rfl) rfl rfl (fun _ pq => by obtain ⟨n, rfl⟩ := pq; exact X_load1 (v := .pointer (some ad0)) rfl (ad := bA) (by kernel_rfl) (by kernel_rfl) ((hp.drewN n).cell hb)) (fun a_9 f_9 => ?_)
  refine Q_eq (v := .pointer (some ad0)) f_9 (by kernel_rfl) (by kernel_rfl) rfl rfl (fun _ _ => by kernel_rfl) (fun a_10 f_10 => ?_)
  refine Q_eq (v := .pointer (some (ad0.add 5))) f_10 (by kernel_rfl) (by kernel_rfl) rfl rfl (fun _ _ => by kernel_rfl) (fun a_11 f_11 => ?_)
  refine Q_eq (v := .slice A_2 v.fKeys.length cap_2) f_11 (by kernel_rfl) (by kernel_rfl) rfl rfl (fun _ pq => by obtain ⟨n, rfl⟩ := pq; exact X_load1 (v := .slice A_2 v.fKeys.length cap_2) rfl (ad := ad0.add 5) (by kernel_rfl) (by kernel_rfl) ((hp.drewN n).cell (q0 5 _ rfl))) (fun a_12 f_12 => ?_)
  refine Q_eq (v := .int .i64 y) f_12 (by kernel_rfl) (by kernel_rfl) rfl rfl (fun _ _ => by kernel_rfl) (fun a_13 f_13 => ?_)
  obtain ⟨ad_2, c_2, e_2, hl_2, hr_2, hc_2⟩ := Sli.at_ h_2 hy
  obtain rfl : c_2 = [S ky] := hr_2
  refine Q_eq (v := .pointer (some (ad_2.add (y.toNat * 1)))) f_13 (by kernel_rfl) (by kernel_rfl) rfl rfl (fun _ pq => X_indexAddrA e_2 rfl (len := v.fKeys.length) (cap := cap_2) (k := .i64) (i := y) (by kernel_rfl) (by kernel_rfl) (e := 9) (by kernel_rfl) (sz := 1) (by kernel_rfl) (getI_nn hy) (getI_lt hy)) (fun a_14 f_14 => ?_)
  refine Q_eq (v := S ky) f_14 (by kernel_rfl) (by kernel_rfl) rfl rfl (fun _ pq => by obtain ⟨n, rfl⟩ := pq; exact X_load1 (v := S ky) rfl (ad := ad_2.add (y.toNat * 1)) (by kernel_rfl) (by kernel_rfl) ((hp.drewN n).cell (hc_2 0 _ rfl))) (fun a_15 f_15 => ?_)
  refine Q_pure (v := .int .i64 (Lib.compareBytes kx ky)) (args := [S kx, S ky]) f_15 (by kernel_rfl) (by kernel_rfl) rfl rfl (fun _ => by kernel_rfl) (fun w => Tryd.strings_Compare (mkS kx) (mkS ky) w) (fun a_16 f_16 => ?_)
  refine Q_eq (v := .int .i64 (Lib.compareBytes kx ky)) f_16 (by kernel_rfl) (by kernel_rfl) rfl rfl (fun _ _ => by kernel_rfl) (fun a_17 f_17 => ?_)
  refine Q_end rfl ?_
  rintro w' ⟨q, rfl⟩
  refine T_n ?_
  refine wp_ret ?_
  refine E_ret1 f_17 rfl (by kernel_rfl : Vc.look _ 5 = some (.int .i64 (Lib.compareBytes kx ky))) ?_
  exact ⟨rfl, q, rfl⟩
end Go.Proofs.YtalifkcchfkgmaaDoor
