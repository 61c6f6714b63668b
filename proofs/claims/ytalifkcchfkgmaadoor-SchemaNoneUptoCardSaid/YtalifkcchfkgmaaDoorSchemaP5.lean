/-
  Chapter 9, plainly: schema.Same's parts. Own work.
-/
import Derived.Test.YtalifkcchfkgmaaDoorSchemaP4
import Derived.Test.YtalifkcchfkgmaaDoorS4
set_option linter.unusedVariables false
set_option linter.unusedSimpArgs false
namespace Go.Proofs.YtalifkcchfkgmaaDoor
open Go Go.Vc Go.RowKit
noncomputable instance decV : DecidableEq T_api_Value := fun a b => Classical.propDecidable _
theorem eqs_run {n : Nat} (hn : 6000 < n) {xs ys : List (List UInt8)} (hl : xs.length ≤ 6000) : slices_Equalstring_string n xs ys = some (decide (xs = ys)) := by
  unfold slices_Equalstring_string
  by_cases h : xs.length = ys.length
  · have h' : ((xs.length : Nat) : Int) = ((ys.length : Nat) : Int) := by omega
    rw [decide_eq_true h', Bool.not_true, cF]
    have := loop_any (n := n) (step := slices_Equalstring_string_s1 n xs ys) (fun k => !decide (xs.getD k [] = ys.getD k [])) xs.length (.inl ()) (.inr ()) (fun k hk => by
      unfold slices_Equalstring_string_s1
      rw [decide_eq_true (by omega), cT, getI_at [] hk, bnd, getI_at [] (by omega), bnd, need_i (by omega) (by omega)]
      cases decide (xs.getD k [] = ys.getD k []) <;> rfl) (by
      unfold slices_Equalstring_string_s1
      rw [decide_eq_false (by omega), cF]) (by omega)
    rw [this, bnd, any_neq [] h]
    cases decide (xs = ys) <;> rfl
  · have h' : ¬ ((xs.length : Nat) : Int) = ((ys.length : Nat) : Int) := by omega
    rw [decide_eq_false h', Bool.not_false, cT, decide_eq_false (fun e => h (by rw [e]))]
/-- equality is symmetric -/
theorem eqV_symm (v w : T_api_Value) : eqV v w = eqV w v := by
  unfold eqV
  have := cmpV_anti (sortV v) (sortV w)
  have e : decide (cmpV (sortV w) (sortV v) = 0) = decide (cmpV (sortV v) (sortV w) = 0) := decide_eq_decide.2 ⟨fun h => by omega, fun h => by omega⟩
  rw [e]
  cases decide (checkV v = 0) <;> cases decide (checkV w = 0) <;> rfl
theorem eqV_self {v : T_api_Value} (h : checkV v = 0) : eqV v v = true := by
  unfold eqV
  rw [decide_eq_true h, cmpV_self]; rfl
theorem eqvs_run {n : Nat} (hn : 6000 < n) {rc : T_api_Value → T_api_Value → Option Bool} {xs ys : List T_api_Value} (hl : xs.length ≤ 6000) (hr : ∀ x ∈ xs, ∀ y, rc x y = some (decide (x = y))) : slices_EqualFuncapi_Value_api_Value_api_Value_api_Value_2 n rc xs ys = some (decide (xs = ys)) := by
  unfold slices_EqualFuncapi_Value_api_Value_api_Value_api_Value_2
  by_cases h : xs.length = ys.length
  · have h' : ((xs.length : Nat) : Int) = ((ys.length : Nat) : Int) := by omega
    rw [decide_eq_true h', Bool.not_true, cF]
    have := loop_any (n := n) (step := slices_EqualFuncapi_Value_api_Value_api_Value_api_Value_2_s1 n rc xs ys) (fun k => !decide (xs.getD k z_T_api_Value = ys.getD k z_T_api_Value)) xs.length (.inl ()) (.inr ()) (fun k hk => by
      unfold slices_EqualFuncapi_Value_api_Value_api_Value_api_Value_2_s1
      have hm : xs.getD k z_T_api_Value ∈ xs := by simp [List.getD, hk]
      rw [decide_eq_true (by omega), cT, getI_at z_T_api_Value hk, bnd, getI_at z_T_api_Value (by omega), bnd, hr _ hm, bnd, need_i (by omega) (by omega)]
      cases decide (xs.getD k z_T_api_Value = ys.getD k z_T_api_Value) <;> rfl) (by
      unfold slices_EqualFuncapi_Value_api_Value_api_Value_api_Value_2_s1
      rw [decide_eq_false (by omega), cF]) (by omega)
    rw [this, bnd, any_neq z_T_api_Value h]
    cases decide (xs = ys) <;> rfl
  · have h' : ¬ ((xs.length : Nat) : Int) = ((ys.length : Nat) : Int) := by omega
    rw [decide_eq_false h', Bool.not_false, cT, decide_eq_false (fun e => h (by rw [e]))]
theorem alike_run {n : Nat} (hn : 6000 < n) : ∀ (m d : Nat) (v w : T_api_Value), d < m → Small d v → schema_alike_k n m v w = some (decide (v = w))
  | 0, d, v, w, hd, _ => absurd hd (by omega)
  | m + 1, 0, v, w, _, h => h.elim
  | m + 1, d + 1, v, w, hd, h => by
    obtain ⟨h1, h2, h3, h4, h5⟩ := h
    unfold schema_alike_k schema_alike_b
    rw [eqs_run hn (by omega), bnd, eqvs_run hn (by omega) (fun x hx y => alike_run hn m d x y (by omega) (h5 x hx)), bnd]
    obtain ⟨k1, b1, n1, t1, l1, s1⟩ := v
    obtain ⟨k2, b2, n2, t2, l2, s2⟩ := w
    dsimp only
    have e : decide ((⟨k1, b1, n1, t1, l1, s1⟩ : T_api_Value) = ⟨k2, b2, n2, t2, l2, s2⟩) = (decide (k1 = k2) && ((b1 == b2) && (decide (n1 = n2) && (decide (t1 = t2) && (decide (s1 = s2) && decide (l1 = l2)))))) := by
      rw [Bool.eq_iff_iff]
      simp only [decide_eq_true_eq, Bool.and_eq_true, beq_iff_eq, T_api_Value.mk.injEq]
      exact ⟨fun ⟨a, b, c, d, e, f⟩ => ⟨a, b, c, d, f, e⟩, fun ⟨a, b, c, d, e, f⟩ => ⟨a, b, c, d, f, e⟩⟩
    rw [e]
    cases decide (k1 = k2) <;> cases (b1 == b2) <;> cases decide (n1 = n2) <;> cases decide (t1 = t2) <;> cases decide (s1 = s2) <;> cases decide (l1 = l2) <;> rfl
noncomputable def sameG (x y : T_api_Given) : Bool := decide (x.fName = y.fName) && (x.fUnknown == y.fUnknown && (eqV x.fV y.fV || decide (x.fV = y.fV)))
theorem same1_run {n : Nat} (hn : 6000 < n) {x y : T_api_Given} (hx : Fine x.fV) (hy : Fine y.fV) : schema_Same_1 n x y = some (sameG x y) := by
  unfold schema_Same_1 sameG schema_alike
  have ex : ∀ v : T_api_Value, (⟨v.fKind, (v.fBool), v.fNum, v.fText, v.fList, v.fKeys⟩ : T_api_Value) = v := fun v => by cases v; rfl
  rw [ex, ex, Equal_run hn hx hy, bnd, alike_run hn n 60 x.fV y.fV (by omega) hx.small, bnd]
  cases decide (x.fName = y.fName) <;> cases (x.fUnknown == y.fUnknown) <;> cases eqV x.fV y.fV <;> rfl
theorem Same_run9 {n : Nat} (hn : 6000 < n) {a b : List T_api_Given} (la : a.length ≤ 60) (ha : ∀ g ∈ a, Fine g.fV) (hb : ∀ g ∈ b, Fine g.fV) :
    schema_Same n a b = some (decide (a.length = b.length) && !((List.range a.length).any fun k => !sameG (a.getD k z_T_api_Given) (b.getD k z_T_api_Given))) := by
  unfold schema_Same slices_EqualFuncapi_Given_api_Given_api_Given_api_Given
  by_cases h : a.length = b.length
  · have h' : ((a.length : Nat) : Int) = ((b.length : Nat) : Int) := by omega
    rw [decide_eq_true h', Bool.not_true, cF, decide_eq_true h, Bool.true_and]
    have := loop_any (n := n) (step := slices_EqualFuncapi_Given_api_Given_api_Given_api_Given_s1 n a b) (fun k => !sameG (a.getD k z_T_api_Given) (b.getD k z_T_api_Given)) a.length (.inl ()) (.inr ()) (fun k hk => by
      unfold slices_EqualFuncapi_Given_api_Given_api_Given_api_Given_s1
      have hm : a.getD k z_T_api_Given ∈ a := by simp [List.getD, hk]
      have hm2 : b.getD k z_T_api_Given ∈ b := by have : k < b.length := by omega
                                                  simp [List.getD, this]
      rw [decide_eq_true (by omega), cT, getI_at z_T_api_Given hk, bnd, getI_at z_T_api_Given (by omega), bnd, same1_run hn (ha _ hm) (hb _ hm2), bnd, need_i (by omega) (by omega)]
      cases sameG (a.getD k z_T_api_Given) (b.getD k z_T_api_Given) <;> rfl) (by
      unfold slices_EqualFuncapi_Given_api_Given_api_Given_api_Given_s1
      rw [decide_eq_false (by omega), cF]) (by omega)
    rw [this, bnd]
    cases (List.range a.length).any (fun k => !sameG (a.getD k z_T_api_Given) (b.getD k z_T_api_Given)) <;> rfl
  · have h' : ¬ ((a.length : Nat) : Int) = ((b.length : Nat) : Int) := by omega
    rw [decide_eq_false h', Bool.not_false, cT, decide_eq_false h, bnd, Bool.false_and]
end Go.Proofs.YtalifkcchfkgmaaDoor
