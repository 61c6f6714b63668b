/-
  Chapter 9, plainly: what schema.Differ answers. Own work.
-/
import Derived.Test.YtalifkcchfkgmaaDoorSchemaP2
import Derived.Test.YtalifkcchfkgmaaDoorS5
set_option linter.unusedVariables false
set_option linter.unusedSimpArgs false
namespace Go.Proofs.YtalifkcchfkgmaaDoor
open Go Go.Vc Go.RowKit
/-! ### by name -/
def byN (gs : List T_api_Given) : List (List UInt8 × T_api_Given) := gs.foldl (fun m g => mput m g.fName g) []
theorem byN_snoc (gs : List T_api_Given) (g : T_api_Given) : byN (gs ++ [g]) = mput (byN gs) g.fName g := by unfold byN; rw [List.foldl_append]; rfl
theorem byName_run {n : Nat} (gs : List T_api_Given) (hl : gs.length ≤ 60) (hn : 6000 < n) : schema_byName n gs = some (byN gs) := by
  unfold schema_byName
  have := loop_all (n := n) (step := schema_byName_s1 n gs) (fun k => ((k : Int), byN (gs.take k))) gs.length (byN gs) (fun k hk => by
    unfold schema_byName_s1
    have hx : gs[k]? = some gs[k] := List.getElem?_eq_getElem hk
    have hg : gs.getD k z_T_api_Given = gs[k] := by simp [List.getD, hk]
    dsimp only
    rw [decide_eq_true (by omega), cT, getI_at z_T_api_Given hk, bnd, need_i (by omega) (by omega), hg, List.take_add_one, hx]
    have e : byN (gs.take k ++ (some gs[k]).toList) = mput (byN (gs.take k)) gs[k].fName gs[k] := byN_snoc _ _
    rw [e]; rfl) (by
    unfold schema_byName_s1
    dsimp only
    rw [decide_eq_false (by omega), cF, List.take_length]) (by omega)
  have e0 : (((0 : Nat) : Int), byN (gs.take 0)) = ((0 : Int), ([] : List (List UInt8 × T_api_Given))) := rfl
  rw [e0] at this
  rw [this, bnd]
theorem byN_some {k : List UInt8} {g : T_api_Given} : ∀ {m : Nat} {gs : List T_api_Given}, gs.length = m → mget (byN gs) k = some g → g ∈ gs ∧ g.fName = k
  | 0, gs, hm, h => by
    have : gs = [] := List.length_eq_zero_iff.1 hm
    subst this; cases h
  | m + 1, gs, hm, h => by
    obtain ⟨l, x, rfl⟩ : ∃ l x, gs = l ++ [x] := ⟨gs.dropLast, gs.getLast (by intro e; subst e; cases hm), (List.dropLast_concat_getLast _).symm⟩
    rw [byN_snoc, mget_mput] at h
    by_cases hx : x.fName = k
    · rw [if_pos hx] at h
      cases h
      exact ⟨by simp, hx⟩
    · rw [if_neg hx] at h
      obtain ⟨h1, h2⟩ := byN_some (m := m) (by simpa using hm) h
      exact ⟨by simp [h1], h2⟩
theorem byN_isSome {k : List UInt8} : ∀ {m : Nat} {gs : List T_api_Given}, gs.length = m → ((mget (byN gs) k).isSome = true ↔ ∃ g ∈ gs, g.fName = k)
  | 0, gs, hm => by
    have : gs = [] := List.length_eq_zero_iff.1 hm
    subst this; simp [byN, mget]
  | m + 1, gs, hm => by
    obtain ⟨l, x, rfl⟩ : ∃ l x, gs = l ++ [x] := ⟨gs.dropLast, gs.getLast (by intro e; subst e; cases hm), (List.dropLast_concat_getLast _).symm⟩
    have ih := byN_isSome (k := k) (m := m) (gs := l) (by simpa using hm)
    rw [byN_snoc, mget_mput]
    by_cases hx : x.fName = k
    · rw [if_pos hx]; simp [hx]
    · rw [if_neg hx, ih]; simp [hx]
theorem byN_mem {gs : List T_api_Given} (hd : (gs.map (·.fName)).Nodup) {g : T_api_Given} (hg : g ∈ gs) : mget (byN gs) g.fName = some g := by
  have h1 := (byN_isSome (k := g.fName) (gs := gs) rfl).2 ⟨g, hg, rfl⟩
  obtain ⟨x, hx⟩ := Option.isSome_iff_exists.1 h1
  obtain ⟨h2, h3⟩ := byN_some rfl hx
  rw [hx]
  have : x = g := by
    obtain ⟨i, hi, rfl⟩ := List.mem_iff_getElem.1 h2
    obtain ⟨j, hj, rfl⟩ := List.mem_iff_getElem.1 hg
    have e : (gs.map (·.fName))[i]'(by simpa using hi) = (gs.map (·.fName))[j]'(by simpa using hj) := by simpa using h3
    have hp := List.pairwise_iff_getElem.1 hd
    rcases Nat.lt_trichotomy i j with h | h | h
    · exact absurd e (hp i j _ _ h)
    · subst h; rfl
    · exact absurd e.symm (hp j i _ _ h)
  rw [this]
/-! ### the walk over the properties -/
def sameK (a b : List T_api_Given) (k : List UInt8) : Bool :=
  bif (mget (byN a) k).isSome == (mget (byN b) k).isSome then
    bif !((mget (byN b) k).getD z_T_api_Given).fUnknown then
      bif !(mget (byN a) k).isSome then true else eqV ((mget (byN a) k).getD z_T_api_Given).fV ((mget (byN b) k).getD z_T_api_Given).fV
    else false
  else false
def stepK (a b : List T_api_Given) (p : List UInt8 × T_api_Spec) (s : Int) : Lp Int (Sum Int Unit) := bif sameK a b p.1 then .nx s else bif p.2.fReplace then .br (.inr ()) else .nx 2
def endK (a b : List T_api_Given) (l : List (List UInt8 × T_api_Spec)) (s : Int) : Sum Int Unit := bif l.any (fun p => !sameK a b p.1 && p.2.fReplace) then .inr () else .inl (bif l.any (fun p => !sameK a b p.1) then 2 else s)
theorem step_run {n : Nat} (hn : 6000 < n) {a b : List T_api_Given} (ha : ∀ g ∈ a, Fine g.fV) (hb : ∀ g ∈ b, Fine g.fV) (p : List UInt8 × T_api_Spec) (s : Int) : schema_Differ_s1_y n (byN a) (byN b) p s = some (stepK a b p s) := by
  unfold schema_Differ_s1_y stepK sameK
  cases h1 : (mget (byN a) p.1).isSome == (mget (byN b) p.1).isSome with
  | false =>
    rw [cF, cF, bnd, cF, cF]
    cases p.2.fReplace <;> rfl
  | true =>
    rw [cT, cT]
    cases h2 : ((mget (byN b) p.1).getD z_T_api_Given).fUnknown with
    | true =>
      rw [Bool.not_true, cF, cF, bnd, cF, cF]
      cases p.2.fReplace <;> rfl
    | false =>
      rw [Bool.not_false, cT, cT]
      cases h3 : (mget (byN a) p.1).isSome with
      | false => rw [Bool.not_false, cT, cT, bnd, cT, cT]
      | true =>
        rw [Bool.not_true, cF, cF]
        have h4 : (mget (byN b) p.1).isSome = true := by rw [h3] at h1; simpa using h1.symm
        obtain ⟨x, hx⟩ := Option.isSome_iff_exists.1 h3
        obtain ⟨y, hy⟩ := Option.isSome_iff_exists.1 h4
        have fx := ha x (byN_some rfl hx).1
        have fy := hb y (byN_some rfl hy).1
        have ex : ∀ v : T_api_Value, (⟨v.fKind, (v.fBool), v.fNum, v.fText, v.fList, v.fKeys⟩ : T_api_Value) = v := fun v => by cases v; rfl
        rw [hx, hy, Option.getD_some, Option.getD_some, ex, ex, Equal_run hn fx fy, bnd, bnd]
        cases eqV x.fV y.fV with
        | true => rw [cT, cT]
        | false =>
          rw [cF, cF]
          cases p.2.fReplace <;> rfl
theorem fold_run {n : Nat} (hn : 6000 < n) {a b : List T_api_Given} (ha : ∀ g ∈ a, Fine g.fV) (hb : ∀ g ∈ b, Fine g.fV) : ∀ (l : List (List UInt8 × T_api_Spec)) (s : Int), foldO (schema_Differ_s1_e n (byN a) (byN b)) (schema_Differ_s1_y n (byN a) (byN b)) l s = some (endK a b l s)
  | [], s => rfl
  | p :: l, s => by
    unfold foldO
    rw [step_run hn ha hb, bnd]
    unfold stepK endK
    rw [List.any_cons, List.any_cons]
    cases sameK a b p.1 with
    | true =>
      rw [cT]
      dsimp only
      rw [fold_run hn ha hb l s]
      unfold endK
      rw [Bool.not_true, Bool.false_and, Bool.false_or, Bool.false_or]
    | false =>
      rw [cF]
      cases p.2.fReplace with
      | true => rfl
      | false =>
        rw [cF]
        dsimp only
        rw [fold_run hn ha hb l 2]
        unfold endK
        rw [Bool.not_false, Bool.and_false, Bool.false_or, Bool.true_or, cT]
        cases l.any (fun p => !sameK a b p.1) <;> rfl
theorem endK_perm (a b : List T_api_Given) {l l' : List (List UInt8 × T_api_Spec)} (h : l.Perm l') (s : Int) : endK a b l s = endK a b l' s := by
  have e : ∀ q : List UInt8 × T_api_Spec → Bool, l.any q = l'.any q := fun q => by
    rw [Bool.eq_iff_iff, List.any_eq_true, List.any_eq_true]
    exact ⟨fun ⟨x, h1, h2⟩ => ⟨x, h.mem_iff.1 h1, h2⟩, fun ⟨x, h1, h2⟩ => ⟨x, h.mem_iff.2 h1, h2⟩⟩
  unfold endK
  rw [e, e]
/-- what Differ answers -/
def differV (kind : List UInt8) (a b : List T_api_Given) : Int × Int :=
  bif !decide (checkG kind a = 0) then (0, checkG kind a) else bif !decide (checkG kind b = 0) then (0, checkG kind b) else
  bif a.any (·.fUnknown) then (0, 91) else match endK a b (propsD kind) 0 with | .inl y => (y, 0) | .inr _ => (3, 0)
theorem or2_run {n : Nat} (hn : 6000 < n) (x y : Int) : cmp_Or_2 n [x, y] = some (bif !decide (x = 0) then x else y) := by
  obtain ⟨n, rfl⟩ : ∃ m, n = m + 3 := ⟨n - 3, by omega⟩
  unfold cmp_Or_2
  have s0 : cmp_Or_2_s1 (n + 3) [x, y] 0 = bif !decide (x = 0) then some (.br (.inl x)) else some (.nx 1) := by
    unfold cmp_Or_2_s1
    have e : getI [x, y] 0 = some x := rfl
    rw [decide_eq_true (by simp only [List.length_cons, List.length_nil]; omega), cT, e, bnd, need_i (by omega) (by omega)]; rfl
  have s1 : cmp_Or_2_s1 (n + 3) [x, y] 1 = bif !decide (y = 0) then some (.br (.inl y)) else some (.nx 2) := by
    unfold cmp_Or_2_s1
    have e : getI [x, y] 1 = some y := rfl
    rw [decide_eq_true (by simp only [List.length_cons, List.length_nil]; omega), cT, e, bnd, need_i (by omega) (by omega)]; rfl
  have s2 : cmp_Or_2_s1 (n + 3) [x, y] 2 = some (.br (.inr ())) := by
    unfold cmp_Or_2_s1
    rw [decide_eq_false (by simp only [List.length_cons, List.length_nil]; omega), cF]
  have l0 : loopF (cmp_Or_2_s1 (n + 3) [x, y]) (n + 3) 0 = some (bif !decide (x = 0) then .inl x else bif !decide (y = 0) then .inl y else .inr ()) := by
    unfold loopF
    rw [s0]
    by_cases hx : x = 0
    · rw [decide_eq_true hx, Bool.not_true, cF, cF, bnd]
      dsimp only
      unfold loopF
      rw [s1]
      by_cases hy : y = 0
      · rw [decide_eq_true hy, Bool.not_true, cF, cF, bnd]
        dsimp only
        unfold loopF
        rw [s2, bnd]
      · rw [decide_eq_false hy, Bool.not_false, cT, cT, bnd]
    · rw [decide_eq_false hx, Bool.not_false, cT, cT, bnd]
  rw [l0, bnd]
  by_cases hx : x = 0
  · rw [decide_eq_true hx, Bool.not_true, cF, cF]
    by_cases hy : y = 0
    · rw [decide_eq_true hy, Bool.not_true, cF]; rw [hy]
    · rw [decide_eq_false hy, Bool.not_false, cT]
  · rw [decide_eq_false hx, Bool.not_false, cT, cT]
theorem unknown_run {n : Nat} (hn : 6000 < n) (gs : List T_api_Given) (hl : gs.length ≤ 60) : slices_ContainsFuncapi_Given_api_Given n gs = some (gs.any (·.fUnknown)) := by
  unfold slices_ContainsFuncapi_Given_api_Given slices_IndexFuncapi_Given_api_Given
  obtain ⟨b, hb, hp⟩ := index_any (n := n) z_T_api_Given (·.fUnknown) gs (step := slices_IndexFuncapi_Given_api_Given_s1 n gs) (fun k hk => by
    unfold slices_IndexFuncapi_Given_api_Given_s1 schema_Differ_1
    rw [decide_eq_true (by omega), cT, getI_at z_T_api_Given hk, bnd, bnd]
    cases (gs.getD k z_T_api_Given).fUnknown with
    | false => rw [cF, need_i (by omega) (by omega)]; rfl
    | true => rw [cT]; rfl) (by
    unfold slices_IndexFuncapi_Given_api_Given_s1
    rw [decide_eq_false (by omega), cF]) (by omega)
  rw [hb, bnd]
  cases b with
  | inl i =>
    obtain ⟨h0, h1⟩ := hp
    dsimp only
    rw [bnd, h1, decide_eq_true h0]
  | inr u =>
    have h1 : gs.any (·.fUnknown) = false := hp
    dsimp only
    rw [bnd, h1]
    rfl
theorem Differ_run {n : Nat} (hn : 6000 < n) (kind : List UInt8) {a b : List T_api_Given} (la : a.length ≤ 60) (lb : b.length ≤ 60) (ha : ∀ g ∈ a, Fine g.fV) (hb : ∀ g ∈ b, Fine g.fV) : schema_Differ n kind a b = some (differV kind a b) := by
  unfold schema_Differ differV
  rw [schemaCheck_run hn kind la ha, bnd, schemaCheck_run hn kind lb hb, bnd, or2_run hn, bnd]
  by_cases h1 : checkG kind a = 0
  · rw [decide_eq_true h1, Bool.not_true, cF, cF]
    by_cases h2 : checkG kind b = 0
    · rw [decide_eq_true h2, Bool.not_true, cF, cF, unknown_run hn a la, bnd]
      cases a.any (·.fUnknown) with
      | true => rw [cT, cT]
      | false =>
        rw [cF, cF, byName_run a la hn, bnd, byName_run b lb hn, bnd, foldP_run (b := endK a b (propsD kind) 0) (fun l hl => by rw [fold_run hn ha hb, endK_perm a b hl]), bnd]
        cases endK a b (propsD kind) 0 <;> rfl
    · rw [decide_eq_false h2, Bool.not_false, cT, cT]
  · rw [decide_eq_false h1, Bool.not_false, cT, cT, decide_eq_false h1, Bool.not_false, cT]
end Go.Proofs.YtalifkcchfkgmaaDoor
