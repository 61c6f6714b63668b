/-
  Chapter 9, plainly: what schema.Check and the bounds of a law's arguments answer. Own work.
-/
import Derived.Test.YtalifkcchfkgmaaDoorSchemaP1
import Derived.Test.YtalifkcchfkgmaaDoorTreeM
import Derived.Test.YtalifkcchfkgmaaDoorS6
set_option linter.unusedVariables false
set_option linter.unusedSimpArgs false
namespace Go.Proofs.YtalifkcchfkgmaaDoor
open Go Go.Vc Go.RowKit
theorem index_any {n : Nat} {α : Type} (d : α) (q : α → Bool) (xs : List α) {step : Int → Option (Lp Int (Sum Int Unit))} (hd : ∀ k : Nat, k < xs.length → step (k : Int) = some (if q (xs.getD k d) then .br (.inl (k : Int)) else .nx ((k : Int) + 1))) (he : step ((xs.length : Nat) : Int) = some (.br (.inr ()))) (hn : xs.length < n) :
    ∃ b, loopF step n 0 = some b ∧ (match b with | .inl i => 0 ≤ i ∧ xs.any q = true | .inr () => xs.any q = false) := by
  refine loop_inv (fun k s => s = (k : Int) ∧ ∀ x ∈ xs.take k, q x = false) _ xs.length ⟨rfl, by simp⟩ (fun k s hk hI => ?_) (fun s hI => ?_) hn
  · obtain ⟨rfl, hf⟩ := hI
    have hx : xs[k]? = some xs[k] := List.getElem?_eq_getElem hk
    have hg : xs.getD k d = xs[k] := by simp [List.getD, hk]
    rw [hd k hk, hg]
    cases hv : q xs[k] with
    | false =>
      refine .inl ⟨_, rfl, by omega, fun y hy => ?_⟩
      rcases (mem_take_succ hx y).1 hy with h | h
      · exact hf y h
      · rw [h]; exact hv
    | true => exact .inr ⟨_, rfl, by omega, List.any_eq_true.2 ⟨_, List.getElem_mem hk, hv⟩⟩
  · obtain ⟨rfl, hf⟩ := hI
    rw [List.take_length] at hf
    refine ⟨_, he, ?_⟩
    dsimp only
    rw [List.any_eq_false]
    intro x hx
    simp [hf x hx]
/-! ### values -/
def wordV (t : List UInt8) : Bool := bif decide ((t.length : Int) ≤ 64) then Lib.validD t else false
theorem word_run {n : Nat} {t : List UInt8} : print_Word n t = some (wordV t) := by
  unfold print_Word wordV
  by_cases h : (t.length : Int) ≤ 64
  · rw [decide_eq_true h, cT, cT, valid_run (by omega), bnd]
  · rw [decide_eq_false h, cF, cF]
def fitV (v : T_api_Value) (k : Int) : Bool := bif !decide (v.fKind = k) then false else decide (checkV v = 0)
def wordy (v : T_api_Value) : Bool := bif fitV v 3 then wordV v.fText else false
def valueV (v : T_api_Value) (k : Int) : Bool := bif fitV v k then (bif decide (k = 3) then wordV v.fText else bif decide (k = 4) then (bif decide (((v.fList.length : Nat) : Int) ≤ 8) then !(v.fList.any fun x => !wordy x) else false) else true) else false
theorem wordy_eq (v : T_api_Value) : valueV v 3 = wordy v := rfl
theorem contains_vals {n : Nat} (hn : 6000 < n) {rc : T_api_Value → Int → Option Bool} {l : List T_api_Value} (hl : l.length ≤ 8) (h : ∀ x ∈ l, rc x 3 = some (wordy x)) : slices_ContainsFuncapi_Value_api_Value_2 n rc l = some (l.any fun x => !wordy x) := by
  unfold slices_ContainsFuncapi_Value_api_Value_2 slices_IndexFuncapi_Value_api_Value_2
  obtain ⟨b, hb, hp⟩ := index_any (n := n) z_T_api_Value (fun x => !wordy x) l (step := slices_IndexFuncapi_Value_api_Value_2_s1 n rc l) (fun k hk => by
    unfold slices_IndexFuncapi_Value_api_Value_2_s1 schema_value_1_2
    have hm : l.getD k z_T_api_Value ∈ l := by simp [List.getD, hk]
    rw [decide_eq_true (by omega), cT, getI_at z_T_api_Value hk, bnd, h _ hm, bnd, bnd]
    cases wordy (l.getD k z_T_api_Value) with
    | true => rw [Bool.not_true, cF, need_i (by omega) (by omega)]; rfl
    | false => rw [Bool.not_false, cT]; rfl) (by
    unfold slices_IndexFuncapi_Value_api_Value_2_s1
    rw [decide_eq_false (by omega), cF]) (by omega)
  rw [hb, bnd]
  cases b with
  | inl i =>
    obtain ⟨h0, h1⟩ := hp
    dsimp only
    rw [bnd, h1, decide_eq_true h0]
  | inr u =>
    have h1 : l.any (fun x => !wordy x) = false := hp
    dsimp only
    rw [bnd, h1]
    rfl
theorem value_b_run {n : Nat} (hn : 6000 < n) {v : T_api_Value} (h : Fine v) (k : Int) {rc : T_api_Value → Int → Option Bool} (hrec : k = 4 → ∀ x ∈ v.fList, rc x 3 = some (wordy x)) : schema_value_b n rc v k = some (valueV v k) := by
  unfold schema_value_b valueV fitV
  by_cases hk : v.fKind = k
  · rw [decide_eq_true hk, Bool.not_true, cF, cF, check_run hn h, bnd, bnd]
    by_cases hc : checkV v = 0
    · rw [decide_eq_true hc, Bool.not_true, cF, cT]
      by_cases h3 : k = 3
      · rw [decide_eq_true h3, cT, cT, word_run, bnd]
      · rw [decide_eq_false h3, cF, cF]
        by_cases h4 : k = 4
        · rw [decide_eq_true h4, cT, cT]
          by_cases h8 : ((v.fList.length : Nat) : Int) ≤ 8
          · rw [decide_eq_true h8, cT, cT, contains_vals hn (by omega) (hrec h4), bnd]
          · rw [decide_eq_false h8, cF, cF]
        · rw [decide_eq_false h4, cF, cF]
    · rw [decide_eq_false hc, Bool.not_false, cT, cF]
  · rw [decide_eq_false hk, Bool.not_false, cT, cT, bnd, cT, cF]
theorem value_run {n : Nat} (hn : 6000 < n) {v : T_api_Value} (h : Fine v) (k : Int) : schema_value n v k = some (valueV v k) := by
  unfold schema_value
  obtain ⟨m, rfl⟩ : ∃ m, n = m + 2 := ⟨n - 2, by omega⟩
  refine value_b_run hn h k fun _ x hx => ?_
  exact value_b_run hn (h.part hx) 3 (fun e => absurd e (by decide))
def emptyV (v : T_api_Value) : Bool := bif decide (v.fKind = 0) then decide (checkV v = 0) else false
theorem empty_run {n : Nat} (hn : 6000 < n) {v : T_api_Value} (h : Fine v) : schema_empty n v = some (emptyV v) := by
  unfold schema_empty emptyV
  by_cases hk : v.fKind = 0
  · rw [decide_eq_true hk, cT, cT, check_run hn h, bnd]
  · rw [decide_eq_false hk, cF, cF]
/-! ### schema.Check -/
def specOf (kind prop : List UInt8) : T_api_Spec := (specAt kind prop).getD z_T_api_Spec
def fitG (kind : List UInt8) (g : T_api_Given) : Bool := bif g.fUnknown then (bif !decide ((specOf kind g.fName).fKind = 2) then emptyV g.fV else false) else valueV g.fV (specOf kind g.fName).fKind
def okG (kind : List UInt8) (g : T_api_Given) : Bool := (specAt kind g.fName).isSome && fitG kind g
def upG (gs : List T_api_Given) (k : Nat) : Bool := decide (k = 0) || Op.bytesLess (gs.getD (k - 1) z_T_api_Given).fName (gs.getD k z_T_api_Given).fName
theorem cb_flip (a b : List UInt8) : (Lib.compareBytes a b < 0 ∨ a = b) ↔ ¬ Lib.compareBytes b a < 0 := by
  have h := cb_anti a b
  constructor
  · rintro (h1 | rfl)
    · omega
    · rw [cb_self]; omega
  · intro h1
    by_cases e : Lib.compareBytes a b = 0
    · exact .inr (cb_eq _ _ e)
    · exact .inl (by omega)
theorem less_flip (a b : List UInt8) : (Op.bytesLess a b || a == b) = !Op.bytesLess b a := by
  have h1 := less_cb a b
  have h2 := less_cb b a
  rw [h1, h2]
  rw [Bool.eq_iff_iff]
  simp only [Bool.or_eq_true, decide_eq_true_eq, beq_iff_eq, Bool.not_eq_true', decide_eq_false_iff_not]
  exact cb_flip a b
def checkG (kind : List UInt8) (gs : List T_api_Given) : Int := bif !kindIn kind then 90 else bif (List.range gs.length).any (fun k => !(okG kind (gs.getD k z_T_api_Given) && upG gs k)) then 91 else 0
theorem schemaCheck_run {n : Nat} (hn : 6000 < n) (kind : List UInt8) {gs : List T_api_Given} (hl : gs.length ≤ 60) (hf : ∀ g ∈ gs, Fine g.fV) : schema_Check n kind gs = some (checkG kind gs) := by
  unfold schema_Check checkG
  cases hk : kindIn kind with
  | false => rw [Bool.not_false, cT, cT]
  | true =>
    rw [Bool.not_true, cF, cF]
    have hlp := loop_any (n := n) (step := schema_Check_s1 n kind gs) (fun k => !(okG kind (gs.getD k z_T_api_Given) && upG gs k)) gs.length (.inl ()) (.inr ()) (fun k hk => by
      unfold schema_Check_s1 schema_Find
      have hm : gs.getD k z_T_api_Given ∈ gs := by simp [List.getD, hk]
      rw [decide_eq_true (by omega), cT, getI_at z_T_api_Given hk, bnd, bnd, value_run hn (hf _ hm), bnd]
      have e : (bif (gs.getD k z_T_api_Given).fUnknown then (bif !decide ((specOf kind (gs.getD k z_T_api_Given).fName).fKind = 2) then (schema_empty n (gs.getD k z_T_api_Given).fV).bind fun x => some x else some false) else some (valueV (gs.getD k z_T_api_Given).fV (specOf kind (gs.getD k z_T_api_Given).fName).fKind) : Option Bool) = some (fitG kind (gs.getD k z_T_api_Given)) := by
        unfold fitG
        cases (gs.getD k z_T_api_Given).fUnknown with
        | false => rw [cF, cF]
        | true =>
          rw [cT, cT]
          cases decide ((specOf kind (gs.getD k z_T_api_Given).fName).fKind = 2) with
          | true => rw [Bool.not_true, cF, cF]
          | false => rw [Bool.not_false, cT, cT, empty_run hn (hf _ hm), bnd]
      unfold specOf at e
      dsimp only
      rw [e, bnd]
      unfold okG
      cases (specAt kind (gs.getD k z_T_api_Given).fName).isSome with
      | false => rw [Bool.not_false, cT]; rfl
      | true =>
        rw [Bool.not_true, cF]
        cases fitG kind (gs.getD k z_T_api_Given) with
        | false => rw [Bool.not_false, cT]; rfl
        | true =>
          rw [Bool.not_true, cF]
          unfold upG
          by_cases h0 : k = 0
          · subst h0
            rw [decide_eq_false (by decide), cF, need_i (by omega) (by omega)]
            rfl
          · have hk1 : k - 1 < gs.length := by omega
            have e1 : (k : Int) - 1 = ((k - 1 : Nat) : Int) := by omega
            rw [decide_eq_true (by omega : (0 : Int) < (k : Int)), cT, need_i (by omega) (by omega), e1, getI_at z_T_api_Given hk1, bnd, less_flip, decide_eq_false h0]
            cases Op.bytesLess (gs.getD (k - 1) z_T_api_Given).fName (gs.getD k z_T_api_Given).fName with
            | true => rw [Bool.not_true, cF, need_i (by omega) (by omega)]; rfl
            | false => rw [Bool.not_false, cT]; rfl) (by
      unfold schema_Check_s1
      rw [decide_eq_false (by omega), cF]) (by omega)
    rw [hlp, bnd]
    cases (List.range gs.length).any (fun k => !(okG kind (gs.getD k z_T_api_Given) && upG gs k)) with
    | true => rw [cT, cT]
    | false => rw [cF, cF]
/-! ### the bounds -/
theorem great9 {n : Nat} (hn : 6000 < n) (gs : List T_api_Given) : ∃ g, ref09_Great n gs = some g ∧ (g = false → gs.length ≤ 60 ∧ ∀ x ∈ gs, x.fName.length ≤ 200 ∧ Fine x.fV) := by
  unfold ref09_Great
  by_cases hl : (60 : Int) < ((gs.length : Nat) : Int)
  · exact ⟨true, by rw [decide_eq_true hl, cT], fun h => by cases h⟩
  rw [decide_eq_false hl, cF]
  obtain ⟨b, hb, hp⟩ := loop_inv (step := ref09_Great_s1 n gs) (n := n) (s0 := (0 : Int)) (fun k s => s = (k : Int) ∧ ∀ x ∈ gs.take k, x.fName.length ≤ 200 ∧ Fine x.fV)
    (fun b => match b with | .inl _ => True | .inr _ => ∀ x ∈ gs, x.fName.length ≤ 200 ∧ Fine x.fV) gs.length ⟨rfl, by simp⟩
    (fun k s hk hI => by
      obtain ⟨rfl, hf⟩ := hI
      have hx : gs[k]? = some gs[k] := List.getElem?_eq_getElem hk
      have hg : gs.getD k z_T_api_Given = gs[k] := by simp [List.getD, hk]
      unfold ref09_Great_s1
      rw [decide_eq_true (by omega), cT, getI_at z_T_api_Given hk, bnd, hg]
      by_cases h2 : (200 : Int) < (gs[k].fName.length : Int)
      · exact .inr ⟨_, by rw [decide_eq_true h2, cT], trivial⟩
      obtain ⟨g, hg1, hg2⟩ := great_fine hn gs[k].fV
      rw [decide_eq_false h2, cF, bnd]
      have ex : (⟨gs[k].fV.fKind, (gs[k].fV.fBool), gs[k].fV.fNum, gs[k].fV.fText, gs[k].fV.fList, gs[k].fV.fKeys⟩ : T_api_Value) = gs[k].fV := by cases gs[k].fV; rfl
      rw [ex, hg1, bnd]
      cases g with
      | true => exact .inr ⟨_, cT _ _, trivial⟩
      | false =>
        rw [cF, need_i (by omega) (by omega)]
        refine .inl ⟨_, rfl, by omega, fun y hy => ?_⟩
        rcases (mem_take_succ hx y).1 hy with h | h
        · exact hf y h
        · rw [h]; exact ⟨by omega, (hg2 rfl).1⟩)
    (fun s hI => by
      obtain ⟨rfl, hf⟩ := hI
      rw [List.take_length] at hf
      unfold ref09_Great_s1
      rw [decide_eq_false (by omega), cF]
      exact ⟨_, rfl, hf⟩) (by omega)
  rw [hb, bnd]
  cases b with
  | inl u => exact ⟨true, rfl, fun h => by cases h⟩
  | inr u => exact ⟨false, rfl, fun _ => ⟨by omega, hp⟩⟩
end Go.Proofs.YtalifkcchfkgmaaDoor
