/-
  Chapter 3's law TreeGet in plain Lean. Own work.
-/
import Derived.Test.YtekkifakjkhjiaaDoorTreeM
import Derived.Test.YtekkifakjkhjiaaDoorLTreeGet
set_option linter.unusedSimpArgs false
set_option linter.unusedVariables false
namespace Go.Proofs.YtekkifakjkhjiaaDoor
open Go Go.Vc Go.RowKit
theorem treeGet_true (v : T_api_Value) (key : List UInt8) : law03_TreeGet 10000 v key = some true := by
  have hn : 6000 < 10000 := by omega
  obtain ⟨g, hg, hg2⟩ := great_fine hn v
  unfold law03_TreeGet
  rw [hg, bnd]
  cases g with
  | true => rw [cT, bnd, cT, wakes_true, bnd]
  | false =>
    obtain ⟨hf, hs, hl⟩ := hg2 rfl
    rw [cF, bnd]
    by_cases hkey : (1000 : Int) < (key.length : Int)
    · rw [decide_eq_true hkey, cT, wakes_true, bnd]
    rw [decide_eq_false hkey, cF, Get_run hn hf.wide, bnd, check_ref hn hf]
    by_cases hk : v.fKind = 5
    · rw [decide_eq_true hk, Bool.not_true, cF, bnd]
      by_cases hc : checkV v = 0
      · rw [decide_eq_true hc, Bool.not_true, bnd, cF]
        have hok := (checkV_ok hc).1
        have hkl := plain_len hok.plain hk
        have hnd := (alone_ok (OkV_iff.1 hok).1).2.2.2
        have hw := hf.wide
        have hgv : ∀ q, (h : q < v.fKeys.length) → getV v v.fKeys[q] = (v.fList.getD q v, true) := fun q h => by
          unfold getV
          rw [if_pos ⟨hk, hkl⟩, place_first (q := q) (by simp [h]) (fun j hj e => by
            obtain ⟨h1, h2⟩ := List.getElem?_eq_some_iff.1 e
            have := (List.getElem_inj hnd).1 h2
            omega)]
        obtain ⟨b, hb, hp⟩ := loop_inv (step := law03_TreeGet_s1 10000 v key (getV v key)) (n := 10000) (s0 := ((false), (0 : Int))) (fun q s => s.2 = (q : Int) ∧ (s.1 = true ↔ key ∈ v.fKeys.take q))
          (fun b => match b with | .inl _ => False | .inr r => r = true ↔ key ∈ v.fKeys) v.fKeys.length ⟨rfl, by simp⟩ (fun q s hq hI => by
            obtain ⟨t, i⟩ := s
            obtain ⟨h1, hI⟩ := hI
            have h1' : i = (q : Int) := h1
            subst h1'
            have hx : v.fKeys[q]? = some v.fKeys[q] := List.getElem?_eq_getElem hq
            have hgk : getI v.fKeys (q : Int) = some v.fKeys[q] := by simp [getI]
            have hgl : getI v.fList (q : Int) = some (v.fList.getD q v) := getI_at v (by omega)
            have hm : v.fList.getD q v ∈ v.fList := by simp [List.getD, (by omega : q < v.fList.length)]
            have hsame := Same_self (n := 10000) hn (d := 29) (by omega) _ (hs.2.2.2.2 _ hm)
            have hkl2 := hw.2.1
            unfold law03_TreeGet_s1
            dsimp only
            rw [decide_eq_true (by omega), cT, hgk, bnd, Get_run hn hw, bnd, hgv q hq, hgl, bnd, Bool.not_true, cF, hsame, bnd, Bool.not_true, bnd, cF]
            by_cases he : v.fKeys[q] = key
            · rw [decide_eq_true he, cT, bnd, evV]
              have e2 : (getV v key).1 = v.fList.getD q v := by rw [← he, hgv q hq]
              rw [e2, hsame, bnd, Bool.not_true, cF, need_i (by omega) (by omega)]
              refine .inl ⟨_, rfl, by dsimp only; omega, ?_⟩
              dsimp only
              rw [mem_take_succ hx]
              simp [he]
            · rw [decide_eq_false he, cF, need_i (by omega) (by omega)]
              refine .inl ⟨_, rfl, by dsimp only; omega, ?_⟩
              dsimp only at hI ⊢
              rw [mem_take_succ hx, hI]
              exact ⟨.inl, fun h => h.elim id fun h => absurd h.symm he⟩) (fun s hI => by
            obtain ⟨t, i⟩ := s
            obtain ⟨h1, hI⟩ := hI
            have h1' : i = (v.fKeys.length : Int) := h1
            subst h1'
            rw [List.take_length] at hI
            unfold law03_TreeGet_s1
            dsimp only
            rw [decide_eq_false (by omega), cF]
            exact ⟨_, rfl, hI⟩) (by have := hw.2.1; omega)
        rw [hb, bnd]
        cases b with
        | inl u => exact hp.elim
        | inr r =>
          dsimp only at hp ⊢
          have e : (getV v key).2 = r := by
            unfold getV
            rw [if_pos ⟨hk, hkl⟩]
            cases hpl : placeV key v.fKeys with
            | none =>
              have := place_none hpl
              cases r with
              | false => rfl
              | true => exact absurd (hp.1 rfl) this
            | some i =>
              have : key ∈ v.fKeys := List.mem_of_getElem? (place_some hpl).1
              rw [hp.2 this]
          rw [e, beq_self_eq_true, cT, wakes_true, bnd]
      · rw [decide_eq_false hc, Bool.not_false, bnd, cT, cT, wakes_true, bnd, bnd]
    · rw [decide_eq_false hk, Bool.not_false, cT, bnd, cT, cF]
      have e : (getV v key).2 = false := by unfold getV; rw [if_neg (fun x => hk x.1)]
      rw [e, Bool.not_false, cT, wakes_true, bnd, bnd]
end Go.Proofs.YtekkifakjkhjiaaDoor
