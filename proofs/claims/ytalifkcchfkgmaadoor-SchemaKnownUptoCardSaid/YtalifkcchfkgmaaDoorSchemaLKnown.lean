/-
  Chapter 9's law SchemaKnown in plain Lean. Own work.
-/
import Derived.Test.YtalifkcchfkgmaaDoorSchemaP4
import Derived.Test.YtalifkcchfkgmaaDoorL2
set_option linter.unusedVariables false
set_option linter.unusedSimpArgs false
namespace Go.Proofs.YtalifkcchfkgmaaDoor
open Go Go.Vc Go.RowKit
theorem place_ok (x : Int) {l : Int} (h0 : 0 < l) (h1 : l ≤ 60) : -1000 ≤ x.tmod l + l ∧ x.tmod l + l ≤ 1000 ∧ 0 ≤ (x.tmod l + l).tmod l ∧ (x.tmod l + l).tmod l < l := by
  have a1 := Int.tmod_lt_of_pos x h0
  have a2 : -l < x.tmod l := by
    rcases Int.le_total 0 x with h | h
    · have := Int.tmod_nonneg (b := l) h; omega
    · have e : x.tmod l = -((-x).tmod l) := by rw [Int.neg_tmod]; omega
      have := Int.tmod_lt_of_pos (-x) h0
      omega
  have b0 : 0 ≤ x.tmod l + l := by omega
  exact ⟨by omega, by omega, Int.tmod_nonneg _ b0, Int.tmod_lt_of_pos _ h0⟩
theorem endK_inl {a b : List T_api_Given} {l : List (List UInt8 × T_api_Spec)} {y : Int} (h : endK a b l 0 = .inl y) : l.any (fun p => !sameK a b p.1 && p.2.fReplace) = false ∧ y = bif l.any (fun p => !sameK a b p.1) then 2 else 0 := by
  unfold endK at h
  cases ha : l.any (fun p => !sameK a b p.1 && p.2.fReplace) with
  | true => rw [ha, cT] at h; cases h
  | false => rw [ha, cF] at h; cases h; exact ⟨rfl, rfl⟩
theorem differ_ok {kind : List UInt8} {a b : List T_api_Given} (h : (differV kind a b).2 = 0) : checkG kind a = 0 ∧ checkG kind b = 0 ∧ a.any (·.fUnknown) = false ∧ differV kind a b = (match endK a b (propsD kind) 0 with | .inl y => (y, 0) | .inr _ => (3, 0)) := by
  unfold differV at h ⊢
  by_cases h1 : checkG kind a = 0
  · rw [decide_eq_true h1, Bool.not_true, cF] at h ⊢
    by_cases h2 : checkG kind b = 0
    · rw [decide_eq_true h2, Bool.not_true, cF] at h ⊢
      cases h3 : a.any (·.fUnknown) with
      | true => rw [h3, cT] at h; simp at h
      | false => exact ⟨h1, h2, rfl, cF _ _⟩
    · rw [decide_eq_false h2, Bool.not_false, cT] at h; exact absurd h h2
  · rw [decide_eq_false h1, Bool.not_false, cT] at h; exact absurd h h1
/-- the law's heart -/
theorem known_heart {kind : List UInt8} {a b : List T_api_Given} {i : Nat} {g g' : T_api_Given} (hi : b[i]? = some g) (hu : g.fUnknown = true) (hg' : g'.fName = g.fName) (h1 : (differV kind a b).2 = 0) (h2 : (differV kind a (b.set i g')).2 = 0) :
    (differV kind a b).1 = 3 ∨ (differV kind a b).1 = 2 ∧ ((differV kind a (b.set i g')).1 = 2 ∨ (differV kind a (b.set i g')).1 = 0) := by
  obtain ⟨c1, c2, c3, e1⟩ := differ_ok h1
  obtain ⟨_, c4, _, e2⟩ := differ_ok h2
  have hmem : g ∈ b := List.mem_of_getElem? hi
  obtain ⟨_, hok, hup⟩ := check_zero c2
  have hchg := sameK_unknown (a := a) (rise_nodup hup) hmem hu
  obtain ⟨s, hs⟩ := prop_in (hok g hmem)
  have hany : (propsD kind).any (fun p => !sameK a b p.1) = true := List.any_eq_true.2 ⟨_, hs, by dsimp only; rw [hchg]; rfl⟩
  rw [e1, e2]
  cases he : endK a b (propsD kind) 0 with
  | inr u => exact .inl rfl
  | inl y =>
    obtain ⟨hn, hy⟩ := endK_inl he
    rw [hany, cT] at hy
    refine .inr ⟨hy, ?_⟩
    have hn2 : (propsD kind).any (fun p => !sameK a (b.set i g') p.1 && p.2.fReplace) = false := by
      rw [List.any_eq_false] at hn ⊢
      intro p hp
      have hp0 := hn p hp
      by_cases hk : p.1 = g.fName
      · rw [hk, hchg] at hp0
        have : p.2.fReplace = false := by simpa using hp0
        rw [this]; simp
      · have e : sameK a (b.set i g') p.1 = sameK a b p.1 := by
          unfold sameK
          rw [byN_set hi (fun x => hk x.symm) (fun x => hk (by rw [← x, hg']))]
        rw [e]; exact hp0
    unfold endK
    rw [hn2, cF]
    cases (propsD kind).any (fun p => !sameK a (b.set i g') p.1) with
    | true => exact .inl rfl
    | false => exact .inr rfl
theorem schemaKnown_true (kind : List UInt8) (a b : List T_api_Given) (j : Int) (v : T_api_Value) : law09_SchemaKnown 10000 kind a b j v = some true := by
  unfold law09_SchemaKnown
  by_cases g0 : (200 : Int) < (kind.length : Int)
  · rw [decide_eq_true g0, cT, bnd, cT, wakes_bind]
  rw [decide_eq_false g0, cF]
  obtain ⟨ga, ha1, ha2⟩ := great9 (n := 10000) (by omega) a
  rw [ha1, bnd]
  cases ga with
  | true => rw [cT, bnd, cT, wakes_bind]
  | false =>
    obtain ⟨la, fa⟩ := ha2 rfl
    obtain ⟨gb, hb1, hb2⟩ := great9 (n := 10000) (by omega) b
    rw [cF, hb1, bnd]
    cases gb with
    | true => rw [cT, bnd, cT, wakes_bind]
    | false =>
      obtain ⟨lb, fb⟩ := hb2 rfl
      obtain ⟨gv, hv1, hv2⟩ := great_fine (n := 10000) (by omega) v
      rw [cF, hv1, bnd]
      cases gv with
      | true => rw [cT, bnd, cT, wakes_bind]
      | false =>
        have fv := (hv2 rfl).1
        rw [cF, bnd]
        by_cases h0 : ((b.length : Nat) : Int) = 0
        · rw [decide_eq_true h0, cT, wakes_bind]
        obtain ⟨p1, p2, p3, p4⟩ := place_ok j (l := ((b.length : Nat) : Int)) (by omega) (by omega)
        rw [decide_eq_false h0, cF, need_t h0, need_i (by omega) (by omega), need_t h0, need_t (by simp only [List.length_nil]; omega), List.nil_append]
        generalize (((j.tmod ((b.length : Nat) : Int)) + ((b.length : Nat) : Int)).tmod ((b.length : Nat) : Int)) = q at p3 p4 ⊢
        have hqn : q.toNat < b.length := by omega
        have hgi : b[q.toNat]? = some b[q.toNat] := List.getElem?_eq_getElem hqn
        have hget : getI b q = some b[q.toNat] := by unfold getI; rw [if_pos p3]; exact hgi
        have ex : (⟨v.fKind, (v.fBool), v.fNum, v.fText, v.fList, v.fKeys⟩ : T_api_Value) = v := by cases v; rfl
        rw [hget, bnd]
        cases hu : b[q.toNat].fUnknown with
        | false => rw [Bool.not_false, cT, wakes_bind]
        | true =>
          have fb' : ∀ x ∈ b.set q.toNat (⟨b[q.toNat].fName, false, v⟩ : T_api_Given), Fine x.fV := fun x hx => by
            rcases List.mem_or_eq_of_mem_set hx with h | h
            · exact (fb x h).2
            · rw [h]; exact fv
          rw [Bool.not_true, cF, bnd, bnd, ex, Differ_run (by omega) kind la lb (fun x hx => (fa x hx).2) (fun x hx => (fb x hx).2), bnd, Differ_run (by omega) kind la (by rw [List.length_set]; exact lb) (fun x hx => (fa x hx).2) fb', bnd]
          by_cases e1 : (differV kind a b).2 = 0
          · rw [decide_eq_true e1, Bool.not_true, cF, bnd]
            by_cases e2 : (differV kind a (b.set q.toNat (⟨b[q.toNat].fName, false, v⟩ : T_api_Given))).2 = 0
            · rw [decide_eq_true e2, Bool.not_true, cF]
              rcases known_heart (g' := (⟨b[q.toNat].fName, false, v⟩ : T_api_Given)) hgi hu rfl e1 e2 with h | ⟨h, h' | h'⟩
              · rw [decide_eq_true h, cT]
                cases decide ((differV kind a (b.set q.toNat (⟨b[q.toNat].fName, false, v⟩ : T_api_Given))).1 = (differV kind a b).1) with
                | true => rw [cT, wakes_bind]
                | false => rw [cF, wakes_bind]
              · rw [decide_eq_false (by rw [h]; decide), cF, decide_eq_true h, cT, decide_eq_true (h'.trans h.symm), cT, wakes_bind]
              · rw [decide_eq_false (by rw [h]; decide), cF, decide_eq_true h, cT, decide_eq_false (by rw [h, h']; decide), cF, decide_eq_true h', cT, wakes_bind]
            · rw [decide_eq_false e2, Bool.not_false, cT, wakes_bind]
          · rw [decide_eq_false e1, Bool.not_false, cT, bnd, cT, wakes_bind]
end Go.Proofs.YtalifkcchfkgmaaDoor
