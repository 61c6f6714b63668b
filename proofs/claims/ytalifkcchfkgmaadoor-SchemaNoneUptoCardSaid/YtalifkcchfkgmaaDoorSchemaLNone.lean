/-
  Chapter 9's law SchemaNone in plain Lean. Own work.
-/
import Derived.Test.YtalifkcchfkgmaaDoorSchemaP5
import Derived.Test.YtalifkcchfkgmaaDoorL4
set_option linter.unusedVariables false
set_option linter.unusedSimpArgs false
namespace Go.Proofs.YtalifkcchfkgmaaDoor
open Go Go.Vc Go.RowKit
theorem sameK_symm {a b : List T_api_Given} (ua : ∀ g ∈ a, g.fUnknown = false) (ub : ∀ g ∈ b, g.fUnknown = false) (k : List UInt8) : sameK a b k = sameK b a k := by
  unfold sameK
  cases hx : mget (byN a) k with
  | none => cases hy : mget (byN b) k <;> rfl
  | some x =>
    cases hy : mget (byN b) k with
    | none => rfl
    | some y =>
      rw [Option.getD_some, Option.getD_some, ua x (byN_some rfl hx).1, ub y (byN_some rfl hy).1, eqV_symm]
      rfl
theorem rise_eq : ∀ {l r : List (List UInt8)}, (l.Pairwise fun a b => Lib.compareBytes a b < 0) → (r.Pairwise fun a b => Lib.compareBytes a b < 0) → (∀ x, x ∈ l ↔ x ∈ r) → l = r
  | [], [], _, _, _ => rfl
  | [], y :: r, _, _, h => absurd ((h y).2 List.mem_cons_self) (by simp)
  | x :: l, [], _, _, h => absurd ((h x).1 List.mem_cons_self) (by simp)
  | x :: l, y :: r, hl, hr, h => by
    obtain ⟨hl1, hl2⟩ := List.pairwise_cons.1 hl
    obtain ⟨hr1, hr2⟩ := List.pairwise_cons.1 hr
    have hxy : x = y := by
      rcases List.mem_cons.1 ((h x).1 List.mem_cons_self) with e | e
      · exact e
      · rcases List.mem_cons.1 ((h y).2 List.mem_cons_self) with e' | e'
        · exact e'.symm
        · have h1 := hr1 x e
          have h2 := hl1 y e'
          have := cb_anti x y
          omega
    subst hxy
    have nl : x ∉ l := fun e => by have := hl1 x e; rw [cb_self] at this; omega
    have nr : x ∉ r := fun e => by have := hr1 x e; rw [cb_self] at this; omega
    rw [rise_eq hl2 hr2 fun z => ⟨fun hz => by
      rcases List.mem_cons.1 ((h z).1 (List.mem_cons_of_mem _ hz)) with e | e
      · subst e; exact absurd hz nl
      · exact e, fun hz => by
      rcases List.mem_cons.1 ((h z).2 (List.mem_cons_of_mem _ hz)) with e | e
      · subst e; exact absurd hz nr
      · exact e⟩]
theorem fit_check {kind : List UInt8} {g : T_api_Given} (h : okG kind g = true) (hu : g.fUnknown = false) : checkV g.fV = 0 := by
  unfold okG fitG at h
  rw [hu, cF] at h
  have h2 : valueV g.fV (specOf kind g.fName).fKind = true := by
    cases hs : (specAt kind g.fName).isSome with
    | false => rw [hs] at h; simp at h
    | true => rw [hs, Bool.true_and] at h; exact h
  unfold valueV at h2
  cases hf : fitV g.fV (specOf kind g.fName).fKind with
  | false => rw [hf, cF] at h2; cases h2
  | true =>
    unfold fitV at hf
    by_cases hk : g.fV.fKind = (specOf kind g.fName).fKind
    · rw [decide_eq_true hk, Bool.not_true, cF] at hf; exact of_decide_eq_true hf
    · rw [decide_eq_false hk, Bool.not_false, cT] at hf; cases hf
/-- nothing differs just where all is the same -/
theorem same_law {kind : List UInt8} {a b : List T_api_Given} (ca : checkG kind a = 0) (cb : checkG kind b = 0) (ua : ∀ g ∈ a, g.fUnknown = false) (ub : ∀ g ∈ b, g.fUnknown = false) :
    ((propsD kind).any (fun p => !sameK a b p.1) = false) ↔ ((decide (a.length = b.length) && !((List.range a.length).any fun k => !sameG (a.getD k z_T_api_Given) (b.getD k z_T_api_Given))) = true) := by
  obtain ⟨_, oa, ra⟩ := check_zero ca
  obtain ⟨_, ob, rb⟩ := check_zero cb
  have na := rise_nodup ra
  have nb := rise_nodup rb
  constructor
  · intro h
    have hk : ∀ p ∈ propsD kind, sameK a b p.1 = true := fun p hp => by have := List.any_eq_false.1 h p hp; simpa using this
    have half : ∀ {a b : List T_api_Given}, (∀ p ∈ propsD kind, sameK a b p.1 = true) → (∀ g ∈ a, okG kind g = true) → (a.map (·.fName)).Nodup → ∀ g ∈ a, ∃ g' ∈ b, g'.fName = g.fName ∧ eqV g.fV g'.fV = true := by
      intro a b hk oa na g hg
      obtain ⟨s, hs⟩ := prop_in (oa g hg)
      have h1 := hk _ hs
      unfold sameK at h1
      dsimp only at h1
      rw [byN_mem na hg] at h1
      cases hy : mget (byN b) g.fName with
      | none => rw [hy] at h1; simp at h1
      | some y =>
        rw [hy, Option.getD_some, Option.getD_some] at h1
        obtain ⟨m1, m2⟩ := byN_some rfl hy
        refine ⟨y, m1, m2, ?_⟩
        cases hu : y.fUnknown with
        | true => rw [hu] at h1; simp at h1
        | false => rw [hu] at h1; simpa using h1
    have hk' : ∀ p ∈ propsD kind, sameK b a p.1 = true := fun p hp => by rw [← sameK_symm ua ub]; exact hk p hp
    have hn : a.map (·.fName) = b.map (·.fName) := rise_eq ra rb fun x => ⟨fun hx => by
      obtain ⟨g, hg, rfl⟩ := List.mem_map.1 hx
      obtain ⟨g', h1, h2, _⟩ := half hk oa na g hg
      exact List.mem_map.2 ⟨g', h1, h2⟩, fun hx => by
      obtain ⟨g, hg, rfl⟩ := List.mem_map.1 hx
      obtain ⟨g', h1, h2, _⟩ := half hk' ob nb g hg
      exact List.mem_map.2 ⟨g', h1, h2⟩⟩
    have hlen : a.length = b.length := by have := congrArg List.length hn; simpa using this
    rw [decide_eq_true hlen, Bool.true_and]
    have : ((List.range a.length).any fun k => !sameG (a.getD k z_T_api_Given) (b.getD k z_T_api_Given)) = false := by
      rw [List.any_eq_false]
      intro k hkr
      have hka : k < a.length := List.mem_range.1 hkr
      have hkb : k < b.length := by omega
      rw [getD_in hka, getD_in hkb]
      have e1 : a[k].fName = b[k].fName := by
        have := congrArg (fun l => l[k]?) hn
        simpa [hka, hkb] using this
      obtain ⟨g', m1, m2, m3⟩ := half hk oa na a[k] (List.getElem_mem hka)
      have e2 : g' = b[k] := by
        have x1 := byN_mem nb m1
        have x2 := byN_mem nb (List.getElem_mem hkb)
        rw [m2, e1, x2] at x1
        exact (Option.some.inj x1).symm
      rw [e2] at m3
      unfold sameG
      rw [decide_eq_true e1, m3, ua _ (List.getElem_mem hka), ub _ (List.getElem_mem hkb)]
      simp
    rw [this]; rfl
  · intro h
    have hlen : a.length = b.length := by
      by_cases e : a.length = b.length
      · exact e
      · rw [decide_eq_false e] at h; simp at h
    rw [decide_eq_true hlen, Bool.true_and] at h
    have hs : ∀ k, (hka : k < a.length) → (hkb : k < b.length) → sameG a[k] b[k] = true := fun k hka hkb => by
      have h0 : ((List.range a.length).any fun k => !sameG (a.getD k z_T_api_Given) (b.getD k z_T_api_Given)) = false := by simpa using h
      have := List.any_eq_false.1 h0 k (List.mem_range.2 hka)
      rw [getD_in hka, getD_in hkb] at this
      simpa using this
    have hpair : ∀ {x y : T_api_Given}, sameG x y = true → x.fName = y.fName ∧ (checkV x.fV = 0 → eqV x.fV y.fV = true) := by
      intro x y hxy
      unfold sameG at hxy
      simp only [Bool.and_eq_true, decide_eq_true_eq, Bool.or_eq_true] at hxy
      obtain ⟨e1, _, e2 | e2⟩ := hxy
      · exact ⟨e1, fun _ => e2⟩
      · exact ⟨e1, fun hc => by rw [← e2]; exact eqV_self hc⟩
    rw [List.any_eq_false]
    intro p hp
    have goal : sameK a b p.1 = true := by
      unfold sameK
      cases hx : mget (byN a) p.1 with
      | none =>
        cases hy : mget (byN b) p.1 with
        | none => rfl
        | some y =>
          obtain ⟨m1, m2⟩ := byN_some rfl hy
          obtain ⟨k, hkb, rfl⟩ := List.mem_iff_getElem.1 m1
          have hka : k < a.length := by omega
          have := (byN_isSome (k := p.1) (gs := a) rfl).2 ⟨a[k], List.getElem_mem hka, (hpair (hs k hka hkb)).1.trans m2⟩
          rw [hx] at this; cases this
      | some x =>
        obtain ⟨m1, m2⟩ := byN_some rfl hx
        obtain ⟨k, hka, rfl⟩ := List.mem_iff_getElem.1 m1
        have hkb : k < b.length := by omega
        obtain ⟨e1, e2⟩ := hpair (hs k hka hkb)
        have hb : mget (byN b) p.1 = some b[k] := by
          rw [← m2, e1]; exact byN_mem nb (List.getElem_mem hkb)
        rw [hb, Option.getD_some, Option.getD_some, ub _ (List.getElem_mem hkb), e2 (fit_check (oa _ (List.getElem_mem hka)) (ua _ (List.getElem_mem hka)))]
        rfl
    rw [goal]; simp
theorem unk_false {gs : List T_api_Given} (h : gs.any (·.fUnknown) = false) : ∀ g ∈ gs, g.fUnknown = false := fun g hg => by
  have := List.any_eq_false.1 h g hg
  simpa using this
theorem endK_symm {a b : List T_api_Given} (ua : ∀ g ∈ a, g.fUnknown = false) (ub : ∀ g ∈ b, g.fUnknown = false) (l : List (List UInt8 × T_api_Spec)) : endK a b l 0 = endK b a l 0 := by
  have e : ∀ k, sameK a b k = sameK b a k := sameK_symm ua ub
  unfold endK
  simp only [e]
theorem none_heart {kind : List UInt8} {a b : List T_api_Given} (ua : ∀ g ∈ a, g.fUnknown = false) (ub : ∀ g ∈ b, g.fUnknown = false) :
    ((differV kind a b).2 ≠ 0 → (differV kind b a).2 ≠ 0) ∧ ((differV kind a b).2 = 0 → (differV kind b a).2 = 0 ∧ (differV kind a b).1 = (differV kind b a).1 ∧
      (decide ((differV kind a b).1 = 0) == (decide (a.length = b.length) && !((List.range a.length).any fun k => !sameG (a.getD k z_T_api_Given) (b.getD k z_T_api_Given)))) = true) := by
  have na : a.any (·.fUnknown) = false := List.any_eq_false.2 fun g hg => by rw [ua g hg]; exact Bool.false_ne_true
  have nb : b.any (·.fUnknown) = false := List.any_eq_false.2 fun g hg => by rw [ub g hg]; exact Bool.false_ne_true
  have hs := endK_symm ua ub (propsD kind)
  by_cases ca : checkG kind a = 0
  · by_cases cb : checkG kind b = 0
    · have e1 : differV kind a b = (match endK a b (propsD kind) 0 with | .inl y => (y, 0) | .inr _ => (3, 0)) := by
        unfold differV
        rw [decide_eq_true ca, decide_eq_true cb, Bool.not_true, cF, cF, na, cF]
        cases endK a b (propsD kind) 0 <;> rfl
      have e2 : differV kind b a = (match endK a b (propsD kind) 0 with | .inl y => (y, 0) | .inr _ => (3, 0)) := by
        unfold differV
        rw [decide_eq_true ca, decide_eq_true cb, Bool.not_true, cF, cF, nb, cF, ← hs]
        cases endK a b (propsD kind) 0 <;> rfl
      have h0 : (differV kind a b).2 = 0 := by rw [e1]; cases endK a b (propsD kind) 0 <;> rfl
      refine ⟨fun h => absurd h0 h, fun _ => ⟨by rw [e2, ← e1]; exact h0, by rw [e1, e2], ?_⟩⟩
      have hl := same_law ca cb ua ub
      rw [e1]
      unfold endK
      cases hq : (propsD kind).any (fun p => !sameK a b p.1) with
      | false =>
        have hr : (propsD kind).any (fun p => !sameK a b p.1 && p.2.fReplace) = false := by
          rw [List.any_eq_false] at hq ⊢
          intro p hp
          have := hq p hp
          intro h
          exact this (by simp at h ⊢; exact h.1)
        rw [hr, cF, cF, hl.1 hq]; rfl
      | true =>
        have hS : (decide (a.length = b.length) && !((List.range a.length).any fun k => !sameG (a.getD k z_T_api_Given) (b.getD k z_T_api_Given))) = false := by
          cases hz : (decide (a.length = b.length) && !((List.range a.length).any fun k => !sameG (a.getD k z_T_api_Given) (b.getD k z_T_api_Given))) with
          | false => rfl
          | true => rw [hl.2 hz] at hq; cases hq
        rw [hS]
        cases (propsD kind).any (fun p => !sameK a b p.1 && p.2.fReplace) <;> rfl
    · have e1 : (differV kind a b).2 = checkG kind b := by
        unfold differV
        rw [decide_eq_true ca, decide_eq_false cb, Bool.not_true, cF, Bool.not_false, cT]
      have e2 : (differV kind b a).2 = checkG kind b := by
        unfold differV
        rw [decide_eq_false cb, Bool.not_false, cT]
      exact ⟨fun _ => by rw [e2]; exact cb, fun h => absurd (e1.symm.trans h) cb⟩
  · have e1 : (differV kind a b).2 = checkG kind a := by
      unfold differV
      rw [decide_eq_false ca, Bool.not_false, cT]
    refine ⟨fun _ => ?_, fun h => absurd (e1.symm.trans h) ca⟩
    by_cases cb : checkG kind b = 0
    · unfold differV
      rw [decide_eq_true cb, decide_eq_false ca, Bool.not_true, cF, Bool.not_false, cT]; exact ca
    · unfold differV
      rw [decide_eq_false cb, Bool.not_false, cT]; exact cb
theorem schemaNone_true (kind : List UInt8) (a b : List T_api_Given) : law09_SchemaNone 10000 kind a b = some true := by
  unfold law09_SchemaNone
  by_cases g0 : (200 : Int) < (kind.length : Int)
  · rw [decide_eq_true g0, cT, bnd, cT, wakes_bind]
  rw [decide_eq_false g0, cF]
  obtain ⟨ga, ha1, ha2⟩ := great9 (n := 10000) (by omega) a
  rw [ha1, bnd]
  cases ga with
  | true => rw [cT, bnd, cT, wakes_bind]
  | false =>
    obtain ⟨la, fa⟩ := ha2 rfl
    obtain ⟨gb, hb1, hb2⟩ := great9 (n := 10000) (by omega) b
    rw [cF, hb1, bnd, bnd]
    cases gb with
    | true => rw [cT, wakes_bind]
    | false =>
      obtain ⟨lb, fb⟩ := hb2 rfl
      have fa' : ∀ x ∈ a, Fine x.fV := fun x hx => (fa x hx).2
      have fb' : ∀ x ∈ b, Fine x.fV := fun x hx => (fb x hx).2
      rw [cF, Differ_run (by omega) kind la lb fa' fb', bnd, Differ_run (by omega) kind lb la fb' fa', bnd, need_t (by simp only [List.length_nil]; omega), need_t (by simp only [List.nil_append]; omega)]
      have e0 : loopF (law09_SchemaNone_s1 10000 a b) 10000 (0 : Int) = some (bif (a ++ b).any (·.fUnknown) then .inl true else .inr ()) := by
        have := loop_any (n := 10000) (step := law09_SchemaNone_s1 10000 a b) (fun k => ((a ++ b).getD k z_T_api_Given).fUnknown) (a ++ b).length (.inl true) (.inr ()) (fun k hk => by
          unfold law09_SchemaNone_s1
          rw [List.length_append] at hk
          rw [List.nil_append, decide_eq_true (by rw [List.length_append]; omega), cT, getI_at z_T_api_Given (by rw [List.length_append]; omega), bnd, wakes_run, bnd, need_i (by omega) (by omega)]
          cases ((a ++ b).getD k z_T_api_Given).fUnknown <;> rfl) (by
          unfold law09_SchemaNone_s1
          rw [List.nil_append, decide_eq_false (by omega), cF]) (by rw [List.length_append]; omega)
        rw [this, any_range z_T_api_Given (·.fUnknown)]
      rw [e0, bnd]
      cases hu : (a ++ b).any (·.fUnknown) with
      | true => rfl
      | false =>
        rw [cF]
        dsimp only
        have hall := unk_false hu
        have ua : ∀ g ∈ a, g.fUnknown = false := fun g hg => hall g (List.mem_append_left _ hg)
        have ub : ∀ g ∈ b, g.fUnknown = false := fun g hg => hall g (List.mem_append_right _ hg)
        obtain ⟨h1, h2⟩ := none_heart (kind := kind) ua ub
        by_cases hd : (differV kind a b).2 = 0
        · obtain ⟨q1, q2, q3⟩ := h2 hd
          rw [decide_eq_true hd, Bool.not_true, cF, decide_eq_true q1, cT, decide_eq_true q2, cT, Same_run9 (by omega) la fa' fb', bnd, q3, cT, wakes_bind]
        · rw [decide_eq_false hd, Bool.not_false, cT, decide_eq_false (h1 hd), Bool.not_false, cT, wakes_bind, bnd]
end Go.Proofs.YtalifkcchfkgmaaDoor
