/-
  VC: regions that draw their order, quiet operations and loud ones mixed: behind a loud one what is known is known anew, so that quiet operations may look at memory there, too. Own work.
-/
import Derived.Test.YtalifkcchfkgmaaDoorVkD
set_option linter.unusedVariables false
set_option linter.unusedSimpArgs false
namespace Go.Vc
open Go Go.RowKit
section
variable {P : Program} {ops : Array Oper} {md : Region.Mode} {Q : Exit → Act → World → Prop} {I : Type}

theorem wpAnyI_shrink {Cl : I → World → Prop} {D : I → Prop} : ∀ (f : Nat) (listed : Array Bool) (a : Act) (i : I), D i → wpAnyI P md ops Q (fun i w => D i ∧ Cl i w) f listed a i → wpAnyI P md ops Q Cl f listed a i
  | 0, _, _, _, hd, h => ⟨h.1, fun w hw => h.2 w ⟨hd, hw⟩⟩
  | f + 1, _, _, _, hd, h => ⟨fun h0 w hw => h.1 h0 w ⟨hd, hw⟩, fun w hw j hj => wpOp_mono (fun a' w' ⟨i', ⟨d', c'⟩, h'⟩ => ⟨i', c', wpAnyI_shrink f _ a' i' d' h'⟩) (h.2 w ⟨hd, hw⟩ j hj)⟩

/-! The walk, in the canonical order: an operation, and whether it is quiet; behind a loud one the classes may shrink. -/
def wpMixR (P : Program) (ops : Array Oper) (Q : Exit → Act → World → Prop) : List (Bool × Oper) → (I → World → Prop) → Act → I → Prop
  | [], Cl, a, i => ∀ w, Cl i w → Q .normal a w
  | (true, o) :: r, Cl, a, i => ∃ v, YieldsU P ops Cl o v a ∧ wpMixR P ops Q r Cl (a.put o.dst v) i
  | (false, o) :: r, Cl, a, i => ∀ w, Cl i w → wpList P ops (mixQ Q fun a' w' => ∃ (i' : I) (D : I → Prop), Cl i' w' ∧ D i' ∧ wpMixR P ops Q r (fun i w => D i ∧ Cl i w) a' i') [o] a w

theorem wpAnyI_of_mixR {l : List Oper} (hs : Region.noSelect l.toArray = true) : ∀ (ord : List (Nat × Bool)) (Cl : I → World → Prop) (listed : Array Bool) (a : Act) (i : I),
    Region.mixB md l.toArray ord listed = true → wpMixR P l.toArray Q (pickL l ord) Cl a i → wpAnyI P md l.toArray Q Cl ord.length listed a i
  | [], _, _, _, _, hB, h => ⟨by simpa [Region.mixB] using hB, h⟩
  | (k, b) :: r, Cl, listed, a, i, hB, h => by
    simp only [Region.mixB, Bool.and_eq_true, decide_eq_true_eq] at hB
    obtain ⟨⟨hk, hb⟩, hB'⟩ := hB
    have hk' : k < l.length := by simpa using hk
    have h0 : l.toArray[k]? = some l[k] := by simp [hk']
    have h1 : pickL l ((k, b) :: r) = (b, l[k]) :: pickL l r := by
      have : atL l k = some l[k] := by rw [atL_eq]; simp [hk']
      simp only [pickL, this]
    rw [h1] at h
    cases b with
    | true =>
      obtain ⟨v, hy, hK⟩ := h
      simp only [Bool.and_eq_true] at hb
      exact wpAnyI_first h0 (Region.noSelect_spec hs) r.length listed a i (Region.free_spec h0 hb.2) (by simpa using hb.1) hy (wpAnyI_of_mixR hs r Cl _ _ _ hB' hK)
    | false =>
      simp only [decide_eq_true_eq] at hb
      refine ⟨fun h2 => (by rw [h2] at hb; cases hb), fun w hw j hj => ?_⟩
      rw [hb] at hj
      obtain rfl : j = k := by simpa using hj
      have h3 := h w hw
      simp only [wpList] at h3
      unfold wpOp
      simp only [h0]
      have mono : ∀ a' w', (mixQ Q (fun a' w' => ∃ (i' : I) (D : I → Prop), Cl i' w' ∧ D i' ∧ wpMixR P l.toArray Q (pickL l r) (fun i w => D i ∧ Cl i w) a' i') .normal a' w') → ∃ i', Cl i' w' ∧ wpAnyI P md l.toArray Q Cl r.length (listed.setIfInBounds j true) a' i' :=
        fun a' w' ⟨i', D, h4, hd, h5⟩ => ⟨i', h4, wpAnyI_shrink _ _ a' i' hd (wpAnyI_of_mixR hs r _ _ _ _ hB' h5)⟩
      split
      · rename_i hw'
        simp only [hw', if_true] at h3
        rcases h3 with h3 | ⟨h3, h4⟩
        · exact .inl (Oper.wp_mono mono (Oper.wp_mixQ h3))
        · exact .inr ⟨h3, letsOut_mixQ h4⟩
      · rename_i hw'
        simp only [hw'] at h3
        exact mono _ _ h3

theorem wp_region_mixR {Cl : I → World → Prop} {id : Nat} {a : Act} {w : World} {l : List Oper} (ord : List (Nat × Bool)) (i : I) (hm : P.follows .mixedOrders = true) (hs : Region.noSelect l.toArray = true) (hl : ord.length = l.length)
    (hB : Region.mixB .any l.toArray ord (Array.replicate l.length false) = true) (hC : Cl i { w with drawn := w.drawn + 1 }) (h : wpMixR P l.toArray Q (pickL l ord) Cl a i) : (Code.region id l.toArray true).wp P Q a w := by
  refine Code.wp_mono (fun e a w h => noPan_imp h) (wp_region_any hm ?_)
  have := wpAny_of_I _ _ a i _ hC (wpAnyI_of_mixR (md := .any) hs ord Cl _ a i hB h)
  rw [hl] at this
  simpa using this
end
section
variable {P : Program} {ops : Array Oper} {n : Nat} {Q : Exit → Act → World → Prop} {L : Fr} {a : Act} {w0 w : World} {M : Mem} {Hr : List Ent} {i : Mem × List Ent}

theorem R_mixR {id : Nat} {l : List Oper} {E : List Ent} (ord : List (Nat × Bool)) (hp : Hp w0 M (E ++ Hr) w) (hm : P.follows .mixedOrders = true) (hs : Region.noSelect l.toArray = true) (hl : ord.length = l.length)
    (hB : Region.mixB .any l.toArray ord (Array.replicate l.length false) = true) (h : wpMixR P l.toArray Q (pickL l ord) (Cla w0 M Hr) a (M, E)) : (Code.region id l.toArray true).wp P Q a w :=
  wp_region_mixR ord (M, E) hm hs hl hB ⟨Mem.le_refl M, hp.drew⟩ h

theorem MR_eq {o : Oper} {rest : List (Bool × Oper)} {v : Value} {d : Nat} (hf : Frm n L a) (hw : wantedL ops L o = some true) (hr : readyL L o = true) (hd : o.dst = some d) (hdn : Nat.blt d n = true)
    (hx : ∀ w, Hp w0 M Hr w → (execOp (ev L) o).run P w = .ok (.value v) w) (hk : ∀ a', Frm n ((d, v) :: L) a' → wpMixR P ops Q rest (Cla w0 M Hr) a' i) : wpMixR P ops Q ((true, o) :: rest) (Cla w0 M Hr) a i := by
  refine ⟨v, .inl ⟨hf.wanted hw, fun j w hC => ?_⟩, ?_⟩
  · unfold Oper.quietAt
    rw [hf.exec hr, hx w hC.hp]
    exact ⟨rfl, rfl⟩
  · rw [hd]; exact hk _ (hf.put (by simpa [Nat.blt_eq] using hdn) v)

theorem MR_not {o : Oper} {rest : List (Bool × Oper)} {d : Nat} (hf : Frm n L a) (hw : wantedL ops L o = some false) (hd : o.dst = some d) (hdn : Nat.blt d n = true)
    (hk : ∀ a', Frm n ((d, undef) :: L) a' → wpMixR P ops Q rest (Cla w0 M Hr) a' i) : wpMixR P ops Q ((true, o) :: rest) (Cla w0 M Hr) a i := by
  refine ⟨undef, .inr ⟨hf.wanted hw, rfl⟩, ?_⟩
  rw [hd]; exact hk _ (hf.put (by simpa [Nat.blt_eq] using hdn) undef)

theorem MR_okv {o : Oper} {rest : List (Bool × Oper)} {d : Nat} {f : FuncId} {args : List Value} {v : Value} (hf : Frm n L a) (hw : wantedL ops L o = some true) (hr : readyL L o = true)
    (hd : o.dst = some d) (hdn : Nat.blt d n = true) (hx : ∀ w, (execOp (ev L) o).run P w = .ok (.enter f args.toArray) w) (hc : Ok P M f args fun _ u => u = v)
    (hk : ∀ a', Frm n ((d, v) :: L) a' → wpMixR P ops Q rest (Cla w0 M Hr) a' i) : wpMixR P ops Q ((true, o) :: rest) (Cla w0 M Hr) a i := by
  refine ⟨v, .inl ⟨hf.wanted hw, fun j w hC => ?_⟩, ?_⟩
  · unfold Oper.quietAt
    rw [hf.exec hr, hx w]
    refine ⟨rfl, (hc j.1 hC.1 w0 _ w hC.2).mono fun e w' ⟨u, he, M', hM, hp, hv⟩ => ?_⟩
    exact ⟨by rw [he, hv], hC.1, hp.less hM⟩
  · rw [hd]; exact hk _ (hf.put (by simpa [Nat.blt_eq] using hdn) v)

theorem MR_fix {o : Oper} {rest : List (Bool × Oper)} {M1 : Mem} {E : List Ent}
    (h : ∀ w, Hp w0 M1 (E ++ Hr) w → wpList P ops (mixQ Q fun a' w' => ∃ (i' : Mem × List Ent) (D : Mem × List Ent → Prop), Cla w0 M Hr i' w' ∧ D i' ∧ wpMixR P ops Q rest (fun i w => D i ∧ Cla w0 M Hr i w) a' i') [o] a w) : wpMixR P ops Q ((false, o) :: rest) (Cla w0 M Hr) a (M1, E) :=
  fun w hw => h w hw.2
theorem MR_go {rest : List (Bool × Oper)} {M1 : Mem} {E : List Ent} (hM : M.le M1) (hp : Hp w0 M1 (E ++ Hr) w) (h : wpMixR P ops Q rest (Cla w0 M1 Hr) a (M1, E)) :
    mixQ Q (fun a' w' => ∃ (i' : Mem × List Ent) (D : Mem × List Ent → Prop), Cla w0 M Hr i' w' ∧ D i' ∧ wpMixR P ops Q rest (fun i w => D i ∧ Cla w0 M Hr i w) a' i') .normal a w := by
  refine ⟨(M1, E), fun i => M1.le i.1, ⟨hM, hp⟩, Mem.le_refl M1, ?_⟩
  have e : (fun (i : Mem × List Ent) (w : World) => M1.le i.1 ∧ Cla w0 M Hr i w) = Cla w0 M1 Hr := by
    funext i w
    exact propext ⟨fun h => ⟨h.1, h.2.2⟩, fun h => ⟨h.1, hM.trans h.1, h.2⟩⟩
  rw [e]
  exact h
theorem MR_end {l : List (Bool × Oper)} {M1 : Mem} {E : List Ent} (hl : l = []) (h : ∀ w, Hp w0 M1 (E ++ Hr) w → Q .normal a w) : wpMixR P ops Q l (Cla w0 M Hr) a (M1, E) := by
  subst hl
  exact fun w hw => h w hw.2
end
end Go.Vc
