/-
  Chapter 9, plainly: what a clean check tells; one property exchanged. Own work.
-/
import Derived.Test.YtalifkcchfkgmaaDoorSchemaP3
set_option linter.unusedVariables false
set_option linter.unusedSimpArgs false
namespace Go.Proofs.YtalifkcchfkgmaaDoor
open Go Go.Vc Go.RowKit
theorem getD_in {gs : List T_api_Given} {k : Nat} (hk : k < gs.length) : gs.getD k z_T_api_Given = gs[k] := by simp [List.getD, hk]
theorem check_zero {kind : List UInt8} {gs : List T_api_Given} (h : checkG kind gs = 0) : kindIn kind = true ∧ (∀ g ∈ gs, okG kind g = true) ∧ (gs.map (·.fName)).Pairwise fun a b => Lib.compareBytes a b < 0 := by
  unfold checkG at h
  cases hk : kindIn kind with
  | false => rw [hk, Bool.not_false, cT] at h; omega
  | true =>
    rw [hk, Bool.not_true, cF] at h
    cases ha : (List.range gs.length).any (fun k => !(okG kind (gs.getD k z_T_api_Given) && upG gs k)) with
    | true => rw [ha, cT] at h; omega
    | false =>
      have hall : ∀ k, k < gs.length → okG kind (gs.getD k z_T_api_Given) = true ∧ upG gs k = true := fun k hk => by
        have := List.any_eq_false.1 ha k (List.mem_range.2 hk)
        simpa using this
      refine ⟨rfl, fun g hg => ?_, ?_⟩
      · obtain ⟨k, hk, rfl⟩ := List.mem_iff_getElem.1 hg
        rw [← getD_in hk]; exact (hall k hk).1
      · have hadj : ∀ k, k + 1 < gs.length → Lib.compareBytes (gs.getD k z_T_api_Given).fName (gs.getD (k + 1) z_T_api_Given).fName < 0 := fun k hk => by
          have := (hall (k + 1) hk).2
          unfold upG at this
          rw [decide_eq_false (by omega), Bool.false_or, Nat.add_sub_cancel, less_cb] at this
          exact of_decide_eq_true this
        have hlt : ∀ m i, i + m + 1 < gs.length → Lib.compareBytes (gs.getD i z_T_api_Given).fName (gs.getD (i + m + 1) z_T_api_Given).fName < 0 := by
          intro m
          induction m with
          | zero => intro i hi; exact hadj i hi
          | succ m ih =>
            intro i hi
            have h1 := ih i (by omega)
            have h2 := hadj (i + m + 1) hi
            exact (cb_trans _ _ _ (Int.le_of_lt h1) (Int.le_of_lt h2)).2 (.inl h1)
        rw [List.pairwise_iff_getElem]
        intro i j hi hj hij
        have hi' : i < gs.length := by simpa using hi
        have hj' : j < gs.length := by simpa using hj
        have := hlt (j - i - 1) i (by omega)
        rw [show i + (j - i - 1) + 1 = j by omega, getD_in hi', getD_in hj'] at this
        simpa using this
theorem rise_nodup {l : List (List UInt8)} (h : l.Pairwise fun a b => Lib.compareBytes a b < 0) : l.Nodup := h.imp fun {a b} hab e => by subst e; rw [cb_self] at hab; omega
theorem mget_mem {κ V : Type} [DecidableEq κ] {k : κ} : ∀ {m : List (κ × V)}, (mget m k).isSome = true → ∃ v, (k, v) ∈ m ∧ mget m k = some v
  | [], h => by cases h
  | p :: r, h => by
    unfold mget at h ⊢
    by_cases hk : p.1 = k
    · rw [if_pos hk]; exact ⟨p.2, by subst hk; exact List.mem_cons_self, rfl⟩
    · rw [if_neg hk] at h ⊢
      obtain ⟨v, h1, h2⟩ := mget_mem h
      exact ⟨v, List.mem_cons_of_mem _ h1, h2⟩
theorem byN_last (k : List UInt8) : ∀ (m : Nat) (gs : List T_api_Given), gs.length = m → mget (byN gs) k = (gs.filter fun g => decide (g.fName = k)).getLast?
  | 0, gs, hm => by
    have : gs = [] := List.length_eq_zero_iff.1 hm
    subst this; rfl
  | m + 1, gs, hm => by
    obtain ⟨l, x, rfl⟩ : ∃ l x, gs = l ++ [x] := ⟨gs.dropLast, gs.getLast (by intro e; subst e; cases hm), (List.dropLast_concat_getLast _).symm⟩
    rw [byN_snoc, mget_mput, List.filter_append]
    by_cases hx : x.fName = k
    · rw [if_pos hx, List.filter_cons_of_pos (by simp [hx]), List.filter_nil, List.getLast?_concat]
    · rw [if_neg hx, List.filter_cons_of_neg (by simp [hx]), List.filter_nil, List.append_nil]
      exact byN_last k m l (by simpa using hm)
theorem filter_set {α : Type} {p : α → Bool} {x y : α} (hx : p x = false) (hy : p y = false) : ∀ (l : List α) (i : Nat), l[i]? = some x → (l.set i y).filter p = l.filter p
  | [], i, h => by simp at h
  | a :: l, 0, h => by
    simp only [List.getElem?_cons_zero, Option.some.injEq] at h
    subst h
    rw [List.set_cons_zero, List.filter_cons_of_neg (by rw [hy]; exact Bool.false_ne_true), List.filter_cons_of_neg (by rw [hx]; exact Bool.false_ne_true)]
  | a :: l, i + 1, h => by
    simp only [List.getElem?_cons_succ] at h
    rw [List.set_cons_succ, List.filter_cons, List.filter_cons, filter_set hx hy l i h]
theorem byN_set {b : List T_api_Given} {i : Nat} {g g' : T_api_Given} (hi : b[i]? = some g) {k : List UInt8} (h1 : g.fName ≠ k) (h2 : g'.fName ≠ k) : mget (byN (b.set i g')) k = mget (byN b) k := by
  rw [byN_last k _ _ rfl, byN_last k _ _ rfl, filter_set (by simp [h1]) (by simp [h2]) b i hi]
/-- what is not known is changed -/
theorem sameK_unknown {a b : List T_api_Given} {g : T_api_Given} (hd : (b.map (·.fName)).Nodup) (hg : g ∈ b) (hu : g.fUnknown = true) : sameK a b g.fName = false := by
  unfold sameK
  rw [byN_mem hd hg, Option.getD_some, hu, Bool.not_true, cF]
  cases ((mget (byN a) g.fName).isSome == (some g).isSome) <;> rfl
/-- a property that stands in a clean list is one of the type's -/
theorem prop_in {kind : List UInt8} {g : T_api_Given} (h : okG kind g = true) : ∃ s, (g.fName, s) ∈ propsD kind := by
  unfold okG specAt at h
  have h1 : (mget (propsD kind) g.fName).isSome = true := by
    cases hs : (mget (propsD kind) g.fName).isSome with
    | true => rfl
    | false => rw [hs] at h; simp at h
  obtain ⟨s, h2, _⟩ := mget_mem h1
  exact ⟨s, h2⟩
end Go.Proofs.YtalifkcchfkgmaaDoor
