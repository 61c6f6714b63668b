/-
  Chapter 12, plain: no two texts beside each other; texts put together. Own work.
-/
import Derived.Test.YtdmjgmleilgbpaaDoorSubLaws1
namespace Go.Proofs.YtdmjgmleilgbpaaDoor
open Go Go.Vc

/-- The parts of the pieces so far, and the text that waits. -/
def run : List UInt8 → List It → List T_api_Expr × List UInt8
  | b, [] => ([], b)
  | b, .tx a :: r => run (b ++ a) r
  | b, .ho x :: r => (fl b ++ x :: (run [] r).1, (run [] r).2)
theorem mrg_run : ∀ (l : List It) (b : List UInt8), mrg b l = (run b l).1 ++ fl (run b l).2
  | [], b => rfl
  | .tx a :: r, b => by rw [mrg, run]; exact mrg_run r (b ++ a)
  | .ho x :: r, b => by
    rw [mrg, run, mrg_run r []]
    simp
theorem mrg_two : ∀ (l m : List It) (b : List UInt8), mrg b (l ++ m) = (run b l).1 ++ mrg (run b l).2 m
  | [], m, b => rfl
  | .tx a :: r, m, b => by rw [List.cons_append, mrg, run]; exact mrg_two r m (b ++ a)
  | .ho x :: r, m, b => by
    rw [List.cons_append, mrg, run, mrg_two r m []]
    simp
def HoK : It → Prop
  | .tx _ => True
  | .ho x => x.fKind ≠ 0
theorem holeS_kind (s : List UInt8) : (holeS s).1.fKind ≠ 0 := by
  unfold holeS
  split
  · show (4 : Int) ≠ 0; decide
  · show (3 : Int) ≠ 0; decide
theorem prs_hok (s : List UInt8) : ∀ i ∈ (prs s).1, HoK i := by
  induction s using prs_ind with
  | nil => simp [prs_nil]
  | ch c r h ih => rw [prs_ch h]; exact List.forall_mem_cons.2 ⟨trivial, ih⟩
  | bad q h => rw [prs_bad h]; simp
  | esc a b h h2 ih => rw [prs_esc' h h2]; exact List.forall_mem_cons.2 ⟨trivial, ih⟩
  | hole a b h h2 h3 ih => rw [prs_hole' h h2 h3]; exact List.forall_mem_cons.2 ⟨holeS_kind _, ih⟩
  | none a b h h2 h3 => rw [prs_none' h h2 h3]; simp
/-- The last part before the waiting text is no text. -/
theorem run_last : ∀ (l : List It) (b : List UInt8), (∀ i ∈ l, HoK i) → ∀ x, (run b l).1.getLast? = some x → x.fKind ≠ 0
  | [], b, _, x, h => by simp [run] at h
  | .tx a :: r, b, hk, x, h => run_last r (b ++ a) (fun i hi => hk i (by simp [hi])) x h
  | .ho y :: r, b, hk, x, h => by
    rw [run] at h
    dsimp only at h
    rw [List.getLast?_append, List.getLast?_cons] at h
    simp only [Option.some_or, Option.some.injEq] at h
    cases hr : (run [] r).1.getLast? with
    | none =>
      rw [hr] at h
      simp at h
      subst h
      exact hk (.ho y) (by simp)
    | some z =>
      rw [hr] at h
      simp at h
      subst h
      exact run_last r [] (fun i hi => hk i (by simp [hi])) z hr
def NoAdj : List T_api_Expr → Prop
  | [] => True
  | [_] => True
  | x :: y :: r => ¬ (x.fKind = 0 ∧ y.fKind = 0) ∧ NoAdj (y :: r)
theorem NoAdj.at : ∀ {l : List T_api_Expr} (k : Nat), NoAdj l → k + 1 < l.length → ¬ ((l.getD k (txE [])).fKind = 0 ∧ (l.getD (k + 1) (txE [])).fKind = 0)
  | [], k, _, h => by simp at h
  | [_], k, _, h => by simp at h
  | x :: y :: r, 0, h, _ => h.1
  | x :: y :: r, k + 1, h, hk => NoAdj.at (l := y :: r) k h.2 (by simpa using hk)
theorem NoAdj.cons {x : T_api_Expr} {l : List T_api_Expr} (h : NoAdj l) (hx : x.fKind ≠ 0 ∨ (match l with | [] => True | y :: _ => y.fKind ≠ 0)) : NoAdj (x :: l) := by
  cases l with
  | nil => trivial
  | cons y r => exact ⟨fun e => hx.elim (fun g => g e.1) (fun g => g e.2), h⟩
theorem mrg_noadj : ∀ (l : List It) (b : List UInt8), (∀ i ∈ l, HoK i) → NoAdj (mrg b l)
  | [], b, _ => by
    rw [mrg]
    unfold fl
    split <;> trivial
  | .tx a :: r, b, h => mrg_noadj r (b ++ a) fun i hi => h i (by simp [hi])
  | .ho x :: r, b, h => by
    rw [mrg]
    have h1 := mrg_noadj r [] fun i hi => h i (by simp [hi])
    have hx : x.fKind ≠ 0 := h (.ho x) (by simp)
    have h2 : NoAdj (x :: mrg [] r) := h1.cons (.inl hx)
    unfold fl
    split
    · exact h2
    · exact h2.cons (.inr hx)
theorem lexS_noadj (s : List UInt8) : NoAdj (lexS s).1 := by
  unfold lexS
  split
  · split
    · cases (prs s).2 with
      | some p => trivial
      | none => exact mrg_noadj _ _ (prs_hok s)
    · trivial
  · trivial

/-- A text ahead of parts. -/
def jt (p : List UInt8) : List T_api_Expr → List T_api_Expr
  | [] => fl p
  | x :: r => if p ≠ [] ∧ x.fKind = 0 then txE (p ++ x.fText) :: r else fl p ++ x :: r
theorem jt_nil (l : List T_api_Expr) : jt [] l = l := by
  cases l <;> simp [jt, fl]
theorem jt_tx {p : List UInt8} {x : T_api_Expr} {r : List T_api_Expr} (hp : p ≠ []) (hx : x.fKind = 0) : jt p (x :: r) = txE (p ++ x.fText) :: r := by
  rw [jt, if_pos ⟨hp, hx⟩]
theorem jt_ho {p : List UInt8} {x : T_api_Expr} {r : List T_api_Expr} (hx : x.fKind ≠ 0) : jt p (x :: r) = fl p ++ x :: r := by
  rw [jt, if_neg (fun h => hx h.2)]
theorem jt_jt (p a : List UInt8) (l : List T_api_Expr) : jt (p ++ a) l = jt p (jt a l) := by
  by_cases ha : a = []
  · subst ha; rw [List.append_nil, jt_nil]
  by_cases hp : p = []
  · subst hp; rw [List.nil_append, jt_nil]
  have hpa : p ++ a ≠ [] := by simp [hp]
  cases l with
  | nil =>
    rw [jt, jt, fl, fl, if_neg hpa, if_neg ha, jt_tx hp rfl]
    rfl
  | cons x r =>
    by_cases hx : x.fKind = 0
    · rw [jt_tx hpa hx, jt_tx ha hx, jt_tx hp rfl, List.append_assoc]
      rfl
    · rw [jt_ho hx, jt_ho hx, fl, fl, if_neg hpa, if_neg ha, List.singleton_append, List.singleton_append, jt_tx hp rfl]
      rfl
theorem mrg_jt : ∀ (l : List It) (p : List UInt8), (∀ i ∈ l, HoK i) → mrg p l = jt p (mrg [] l)
  | [], p, _ => by simp [mrg, jt, fl]
  | .tx a :: r, p, h => by
    rw [mrg, mrg_jt r (p ++ a) (fun i hi => h i (by simp [hi])), jt_jt, ← mrg_jt r a (fun i hi => h i (by simp [hi]))]
    rfl
  | .ho x :: r, p, h => by
    have hx : x.fKind ≠ 0 := h (.ho x) (by simp)
    rw [mrg, mrg]
    show _ = jt p (x :: mrg [] r)
    rw [jt_ho hx]

theorem prs_join (t s : List UInt8) : (prs s).2 = none → s.getLast? ≠ some 36 → prs (s ++ t) = ((prs s).1 ++ (prs t).1, (prs t).2.map (· + s.length)) := by
  induction s using prs_ind with
  | nil =>
    intro _ _
    rw [prs_nil, List.nil_append]
    simp
  | ch c r h ih =>
    intro h1 h2
    rw [prs_ch h] at h1 ⊢
    have h3 : (prs r).2 = none := by
      unfold add at h1
      simpa using h1
    have h4 : r.getLast? ≠ some 36 := fun e => h2 (by rw [List.getLast?_cons, e]; rfl)
    have h5 : ¬ (c = 36 ∧ (r ++ t).head? = some 123) := fun e => by
      cases r with
      | nil => exact h2 (by rw [e.1]; rfl)
      | cons y r => exact h ⟨e.1, e.2⟩
    rw [List.cons_append, prs_ch h5, ih h3 h4]
    unfold add
    simp only [List.cons_append, Option.map_map, List.length_cons]
    refine congrArg (Prod.mk _) (congrFun (congrArg Option.map ?_) _)
    funext x
    simp only [Function.comp]
    omega
  | bad q h => intro h1; rw [prs_bad h] at h1; cases h1
  | esc a b h h2 ih =>
    intro h1 h3
    rw [prs_esc' h h2] at h1 ⊢
    have h4 : (prs b).2 = none := by
      unfold add at h1
      simpa using h1
    have h5 : b.getLast? ≠ some 36 := fun e => h3 (by simp [List.getLast?_append, List.getLast?_cons, e])
    have e : 36 :: 123 :: (a ++ 125 :: b) ++ t = 36 :: 123 :: (a ++ 125 :: (b ++ t)) := by simp
    rw [e, prs_esc' h h2, ih h4 h5]
    unfold add
    simp only [List.cons_append, Option.map_map, List.length_cons, List.length_append]
    refine congrArg (Prod.mk _) (congrFun (congrArg Option.map ?_) _)
    funext x
    simp only [Function.comp]
    omega
  | hole a b h h2 h3 ih =>
    intro h1 h6
    rw [prs_hole' h h2 h3] at h1 ⊢
    have h4 : (prs b).2 = none := by
      unfold add at h1
      simpa using h1
    have h5 : b.getLast? ≠ some 36 := fun e => h6 (by simp [List.getLast?_append, List.getLast?_cons, e])
    have e : 36 :: 123 :: (a ++ 125 :: b) ++ t = 36 :: 123 :: (a ++ 125 :: (b ++ t)) := by simp
    rw [e, prs_hole' h h2 h3, ih h4 h5]
    unfold add
    simp only [List.cons_append, Option.map_map, List.length_cons, List.length_append]
    refine congrArg (Prod.mk _) (congrFun (congrArg Option.map ?_) _)
    funext x
    simp only [Function.comp]
    omega
  | none a b h h2 h3 => intro h1; rw [prs_none' h h2 h3] at h1; cases h1

/-- How much text the pieces have. -/
def tsum : List It → Nat
  | [] => 0
  | .tx b :: r => b.length + tsum r
  | .ho _ :: r => tsum r
def HoT : It → Prop
  | .tx _ => True
  | .ho x => x.fText = []
theorem holeS_text (s : List UInt8) : (holeS s).1.fText = [] := by
  unfold holeS
  split <;> rfl
theorem prs_hot (s : List UInt8) : ∀ i ∈ (prs s).1, HoT i := by
  induction s using prs_ind with
  | nil => simp [prs_nil]
  | ch c r h ih => rw [prs_ch h]; exact List.forall_mem_cons.2 ⟨trivial, ih⟩
  | bad q h => rw [prs_bad h]; simp
  | esc a b h h2 ih => rw [prs_esc' h h2]; exact List.forall_mem_cons.2 ⟨trivial, ih⟩
  | hole a b h h2 h3 ih => rw [prs_hole' h h2 h3]; exact List.forall_mem_cons.2 ⟨holeS_text _, ih⟩
  | none a b h h2 h3 => rw [prs_none' h h2 h3]; simp
theorem prs_tsum (s : List UInt8) : tsum (prs s).1 ≤ s.length := by
  induction s using prs_ind with
  | nil => simp [prs_nil, tsum]
  | ch c r h ih => rw [prs_ch h]; unfold add; simp only [tsum, List.length_cons, List.length_nil]; omega
  | bad q h => rw [prs_bad h]; simp [tsum]
  | esc a b h h2 ih =>
    have : 0 < a.length := by cases a with
      | nil => simp at h2
      | cons x y => simp
    rw [prs_esc' h h2]; unfold add; simp only [tsum, List.length_cons, List.length_append, List.length_nil, List.length_drop]; omega
  | hole a b h h2 h3 ih => rw [prs_hole' h h2 h3]; unfold add; simp only [tsum, List.length_cons, List.length_append]; omega
  | none a b h h2 h3 => rw [prs_none' h h2 h3]; simp [tsum]
theorem run_text : ∀ (l : List It) (b : List UInt8), (run b l).2.length ≤ b.length + tsum l
  | [], b => Nat.le_refl _
  | .tx a :: r, b => by
    have := run_text r (b ++ a)
    rw [List.length_append] at this
    simp only [run, tsum]
    omega
  | .ho x :: r, b => by
    have := run_text r []
    rw [List.length_nil] at this
    simp only [run, tsum]
    omega
theorem fl_text {b : List UInt8} {x : T_api_Expr} (h : x ∈ fl b) : x.fText = b := by
  unfold fl at h
  split at h
  · simp at h
  · simp at h; rw [h]; rfl
theorem mrg_text : ∀ (l : List It) (b : List UInt8), (∀ i ∈ l, HoT i) → ∀ x ∈ mrg b l, x.fText.length ≤ b.length + tsum l
  | [], b, _, x, hx => by rw [fl_text hx, tsum]; omega
  | .tx a :: r, b, h, x, hx => by
    have := mrg_text r (b ++ a) (fun i hi => h i (by simp [hi])) x hx
    rw [List.length_append] at this
    simp only [tsum]
    omega
  | .ho y :: r, b, h, x, hx => by
    rw [mrg] at hx
    simp only [tsum]
    rcases List.mem_append.1 hx with hx | hx
    · rw [fl_text hx]; omega
    rcases List.mem_cons.1 hx with rfl | hx
    · have : x.fText = [] := h (.ho x) (by simp)
      rw [this]; simp
    · have := mrg_text r [] (fun i hi => h i (by simp [hi])) x hx
      rw [List.length_nil] at this
      omega
theorem lexS_ok {s : List UInt8} (h : (lexS s).2.2 = 0) : Lib.validD s = true ∧ s.length ≤ 4096 ∧ (prs s).2 = none ∧ lexS s = (mrg [] (prs s).1, 0, 0) := by
  unfold lexS at h ⊢
  split at h
  · rename_i hv
    split at h
    · rename_i hl
      rw [if_pos hv, if_pos hl]
      cases hp : (prs s).2 with
      | some p => rw [hp] at h; simp at h
      | none => exact ⟨hv, hl, rfl, rfl⟩
    · simp at h
  · simp at h
end Go.Proofs.YtdmjgmleilgbpaaDoor
