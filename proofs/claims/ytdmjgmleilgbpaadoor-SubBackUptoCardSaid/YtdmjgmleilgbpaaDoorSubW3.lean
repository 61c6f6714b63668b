/-
  Chapter 12, plain: parts written: the program's. Own work.
-/
import Derived.Test.YtdmjgmleilgbpaaDoorSubW2
namespace Go.Proofs.YtdmjgmleilgbpaaDoor
open Go Go.Vc

def pieceS (x : T_api_Expr) : Option (List UInt8) :=
  if x.fKind = 0 then wr x.fText else if x.fKind = 3 then some (([36, 123] ++ x.fName) ++ [125]) else some (((([36, 123] ++ x.fName) ++ [46]) ++ x.fAttr) ++ [125])
def outS : List T_api_Expr → Option (List UInt8)
  | [] => some []
  | x :: r => (pieceS x).bind fun a => (outS r).map (a ++ ·)
def badAt (l : List T_api_Expr) (k : Nat) : Bool := !partS (l.getD k (txE [])) || (decide (0 < k) && (decide ((l.getD k (txE [])).fKind = 0) && decide ((l.getD (k - 1) (txE [])).fKind = 0)))
def badS (l : List T_api_Expr) : Bool := (List.range l.length).any (badAt l)
def writeS (l : List T_api_Expr) : List UInt8 × Int := bif badS l then ([], 2) else match outS l with | none => ([], 130) | some t => (t, 0)
def Small (l : List T_api_Expr) : Prop := l.length ≤ 20000 ∧ ∀ x ∈ l, x.fText.length + x.fName.length + x.fAttr.length ≤ 3000
theorem piece_len {x : T_api_Expr} (h : x.fText.length + x.fName.length + x.fAttr.length ≤ 3000) {a : List UInt8} (ha : pieceS x = some a) : a.length ≤ 7000 := by
  unfold pieceS at ha
  split at ha
  · have := wr_len x.fText a ha; omega
  · split at ha <;> cases ha <;> simp only [List.length_append, List.length_cons, List.length_nil] <;> omega

theorem write_s1 {n : Nat} {l : List T_api_Expr} (hs : Small l) (hn : 100000 ≤ n) : loopF (sub_Write_s1 n l) n 0 = some (bif badS l then .inl () else .inr ()) := by
  obtain ⟨hl, hx⟩ := hs
  refine loop_any (n := n) (step := sub_Write_s1 n l) (badAt l) l.length (Sum.inl ()) (Sum.inr ()) (fun k hk => ?_) ?_ (by omega)
  · have hm : l.getD k (txE []) ∈ l := by simp [List.getD, hk]
    unfold sub_Write_s1 badAt
    rw [decide_eq_true (by omega), cT, getI_at (txE []) hk, bnd, part_sub hn (hx _ hm), bnd]
    cases partS (l.getD k (txE [])) with
    | false => rfl
    | true =>
      rw [Bool.not_true, cF, Bool.false_or]
      by_cases h0 : 0 < k
      · have e : (k : Int) - 1 = ((k - 1 : Nat) : Int) := by omega
        rw [decide_eq_true (by omega), cT, bnd, decide_eq_true h0, Bool.true_and]
        by_cases h1 : (l.getD k (txE [])).fKind = 0
        · rw [decide_eq_true h1, cT, need_i (by omega) (by omega), e, getI_at (txE []) (by omega), bnd, Bool.true_and]
          by_cases h2 : (l.getD (k - 1) (txE [])).fKind = 0
          · rw [decide_eq_true h2, cT, if_pos rfl]
          · rw [decide_eq_false h2, cF, need_i (by omega) (by omega), if_neg (by simp)]
        · rw [decide_eq_false h1, cF, need_i (by omega) (by omega), Bool.false_and, if_neg (by simp)]
      · rw [decide_eq_false (by omega), cF, need_i (by omega) (by omega), decide_eq_false h0, Bool.false_and, if_neg (by simp)]
  · unfold sub_Write_s1
    rw [decide_eq_false (by omega), cF]
theorem write_s2 {n : Nat} {l : List T_api_Expr} (hs : Small l) (hn : 100000 ≤ n) : ∀ (m k : Nat) (b : List UInt8), k + m = l.length → b.length ≤ 7000 * k → ∀ q, m < q →
    match outS (l.drop k) with
    | some t => loopF (sub_Write_s2 n l) q ((k : Int), b) = some (.inr (b ++ t))
    | none => ∃ z, loopF (sub_Write_s2 n l) q ((k : Int), b) = some (.inl z)
  | 0, k, b, hk, hb, q, hq => by
    obtain ⟨q, rfl⟩ : ∃ r, q = r + 1 := ⟨q - 1, by omega⟩
    rw [List.drop_eq_nil_of_le (by omega)]
    show loopF _ (q + 1) _ = _
    rw [loopF, sub_Write_s2]
    dsimp only
    rw [decide_eq_false (by omega), cF, bnd, List.append_nil]
  | m + 1, k, b, hk, hb, q, hq => by
    obtain ⟨q, rfl⟩ : ∃ r, q = r + 1 := ⟨q - 1, by omega⟩
    have hl := hs.1
    have hlt : k < l.length := by omega
    have hm : l.getD k (txE []) ∈ l := by simp [List.getD, hlt]
    have hd : l.drop k = l.getD k (txE []) :: l.drop (k + 1) := by
      rw [List.drop_eq_getElem_cons hlt]
      simp [List.getD, hlt]
    have hsz := hs.2 _ hm
    have hpl := fun {a} => piece_len hsz (a := a)
    rw [hd, outS]
    generalize l.getD k (txE []) = x at hm hsz hpl hd ⊢
    have hx : getI l (k : Int) = some x := by
      rw [getI_at (txE []) hlt]
      have := congrArg List.head? hd
      rw [List.head?_drop] at this
      simp only [List.head?_cons] at this
      simp [List.getD, this]
    have hstep : sub_Write_s2 n l ((k : Int), b) = match pieceS x with | none => some (.br (.inl b)) | some a => some (.nx (((k + 1 : Nat) : Int), b ++ a)) := by
      have e : (k : Int) + 1 = ((k + 1 : Nat) : Int) := by omega
      unfold sub_Write_s2 pieceS
      dsimp only
      rw [decide_eq_true (by omega), cT, hx, bnd]
      by_cases h0 : x.fKind = 0
      · rw [decide_eq_true h0, cT, if_pos h0, guard_sub (by omega) hn, bnd]
        cases hw : wr x.fText with
        | none => rfl
        | some a =>
          have := wr_len _ _ hw
          show (bif !true then _ else (strings_Builder_WriteString n b a).bind _) = _
          rw [Bool.not_true, cF, wrS (by omega), bnd, need_i (by omega) (by omega), e]
      · rw [decide_eq_false h0, cF, if_neg h0]
        by_cases h3 : x.fKind = 3
        · rw [decide_eq_true h3, cT, if_pos h3, need_t (by simp only [List.length_cons, List.length_nil]; omega), need_t (by simp only [List.length_append, List.length_cons, List.length_nil]; omega), wrS (by simp only [List.length_append, List.length_cons, List.length_nil]; omega), bnd, need_i (by omega) (by omega), e]
        · rw [decide_eq_false h3, cF, if_neg h3, need_t (by simp only [List.length_cons, List.length_nil]; omega), need_t (by simp only [List.length_append, List.length_cons, List.length_nil]; omega), need_t (by simp only [List.length_append, List.length_cons, List.length_nil]; omega), need_t (by simp only [List.length_append, List.length_cons, List.length_nil]; omega), wrS (by simp only [List.length_append, List.length_cons, List.length_nil]; omega), bnd, need_i (by omega) (by omega), e]
    rw [loopF, hstep]
    cases hp : pieceS x with
    | none => exact ⟨b, rfl⟩
    | some a =>
      have hal := hpl hp
      have ih := write_s2 hs hn m (k + 1) (b ++ a) (by omega) (by rw [List.length_append]; omega) q (by omega)
      dsimp only
      rw [bnd, bnd]
      dsimp only
      cases ho : outS (l.drop (k + 1)) with
      | none =>
        rw [ho] at ih
        exact ih
      | some t =>
        rw [ho] at ih
        show loopF _ q _ = _
        rw [ih, List.append_assoc]
theorem write_sub {n : Nat} {l : List T_api_Expr} (hs : Small l) (hn : 100000 ≤ n) : sub_Write n l = some (writeS l) := by
  unfold sub_Write writeS
  rw [write_s1 hs hn, bnd]
  cases badS l with
  | true => rfl
  | false =>
    rw [cF, cF]
    dsimp only
    have hl := hs.1
    have h := write_s2 hs hn l.length 0 [] (by omega) (by simp) n (by omega)
    rw [List.drop_zero, show ((0 : Nat) : Int) = 0 from rfl] at h
    cases ho : outS l with
    | none =>
      rw [ho] at h
      obtain ⟨z, h⟩ := h
      rw [h]
      rfl
    | some t =>
      rw [ho] at h
      dsimp only at h
      rw [h]
      rfl
end Go.Proofs.YtdmjgmleilgbpaaDoor
