/-
  Chapter 12, plain: the reference's loop reads a text's pieces. Own work.
-/
import Derived.Test.YtdmjgmleilgbpaaDoorSubPlain6
namespace Go.Proofs.YtdmjgmleilgbpaaDoor
open Go Go.Vc

theorem etaE (x : T_api_Expr) : (⟨x.fKind, x.fText, x.fNum, x.fName, x.fAttr, x.fL⟩ : T_api_Expr) = x := by cases x; rfl
def isStart (s : List UInt8) (k : Nat) : Bool := decide (s.getD k 0 = 36 ∧ (s.drop (k + 1)).head? = some 123)
theorem start_ref {s : List UInt8} {k : Nat} (hk : k < s.length) (hs : s.length < 1000000) :
    ((getI s (k : Int)).bind fun c_1 =>
        bif (!(decide (((c_1).toNat : Int) = 36))) then
          (some ((true)))
        else
          need (inR .i64 ((k : Int) + 1)) <|
          bif (decide ((s.length : Int) ≤ ((k : Int) + 1))) then
            (some ((true)))
          else
            need (inR .i64 ((k : Int) + 1)) <|
            (getI s ((k : Int) + 1)).bind fun c_2 =>
            some ((!(decide (((c_2).toNat : Int) = 123))))) = some (!isStart s k) := by
  unfold isStart
  rw [getI_at 0 hk, bnd, byteEq _ 36 36 rfl]
  by_cases h : s.getD k 0 = 36
  · rw [h, beq_self_eq_true, Bool.not_true, cF, need_i (by omega) (by omega)]
    by_cases h2 : s.length ≤ k + 1
    · rw [decide_eq_true (by omega), cT, List.drop_eq_nil_of_le h2]
      rfl
    · have e : (k : Int) + 1 = ((k + 1 : Nat) : Int) := by omega
      rw [decide_eq_false (by omega), cF, need_i (by omega) (by omega), e, getI_at 0 (by omega), bnd, byteEq _ 123 123 rfl]
      have e2 : (s.drop (k + 1)).head? = some (s.getD (k + 1) 0) := by
        rw [List.head?_drop]
        simp [List.getD, show k + 1 < s.length by omega]
      rw [e2]
      congr 2
      rw [Bool.eq_iff_iff, beq_iff_eq, decide_eq_true_iff]
      simp
  · rw [show (s.getD k 0 == (36 : UInt8)) = false by simpa using h, Bool.not_false, cT, decide_eq_false (fun h2 => h h2.1)]
    rfl
theorem drop_at {s : List UInt8} {k : Nat} (hk : k < s.length) : s.drop k = s.getD k 0 :: s.drop (k + 1) := by
  rw [List.drop_eq_getElem_cons hk]
  simp [List.getD, hk]
theorem start_shape {s : List UInt8} {k : Nat} (hk : k < s.length) (h : isStart s k = true) : k + 1 < s.length ∧ s.drop k = 36 :: 123 :: s.drop (k + 2) := by
  unfold isStart at h
  obtain ⟨h1, h2⟩ := of_decide_eq_true h
  have h3 : k + 1 < s.length := by
    by_cases h3 : k + 1 < s.length
    · exact h3
    · rw [List.drop_eq_nil_of_le (by omega)] at h2
      cases h2
  refine ⟨h3, ?_⟩
  rw [drop_at hk, h1, drop_at h3] at *
  simp only [List.head?_cons, Option.some.injEq] at h2
  rw [h2]
theorem prs_at {s : List UInt8} {k : Nat} (hk : k < s.length) (h : isStart s k = false) : prs (s.drop k) = add (.tx [s.getD k 0]) 1 (prs (s.drop (k + 1))) := by
  rw [drop_at hk, prs_ch (of_decide_eq_false h)]
theorem take_drop_at {s : List UInt8} {k e : Nat} : (s.take (k + e)).drop k = (s.drop k).take e := by
  rw [List.drop_take]
  congr 1
  omega
theorem head_take {l : List UInt8} {i : Nat} (hi : l.findIdx? (· == 125) = some i) : (l.take i).head? = some 33 ↔ l.head? = some 33 := by
  cases l with
  | nil => cases hi
  | cons c r =>
    cases i with
    | zero =>
      rw [List.findIdx?_cons] at hi
      have : c = 125 := by
        by_cases h : (c == 125) = true
        · simpa using h
        · rw [if_neg h] at hi
          cases h2 : r.findIdx? (· == 125) with
          | none => rw [h2] at hi; cases hi
          | some j => rw [h2] at hi; simp at hi
      subst this
      simp
    | succ i => simp

def RefPost (s : List UInt8) (k : Nat) (out : List T_api_Expr) (text : List UInt8) (b : Sum Int (List T_api_Expr × List UInt8)) : Prop :=
  match (prs (s.drop k)).2 with
  | some p => b = .inl (((k + p : Nat) : Int))
  | none => ∃ o t, b = .inr (o, t) ∧ o ++ fl t = out ++ mrg text (prs (s.drop k)).1 ∧ t.length ≤ s.length ∧ o.length ≤ s.length
theorem RefPost.of_add {s : List UInt8} {k j : Nat} {it : It} {out out' : List T_api_Expr} {text text' : List UInt8} {b : Sum Int (List T_api_Expr × List UInt8)}
    (h : prs (s.drop k) = add it j (prs (s.drop (k + j)))) (hm : ∀ l, out' ++ mrg text' l = out ++ mrg text (it :: l)) (hp : RefPost s (k + j) out' text' b) : RefPost s k out text b := by
  unfold RefPost at hp ⊢
  rw [h]
  unfold add
  cases hq : (prs (s.drop (k + j))).2 with
  | some p =>
    rw [hq] at hp
    show b = _
    rw [hp]
    dsimp only
    congr 2
    omega
  | none =>
    rw [hq] at hp
    show ∃ o t, _
    obtain ⟨o, t, h1, h2, h3, h4⟩ := hp
    exact ⟨o, t, h1, by rw [h2, hm], h3, h4⟩

theorem ref_loop {n : Nat} {s : List UInt8} (hs : s.length < 100000) (hn : s.length < n) : ∀ (m k : Nat) (out : List T_api_Expr) (text : List UInt8), s.length ≤ k + m → k ≤ s.length → text.length ≤ k → out.length ≤ k → ∀ q, m < q →
    ∃ b, loopF (ref12_Lex_s1 n s) q (out, text, (k : Int)) = some b ∧ RefPost s k out text b
  | m, k, out, text, hm, hk, ht, ho, q, hq => by
    obtain ⟨q, rfl⟩ : ∃ r, q = r + 1 := ⟨q - 1, by omega⟩
    rw [loopF, ref12_Lex_s1]
    by_cases hlt : k < s.length
    · obtain ⟨m, rfl⟩ : ∃ r, m = r + 1 := ⟨m - 1, by omega⟩
      dsimp only
      rw [decide_eq_true (by omega : (k : Int) < (s.length : Int)), cT, start_ref hlt (by omega), bnd]
      cases hst : isStart s k with
      | false =>
        rw [Bool.not_false, cT, getI_at 0 hlt, bnd, need_t (by omega), need_i (by omega) (by omega), bnd]
        have e : (k : Int) + 1 = ((k + 1 : Nat) : Int) := by omega
        dsimp only
        rw [e]
        obtain ⟨b, h1, h2⟩ := ref_loop hs hn m (k + 1) out (text ++ [s.getD k 0]) (by omega) (by omega) (by rw [List.length_append, List.length_singleton]; omega) (by omega) q (by omega)
        exact ⟨b, h1, RefPost.of_add (prs_at hlt hst) (fun l => rfl) h2⟩
      | true =>
        obtain ⟨h1, h2⟩ := start_shape hlt hst
        have e : (k : Int) + 2 = ((k + 2 : Nat) : Int) := by omega
        rw [Bool.not_true, cF, need_i (by omega) (by omega), e]
        have hsh := shut_ref (n := n) (k := k + 2) (s := s) (by omega) hn (by omega)
        cases hf : (s.drop (k + 2)).findIdx? (· == 125) with
        | none =>
          rw [hf] at hsh
          rw [hsh, bnd]
          dsimp only
          rw [decide_eq_true (by omega), cT, bnd]
          refine ⟨_, rfl, ?_⟩
          unfold RefPost
          rw [h2, prs_bad hf]
          show _ = _
          simp
        | some i =>
          have hi : i < (s.drop (k + 2)).length := (List.findIdx?_eq_some_iff_getElem.1 hf).1
          rw [List.length_drop] at hi
          obtain ⟨E, hE⟩ : ∃ E, k + 2 + i = E := ⟨_, rfl⟩
          rw [hf] at hsh
          dsimp only at hsh
          rw [hE] at hsh
          rw [hsh, bnd]
          have e8 : (s.take E).drop (k + 2) = (s.drop (k + 2)).take i := by rw [← hE, take_drop_at]
          rw [decide_eq_false (by omega), cF, need_i (by omega) (by omega), getI_at 0 (by omega), bnd, byteEq _ 33 33 rfl]
          have e3 : ((E : Int) + 1) = ((k + (i + 3) : Nat) : Int) := by omega
          have e4 : s.drop (k + (i + 3)) = (s.drop (k + 2)).drop (i + 1) := by
            rw [List.drop_drop]
            congr 1
            omega
          have e5 : (s.drop (k + 2)).head? = some (s.getD (k + 2) 0) := by
            rw [List.head?_drop]
            simp [List.getD, show k + 2 < s.length by omega]
          by_cases h33 : s.getD (k + 2) 0 = 33
          · have h33' : ((s.drop (k + 2)).take i).head? = some 33 := (head_take hf).2 (by rw [e5, h33])
            rw [h33, beq_self_eq_true, cT, need_t (by simp only [List.length_cons, List.length_nil]; omega), need_i (by omega) (by omega), need_i (by omega) (by omega), need_t (by omega)]
            have e6 : (k : Int) + 3 = ((k + 3 : Nat) : Int) := by omega
            have e7 : (s.take (k + (i + 3))).drop (k + 3) = ((s.drop (k + 2)).take i).drop 1 ++ [125] := by
              have g := (List.findIdx?_eq_some_iff_getElem.1 hf).2.1
              have g2 : (s.drop (k + 2)).take (i + 1) = (s.drop (k + 2)).take i ++ [125] := by
                rw [List.take_add_one, List.getElem?_eq_getElem (by rw [List.length_drop]; omega)]
                simp only [beq_iff_eq] at g
                rw [g]
                rfl
              have hi0 : i ≠ 0 := fun h0 => by
                rw [h0] at h33'
                simp at h33'
              rw [show k + (i + 3) = (k + 2) + (i + 1) by omega, show k + 3 = (k + 2) + 1 by omega, ← List.drop_drop, take_drop_at, g2, List.drop_append_of_le_length (by rw [List.length_take, List.length_drop]; omega)]
            rw [e3, e6, Int.toNat_natCast, Int.toNat_natCast, e7]
            have hl7 : (((s.drop (k + 2)).take i).drop 1).length ≤ i - 1 := by
              rw [List.length_drop, List.length_take]
              omega
            have hi0 : i ≠ 0 := fun h0 => by
              rw [h0] at h33'
              simp at h33'
            rw [need_t (by simp only [List.length_append, List.length_cons, List.length_nil]; omega), need_i (by omega) (by omega), bnd]
            dsimp only
            obtain ⟨b, g1, g2⟩ := ref_loop hs hn m (k + (i + 3)) out ((text ++ [36, 123]) ++ (((s.drop (k + 2)).take i).drop 1 ++ [125])) (by omega) (by omega) (by simp only [List.length_append, List.length_cons, List.length_nil]; omega) (by omega) q (by omega)
            refine ⟨b, g1, RefPost.of_add (it := .tx (36 :: 123 :: ((s.drop (k + 2)).take i).drop 1 ++ [125])) (by rw [h2, prs_esc hf h33', e4]) (fun l => ?_) g2⟩
            simp [mrg]
          · have h33' : ((s.drop (k + 2)).take i).head? ≠ some 33 := fun h => by
              have := (head_take hf).1 h
              rw [e5] at this
              exact h33 (by simpa using this)
            rw [show (s.getD (k + 2) 0 == (33 : UInt8)) = false by simpa using h33, cF, need_i (by omega) (by omega), need_t (by omega), Int.toNat_natCast, Int.toNat_natCast, e8, hole_ref (by rw [List.length_take, List.length_drop]; omega) (by rw [List.length_take, List.length_drop]; omega), bnd]
            cases hh : (holeS ((s.drop (k + 2)).take i)).2 with
            | false =>
              rw [Bool.not_false, cT, bnd]
              refine ⟨_, rfl, ?_⟩
              unfold RefPost
              rw [h2, prs_none hf h33' hh]
              show _ = _
              simp
            | true =>
              rw [Bool.not_true, cF]
              have hfl : ((bif (decide ((0 : Int) < ((text.length : Nat) : Int))) then
                  (need ((out.length + 1) * 88 ≤ 140737488355328) <|
                  some ((out ++ [(⟨(0 : Int), text, (0 : Int), ([] : List UInt8), ([] : List UInt8), ([] : List T_api_Expr)⟩ : T_api_Expr)], ([] : List UInt8))))
                else
                  some ((out, text)) : Option (List T_api_Expr × List UInt8))) = some (out ++ fl text, []) := by
                unfold fl
                by_cases h0 : text = []
                · subst h0
                  simp
                · have : 0 < text.length := List.length_pos_iff.2 h0
                  rw [decide_eq_true (by omega), cT, need_t (by omega), if_neg h0]
                  rfl
              rw [hfl, bnd]
              dsimp only
              have hfl2 : (fl text).length ≤ 1 := by unfold fl; split <;> simp
              rw [need_t (by rw [List.length_append]; omega), need_i (by omega) (by omega), bnd, e3, etaE]
              dsimp only
              obtain ⟨b, g1, g2⟩ := ref_loop hs hn m (k + (i + 3)) ((out ++ fl text) ++ [(holeS ((s.drop (k + 2)).take i)).1]) [] (by omega) (by omega) (by simp) (by simp only [List.length_append, List.length_cons, List.length_nil]; omega) q (by omega)
              refine ⟨b, g1, RefPost.of_add (it := .ho (holeS ((s.drop (k + 2)).take i)).1) (by rw [h2, prs_hole hf h33' hh, e4]) (fun l => ?_) g2⟩
              simp [mrg]
    · dsimp only
      rw [decide_eq_false (by omega), cF, bnd]
      refine ⟨_, rfl, ?_⟩
      unfold RefPost
      rw [List.drop_eq_nil_of_le (by omega), prs_nil]
      exact ⟨out, text, rfl, rfl, by omega, by omega⟩

theorem lex_ref {n : Nat} {s : List UInt8} (hs : s.length < 100000) (hn : s.length + 5 < n) : ref12_Lex n s = some (lexS s) := by
  unfold ref12_Lex lexS
  rw [valid_ref (by omega) (by omega) (by omega), bnd]
  cases Lib.validD s with
  | false => rfl
  | true =>
    rw [Bool.not_true, cF, if_pos rfl]
    by_cases h : s.length ≤ 4096
    · rw [decide_eq_false (by omega), cF, if_pos h]
      obtain ⟨b, h1, h2⟩ := ref_loop (n := n) hs (by omega) s.length 0 [] [] (by omega) (by omega) (by simp) (by simp) n (by omega)
      rw [show ((0 : Nat) : Int) = 0 from rfl] at h1
      rw [h1, bnd]
      unfold RefPost at h2
      rw [List.drop_zero] at h2
      cases hp : (prs s).2 with
      | some p =>
        rw [hp] at h2
        dsimp only at h2
        subst h2
        dsimp only
        rw [Nat.zero_add]
      | none =>
        rw [hp] at h2
        obtain ⟨o, t, rfl, h3, h4, h5⟩ := h2
        dsimp only
        rw [List.nil_append] at h3
        rw [← h3]
        unfold fl
        by_cases h0 : t = []
        · subst h0
          simp
        · have : 0 < t.length := List.length_pos_iff.2 h0
          rw [decide_eq_true (by omega), cT, need_t (by omega), if_neg h0]
          rfl
    · rw [decide_eq_true (by omega), cT, if_neg h]
end Go.Proofs.YtdmjgmleilgbpaaDoor
