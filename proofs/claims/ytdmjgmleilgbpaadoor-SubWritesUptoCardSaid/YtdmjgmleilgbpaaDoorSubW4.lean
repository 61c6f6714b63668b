/-
  Chapter 12, plain: parts written: the reference's. Own work.
-/
import Derived.Test.YtdmjgmleilgbpaaDoorSubW3
import Derived.Test.YtdmjgmleilgbpaaDoorQ2w
import Derived.Test.YtdmjgmleilgbpaaDoorUtfA
namespace Go.Proofs.YtdmjgmleilgbpaaDoor
open Go Go.Vc

theorem part_ref {n : Nat} {x : T_api_Expr} (hn : 100000 ≤ n) (h : x.fText.length + x.fName.length + x.fAttr.length ≤ 3000) : ref12_part n x = some (partS x) := by
  unfold ref12_part partS
  rw [isEmpty_len]
  cases x.fL.isEmpty with
  | false => rfl
  | true =>
    rw [Bool.not_true, cF, bnd, Bool.true_and]
    by_cases h0 : x.fNum = 0
    case neg => rw [decide_eq_false h0]; rfl
    rw [decide_eq_true h0, Bool.not_true, cF, Bool.true_and]
    by_cases k0 : x.fKind = 0
    · rw [decide_eq_true k0, cT, decide_eq_false (by omega : ¬ x.fKind = 3), decide_eq_false (by omega : ¬ x.fKind = 4), Bool.false_and, Bool.false_and, Bool.or_false, Bool.or_false, Bool.true_and]
      rw [valid_ref (by omega) (by omega) (by omega), bnd, and_bif, and_bif, and_bif]
    rw [decide_eq_false k0, cF, Bool.false_and, Bool.false_or]
    by_cases k3 : x.fKind = 3
    · rw [decide_eq_true k3, cT, decide_eq_false (by omega : ¬ x.fKind = 4), Bool.false_and, Bool.or_false, Bool.true_and, name_ref (by omega) (by omega), bnd, and_bif, and_bif]
    rw [decide_eq_false k3, cF, Bool.false_and, Bool.false_or]
    by_cases k4 : x.fKind = 4
    · rw [decide_eq_true k4, cT, Bool.true_and, name_ref (by omega) (by omega), bnd, attr_ref (by omega) (by omega), bnd, and_bif, and_bif]
    · rw [decide_eq_false k4, cF, Bool.false_and]

theorem writ_loop {n : Nat} {s : List UInt8} (hs : s.length < 100000) (hn : s.length < n) : ∀ (m k : Nat) (b : List UInt8), s.length ≤ k + m → k ≤ s.length → b.length ≤ 2 * k → ∀ q, m < q →
    loopF (ref12_written_s1 n s) q (b, (k : Int)) = some (match wr (s.drop k) with | some t => .inr (b ++ t) | none => .inl ())
  | m, k, b, hm, hk, hb, q, hq => by
    obtain ⟨q, rfl⟩ : ∃ r, q = r + 1 := ⟨q - 1, by omega⟩
    rw [loopF, ref12_written_s1]
    dsimp only
    by_cases hlt : k < s.length
    · obtain ⟨m, rfl⟩ : ∃ r, m = r + 1 := ⟨m - 1, by omega⟩
      rw [decide_eq_true (by omega : (k : Int) < (s.length : Int)), cT, start_ref hlt (by omega), bnd]
      cases hst : isStart s k with
      | false =>
        rw [Bool.not_false, cT, getI_at 0 hlt, bnd, need_t (by omega), need_i (by omega) (by omega), bnd]
        have e : (k : Int) + 1 = ((k + 1 : Nat) : Int) := by omega
        dsimp only
        rw [e, writ_loop hs hn m (k + 1) (b ++ [s.getD k 0]) (by omega) (by omega) (by rw [List.length_append, List.length_singleton]; omega) q (by omega), drop_at hlt, wr_ch (of_decide_eq_false hst)]
        cases wr (s.drop (k + 1)) with
        | none => rfl
        | some t => simp
      | true =>
        obtain ⟨h1, h2⟩ := start_shape hlt hst
        have e : (k : Int) + 2 = ((k + 2 : Nat) : Int) := by omega
        rw [Bool.not_true, cF, need_i (by omega) (by omega), e]
        have hsh := shut_ref (n := n) (k := k + 2) (s := s) (by omega) hn (by omega)
        cases hf : (s.drop (k + 2)).findIdx? (· == 125) with
        | none =>
          rw [hf] at hsh
          rw [hsh, bnd]
          dsimp only
          rw [decide_eq_true (by omega), cT, bnd, h2, wr_bad hf]
        | some i =>
          have hi : i < (s.drop (k + 2)).length := (List.findIdx?_eq_some_iff_getElem.1 hf).1
          rw [List.length_drop] at hi
          obtain ⟨E, hE⟩ : ∃ E, k + 2 + i = E := ⟨_, rfl⟩
          rw [hf] at hsh
          dsimp only at hsh
          rw [hE] at hsh
          have e3 : ((E : Int) + 1) = ((k + (i + 3) : Nat) : Int) := by omega
          have e4 : s.drop (k + (i + 3)) = (s.drop (k + 2)).drop (i + 1) := by
            rw [List.drop_drop]
            congr 1
            omega
          have g2 : (s.drop (k + 2)).take (i + 1) = (s.drop (k + 2)).take i ++ [125] := by
            have g := (List.findIdx?_eq_some_iff_getElem.1 hf).2.1
            rw [List.take_add_one, List.getElem?_eq_getElem (by rw [List.length_drop]; omega)]
            simp only [beq_iff_eq] at g
            rw [g]
            rfl
          have e7 : (s.take (k + (i + 3))).drop (k + 2) = (s.drop (k + 2)).take i ++ [125] := by
            rw [show k + (i + 3) = (k + 2) + (i + 1) by omega, take_drop_at, g2]
          have hl7 : ((s.drop (k + 2)).take i).length = i := by rw [List.length_take, List.length_drop]; omega
          rw [hsh, bnd, decide_eq_false (by omega), cF, need_t (by simp only [List.length_cons, List.length_nil]; omega), need_i (by omega) (by omega), need_i (by omega) (by omega), need_t (by omega), e3, Int.toNat_natCast, Int.toNat_natCast, e7,
            need_t (by simp only [List.length_append, List.length_cons, List.length_nil, hl7]; omega), need_i (by omega) (by omega), bnd]
          dsimp only
          rw [writ_loop hs hn m (k + (i + 3)) _ (by omega) (by omega) (by simp only [List.length_append, List.length_cons, List.length_nil, hl7]; omega) q (by omega), h2, wr_in hf, e4]
          cases wr ((s.drop (k + 2)).drop (i + 1)) with
          | none => rfl
          | some t => simp
    · rw [decide_eq_false (by omega), cF, bnd, List.drop_eq_nil_of_le (by omega), wr_nil]
      simp
theorem writ_ref {n : Nat} {s : List UInt8} (hs : s.length ≤ 3000) (hn : 100000 ≤ n) : ref12_written n s = some ((wr s).getD [], (wr s).isSome) := by
  unfold ref12_written
  have h := writ_loop (n := n) (s := s) (by omega) (by omega) s.length 0 [] (by omega) (by omega) (by simp) n (by omega)
  rw [List.drop_zero, show ((0 : Nat) : Int) = 0 from rfl] at h
  rw [h, bnd]
  cases wr s <;> rfl

theorem write_r1 {n : Nat} {l : List T_api_Expr} (hs : Small l) (hn : 100000 ≤ n) : loopF (ref12_Write_s1 n l) n 0 = some (bif badS l then .inl () else .inr ()) := by
  obtain ⟨hl, hx⟩ := hs
  refine loop_any (n := n) (step := ref12_Write_s1 n l) (badAt l) l.length (Sum.inl ()) (Sum.inr ()) (fun k hk => ?_) ?_ (by omega)
  · have hm : l.getD k (txE []) ∈ l := by simp [List.getD, hk]
    unfold ref12_Write_s1 badAt
    rw [decide_eq_true (by omega), cT, getI_at (txE []) hk, bnd, part_ref hn (hx _ hm), bnd]
    cases partS (l.getD k (txE [])) with
    | false => rfl
    | true =>
      rw [Bool.not_true, cF, Bool.false_or]
      by_cases h0 : 0 < k
      · have e : (k : Int) - 1 = ((k - 1 : Nat) : Int) := by omega
        rw [decide_eq_true (by omega), cT, bnd, decide_eq_true h0, Bool.true_and]
        by_cases h1 : (l.getD k (txE [])).fKind = 0
        · rw [decide_eq_true h1, cT, need_i (by omega) (by omega), e, getI_at (txE []) (by omega), bnd, Bool.true_and]
          by_cases h2 : (l.getD (k - 1) (txE [])).fKind = 0
          · rw [decide_eq_true h2, cT, if_pos rfl]
          · rw [decide_eq_false h2, cF, need_i (by omega) (by omega), if_neg (by simp)]
        · rw [decide_eq_false h1, cF, need_i (by omega) (by omega), Bool.false_and, if_neg (by simp)]
      · rw [decide_eq_false (by omega), cF, need_i (by omega) (by omega), decide_eq_false h0, Bool.false_and, if_neg (by simp)]
  · unfold ref12_Write_s1
    rw [decide_eq_false (by omega), cF]
theorem bad_kind {l : List T_api_Expr} (h : badS l = false) {x : T_api_Expr} (hx : x ∈ l) : partS x = true := by
  obtain ⟨i, hi, rfl⟩ := List.mem_iff_getElem.1 hx
  unfold badS at h
  have := List.any_eq_false.1 h i (List.mem_range.2 hi)
  unfold badAt at this
  rw [show l.getD i (txE []) = l[i] by simp [List.getD, hi]] at this
  cases hp : partS l[i] with
  | true => rfl
  | false => rw [hp] at this; simp at this
theorem part_kind {x : T_api_Expr} (h : partS x = true) : x.fKind = 0 ∨ x.fKind = 3 ∨ x.fKind = 4 := by
  unfold partS at h
  simp only [Bool.and_eq_true, Bool.or_eq_true, decide_eq_true_eq] at h
  rcases h.2.2 with h | h | h
  · exact .inl h.1
  · exact .inr (.inl h.1)
  · exact .inr (.inr h.1)
theorem write_r2 {n : Nat} {l : List T_api_Expr} (hs : Small l) (hk4 : ∀ x ∈ l, x.fKind = 0 ∨ x.fKind = 3 ∨ x.fKind = 4) (hn : 100000 ≤ n) : ∀ (m k : Nat) (b : List UInt8), k + m = l.length → b.length ≤ 7000 * k → ∀ q, m < q →
    loopF (ref12_Write_s2 n l) q (b, (k : Int)) = some (match outS (l.drop k) with | some t => .inr (b ++ t) | none => .inl ())
  | 0, k, b, hk, hb, q, hq => by
    obtain ⟨q, rfl⟩ : ∃ r, q = r + 1 := ⟨q - 1, by omega⟩
    rw [List.drop_eq_nil_of_le (by omega), loopF, ref12_Write_s2]
    dsimp only
    rw [decide_eq_false (by omega), cF, bnd]
    show _ = some (Sum.inr (b ++ []))
    rw [List.append_nil]
  | m + 1, k, b, hk, hb, q, hq => by
    obtain ⟨q, rfl⟩ : ∃ r, q = r + 1 := ⟨q - 1, by omega⟩
    have hl := hs.1
    have hlt : k < l.length := by omega
    have hm : l.getD k (txE []) ∈ l := by simp [List.getD, hlt]
    have hd : l.drop k = l.getD k (txE []) :: l.drop (k + 1) := by
      rw [List.drop_eq_getElem_cons hlt]
      simp [List.getD, hlt]
    have hsz := hs.2 _ hm
    have hkd := hk4 _ hm
    have hpl := fun {a} => piece_len hsz (a := a)
    rw [hd, outS]
    generalize l.getD k (txE []) = x at hm hsz hpl hd hkd ⊢
    have hx : getI l (k : Int) = some x := by
      rw [getI_at (txE []) hlt]
      have := congrArg List.head? hd
      rw [List.head?_drop] at this
      simp only [List.head?_cons] at this
      simp [List.getD, this]
    have hstep : ref12_Write_s2 n l (b, (k : Int)) = match pieceS x with | none => some (.br (.inl ())) | some a => some (.nx (b ++ a, ((k + 1 : Nat) : Int))) := by
      have e : (k : Int) + 1 = ((k + 1 : Nat) : Int) := by omega
      unfold ref12_Write_s2 pieceS
      dsimp only
      rw [decide_eq_true (by omega), cT, hx, bnd]
      by_cases h0 : x.fKind = 0
      · rw [decide_eq_true h0, cT, if_pos h0, writ_ref (by omega) hn, bnd]
        cases hw : wr x.fText with
        | none => rfl
        | some a =>
          have := wr_len _ _ hw
          show (bif !true then _ else need (b.length + a.length ≤ 9223372036854775807) _) = _
          rw [Bool.not_true, cF, need_t (by omega), need_i (by omega) (by omega), e]
          rfl
      · rw [decide_eq_false h0, cF, if_neg h0]
        by_cases h3 : x.fKind = 3
        · rw [decide_eq_true h3, cT, if_pos h3, need_t (by simp only [List.length_cons, List.length_nil]; omega), need_t (by simp only [List.length_append, List.length_cons, List.length_nil]; omega), need_t (by simp only [List.length_append, List.length_cons, List.length_nil]; omega), need_i (by omega) (by omega), e]
          simp
        · rw [decide_eq_false h3, cF, if_neg h3, decide_eq_true (by omega), cT, need_t (by simp only [List.length_cons, List.length_nil]; omega), need_t (by simp only [List.length_append, List.length_cons, List.length_nil]; omega), need_t (by simp only [List.length_append, List.length_cons, List.length_nil]; omega), need_t (by simp only [List.length_append, List.length_cons, List.length_nil]; omega), need_t (by simp only [List.length_append, List.length_cons, List.length_nil]; omega), need_i (by omega) (by omega), e]
          simp
    rw [loopF, hstep]
    cases hp : pieceS x with
    | none => rfl
    | some a =>
      have hal := hpl hp
      dsimp only
      rw [bnd, bnd]
      dsimp only
      rw [write_r2 hs hk4 hn m (k + 1) (b ++ a) (by omega) (by rw [List.length_append]; omega) q (by omega)]
      cases outS (l.drop (k + 1)) with
      | none => rfl
      | some t => simp
theorem write_ref {n : Nat} {l : List T_api_Expr} (hs : Small l) (hn : 100000 ≤ n) : ref12_Write n l = some (writeS l) := by
  unfold ref12_Write writeS
  rw [write_r1 hs hn, bnd]
  cases hb : badS l with
  | true => rfl
  | false =>
    rw [cF, cF]
    dsimp only
    have hl := hs.1
    have h := write_r2 hs (fun x hx => part_kind (bad_kind hb hx)) hn l.length 0 [] (by omega) (by simp) n (by omega)
    rw [List.drop_zero, show ((0 : Nat) : Int) = 0 from rfl] at h
    rw [h]
    cases outS l <;> rfl
end Go.Proofs.YtdmjgmleilgbpaaDoor
