/-
  Chapter 12, plain: the program's machine, its loop. Own work.
-/
import Derived.Test.YtdmjgmleilgbpaaDoorSubPlain8
namespace Go.Proofs.YtdmjgmleilgbpaaDoor
open Go Go.Vc

theorem mac_loop {n : Nat} {s : List UInt8} (hs : s.length < 100000) (hn : s.length < n) : ∀ (m k i : Nat) (st fr : Int) (out : List T_api_Expr) (text : List UInt8), s.length ≤ i + m → i ≤ s.length → Lib.validD (s.drop i) = true → MacSt s k i st fr → text.length ≤ k → out.length ≤ k → ∀ q, m < q →
    ∃ b, loopF (sub_Lex_s1 n s) q (st, fr, out, text, i) = some b ∧ MacPost s k out text b
  | m, k, i, st, fr, out, text, hm, hi, hv, hst, ht, ho, q, hq => by
    have hks : k ≤ i := by rcases hst with ⟨_, h⟩ | ⟨_, h, _⟩ | ⟨_, _, h, _⟩ <;> omega
    obtain ⟨q, rfl⟩ : ∃ r, q = r + 1 := ⟨q - 1, by omega⟩
    rw [loopF, sub_Lex_s1]
    dsimp only
    by_cases hlt : i < s.length
    case neg =>
      rw [decide_eq_false hlt, cF, bnd]
      refine ⟨_, rfl, ?_⟩
      have hie : i = s.length := by omega
      unfold MacPost
      rcases hst with ⟨rfl, rfl⟩ | ⟨rfl, h1, rfl, h2, h3⟩ | ⟨rfl, rfl, h1, h2, h3⟩
      · rw [List.drop_eq_nil_of_le (by omega), prs_nil]
        exact .inl ⟨out, text, fr, _, rfl, rfl, by omega, by omega⟩
      · rw [drop_at h2, h3, List.drop_eq_nil_of_le (by omega), prs_ch (by simp), prs_nil]
        exact .inr ⟨out, text, _, _, rfl, rfl, by omega, by omega⟩
      · rw [h2, prs_bad (shut_none fun j g1 g2 => h3 j g1 (by omega))]
        exact .inr ⟨text, out, _, rfl⟩
    obtain ⟨m, rfl⟩ : ∃ r, m = r + 1 := ⟨m - 1, by omega⟩
    have hne : s.drop i ≠ [] := fun e => by
      have := congrArg List.length e
      rw [List.length_drop] at this
      simp at this
      omega
    rw [decide_eq_true hlt, cT, bnd]
    -- the rune
    obtain ⟨r, a, t, hd, hdec, ha0, hr, henc, hvt, ha36, ha125, hr36, hr123, hr125⟩ : ∃ (r : Nat) (a t : List UInt8), s.drop i = a ++ t ∧ Lib.decodeL (s.drop i) = (r, a.length) ∧ a ≠ [] ∧ r ≤ 1114111 ∧ Lib.encodeRune (r : Int) = a ∧ Lib.validD t = true ∧
        (r ≠ 36 → ∀ x ∈ a, x ≠ 36) ∧ (r ≠ 125 → ∀ x ∈ a, x ≠ 125) ∧ (r = 36 → a = [36]) ∧ (a.head? = some 123 → r = 123) ∧ (r = 125 → a = [125]) := by
      rcases rune_at hne hv with ⟨c, t, h1, h2, h3, h4⟩ | ⟨r, a, t, h1, h2, h3, h4, h5, h6, h7, h8⟩
      · refine ⟨c.toNat, [c], t, h1, h3, by simp, by omega, ?_, h4, fun h x hx => ?_, fun h x hx => ?_, fun h => ?_, fun h => ?_, fun h => ?_⟩
        · unfold Lib.encodeRune
          rw [Lib.encodeRuneZ_one (by omega) (by omega)]
          simp
        · simp at hx; subst hx; exact fun e => h (by rw [e]; rfl)
        · simp at hx; subst hx; exact fun e => h (by rw [e]; rfl)
        · exact congrArg (fun y => [y]) (UInt8.toNat_inj.1 h)
        · simp at h; rw [h]; rfl
        · exact congrArg (fun y => [y]) (UInt8.toNat_inj.1 h)
      · refine ⟨r, a, t, h1, h2, h3, h6, h7, h8, fun h x hx e => ?_, fun h x hx e => ?_, fun h => by omega, fun h => ?_, fun h => by omega⟩
        · have := h4 x hx; rw [e] at this; simp at this
        · have := h4 x hx; rw [e] at this; simp at this
        · cases a with
          | nil => simp at h
          | cons x a =>
            simp at h
            have := h4 x (by simp)
            rw [h] at this; simp at this
    have hal : 0 < a.length := List.length_pos_iff.2 ha0
    have hil : i + a.length ≤ s.length := by
      have := congrArg List.length hd
      rw [List.length_drop, List.length_append] at this
      omega
    have hvt' : Lib.validD (s.drop (i + a.length)) = true := by rw [← List.drop_drop, hd, List.drop_left]; exact hvt
    rw [hdec]
    dsimp only
    have c36 : (decide ((r : Int) = 36)) = decide (r = 36) := by rw [decide_eq_decide]; omega
    have c123 : (decide ((r : Int) = 123)) = decide (r = 123) := by rw [decide_eq_decide]; omega
    have c125 : (decide ((r : Int) = 125)) = decide (r = 125) := by rw [decide_eq_decide]; omega
    rw [c36, c123, c125]
    have hw : strings_Builder_WriteRune n text (r : Int) = some ((a.length : Int), (), text ++ a) := by
      have := wrR (n := n) (a := text) (c := r) hr (by omega)
      rw [henc] at this
      exact this
    have hw1 : strings_Builder_WriteRune n (text ++ [36]) (r : Int) = some ((a.length : Int), (), text ++ [36] ++ a) := by
      have := wrR (n := n) (a := text ++ [36]) (c := r) hr (by rw [List.length_append, List.length_singleton]; omega)
      rw [henc] at this
      exact this
    have hwb : strings_Builder_WriteByte n text 36 = some ((), text ++ [36]) := wrB (n := n) (a := text) 36 (by omega)
    rcases hst with ⟨rfl, rfl⟩ | ⟨rfl, h1, rfl, h2, h3⟩ | ⟨rfl, rfl, h1, h2, h3⟩
    · -- plain
      rw [decide_eq_false (by omega : ¬ ((0 : Int) = 2)), cF, bnd, cF, cF, decide_eq_false (by omega : ¬ ((0 : Int) = 1)), cF, bnd, cF]
      by_cases hr3 : r = 36
      · have ea := hr36 hr3
        rw [decide_eq_true hr3, cT, cF, bnd]
        dsimp only
        refine mac_loop hs hn m i (i + a.length) 1 (i : Int) out text (by omega) hil hvt' (.inr (.inl ⟨rfl, by rw [ea]; rfl, rfl, hlt, ?_⟩)) ht ho q (by omega)
        have := app_getD hd (Nat.le_refl i) (by omega)
        rw [ea] at this
        simpa using this
      · rw [decide_eq_false hr3, cF, cF, hw, bnd, bnd]
        dsimp only
        obtain ⟨b, g1, g2⟩ := mac_loop hs hn m (i + a.length) (i + a.length) 0 fr out (text ++ a) (by omega) hil hvt' (.inl ⟨rfl, rfl⟩) (by rw [List.length_append]; omega) (by omega) q (by omega)
        exact ⟨b, g1, MacPost.of_add (prs_chars hd (ha36 hr3)) (fun l => by rw [mrg_app]) g2⟩
    · -- a $ was the last one
      subst h1
      rw [decide_eq_false (by omega : ¬ ((1 : Int) = 2)), cF, bnd, cF, cF, decide_eq_true (rfl : (1 : Int) = 1), cT, bnd]
      have hk : s.drop k = 36 :: s.drop (k + 1) := by rw [drop_at h2, h3]
      by_cases hr1 : r = 123
      · rw [decide_eq_true hr1, cT, bnd]
        dsimp only
        have hlen : a = [123] := by
          have := henc
          rw [hr1] at this
          rw [← this]
          rfl
        refine mac_loop hs hn m k (k + 1 + a.length) 2 (k : Int) out text (by omega) hil hvt' (.inr (.inr ⟨rfl, rfl, by omega, ?_, fun j g1 g2 => ?_⟩)) ht ho q (by omega)
        · rw [hk, hd, hlen]
          have : t = s.drop (k + 2) := by
            rw [hlen] at hd
            rw [show k + 2 = k + 1 + 1 by omega, ← List.drop_drop, hd]
            rfl
          rw [this]
          rfl
        · rw [hlen] at g2
          simp only [List.length_cons, List.length_nil] at g2
          omega
      · rw [decide_eq_false hr1, cF]
        have hnot : ¬ ((36 : UInt8) = 36 ∧ (s.drop (k + 1)).head? = some 123) := fun h => by
          rw [hd] at h
          cases a with
          | nil => exact ha0 rfl
          | cons x a => exact hr1 (hr123 (by simpa using h.2))
        have hpk : prs (s.drop k) = add (.tx [36]) 1 (prs (s.drop (k + 1))) := by rw [hk, prs_ch hnot]
        by_cases hr3 : r = 36
        · have ea := hr36 hr3
          rw [decide_eq_true hr3, cT, cT, hwb, bnd, bnd]
          dsimp only
          obtain ⟨b, g1, g2⟩ := mac_loop hs hn m (k + 1) (k + 1 + a.length) 1 ((k + 1 : Nat) : Int) out (text ++ [36]) (by omega) hil hvt' (.inr (.inl ⟨rfl, by rw [ea]; rfl, rfl, by omega, by
            have := app_getD hd (Nat.le_refl (k + 1)) (by omega)
            rw [ea] at this
            simpa using this⟩)) (by rw [List.length_append, List.length_singleton]; omega) (by omega) q (by omega)
          exact ⟨b, g1, MacPost.of_add (it := [.tx [36]]) hpk (fun l => rfl) g2⟩
        · rw [decide_eq_false hr3, cF, cT, hwb, bnd]
          dsimp only
          rw [hw1, bnd, bnd]
          dsimp only
          obtain ⟨b, g1, g2⟩ := mac_loop hs hn m (k + 1 + a.length) (k + 1 + a.length) 0 (k : Int) out (text ++ [36] ++ a) (by omega) hil hvt' (.inl ⟨rfl, rfl⟩) (by simp only [List.length_append, List.length_singleton]; omega) (by omega) q (by omega)
          refine ⟨b, g1, MacPost.of_add (it := [.tx [36]]) (j := 1) hpk (fun l => rfl) (MacPost.of_add (prs_chars hd (ha36 hr3)) (fun l => by rw [mrg_app]) g2)⟩
    · -- within a hole
      rw [decide_eq_true (rfl : (2 : Int) = 2), cT, bnd]
      by_cases hr5 : r = 125
      · have ea := hr125 hr5
        have hil' : i + 1 ≤ s.length := by omega
        have hci : s.getD i 0 = 125 := by
          have := app_getD hd (Nat.le_refl i) (by omega)
          rw [ea] at this
          simpa using this
        have hf := findIdx_shut h3 h1 hlt hci
        have e2 : (k : Int) + 2 = ((k + 2 : Nat) : Int) := by omega
        have ein : (s.take i).drop (k + 2) = (s.drop (k + 2)).take (i - (k + 2)) := by
          have := take_drop_at (s := s) (k := k + 2) (e := i - (k + 2))
          rw [show k + 2 + (i - (k + 2)) = i by omega] at this
          exact this
        have hinl : ((s.drop (k + 2)).take (i - (k + 2))).length = i - (k + 2) := by rw [List.length_take, List.length_drop]; omega
        have hnext : s.drop (k + (i - (k + 2) + 3)) = (s.drop (k + 2)).drop (i - (k + 2) + 1) := by
          rw [List.drop_drop]
          congr 1
          omega
        have hki : k + (i - (k + 2) + 3) = i + 1 := by omega
        rw [decide_eq_true hr5, cT, need_i (by omega) (by omega), need_t (by omega), e2, Int.toNat_natCast, Int.toNat_natCast, ein]
        unfold h_HasPrefix
        rw [bnd]
        generalize hin : (s.drop (k + 2)).take (i - (k + 2)) = inn at hinl ⊢
        have hal1 : a.length = 1 := by rw [ea]; rfl
        rw [hal1] at hvt' ⊢
        cases hp : Lib.hasPrefix inn [33] with
        | true =>
          have h33 : inn.head? = some 33 := by
            obtain ⟨u, hu⟩ := List.isPrefixOf_iff_prefix.1 hp
            rw [← hu]
            rfl
          have hpos : 0 < inn.length := by
            cases inn with
            | nil => cases h33
            | cons x y => simp
          have hdl : (inn.drop (1 : Int).toNat).length = inn.length - 1 := by
            rw [List.length_drop]
            rfl
          rw [cT, need_t (by omega), need_t (by simp only [List.length_cons, List.length_nil, hdl]; omega), need_t (by simp only [List.length_append, List.length_cons, List.length_nil, hdl]; omega), wrS (by simp only [List.length_append, List.length_cons, List.length_nil, hdl]; omega), bnd, bnd]
          dsimp only
          obtain ⟨b, g1, g2⟩ := mac_loop hs hn m (i + 1) (i + 1) 0 (k : Int) out (text ++ (([36, 123] ++ inn.drop (1 : Int).toNat) ++ [125])) (by omega) hil' hvt' (.inl ⟨rfl, rfl⟩) (by simp only [List.length_append, List.length_cons, List.length_nil, hdl]; omega) (by omega) q (by omega)
          refine ⟨b, g1, MacPost.of_add (it := [.tx (36 :: 123 :: inn.drop 1 ++ [125])]) (j := i - (k + 2) + 3) ?_ (fun l => rfl) (by rw [hki]; exact g2)⟩
          rw [h2, prs_esc hf (by rw [hin]; exact h33), hnext, hin]
          rfl
        | false =>
          have h33 : inn.head? ≠ some 33 := fun h => by
            cases inn with
            | nil => cases h
            | cons x y =>
              simp at h
              subst h
              simp [Lib.hasPrefix] at hp
          rw [cF, hole_sub (by omega) (by omega), bnd]
          cases hh : (holeS inn).2 with
          | false =>
            rw [cF, bnd]
            refine ⟨_, rfl, ?_⟩
            unfold MacPost
            rw [h2, prs_none hf (by rw [hin]; exact h33) (by rw [hin]; exact hh)]
            exact .inl ⟨text, i + 1, rfl⟩
          | true =>
            have hfl := fl_len text
            have hol : (out ++ fl text).length ≤ k + 1 := by rw [List.length_append]; omega
            rw [cT, lex1_eq (by omega), bnd]
            dsimp only
            rw [need_t (by omega), getI_at (txE []) (by simp), bnd, bnd, bnd]
            dsimp only
            have hset : ((out ++ fl text) ++ [(⟨(0 : Int), ([] : List UInt8), (0 : Int), ([] : List UInt8), ([] : List UInt8), ([] : List T_api_Expr)⟩ : T_api_Expr)]).set (((out ++ fl text).length : Nat) : Int).toNat (holeS inn).1 = (out ++ fl text) ++ [(holeS inn).1] := by
              rw [Int.toNat_natCast]
              simp
            rw [hset]
            obtain ⟨b, g1, g2⟩ := mac_loop hs hn m (i + 1) (i + 1) 0 (k : Int) ((out ++ fl text) ++ [(holeS inn).1]) [] (by omega) hil' hvt' (.inl ⟨rfl, rfl⟩) (by simp) (by rw [List.length_append, List.length_singleton]; omega) q (by omega)
            refine ⟨b, g1, MacPost.of_add (it := [.ho (holeS inn).1]) (j := i - (k + 2) + 3) ?_ (fun l => by show (out ++ fl text ++ [(holeS inn).1]) ++ mrg [] l = out ++ (fl text ++ (holeS inn).1 :: mrg [] l); simp only [List.append_assoc, List.cons_append, List.nil_append]) (by rw [hki]; exact g2)⟩
            rw [h2, prs_hole hf (by rw [hin]; exact h33) (by rw [hin]; exact hh), hnext, hin]
            rfl
      · rw [decide_eq_false hr5, cF, cT, bnd]
        dsimp only
        refine mac_loop hs hn m k (i + a.length) 2 (k : Int) out text (by omega) hil hvt' (.inr (.inr ⟨rfl, rfl, by omega, h2, fun j g1 g2 => ?_⟩)) ht ho q (by omega)
        by_cases hj : j < i
        · exact h3 j g1 hj
        · exact ha125 hr5 _ (app_getD hd (by omega) g2)

theorem lex_sub {n : Nat} {s : List UInt8} (hs : s.length < 100000) (hn : s.length + 5 < n) : sub_Lex n s = some (lexS s) := by
  unfold sub_Lex lexS runes_Valid h_ValidString
  rw [need_t (by omega), bnd, bnd]
  cases hv : Lib.validD s with
  | false => rfl
  | true =>
    rw [Bool.not_true, cF, if_pos rfl]
    by_cases h : s.length ≤ 4096
    · rw [decide_eq_false (by omega), cF, if_pos h]
      obtain ⟨b, h1, h2⟩ := mac_loop (n := n) hs (by omega) s.length 0 0 0 0 [] [] (by omega) (by omega) (by rw [List.drop_zero]; exact hv) (.inl ⟨rfl, rfl⟩) (by simp) (by simp) n (by omega)
      rw [h1, bnd]
      unfold MacPost at h2
      rw [List.drop_zero] at h2
      cases hp : (prs s).2 with
      | some p =>
        rw [hp] at h2
        dsimp only at h2 ⊢
        rw [Nat.zero_add] at h2
        rcases h2 with ⟨t, z, rfl⟩ | ⟨t, o, z, rfl⟩
        · rfl
        · dsimp only
          rw [decide_eq_true (by omega), cT, mpS, bnd, jB]
      | none =>
        rw [hp] at h2
        dsimp only at h2 ⊢
        rw [List.nil_append] at h2
        rcases h2 with ⟨o, t, f, z, rfl, h3, h4, h5⟩ | ⟨o, t, f, z, rfl, h3, h4, h5⟩
        · dsimp only
          rw [decide_eq_false (by omega), cF, decide_eq_false (by omega), cF, bnd, jN, lex1_eq (by omega), bnd, h3]
        · dsimp only
          have hwb : strings_Builder_WriteByte n t 36 = some ((), t ++ [36]) := wrB (n := n) (a := t) 36 (by omega)
          rw [decide_eq_false (by omega), cF, decide_eq_true rfl, cT, hwb, bnd, bnd, jN, lex1_eq (by omega), bnd, h3]
    · rw [decide_eq_true (by omega), cT, if_neg h]
end Go.Proofs.YtdmjgmleilgbpaaDoor
