/-
  Chapter 12, plain: SubJoin. Own work.
-/
import Derived.Test.YtdmjgmleilgbpaaDoorSubLaws2
import Derived.Test.YtdmjgmleilgbpaaDoorLJoin
namespace Go.Proofs.YtdmjgmleilgbpaaDoor
open Go Go.Vc

theorem join_rest {n : Nat} {x : List T_api_Expr × Int × Int} (hl : x.1.length < 1000000) :
    ∀ (m k : Nat) (w : List T_api_Expr), 1 ≤ k → k + m = x.1.length → w.length ≤ 1000000 + k → ∀ q, m < q → loopF (law12_SubJoin_s1 n x) q (w, (k : Int)) = some (w ++ x.1.drop k)
  | 0, k, w, h1, hk, hw, q, hq => by
    obtain ⟨q, rfl⟩ : ∃ r, q = r + 1 := ⟨q - 1, by omega⟩
    obtain rfl : k = x.1.length := by omega
    rw [loopF, law12_SubJoin_s1]
    dsimp only
    rw [decide_eq_false (by omega), cF, bnd, List.drop_length, List.append_nil]
  | m + 1, k, w, h1, hk, hw, q, hq => by
    obtain ⟨q, rfl⟩ : ∃ r, q = r + 1 := ⟨q - 1, by omega⟩
    have hlt : k < x.1.length := by omega
    have hd : x.1.drop k = x.1.getD k (txE []) :: x.1.drop (k + 1) := by
      rw [List.drop_eq_getElem_cons hlt]
      simp [List.getD, hlt]
    rw [loopF, law12_SubJoin_s1]
    dsimp only
    have e : (k : Int) + 1 = ((k + 1 : Nat) : Int) := by omega
    rw [decide_eq_true (by omega), cT, getI_at (txE []) hlt, bnd, need_i (by omega) (by omega), decide_eq_false (by omega), cF, bnd, cF, need_t (by omega), need_i (by omega) (by omega), bnd, etaE, e]
    dsimp only
    rw [join_rest hl m (k + 1) _ (by omega) (by omega) (by rw [List.length_append, List.length_singleton]; omega) q (by omega), hd]
    simp

theorem join_loop {n : Nat} {x : List T_api_Expr × Int × Int} (out : List T_api_Expr) (p : List UInt8) (hl : x.1.length < 1000000) (ho : out.length < 100000) (hp : p.length < 10000000000) (hx : ∀ y ∈ x.1, y.fText.length < 10000000000)
    (hlast : ∀ y, out.getLast? = some y → y.fKind ≠ 0) (hn : 1000000 ≤ n) :
    loopF (law12_SubJoin_s1 n x) n (out ++ fl p, (0 : Int)) = some (out ++ jt p x.1) := by
  obtain ⟨q, rfl⟩ : ∃ r, n = r + 1 := ⟨n - 1, by omega⟩
  have hfl := fl_len p
  rw [loopF, law12_SubJoin_s1]
  dsimp only
  cases hx1 : x.1 with
  | nil =>
    rw [List.length_nil, decide_eq_false (by omega), cF, bnd]
    rfl
  | cons y r =>
    have hlen : x.1.length = r.length + 1 := by rw [hx1]; rfl
    have hdrop : x.1.drop 1 = r := by rw [hx1]; rfl
    have hyt : y.fText.length < 10000000000 := hx y (by rw [hx1]; simp)
    have hrest : ∀ w : List T_api_Expr, w.length ≤ 1000000 → loopF (law12_SubJoin_s1 (q + 1) x) q (w, (1 : Int)) = some (w ++ r) := fun w hw => by
      have := join_rest (n := q + 1) (x := x) hl r.length 1 w (by omega) (by omega) (by omega) q (by omega)
      rw [hdrop] at this
      exact this
    rw [List.length_cons, decide_eq_true (by omega), cT, show getI (y :: r) 0 = some y from rfl, bnd, List.length_append, need_i (by omega) (by omega), decide_eq_true rfl, cT]
    by_cases hp0 : p = []
    · -- nothing waits
      subst hp0
      rw [jt_nil, fl, if_pos rfl, List.append_nil]
      have hy3 : ((bif (decide ((0 : Int) ≤ (((out.length + ([] : List T_api_Expr).length : Nat) : Int) - 1))) then
            (bif (decide (y.fKind = 0)) then
              ((getI out (((out.length + ([] : List T_api_Expr).length : Nat) : Int) - 1)).bind fun x_9 =>
              some ((decide (x_9.fKind = 0))))
            else
              some ((false)))
          else
            some ((false))) : Option Bool) = some false := by
        rw [List.length_nil, Nat.add_zero]
        by_cases h0 : out.length = 0
        · rw [decide_eq_false (by omega), cF]
        · rw [decide_eq_true (by omega), cT]
          by_cases h1 : y.fKind = 0
          · have e : ((out.length : Int) - 1) = ((out.length - 1 : Nat) : Int) := by omega
            rw [decide_eq_true h1, cT, e, getI_at (txE []) (by omega), bnd]
            have h2 := hlast (out.getD (out.length - 1) (txE [])) (by
              rw [List.getLast?_eq_getElem?]
              simp [List.getD, show out.length - 1 < out.length by omega])
            rw [decide_eq_false h2]
          · rw [decide_eq_false h1, cF]
      rw [hy3, bnd, cF, need_t (by omega), need_i (by omega) (by omega), bnd, etaE]
      dsimp only
      rw [show (0 : Int) + 1 = 1 from rfl, hrest _ (by rw [List.length_append, List.length_singleton]; omega)]
      simp
    · -- a text waits
      have hfl1 : fl p = [txE p] := by rw [fl, if_neg hp0]
      have e : (((out.length + [txE p].length : Nat) : Int) - 1) = (out.length : Int) := by rw [List.length_singleton]; omega
      have hg : getI (out ++ [txE p]) (out.length : Int) = some (txE p) := by
        rw [getI_at (txE []) (by simp)]
        simp [List.getD]
      rw [hfl1, e, decide_eq_true (by omega), cT]
      by_cases h1 : y.fKind = 0
      · rw [decide_eq_true h1, cT, hg, bnd]
        show ((some (decide ((0 : Int) = 0))).bind _).bind _ = _
        rw [decide_eq_true rfl, bnd, cT, bnd]
        show ((need (p.length + y.fText.length ≤ 9223372036854775807) _).bind _) = _
        rw [need_t (by omega), bnd, need_i (by omega) (by omega), bnd]
        dsimp only
        have hset : (out ++ [txE p]).set ((out.length : Int)).toNat (⟨0, (txE p).fText ++ y.fText, 0, [], [], []⟩ : T_api_Expr) = out ++ [txE (p ++ y.fText)] := by
          rw [Int.toNat_natCast]
          simp [txE]
        rw [hset, show (0 : Int) + 1 = 1 from rfl, hrest _ (by rw [List.length_append, List.length_singleton]; omega), jt_tx hp0 h1]
        simp
      · rw [decide_eq_false h1, cF, bnd, cF, need_t (by rw [List.length_singleton]; omega), need_i (by omega) (by omega), bnd, etaE]
        dsimp only
        rw [show (0 : Int) + 1 = 1 from rfl, hrest _ (by simp only [List.length_append, List.length_singleton]; omega), jt_ho h1, hfl1]
        simp

theorem join_law (n : Nat) (hn : 1000000 ≤ n) (s t : List UInt8) : law12_SubJoin n s t = some true := by
  unfold law12_SubJoin
  by_cases h : 1000 < s.length
  · rw [decide_eq_true (by omega), cT, bnd, cT, wakes_t (by omega), bnd]
  rw [decide_eq_false (by omega), cF]
  by_cases h2 : 1000 < t.length
  · rw [decide_eq_true (by omega), cT, bnd, cT, wakes_t (by omega), bnd]
  rw [decide_eq_false (by omega), cF]
  have hc : ((bif (decide ((0 : Int) < (s.length : Int))) then
          (need (inR .i64 ((s.length : Int) - 1)) <|
          (getI s ((s.length : Int) - 1)).bind fun c_1 =>
          some ((decide (((c_1).toNat : Int) = 36))))
        else
          some ((false)) : Option Bool)) = some (decide (s.getLast? = some 36)) := by
    by_cases h0 : s.length = 0
    · have : s = [] := List.length_eq_zero_iff.1 h0
      subst this
      rfl
    · have e : ((s.length : Int) - 1) = ((s.length - 1 : Nat) : Int) := by omega
      rw [decide_eq_true (by omega), cT, need_i (by omega) (by omega), e, getI_at 0 (by omega), bnd, byteEq _ 36 36 rfl]
      have e2 : s.getLast? = some (s.getD (s.length - 1) 0) := by
        rw [List.getLast?_eq_getElem?]
        simp [List.getD, show s.length - 1 < s.length by omega]
      rw [e2]
      congr 1
      rw [Bool.eq_iff_iff, beq_iff_eq, decide_eq_true_iff]
      simp
  rw [hc, bnd]
  by_cases h3 : s.getLast? = some 36
  · rw [decide_eq_true h3, cT, wakes_t (by omega), bnd]
  rw [decide_eq_false h3, cF, lex_sub (by omega) (by omega), bnd, lex_sub (by omega) (by omega), bnd, need_t (by omega), lex_sub (by rw [List.length_append]; omega) (by rw [List.length_append]; omega), bnd]
  by_cases h4 : (lexS s).2.2 = 0
  case neg => rw [decide_eq_false h4, Bool.not_false, cT, wakes_t (by omega), bnd]
  rw [decide_eq_true h4, Bool.not_true, cF]
  obtain ⟨hv, hl, hp, hx⟩ := lexS_ok h4
  have hj := prs_join t s hp h3
  have hva : Lib.validD (s ++ t) = Lib.validD t := valid_app s.length (Nat.le_refl _) hv
  by_cases h5 : (lexS t).2.2 = 0
  case neg =>
    rw [decide_eq_false h5, Bool.not_false, cT]
    cases hvt : Lib.validD t with
    | false =>
      have hxt : lexS t = ([], 0, 10) := by unfold lexS; rw [hvt]; rfl
      rw [hxt, decide_eq_true rfl, cT, wakes_t (by omega)]
      rfl
    | true =>
      cases hpt : (prs t).2 with
      | none =>
        exfalso
        apply h5
        unfold lexS
        rw [hvt, if_pos rfl, if_pos (by omega), hpt]
      | some p =>
        have hxt : lexS t = ([], (p : Int), 130) := by
          unfold lexS
          rw [hvt, if_pos rfl, if_pos (by omega), hpt]
        have hpl : p ≤ t.length := by
          have key : ∀ u : List UInt8, ∀ p, (prs u).2 = some p → p ≤ u.length := by
            intro u
            induction u using prs_ind with
            | nil => intro p hp; rw [prs_nil] at hp; cases hp
            | ch c r h ih =>
              intro p hp
              rw [prs_ch h] at hp
              unfold add at hp
              obtain ⟨q, hq, rfl⟩ := Option.map_eq_some_iff.1 hp
              have := ih q hq
              simp only [List.length_cons]
              omega
            | bad q h => intro p hp; rw [prs_bad h] at hp; simp at hp; omega
            | esc a b h h2 ih =>
              intro p hp
              rw [prs_esc' h h2] at hp
              unfold add at hp
              obtain ⟨q, hq, rfl⟩ := Option.map_eq_some_iff.1 hp
              have := ih q hq
              simp only [List.length_cons, List.length_append]
              omega
            | hole a b h h2 h3 ih =>
              intro p hp
              rw [prs_hole' h h2 h3] at hp
              unfold add at hp
              obtain ⟨q, hq, rfl⟩ := Option.map_eq_some_iff.1 hp
              have := ih q hq
              simp only [List.length_cons, List.length_append]
              omega
            | none a b h h2 h3 => intro p hp; rw [prs_none' h h2 h3] at hp; simp at hp; omega
          exact key t p hpt
        have hxj : lexS (s ++ t) = ([], ((p + s.length : Nat) : Int), 130) := by
          unfold lexS
          rw [hva, hvt, if_pos rfl, if_pos (by rw [List.length_append]; omega), hj, hpt]
          rfl
        rw [hxt, hxj]
        dsimp only
        rw [decide_eq_false (by omega), cF, decide_eq_true rfl, cT, need_i (by omega) (by omega), decide_eq_true (by omega), cT, wakes_t (by omega), bnd, bnd]
  rw [decide_eq_true h5, Bool.not_true, cF]
  obtain ⟨hvt, hlt, hpt, hxt⟩ := lexS_ok h5
  have hxj : lexS (s ++ t) = (mrg [] ((prs s).1 ++ (prs t).1), 0, 0) := by
    unfold lexS
    rw [hva, hvt, if_pos rfl, if_pos (by rw [List.length_append]; omega), hj, hpt]
    rfl
  have hls := lexS_len s
  have hlt2 := lexS_len t
  have hlj := lexS_len (s ++ t)
  have hfj := lexS_flat (s ++ t)
  have ht1 := run_text (prs s).1 []
  have ht2 := prs_tsum s
  have ht3 := prs_tsum t
  have hor : (run [] (prs s).1).1.length ≤ 10000 := by
    have := mrg_run (prs s).1 []
    rw [hx] at hls
    dsimp only at hls
    rw [this, List.length_append] at hls
    omega
  rw [List.length_nil] at ht1
  rw [hxj] at hlj hfj ⊢
  rw [hx] at hls ⊢
  rw [hxt] at hlt2 ⊢
  dsimp only at hls hlt2 hlj hfj ⊢
  have hlo := join_loop (n := n) (x := (mrg [] (prs t).1, 0, 0)) (run [] (prs s).1).1 (run [] (prs s).1).2 (by dsimp only; omega) (by omega) (by omega) (fun y hy => by
    have := mrg_text (prs t).1 [] (prs_hot t) y hy
    rw [List.length_nil] at this
    omega) (run_last _ _ (prs_hok s)) hn
  dsimp only at hlo
  rw [← mrg_run, ← mrg_jt _ _ (prs_hok t), ← mrg_two] at hlo
  rw [List.nil_append, List.length_nil, Nat.zero_add, need_t (by omega), hlo, bnd, decide_eq_true rfl, cT, same_t (by omega) _ (by omega) hfj, bnd, cT, wakes_t (by omega), bnd]
end Go.Proofs.YtdmjgmleilgbpaaDoor
