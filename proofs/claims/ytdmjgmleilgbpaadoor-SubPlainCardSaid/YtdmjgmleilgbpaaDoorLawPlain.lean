/-
  Chapter 12, plain: SubPlain. Own work.
-/
import Derived.Test.YtdmjgmleilgbpaaDoorSubLaws2
import Derived.Test.YtdmjgmleilgbpaaDoorLPlain
namespace Go.Proofs.YtdmjgmleilgbpaaDoor
open Go Go.Vc

theorem plain_s2 {n : Nat} {x : List T_api_Expr × Int × Int} (hl : x.1.length < 1000000) (hna : NoAdj x.1) :
    ∀ (m k a : Nat), k + m = x.1.length → a ≤ k → ∀ q, m < q → loopF (law12_SubPlain_s2 n x) q ((a : Int), (k : Int)) = some (.inr ((a + ((x.1.drop k).countP fun x => !decide (x.fKind = 0)) : Nat) : Int))
  | 0, k, a, hk, ha, q, hq => by
    obtain ⟨q, rfl⟩ : ∃ r, q = r + 1 := ⟨q - 1, by omega⟩
    obtain rfl : k = x.1.length := by omega
    rw [loopF, law12_SubPlain_s2]
    dsimp only
    rw [decide_eq_false (by omega), cF, bnd, List.drop_length]
    rfl
  | m + 1, k, a, hk, ha, q, hq => by
    obtain ⟨q, rfl⟩ : ∃ r, q = r + 1 := ⟨q - 1, by omega⟩
    have hlt : k < x.1.length := by omega
    have hd : x.1.drop k = x.1.getD k (txE []) :: x.1.drop (k + 1) := by
      rw [List.drop_eq_getElem_cons hlt]
      simp [List.getD, hlt]
    obtain ⟨c, hc⟩ : ∃ c, c = (if (!decide ((x.1.getD k (txE [])).fKind = 0)) = true then a + 1 else a) := ⟨_, rfl⟩
    have hca : a ≤ c ∧ c ≤ a + 1 := by rw [hc]; split <;> omega
    have hstep : law12_SubPlain_s2 n x ((a : Int), (k : Int)) = some (.nx ((c : Int), ((k + 1 : Nat) : Int))) := by
      unfold law12_SubPlain_s2
      dsimp only
      rw [decide_eq_true (by omega), cT, getI_at (txE []) hlt, bnd]
      have hy : (bif (!(decide ((x.1.getD k (txE [])).fKind = 0))) then (need (inR .i64 ((a : Int) + 1)) <| some ((a : Int) + 1)) else some (a : Int)) = some (c : Int) := by
        rw [hc]
        cases (!(decide ((x.1.getD k (txE [])).fKind = 0))) with
        | true => rw [cT, need_i (by omega) (by omega), if_pos rfl]; rfl
        | false => rw [cF, if_neg (by simp)]
      rw [hy, bnd]
      by_cases h0 : k = 0
      · rw [decide_eq_false (by omega), cF, need_i (by omega) (by omega)]
        rfl
      · rw [decide_eq_true (by omega), cT]
        by_cases h1 : (x.1.getD k (txE [])).fKind = 0
        · have e : (k : Int) - 1 = ((k - 1 : Nat) : Int) := by omega
          have h2 := hna.at (k - 1) (by omega)
          rw [show k - 1 + 1 = k by omega] at h2
          rw [decide_eq_true h1, cT, need_i (by omega) (by omega), e, getI_at (txE []) (by omega), bnd, decide_eq_false (fun h => h2 ⟨h, h1⟩), cF, need_i (by omega) (by omega)]
          rfl
        · rw [decide_eq_false h1, cF, need_i (by omega) (by omega)]
          rfl
    rw [loopF, hstep, bnd, hd, List.countP_cons]
    dsimp only
    rw [plain_s2 hl hna m (k + 1) c (by omega) (by omega) q (by omega), hc]
    congr 3
    split <;> omega

theorem plain_law (n : Nat) (hn : 200000 ≤ n) (s : List UInt8) : law12_SubPlain n s = some true := by
  unfold law12_SubPlain
  by_cases h : 1500 < s.length
  · rw [decide_eq_true (by omega), cT, wakes_t (by omega), bnd]
  have hl := lexS_len s
  rw [decide_eq_false (by omega), cF, lex_sub (by omega) (by omega), bnd]
  have hin := plain_s2 (n := n) (x := lexS s) (by omega) (lexS_noadj s) (lexS s).1.length 0 0 (by omega) (by omega) n (by omega)
  rw [show ((0 : Nat) : Int) = 0 from rfl, List.drop_zero, Nat.zero_add] at hin
  have hloop := loop_find (step := law12_SubPlain_s1 n s (lexS s)) 0 s (· == 36) (fun _ => .inl true) (.inr ()) (fun k hk => by
    unfold law12_SubPlain_s1
    rw [decide_eq_true (by omega : (k : Int) < (s.length : Int)), cT, getI_at 0 hk, bnd, byteEq _ 36 36 rfl]
    cases hc : (s.getD k 0 == (36 : UInt8)) with
    | false => rw [cF, need_i (by omega) (by omega), if_neg (by simp)]
    | true =>
      rw [cT, hin, bnd, if_pos rfl]
      dsimp only
      rw [holes_sub (by omega) hn, bnd, show ((List.countP (fun x => !decide (x.fKind = 0)) (lexS s).1 : Nat) : Int) = (holesS s : Int) from rfl, decide_eq_true rfl, cT, wakes_t (by omega), bnd]) (by
    unfold law12_SubPlain_s1
    rw [decide_eq_false (by omega), cF]) s.length 0 (by omega) n (by omega)
  rw [show ((0 : Nat) : Int) = 0 from rfl, List.drop_zero] at hloop
  rw [hloop, bnd]
  cases hf : s.findIdx? (· == 36) with
  | some i => rfl
  | none =>
    have h36 : ∀ x ∈ s, x ≠ 36 := fun x hx e => by
      have := List.findIdx?_eq_none_iff.1 hf x hx
      rw [e] at this
      simp at this
    have hp : prs s = (s.map (fun x => It.tx [x]), none) := by
      have := prs_app s [] h36
      rw [List.append_nil, prs_nil] at this
      rw [this]
      simp
    dsimp only
    cases hv : Lib.validD s with
    | false =>
      have hx : lexS s = ([], 0, 10) := by unfold lexS; rw [hv]; rfl
      rw [hx]
      dsimp only
      rw [wakes_t (by omega)]
      rfl
    | true =>
      have hm : mrg [] (s.map (fun x => It.tx [x])) = fl s := by
        have := mrg_app s [] []
        rw [List.append_nil, List.nil_append] at this
        rw [this, mrg]
      have hx : lexS s = (fl s, 0, 0) := by
        unfold lexS
        rw [hv, if_pos rfl, if_pos (by omega), hp]
        dsimp only
        rw [hm]
      have hh : holesS s = 0 := by
        unfold holesS
        rw [hx]
        unfold fl
        split <;> rfl
      have hH := holes_sub (n := n) (s := s) (by omega) hn
      rw [hh, show ((0 : Nat) : Int) = 0 from rfl] at hH
      rw [hx]
      dsimp only
      rw [decide_eq_true rfl, Bool.not_true, cF]
      by_cases h0 : s = []
      · subst h0
        rw [decide_eq_true rfl, cT, fl, if_pos rfl, show (([] : List T_api_Expr).length : Int) = 0 from rfl, decide_eq_true rfl, cT, hH, bnd, decide_eq_true rfl, cT, wakes_t (by omega), bnd]
      · rw [decide_eq_false h0, cF, fl, if_neg h0, show (([txE s] : List T_api_Expr).length : Int) = 1 from rfl, decide_eq_true rfl, cT, show getI [txE s] 0 = some (txE s) from rfl, bnd]
        show (bif decide ((0 : Int) = 0) then (some (txE s)).bind _ else _) = _
        rw [decide_eq_true rfl, cT, bnd]
        show (bif decide (s = s) then _ else _) = _
        rw [decide_eq_true rfl, cT, hH, bnd, decide_eq_true rfl, cT, wakes_t (by omega), bnd]
end Go.Proofs.YtdmjgmleilgbpaaDoor
