/-
  Texts of this claim, packed (what nothing names is left out): TreeR, R1, R2, R3, SchemaP6, VkH, L5, SchemaLTells, Vo2, Op. Own work, partly printed by own programs. No condition.
-/
import Derived.Test.YtalifkcchfkgmaaGreatDoorPkA5
import Derived.Test.YtalifkcchfkgmaaGreatDoorPkA4
import Derived.Test.YtalifkcchfkgmaaGreatDoorPkA2
import Derived.Laws.StructEq
import Derived.Test.YtalifkcchfkgmaaGreatDoorPkA1
import Derived.Test.YtalifkcchfkgmaaGreatDoorRows
section
set_option linter.unusedSimpArgs false
set_option linter.unusedVariables false
namespace Go.Proofs.YtalifkcchfkgmaaGreatDoor
open Go Go.Vc Go.RowKit
def posP (p : KV) : List KV → Nat
  | [] => 0
  | q :: r => bif leK p q then 0 else posP p r + 1
theorem posP_le (p : KV) : ∀ l, posP p l ≤ l.length
  | [] => Nat.le_refl _
  | q :: r => by
    have := posP_le p r
    rw [posP, List.length_cons]
    cases leK p q with
    | true => rw [cT]; omega
    | false => rw [cF]; omega
theorem posP_lt (p : KV) : ∀ (l : List KV) (i : Nat) (h : i < l.length), i < posP p l → leK p l[i] = false
  | q :: r, i, h, hi => by
    rw [posP] at hi
    cases hq : leK p q with
    | true => rw [hq, cT] at hi; omega
    | false =>
      rw [hq, cF] at hi
      cases i with
      | zero => exact hq
      | succ i => exact posP_lt p r i (by rw [List.length_cons] at h; omega) (by omega)
theorem posP_at (p : KV) : ∀ (l : List KV) (h : posP p l < l.length), leK p l[posP p l] = true
  | q :: r, h => by
    cases hq : leK p q with
    | true =>
      have e : posP p (q :: r) = 0 := by rw [posP, hq, cT]
      simp only [e]
      exact hq
    | false =>
      have e : posP p (q :: r) = posP p r + 1 := by rw [posP, hq, cF]
      simp only [e] at h ⊢
      rw [List.length_cons] at h
      exact posP_at p r (by omega)
theorem insP_pos (p : KV) : ∀ l, insP p l = l.take (posP p l) ++ p :: l.drop (posP p l)
  | [] => rfl
  | q :: r => by
    rw [insP, posP]
    cases leK p q with
    | true => rw [cT, cT]; rfl
    | false => rw [cF, cF, insP_pos p r]; rfl
def foldP (l : List KV) : List KV := l.foldl (fun acc p => insP p acc) []
theorem foldP_snoc (l : List KV) (p : KV) : foldP (l ++ [p]) = insP p (foldP l) := by unfold foldP; rw [List.foldl_append]; rfl
theorem foldP_perm_gen : ∀ (l acc : List KV), (l.foldl (fun acc p => insP p acc) acc).Perm (l ++ acc)
  | [], acc => List.Perm.refl _
  | p :: r, acc => by
    rw [List.foldl_cons]
    refine (foldP_perm_gen r _).trans ?_
    refine ((insP_perm p acc).append_left r).trans ?_
    exact List.perm_middle
theorem foldP_sorted_gen : ∀ (l acc : List KV), acc.Pairwise (fun a b => leK a b = true) → (l.foldl (fun acc p => insP p acc) acc).Pairwise (fun a b => leK a b = true)
  | [], acc, h => h
  | p :: r, acc, h => foldP_sorted_gen r _ (insP_sorted p acc h)
theorem foldP_eq {l : List KV} (hn : (l.map (·.1)).Nodup) : foldP l = isortP l := by
  refine sorted_one hn ?_ (foldP_sorted_gen l [] List.Pairwise.nil)
  have := foldP_perm_gen l []
  rwa [List.append_nil] at this
theorem foldP_len (l : List KV) : (foldP l).length = l.length := by
  have := (foldP_perm_gen l []).length_eq
  rwa [List.append_nil] at this
theorem sorted_ref {n : Nat} (hn : 6000 < n) : ∀ (k d : Nat) (v : T_api_Value), d ≤ k → Small d v → OkV v → ref03_sorted_k n k v = some (sortV v)
  | _, 0, v, _, h, _ => h.elim
  | 0, d + 1, v, h, _, _ => absurd h (by omega)
  | k + 1, d + 1, v, hk, hs, hok => by
    obtain ⟨h1, h2, h3, h4, h5⟩ := hs
    obtain ⟨ha, hl⟩ := OkV_iff.1 hok
    obtain ⟨hp, _, _, hnd⟩ := alone_ok ha
    show ref03_sorted_b n (ref03_sorted_k n k) v = _
    unfold ref03_sorted_b
    have ih : ∀ x ∈ v.fList, ref03_sorted_k n k x = some (sortV x) := fun x hx => sorted_ref hn k d x (by omega) (h5 x hx) (hl x hx)
    have ev : ∀ x : T_api_Value, (⟨x.fKind, (x.fBool), x.fNum, x.fText, x.fList, x.fKeys⟩ : T_api_Value) = x := fun x => by cases x; rfl
    by_cases hkind : v.fKind = 5
    · have hkl : v.fKeys.length = v.fList.length := hp.2.2.2.2.2.2.1 hkind
      obtain ⟨ps, hps⟩ : ∃ ps : List KV, ps = v.fKeys.zip (v.fList.map sortV) := ⟨_, rfl⟩
      have hpl : ps.length = v.fList.length := by rw [hps]; simp [hkl]
      have := loop_all (step := ref03_sorted_s1 n (ref03_sorted_k n k) v) (n := n) (fun q => ((q : Int), (foldP (ps.take q)).map (·.2), (foldP (ps.take q)).map (·.1))) v.fList.length ((foldP ps).map (·.2), (foldP ps).map (·.1)) (fun q hq => by
        have hx : v.fList[q]? = some v.fList[q] := List.getElem?_eq_getElem hq
        have hg : getI v.fList (q : Int) = some v.fList[q] := by simp [getI]
        have hgk : getI v.fKeys (q : Int) = some (v.fKeys.getD q []) := getI_at [] (by omega)
        have hpq : ps[q]? = some (v.fKeys.getD q [], sortV v.fList[q]) := by
          rw [hps]
          simp [List.getElem?_zip_eq_some, hx, List.getD, (by omega : q < v.fKeys.length)]
        obtain ⟨p, hpe⟩ : ∃ p : KV, p = (v.fKeys.getD q [], sortV v.fList[q]) := ⟨_, rfl⟩
        rw [← hpe] at hpq
        have hp1 : v.fKeys.getD q [] = p.1 := by rw [hpe]
        have hp2 : sortV v.fList[q] = p.2 := by rw [hpe]
        have hfold : foldP (ps.take (q + 1)) = insP p (foldP (ps.take q)) := by rw [List.take_add_one, hpq]; exact foldP_snoc _ _
        have hfl : (foldP (ps.take q)).length = q := by rw [foldP_len]; simp; omega
        rw [hp1] at hgk
        unfold ref03_sorted_s1
        dsimp only
        rw [decide_eq_true (by omega), cT, hg, bnd, ih _ (List.getElem_mem hq), bnd, decide_eq_false (by omega), cF, hfold]
        generalize foldP (ps.take q) = L at hfl ⊢
        have hpos := posP_le p L
        have hin := loop_all (step := ref03_sorted_s2 n v ((q : Int), L.map (·.2), L.map (·.1))) (n := n) (fun i => (i : Int)) (posP p L) ((posP p L : Nat) : Int) (fun i hi => by
          unfold ref03_sorted_s2
          dsimp only
          have hgi : getI (L.map (·.1)) (i : Int) = some (L[i]'(by omega)).1 := by simp [getI, (by omega : i < L.length)]
          have := posP_lt p L i (by omega) hi
          have hless : Op.bytesLess (L[i]'(by omega)).1 p.1 = true := by
            rw [less_cb]
            unfold leK at this
            simpa using this
          rw [decide_eq_true (by rw [List.length_map]; omega), cT, hgi, bnd, hgk, bnd, hless, cT, need_i (by omega) (by omega)]
          rfl) (by
          unfold ref03_sorted_s2
          dsimp only
          by_cases he : posP p L = L.length
          · rw [decide_eq_false (by rw [List.length_map]; omega), cF]
          · have hlt : posP p L < L.length := by omega
            have hgi : getI (L.map (·.1)) ((posP p L : Nat) : Int) = some (L[posP p L]).1 := by simp [getI, hlt]
            have := posP_at p L hlt
            have hless : Op.bytesLess (L[posP p L]).1 p.1 = false := by
              rw [less_cb]
              unfold leK at this
              simpa using this
            rw [decide_eq_true (by rw [List.length_map]; omega), cT, hgi, bnd, hgk, bnd, hless, cF]) (by omega)
        have e0 : ((0 : Nat) : Int) = 0 := rfl
        rw [e0] at hin
        have hL1 : (L.map (·.1)).length = q := by rw [List.length_map, hfl]
        have hL2 : (L.map (·.2)).length = q := by rw [List.length_map, hfl]
        rw [hin, bnd, hL1, hL2, Int.toNat_natCast]
        rw [need_t ⟨by omega, by omega⟩, need_t (by simp; omega), need_t ⟨by omega, by omega⟩, need_t (by simp; omega), hgk, bnd, need_t ⟨by omega, by omega⟩, need_t (by simp; omega), need_t (by simp; omega), bnd, need_t ⟨by omega, by omega⟩, need_t (by simp; omega), need_t (by simp; omega), bnd, need_i (by omega) (by omega), ev, hp2, insP_pos]
        congr 3
        · simp [List.map_take, List.map_drop, List.take_of_length_le, hfl]
        ) (by
        unfold ref03_sorted_s1
        dsimp only
        rw [decide_eq_false (by omega), cF, List.take_of_length_le (by omega)]) (by omega)
      have e0 : ((0 : Nat) : Int) = 0 := rfl
      have e1 : foldP [] = [] := rfl
      simp only [List.take_zero, e1, List.map_nil, e0] at this
      rw [this, bnd, sortV_5 hkind]
      have hkeys : ps.map (·.1) = v.fKeys := by rw [hps]; exact List.map_fst_zip (by simp [hkl])
      have e : foldP ps = pairsV v := by
        rw [foldP_eq (by rw [hkeys]; exact hnd), hps]; rfl
      rw [e]
    · have hkeys : v.fKeys = [] := by
        have := hp.2.2.2.2.2.2.2 hkind
        simpa using this
      by_cases h4k : v.fKind = 4
      · have := loop_all (step := ref03_sorted_s1 n (ref03_sorted_k n k) v) (n := n) (fun q => ((q : Int), (v.fList.take q).map sortV, ([] : List (List UInt8)))) v.fList.length (v.fList.map sortV, []) (fun q hq => by
          have hx : v.fList[q]? = some v.fList[q] := List.getElem?_eq_getElem hq
          have hg : getI v.fList (q : Int) = some v.fList[q] := by simp [getI]
          unfold ref03_sorted_s1
          dsimp only
          rw [decide_eq_true (by omega), cT, hg, bnd, ih _ (List.getElem_mem hq), bnd, decide_eq_true h4k, cT, need_t (by simp; omega), need_i (by omega) (by omega), ev, map_take_succ sortV hx]
          rfl) (by
          unfold ref03_sorted_s1
          dsimp only
          rw [decide_eq_false (by omega), cF, List.take_length]) (by omega)
        have e0 : ((0 : Nat) : Int) = 0 := rfl
        simp only [List.take_zero, List.map_nil, e0] at this
        rw [this, bnd, sortV_n hkind]
      · have hl0 : v.fList = [] := by
          by_cases h0 : v.fList.length = 0
          · simpa using h0
          · have := hp.2.2.2.2.2.1 h0
            omega
        obtain ⟨m, rfl⟩ : ∃ m, n = m + 1 := ⟨n - 1, by omega⟩
        have : loopF (ref03_sorted_s1 (m + 1) (ref03_sorted_k (m + 1) k) v) (m + 1) ((0 : Int), ([] : List T_api_Value), ([] : List (List UInt8))) = some ([], []) := by
          unfold loopF ref03_sorted_s1
          dsimp only
          rw [hl0, decide_eq_false (by simp), cF, bnd]
        rw [this, bnd, sortV_n hkind, hl0]
        rfl
theorem compare_ref {n : Nat} (hn : 6000 < n) : ∀ (k d : Nat) (v w : T_api_Value), d ≤ k → Small d v → OkV v → OkV w → ref03_compare_k n k v w = some (cmpV v w)
  | _, 0, v, _, _, h, _, _ => h.elim
  | 0, d + 1, v, _, h, _, _, _ => absurd h (by omega)
  | k + 1, d + 1, v, w, hk, hs, hok, how => by
    have ih : ∀ x ∈ v.fList, ∀ y ∈ w.fList, ref03_compare_k n k x y = some (cmpV x y) := fun x hx y hy => compare_ref hn k d x y (by omega) (hs.2.2.2.2 x hx) (hok.part hx) (how.part hy)
    have hv := hs.1
    show ref03_compare_b n (ref03_compare_k n k) v w = _
    unfold ref03_compare_b
    rw [cmpV_eq]
    by_cases hA : v.fKind = w.fKind
    · rw [decide_eq_true hA, Bool.not_true, cF, ← hA, cmpI_self, thenC0]
      by_cases hB : v.fBool = w.fBool
      · rw [hB, beq_self_eq_true, Bool.not_true, cF, cmpI_self, thenC0]
        by_cases hC : v.fNum = w.fNum
        · rw [decide_eq_true hC, Bool.not_true, cF, ← hC, cmpI_self, thenC0]
          by_cases hD : v.fText = w.fText
          · rw [decide_eq_true hD, Bool.not_true, cF, ← hD, cb_self, thenC0]
            have hkl : v.fKind = 5 → v.fKeys.length = v.fList.length ∧ w.fKeys.length = w.fList.length := fun h => ⟨plain_len hok.plain h, plain_len how.plain (by rw [← hA]; exact h)⟩
            obtain ⟨b, hb, hp⟩ := loop_inv (step := ref03_compare_s1 n (ref03_compare_k n k) v w) (n := n) (s0 := (0 : Int)) (fun q s => s = (q : Int) ∧ cmpVs (decide (v.fKind = 5)) v.fList v.fKeys w.fList w.fKeys = cmpVs (decide (v.fKind = 5)) (v.fList.drop q) (v.fKeys.drop q) (w.fList.drop q) (w.fKeys.drop q))
              (fun b => match b with | .inl c => cmpVs (decide (v.fKind = 5)) v.fList v.fKeys w.fList w.fKeys = c | .inr _ => cmpVs (decide (v.fKind = 5)) v.fList v.fKeys w.fList w.fKeys = cmpI (v.fList.length : Int) (w.fList.length : Int)) (min v.fList.length w.fList.length) ⟨rfl, by simp only [List.drop_zero]⟩ (fun q s hq hI => by
                obtain ⟨rfl, hI⟩ := hI
                have h1 : q < v.fList.length := by omega
                have h2 : q < w.fList.length := by omega
                rw [cmpVs_drop _ h1 h2] at hI
                have hg1 : getI v.fList (q : Int) = some v.fList[q] := by simp [getI]
                have hg2 : getI w.fList (q : Int) = some w.fList[q] := by simp [getI]
                unfold ref03_compare_s1
                rw [decide_eq_true (by omega), cT, decide_eq_true (by omega), bnd, cT]
                by_cases hkind : v.fKind = 5
                · obtain ⟨k1, k2⟩ := hkl hkind
                  rw [decide_eq_true hkind, cT] at hI
                  rw [decide_eq_true hkind, cT, getI_at [] (by omega), bnd, getI_at [] (by omega), bnd, bnd]
                  by_cases hc : v.fKeys.getD q [] = w.fKeys.getD q []
                  · rw [decide_eq_true hc, Bool.not_true, cF, hg1, bnd, hg2, bnd, ih _ (List.getElem_mem h1) _ (List.getElem_mem h2), bnd]
                    rw [hc, cb_self, thenC0] at hI
                    by_cases he : cmpV v.fList[q] w.fList[q] = 0
                    · rw [decide_eq_true he, Bool.not_true, cF, need_i (by omega) (by omega)]
                      rw [he, thenC0] at hI
                      exact .inl ⟨_, rfl, by omega, hI⟩
                    · rw [decide_eq_false he, Bool.not_false, cT]
                      rw [thenCn _ he] at hI
                      exact .inr ⟨_, rfl, hI⟩
                  · rw [decide_eq_false hc, Bool.not_false, cT, bnd, bnd, less_cb]
                    have hne : Lib.compareBytes (v.fKeys.getD q []) (w.fKeys.getD q []) ≠ 0 := fun e => hc (cb_eq _ _ e)
                    have hrange := cb_range (v.fKeys.getD q []) (w.fKeys.getD q [])
                    rw [thenCn _ hne] at hI
                    by_cases hl : Lib.compareBytes (v.fKeys.getD q []) (w.fKeys.getD q []) < 0
                    · rw [decide_eq_true hl, cT]
                      refine .inr ⟨_, rfl, ?_⟩
                      dsimp only
                      omega
                    · rw [decide_eq_false hl, cF]
                      refine .inr ⟨_, rfl, ?_⟩
                      dsimp only
                      omega
                · rw [decide_eq_false hkind, cF] at hI
                  rw [decide_eq_false hkind, cF, bnd, cF, hg1, bnd, hg2, bnd, ih _ (List.getElem_mem h1) _ (List.getElem_mem h2), bnd]
                  rw [thenC0] at hI
                  by_cases he : cmpV v.fList[q] w.fList[q] = 0
                  · rw [decide_eq_true he, Bool.not_true, cF, need_i (by omega) (by omega)]
                    rw [he, thenC0] at hI
                    exact .inl ⟨_, rfl, by omega, hI⟩
                  · rw [decide_eq_false he, Bool.not_false, cT]
                    rw [thenCn _ he] at hI
                    exact .inr ⟨_, rfl, hI⟩) (fun s hI => by
                obtain ⟨rfl, hI⟩ := hI
                refine ⟨.inr (), ?_, ?_⟩
                · unfold ref03_compare_s1
                  by_cases hvl : v.fList.length ≤ w.fList.length
                  · rw [decide_eq_false (by omega), cF, bnd, cF]
                  · rw [decide_eq_true (by omega), cT, decide_eq_false (by omega), bnd, cF]
                · dsimp only
                  rw [hI, cmpVs_end _ rfl]) (by omega)
            rw [hb, bnd]
            cases b with
            | inl c => dsimp only at hp ⊢; rw [hp]
            | inr u =>
              dsimp only at hp ⊢
              rw [hp]
              have hcc := cmpI_cases (v.fList.length : Int) (w.fList.length : Int)
              by_cases h1 : (v.fList.length : Int) = (w.fList.length : Int)
              · rw [decide_eq_true h1, Bool.not_true, cF]
                congr 1
                omega
              · rw [decide_eq_false h1, Bool.not_false, cT]
                by_cases h2 : (v.fList.length : Int) < (w.fList.length : Int)
                · rw [decide_eq_true h2, cT]
                  congr 1
                  omega
                · rw [decide_eq_false h2, cF]
                  congr 1
                  omega
          · rw [decide_eq_false hD, Bool.not_false, cT, less_cb]
            have hne : Lib.compareBytes v.fText w.fText ≠ 0 := fun e => hD (cb_eq _ _ e)
            have hrange := cb_range v.fText w.fText
            rw [thenCn _ hne]
            by_cases hl : Lib.compareBytes v.fText w.fText < 0
            · rw [decide_eq_true hl, cT]
              congr 1
              omega
            · rw [decide_eq_false hl, cF]
              congr 1
              omega
        · have hcc := cmpI_cases v.fNum w.fNum
          rw [decide_eq_false hC, Bool.not_false, cT, thenCn _ (by omega)]
          by_cases hl : v.fNum < w.fNum
          · rw [decide_eq_true hl, cT]
            congr 1
            omega
          · rw [decide_eq_false hl, cF]
            congr 1
            omega
      · have hbe : (v.fBool == w.fBool) = false := by simpa using hB
        rw [hbe, Bool.not_false, cT]
        cases hv1 : v.fBool <;> cases hw1 : w.fBool
        · rw [hv1, hw1] at hB; exact absurd rfl hB
        · rfl
        · rfl
        · rw [hv1, hw1] at hB; exact absurd rfl hB
    · have hcc := cmpI_cases v.fKind w.fKind
      rw [decide_eq_false hA, Bool.not_false, cT, thenCn _ (by omega)]
      by_cases hl : v.fKind < w.fKind
      · rw [decide_eq_true hl, cT]
        congr 1
        omega
      · rw [decide_eq_false hl, cF]
        congr 1
        omega
theorem sortedT_ref {n : Nat} (hn : 6000 < n) {v : T_api_Value} (h : Fine v) (hok : OkV v) : ref03_sorted n v = some (sortV v) := sorted_ref hn n 60 v (by omega) h.small hok
theorem compareT_ref {n : Nat} (hn : 6000 < n) {v w : T_api_Value} (h : Fine v) (hok : OkV v) (how : OkV w) : ref03_compare n v w = some (cmpV v w) := compare_ref hn n 60 v w (by omega) h.small hok how
theorem Equal_ref {n : Nat} (hn : 6000 < n) {v w : T_api_Value} (h : Fine v) (h' : Fine w) : ref03_Equal n v w = some (eqV v w) := by
  unfold ref03_Equal eqV
  rw [check_ref hn h, bnd]
  by_cases a : checkV v = 0
  · rw [decide_eq_true a, cT, check_ref hn h', bnd]
    by_cases b : checkV w = 0
    · have oa := (checkV_ok a).1
      have ob := (checkV_ok b).1
      rw [decide_eq_true b, cT, sortedT_ref hn h oa, bnd, sortedT_ref hn h' ob, bnd, compareT_ref hn (h.sort oa) oa.sort ob.sort, bnd]; rfl
    · rw [decide_eq_false b, cF]; rfl
  · rw [decide_eq_false a, cF]; rfl
end Go.Proofs.YtalifkcchfkgmaaGreatDoor
end

section
set_option linter.unusedVariables false
set_option linter.unusedSimpArgs false
namespace Go.Proofs.YtalifkcchfkgmaaGreatDoor
open Go Go.Vc Go.RowKit
def ref05_Word (n : Nat) (d0 : List UInt8) : Option Bool :=
  bif (decide ((d0.length : Int) ≤ 64)) then
    ((ref01_Valid n d0).bind fun x_1 =>
    some ((x_1)))
  else
    some ((false))
theorem ref05_Word_ok (n : Nat) (M : Mem) (hG : GL M) (d0 : List UInt8) (r : Bool) (hF : ref05_Word n d0 = some r) : Ok Tryz.prog M 86 [S d0] (fun _ v => v = .bool r) := by
 unfold ref05_Word at hF
 intro M1 hM0 w0 H w p0
 replace hG := GL.mono hM0 hG
 refine R_enter 10 Tryz.func86 rfl rfl (by simp) fun a0 f0 => ?_
 refine R_seq (R_reg ?_)
 refine Y19 f0 1 fun _ f => ?_
 refine W_end rfl (T_n (R_seq (R_reg ?_)))
 refine Y19 f 4 fun _ f => ?_
 rcases bE (decide ((d0.length : Int) ≤ 64)) with h_1 | h_1
 ·have k_1 : (d0.length : Int) ≤ 64 := dI.1 h_1
  have hF_1 := cnd_t h_1 hF
  have f := Frm.set f 6 (v := .bool (decide ((d0.length : Int) ≤ 64))) (v' := .bool true) (by kernel_rfl) (cB h_1)
  refine Y19 f 1 fun _ f => ?_
  obtain ⟨x_1, hx_1, hF_2⟩ := bS hF_1
  refine Y18 f p0 (ref01_Valid_ok n _ d0 x_1 hx_1) fun w_1 p_1 _ f => ?_
  refine Y19 f 2 fun _ f => ?_
  refine W_end rfl (T_n (wp_ret ?_))
  refine E_ret1 f rfl (by kernel_rfl : Vc.look _ 2 = some (.bool x_1)) ?_
  obtain rfl := sI hF_2
  exact ⟨_, rfl, M1, (mR _), p_1, rfl⟩
 ·have k_2 : ¬ ((d0.length : Int) ≤ 64) := iff_f dI h_1
  have hF_3 := cnd_f h_1 hF
  have f := Frm.set f 6 (v := .bool (decide ((d0.length : Int) ≤ 64))) (v' := .bool false) (by kernel_rfl) (cB h_1)
  refine Y19 f 4 fun _ f => ?_
  refine W_end rfl (T_n (wp_ret ?_))
  refine E_ret1 f rfl (by kernel_rfl : Vc.look _ 2 = some (.bool false)) ?_
  obtain rfl := sI hF_3
  exact ⟨_, rfl, M1, (mR _), p0, rfl⟩
def ref09_Specs (n : Nat) (d0 : List UInt8) : Option (List T_api_Spec × Int) :=
  bif (decide (d0 = [68, 105, 115, 107])) then
    (some (([(⟨[75, 105, 110, 100], (3 : Int), (true)⟩ : T_api_Spec), (⟨[83, 105, 122, 101], (2 : Int), (false)⟩ : T_api_Spec), (⟨[84, 97, 103, 115], (4 : Int), (false)⟩ : T_api_Spec)], (0 : Int))))
  else
    bif (decide (d0 = [78, 101, 116])) then
      (some (([(⟨[76, 97, 98, 101, 108], (3 : Int), (false)⟩ : T_api_Spec), (⟨[82, 97, 110, 103, 101], (3 : Int), (true)⟩ : T_api_Spec)], (0 : Int))))
    else
      bif (decide (d0 = [78, 111, 100, 101])) then
        (some (([(⟨[67, 111, 117, 110, 116], (2 : Int), (false)⟩ : T_api_Spec), (⟨[68, 105, 115, 107], (3 : Int), (false)⟩ : T_api_Spec), (⟨[73, 109, 97, 103, 101], (3 : Int), (true)⟩ : T_api_Spec), (⟨[78, 101, 116], (3 : Int), (true)⟩ : T_api_Spec)], (0 : Int))))
      else
        bif (decide (d0 = [82, 117, 108, 101])) then
          (some (([(⟨[78, 111, 100, 101], (3 : Int), (false)⟩ : T_api_Spec), (⟨[80, 111, 114, 116], (2 : Int), (true)⟩ : T_api_Spec)], (0 : Int))))
        else
          some ((([] : List T_api_Spec), (90 : Int)))
set_option maxHeartbeats 2000000 in
theorem ref09_Specs_ok (n : Nat) (M : Mem) (hG : GL M) (d0 : List UInt8) (r : List T_api_Spec × Int) (hF : ref09_Specs n d0 = some r) : Ok Tryz.prog M 27 [S d0] (fun M' v => ∃ (A0 : Option Addr) (k0 : Nat), v = .tuple #[.slice A0 r.1.length k0, .int .i64 r.2] ∧ Sli M' 3 emb_T_api_Spec A0 k0 r.1) := by
 unfold ref09_Specs at hF
 intro M1 hM0 w0 H w p0
 replace hG := GL.mono hM0 hG
 refine R_enter 28 Tryz.func27 rfl rfl (by simp) fun a0 f0 => ?_
 refine R_seq (R_reg ?_)
 refine Y19 f0 2 fun _ f => ?_
 refine W_end rfl (T_n (R_seq (R_seq (R_reg ?_))))
 refine Y19 f 1 fun _ f => ?_
 refine W_end rfl (T_n (wp_block (R_seq (R_reg ?_))))
 refine Y14 (v := .bool (decide (d0 = [68, 105, 115, 107]))) f (Y38 rfl (l := d0) (m := [68, 105, 115, 107])) fun _ f => ?_
 refine Y19 f 1 fun _ f => ?_
 refine W_end rfl (T_n ?_)
 refine Y6 f (b := decide (d0 = [68, 105, 115, 107])) (fun h_1 => ?_) fun h_1 => ?_
 ·have k_1 : d0 = [68, 105, 115, 107] := dI.1 h_1
  have hF_1 := cnd_t h_1 hF
  refine R_seq (R_reg ?_)
  refine Y19 f 3 fun _ f => ?_
  refine V_allocS (k := 3) (c := 3) f p0 (.cells #[S [75, 105, 110, 100], .int .i8 3, .bool true, S [83, 105, 122, 101], .int .i8 2, .bool false, S [84, 97, 103, 115], .int .i8 4, .bool false] 64 (0, 0)) (by kernel_rfl) (fun _ => by kernel_rfl) fun b_1 w_1 p_1 _ f => ?_
  refine Y19 f 2 fun _ f => ?_
  refine W_end rfl (T_n (wp_ret (B_r (T_r ?_))))
  have hr_1 : RepSeq M1 ([(⟨[75, 105, 110, 100], (3 : Int), (true)⟩ : T_api_Spec), (⟨[83, 105, 122, 101], (2 : Int), (false)⟩ : T_api_Spec), (⟨[84, 97, 103, 115], (4 : Int), (false)⟩ : T_api_Spec)].map emb_T_api_Spec) [S [75, 105, 110, 100], .int .i8 3, .bool true, S [83, 105, 122, 101], .int .i8 2, .bool false, S [84, 97, 103, 115], .int .i8 4, .bool false] := ⟨_, _, rfl, T_api_Spec.shut, ⟨_, _, rfl, T_api_Spec.shut, ⟨_, _, rfl, T_api_Spec.shut, rfl⟩⟩⟩
  have p_2 : Hp w0 M1 ((Ent.row 64 3 (.slice (some ⟨b_1, 0, none⟩) 3 3) [(⟨[75, 105, 110, 100], (3 : Int), (true)⟩ : T_api_Spec), (⟨[83, 105, 122, 101], (2 : Int), (false)⟩ : T_api_Spec), (⟨[84, 97, 103, 115], (4 : Int), (false)⟩ : T_api_Spec)].length [S [75, 105, 110, 100], .int .i8 3, .bool true, S [83, 105, 122, 101], .int .i8 2, .bool false, S [84, 97, 103, 115], .int .i8 4, .bool false]) :: H) w_1 := p_1.objRow (n := 3) (cap := 3) (size := 3) (by decide) (by decide) rfl rfl rfl
  obtain ⟨A_1, cap_1, M_1, hv_1, hM_1, p_3, h_2⟩ := p_2.rowSli (f := emb_T_api_Spec) (xs := [(⟨[75, 105, 110, 100], (3 : Int), (true)⟩ : T_api_Spec), (⟨[83, 105, 122, 101], (2 : Int), (false)⟩ : T_api_Spec), (⟨[84, 97, 103, 115], (4 : Int), (false)⟩ : T_api_Spec)]) szd_T_api_Spec hr_1
  have f := Frm.set f 2 (v := .slice (some ⟨b_1, 0, none⟩) 3 3) (v' := .slice A_1 [(⟨[75, 105, 110, 100], (3 : Int), (true)⟩ : T_api_Spec), (⟨[83, 105, 122, 101], (2 : Int), (false)⟩ : T_api_Spec), (⟨[84, 97, 103, 115], (4 : Int), (false)⟩ : T_api_Spec)].length cap_1) (by kernel_rfl) (hv_1)
  refine E_ret2 f rfl (by kernel_rfl : Vc.look _ 2 = some (.slice A_1 [(⟨[75, 105, 110, 100], (3 : Int), (true)⟩ : T_api_Spec), (⟨[83, 105, 122, 101], (2 : Int), (false)⟩ : T_api_Spec), (⟨[84, 97, 103, 115], (4 : Int), (false)⟩ : T_api_Spec)].length cap_1)) (by kernel_rfl : Vc.look _ 3 = some (.int .i64 0)) ?_
  obtain rfl := sI hF_1
  exact ⟨_, rfl, M_1, hM_1, p_3, ⟨A_1, cap_1, rfl, h_2⟩⟩
 ·have k_2 : ¬ (d0 = [68, 105, 115, 107]) := iff_f dI h_1
  have hF_2 := cnd_f h_1 hF
  refine R_seq (R_reg ?_)
  refine Y14 (v := .bool (decide (d0 = [78, 101, 116]))) f (Y38 rfl (l := d0) (m := [78, 101, 116])) fun _ f => ?_
  refine Y19 f 1 fun _ f => ?_
  refine W_end rfl (T_n ?_)
  refine Y6 f (b := decide (d0 = [78, 101, 116])) (fun h_3 => ?_) fun h_3 => ?_
  ·have k_3 : d0 = [78, 101, 116] := dI.1 h_3
   have hF_3 := cnd_t h_3 hF_2
   refine R_seq (R_reg ?_)
   refine Y19 f 2 fun _ f => ?_
   refine V_allocS (k := 2) (c := 2) f p0 (.cells #[S [76, 97, 98, 101, 108], .int .i8 3, .bool false, S [82, 97, 110, 103, 101], .int .i8 3, .bool true] 64 (0, 0)) (by kernel_rfl) (fun _ => by kernel_rfl) fun b_2 w_2 p_4 _ f => ?_
   refine Y19 f 2 fun _ f => ?_
   refine W_end rfl (T_n (wp_ret (B_r (T_r ?_))))
   have hr_2 : RepSeq M1 ([(⟨[76, 97, 98, 101, 108], (3 : Int), (false)⟩ : T_api_Spec), (⟨[82, 97, 110, 103, 101], (3 : Int), (true)⟩ : T_api_Spec)].map emb_T_api_Spec) [S [76, 97, 98, 101, 108], .int .i8 3, .bool false, S [82, 97, 110, 103, 101], .int .i8 3, .bool true] := ⟨_, _, rfl, T_api_Spec.shut, ⟨_, _, rfl, T_api_Spec.shut, rfl⟩⟩
   have p_5 : Hp w0 M1 ((Ent.row 64 3 (.slice (some ⟨b_2, 0, none⟩) 2 2) [(⟨[76, 97, 98, 101, 108], (3 : Int), (false)⟩ : T_api_Spec), (⟨[82, 97, 110, 103, 101], (3 : Int), (true)⟩ : T_api_Spec)].length [S [76, 97, 98, 101, 108], .int .i8 3, .bool false, S [82, 97, 110, 103, 101], .int .i8 3, .bool true]) :: H) w_2 := p_4.objRow (n := 2) (cap := 2) (size := 3) (by decide) (by decide) rfl rfl rfl
   obtain ⟨A_2, cap_2, M_2, hv_2, hM_2, p_6, h_4⟩ := p_5.rowSli (f := emb_T_api_Spec) (xs := [(⟨[76, 97, 98, 101, 108], (3 : Int), (false)⟩ : T_api_Spec), (⟨[82, 97, 110, 103, 101], (3 : Int), (true)⟩ : T_api_Spec)]) szd_T_api_Spec hr_2
   have f := Frm.set f 2 (v := .slice (some ⟨b_2, 0, none⟩) 2 2) (v' := .slice A_2 [(⟨[76, 97, 98, 101, 108], (3 : Int), (false)⟩ : T_api_Spec), (⟨[82, 97, 110, 103, 101], (3 : Int), (true)⟩ : T_api_Spec)].length cap_2) (by kernel_rfl) (hv_2)
   refine E_ret2 f rfl (by kernel_rfl : Vc.look _ 2 = some (.slice A_2 [(⟨[76, 97, 98, 101, 108], (3 : Int), (false)⟩ : T_api_Spec), (⟨[82, 97, 110, 103, 101], (3 : Int), (true)⟩ : T_api_Spec)].length cap_2)) (by kernel_rfl : Vc.look _ 3 = some (.int .i64 0)) ?_
   obtain rfl := sI hF_3
   exact ⟨_, rfl, M_2, hM_2, p_6, ⟨A_2, cap_2, rfl, h_4⟩⟩
  ·have k_4 : ¬ (d0 = [78, 101, 116]) := iff_f dI h_3
   have hF_4 := cnd_f h_3 hF_2
   refine R_seq (R_reg ?_)
   refine Y14 (v := .bool (decide (d0 = [78, 111, 100, 101]))) f (Y38 rfl (l := d0) (m := [78, 111, 100, 101])) fun _ f => ?_
   refine Y19 f 1 fun _ f => ?_
   refine W_end rfl (T_n ?_)
   refine Y6 f (b := decide (d0 = [78, 111, 100, 101])) (fun h_5 => ?_) fun h_5 => ?_
   ·have k_5 : d0 = [78, 111, 100, 101] := dI.1 h_5
    have hF_5 := cnd_t h_5 hF_4
    refine R_seq (R_reg ?_)
    refine Y19 f 4 fun _ f => ?_
    refine V_allocS (k := 4) (c := 4) f p0 (.cells #[S [67, 111, 117, 110, 116], .int .i8 2, .bool false, S [68, 105, 115, 107], .int .i8 3, .bool false, S [73, 109, 97, 103, 101], .int .i8 3, .bool true, S [78, 101, 116], .int .i8 3, .bool true] 64 (0, 0)) (by kernel_rfl) (fun _ => by kernel_rfl) fun b_3 w_3 p_7 _ f => ?_
    refine Y19 f 2 fun _ f => ?_
    refine W_end rfl (T_n (wp_ret (B_r (T_r ?_))))
    have hr_3 : RepSeq M1 ([(⟨[67, 111, 117, 110, 116], (2 : Int), (false)⟩ : T_api_Spec), (⟨[68, 105, 115, 107], (3 : Int), (false)⟩ : T_api_Spec), (⟨[73, 109, 97, 103, 101], (3 : Int), (true)⟩ : T_api_Spec), (⟨[78, 101, 116], (3 : Int), (true)⟩ : T_api_Spec)].map emb_T_api_Spec) [S [67, 111, 117, 110, 116], .int .i8 2, .bool false, S [68, 105, 115, 107], .int .i8 3, .bool false, S [73, 109, 97, 103, 101], .int .i8 3, .bool true, S [78, 101, 116], .int .i8 3, .bool true] := ⟨_, _, rfl, T_api_Spec.shut, ⟨_, _, rfl, T_api_Spec.shut, ⟨_, _, rfl, T_api_Spec.shut, ⟨_, _, rfl, T_api_Spec.shut, rfl⟩⟩⟩⟩
    have p_8 : Hp w0 M1 ((Ent.row 64 3 (.slice (some ⟨b_3, 0, none⟩) 4 4) [(⟨[67, 111, 117, 110, 116], (2 : Int), (false)⟩ : T_api_Spec), (⟨[68, 105, 115, 107], (3 : Int), (false)⟩ : T_api_Spec), (⟨[73, 109, 97, 103, 101], (3 : Int), (true)⟩ : T_api_Spec), (⟨[78, 101, 116], (3 : Int), (true)⟩ : T_api_Spec)].length [S [67, 111, 117, 110, 116], .int .i8 2, .bool false, S [68, 105, 115, 107], .int .i8 3, .bool false, S [73, 109, 97, 103, 101], .int .i8 3, .bool true, S [78, 101, 116], .int .i8 3, .bool true]) :: H) w_3 := p_7.objRow (n := 4) (cap := 4) (size := 3) (by decide) (by decide) rfl rfl rfl
    obtain ⟨A_3, cap_3, M_3, hv_3, hM_3, p_9, h_6⟩ := p_8.rowSli (f := emb_T_api_Spec) (xs := [(⟨[67, 111, 117, 110, 116], (2 : Int), (false)⟩ : T_api_Spec), (⟨[68, 105, 115, 107], (3 : Int), (false)⟩ : T_api_Spec), (⟨[73, 109, 97, 103, 101], (3 : Int), (true)⟩ : T_api_Spec), (⟨[78, 101, 116], (3 : Int), (true)⟩ : T_api_Spec)]) szd_T_api_Spec hr_3
    have f := Frm.set f 2 (v := .slice (some ⟨b_3, 0, none⟩) 4 4) (v' := .slice A_3 [(⟨[67, 111, 117, 110, 116], (2 : Int), (false)⟩ : T_api_Spec), (⟨[68, 105, 115, 107], (3 : Int), (false)⟩ : T_api_Spec), (⟨[73, 109, 97, 103, 101], (3 : Int), (true)⟩ : T_api_Spec), (⟨[78, 101, 116], (3 : Int), (true)⟩ : T_api_Spec)].length cap_3) (by kernel_rfl) (hv_3)
    refine E_ret2 f rfl (by kernel_rfl : Vc.look _ 2 = some (.slice A_3 [(⟨[67, 111, 117, 110, 116], (2 : Int), (false)⟩ : T_api_Spec), (⟨[68, 105, 115, 107], (3 : Int), (false)⟩ : T_api_Spec), (⟨[73, 109, 97, 103, 101], (3 : Int), (true)⟩ : T_api_Spec), (⟨[78, 101, 116], (3 : Int), (true)⟩ : T_api_Spec)].length cap_3)) (by kernel_rfl : Vc.look _ 3 = some (.int .i64 0)) ?_
    obtain rfl := sI hF_5
    exact ⟨_, rfl, M_3, hM_3, p_9, ⟨A_3, cap_3, rfl, h_6⟩⟩
   ·have k_6 : ¬ (d0 = [78, 111, 100, 101]) := iff_f dI h_5
    have hF_6 := cnd_f h_5 hF_4
    refine R_seq (R_reg ?_)
    refine Y14 (v := .bool (decide (d0 = [82, 117, 108, 101]))) f (Y38 rfl (l := d0) (m := [82, 117, 108, 101])) fun _ f => ?_
    refine Y19 f 1 fun _ f => ?_
    refine W_end rfl (T_n ?_)
    refine Y6 f (b := decide (d0 = [82, 117, 108, 101])) (fun h_7 => ?_) fun h_7 => ?_
    ·have k_7 : d0 = [82, 117, 108, 101] := dI.1 h_7
     have hF_7 := cnd_t h_7 hF_6
     refine R_seq (R_reg ?_)
     refine Y19 f 2 fun _ f => ?_
     refine V_allocS (k := 2) (c := 2) f p0 (.cells #[S [78, 111, 100, 101], .int .i8 3, .bool false, S [80, 111, 114, 116], .int .i8 2, .bool true] 64 (0, 0)) (by kernel_rfl) (fun _ => by kernel_rfl) fun b_4 w_4 p_10 _ f => ?_
     refine Y19 f 2 fun _ f => ?_
     refine W_end rfl (T_n (wp_ret (B_r (T_r ?_))))
     have hr_4 : RepSeq M1 ([(⟨[78, 111, 100, 101], (3 : Int), (false)⟩ : T_api_Spec), (⟨[80, 111, 114, 116], (2 : Int), (true)⟩ : T_api_Spec)].map emb_T_api_Spec) [S [78, 111, 100, 101], .int .i8 3, .bool false, S [80, 111, 114, 116], .int .i8 2, .bool true] := ⟨_, _, rfl, T_api_Spec.shut, ⟨_, _, rfl, T_api_Spec.shut, rfl⟩⟩
     have p_11 : Hp w0 M1 ((Ent.row 64 3 (.slice (some ⟨b_4, 0, none⟩) 2 2) [(⟨[78, 111, 100, 101], (3 : Int), (false)⟩ : T_api_Spec), (⟨[80, 111, 114, 116], (2 : Int), (true)⟩ : T_api_Spec)].length [S [78, 111, 100, 101], .int .i8 3, .bool false, S [80, 111, 114, 116], .int .i8 2, .bool true]) :: H) w_4 := p_10.objRow (n := 2) (cap := 2) (size := 3) (by decide) (by decide) rfl rfl rfl
     obtain ⟨A_4, cap_4, M_4, hv_4, hM_4, p_12, h_8⟩ := p_11.rowSli (f := emb_T_api_Spec) (xs := [(⟨[78, 111, 100, 101], (3 : Int), (false)⟩ : T_api_Spec), (⟨[80, 111, 114, 116], (2 : Int), (true)⟩ : T_api_Spec)]) szd_T_api_Spec hr_4
     have f := Frm.set f 2 (v := .slice (some ⟨b_4, 0, none⟩) 2 2) (v' := .slice A_4 [(⟨[78, 111, 100, 101], (3 : Int), (false)⟩ : T_api_Spec), (⟨[80, 111, 114, 116], (2 : Int), (true)⟩ : T_api_Spec)].length cap_4) (by kernel_rfl) (hv_4)
     refine E_ret2 f rfl (by kernel_rfl : Vc.look _ 2 = some (.slice A_4 [(⟨[78, 111, 100, 101], (3 : Int), (false)⟩ : T_api_Spec), (⟨[80, 111, 114, 116], (2 : Int), (true)⟩ : T_api_Spec)].length cap_4)) (by kernel_rfl : Vc.look _ 3 = some (.int .i64 0)) ?_
     obtain rfl := sI hF_7
     exact ⟨_, rfl, M_4, hM_4, p_12, ⟨A_4, cap_4, rfl, h_8⟩⟩
    ·have k_8 : ¬ (d0 = [82, 117, 108, 101]) := iff_f dI h_7
     have hF_8 := cnd_f h_7 hF_6
     refine wp_skip (B_n (T_n (R_seq (R_reg ?_))))
     refine Y19 f 2 fun _ f => ?_
     refine W_end rfl (T_n (wp_ret ?_))
     refine E_ret2 f rfl (by kernel_rfl : Vc.look _ 2 = some (.slice none 0 0)) (by kernel_rfl : Vc.look _ 3 = some (.int .i64 90)) ?_
     obtain rfl := sI hF_8
     exact ⟨_, rfl, M1, (mR _), p0, ⟨none, 0, rfl, Sli.nil⟩⟩
def ref09_Find_s1 (n : Nat) (d1 : List UInt8) (x_1 : List T_api_Spec × Int) (s_1 : Int × List UInt8 × Int × Bool) : Option (Lp (Int × List UInt8 × Int × Bool) (Sum (List UInt8 × Int × Bool) (List UInt8 × Int × Bool))) :=
    bif (decide (s_1.1 < ((x_1.1.length : Nat) : Int))) then
      ((getI x_1.1 s_1.1).bind fun x_2 =>
      bif (decide (x_2.fName = d1)) then
        ((getI x_1.1 s_1.1).bind fun x_3 =>
        some (.br (.inl (x_3.fName, x_3.fKind, (x_3.fReplace)))))
      else
        need (inR .i64 (s_1.1 + 1)) <|
        some (.nx (s_1.1 + 1, s_1.2.1, s_1.2.2.1, (s_1.2.2.2))))
    else
      some (.br (.inr (s_1.2.1, s_1.2.2.1, (s_1.2.2.2))))
def ref09_Find (n : Nat) (d0 : List UInt8) (d1 : List UInt8) : Option (T_api_Spec × Bool) :=
  (ref09_Specs n d0).bind fun x_1 =>
  (loopF (ref09_Find_s1 n d1 x_1) n ((0 : Int), ([] : List UInt8), (0 : Int), (false))).bind fun b_2 =>
  (match b_2 with 
  | .inl y_1 => some (((⟨y_1.1, y_1.2.1, (y_1.2.2)⟩ : T_api_Spec), (true))) 
  | .inr y_2 => some ((z_T_api_Spec, (false))))
set_option maxHeartbeats 2000000 in
theorem ref09_Find_ok (n : Nat) (M : Mem) (hG : GL M) (d0 : List UInt8) (d1 : List UInt8) (r : T_api_Spec × Bool) (hF : ref09_Find n d0 d1 = some r) : Ok Tryz.prog M 29 [S d0, S d1] (fun M' v => ∃ (c0 : List Value), v = .tuple #[.agg c0.toArray, .bool r.2] ∧ Rep M' (emb_T_api_Spec r.1) c0) := by
 unfold ref09_Find at hF
 intro M1 hM0 w0 H w p0
 replace hG := GL.mono hM0 hG
 refine R_enter 32 Tryz.func29 rfl rfl (by simp) fun a0 f0 => ?_
 refine R_seq (R_reg ?_)
 refine Y12 f0 p0 (.cells #[S [], .int .i8 0, .bool false] 64 (0, 0)) fun b_1 w_1 p_1 _ f => ?_
 refine Y19 f 1 fun _ f => ?_
 refine W_end rfl (T_n (R_seq (R_reg ?_)))
 refine Y19 f 1 fun _ f => ?_
 obtain ⟨x_1, hx_1, hF_1⟩ := bS hF
 refine Y16 f p_1 (ref09_Specs_ok n _ hG d0 x_1 hx_1) fun _ M_1 w_2 hM_1 p_2 q_1 _ f => ?_
 obtain ⟨A_1, cap_1, rfl, h_1⟩ := q_1
 refine Y19 f 5 fun _ f => ?_
 refine W_end rfl (T_n (R_seq (R_seq (R_reg ?_))))
 refine Y19 f 1 fun _ f => ?_
 refine W_end rfl (T_n (wp_block ?_))
 obtain ⟨b_2, hL_1, hF_2⟩ := bS hF_1
 refine wp_mono (Q := fun e a w => (e = .ret ∧ (∃ y_1 : List UInt8 × Int × Bool, b_2 = .inl y_1 ∧ ∃ M_3 : Mem, M_1.le M_3 ∧ Frm 32 [(4, .pointer (some (⟨b_1, 0, none⟩))), (5, .bool true)] a ∧ Hp w0 M_3 ((Ent.obj b_1 (.cells #[S y_1.1, .int .i8 y_1.2.1, .bool y_1.2.2] 64 (0, 0))) :: H) w)) ∨ (e = .exit 0 ∧ (∃ y_2 : List UInt8 × Int × Bool, b_2 = .inr y_2 ∧ ∃ M_4 : Mem, M_1.le M_4 ∧ Frm 32 [(4, .pointer (some (⟨b_1, 0, none⟩)))] a ∧ Hp w0 M_4 ((Ent.obj b_1 (.cells #[S y_2.1, .int .i8 y_2.2.1, .bool y_2.2.2] 64 (0, 0))) :: H) w))) (R_loop (n := 32) (w0 := w0) (M := M_1) (fun (x : Nat × (Int × List UInt8 × Int × Bool)) => match x with | (m_1, s_1) => [(1, S d1), (4, .pointer (some (⟨b_1, 0, none⟩))), (6, .slice A_1 x_1.1.length cap_1), (8, .int .i64 s_1.1)]) (fun (x : Nat × (Int × List UInt8 × Int × Bool)) => match x with | (m_1, s_1) => ((Ent.obj b_1 (.cells #[S s_1.2.1, .int .i8 s_1.2.2.1, .bool s_1.2.2.2] 64 (0, 0))) :: H)) (fun (x : Nat × (Int × List UInt8 × Int × Bool)) (MM : Mem) => match x with | (m_1, s_1) => loopF (ref09_Find_s1 n d1 x_1) m_1 s_1 = some b_2) (fun (x : Nat × (Int × List UInt8 × Int × Bool)) => match x with | (m_1, s_1) => m_1) (n, ((0 : Int), ([] : List UInt8), (0 : Int), (false))) (f.keep (ks := [1, 4, 6, 8]) (by kernel_rfl)) p_2 hL_1 ?_) ?_
 ·rintro ⟨m_1, s_1⟩ M_2 _ w_3 hM_2 I_1 f p_3
  have I_1L := I_1
  obtain ⟨m_2, r_1, rfl, hs_1, hn_1⟩ := loop_step I_1L
  unfold ref09_Find_s1 at hs_1
  refine R_seq (R_seq (R_reg ?_))
  refine Y19 f 4 fun _ f => ?_
  refine W_end rfl (T_n ?_)
  refine Y6 f (b := decide (s_1.1 < ((x_1.1.length : Nat) : Int))) (fun h_2 => ?_) fun h_2 => ?_
  ·have k_1 : s_1.1 < ((x_1.1.length : Nat) : Int) := dI.1 h_2
   have hF_3 := cnd_t h_2 hs_1
   refine wp_skip (T_n (R_seq (wp_block (R_seq (R_reg ?_)))))
   refine Y19 f 2 fun _ f => ?_
   obtain ⟨x_2, hx_2, hF_4⟩ := bS hF_3
   obtain ⟨ad_1, c_1, e_1, hl_1, hr_1, hc_1⟩ := Sli.at_ (h_1.mono hM_2) hx_2
   clear hl_1
   obtain rfl := T_api_Spec.opn hr_1
   refine Y14 (v := .pointer (some (ad_1.add (s_1.1.toNat * 3)))) f (Y31 e_1 rfl (len := x_1.1.length) (cap := cap_1) (k := .i64) (i := s_1.1) (e := 64) (sz := 3) (getI_nn hx_2) (getI_lt hx_2)) fun _ f => ?_
   refine Y19 f 1 fun _ f => ?_
   refine Y15 f p_3 hc_1 0 rfl fun _ f => ?_
   refine Y19 f 1 fun _ f => ?_
   refine Y14 (v := .bool (decide (x_2.fName = d1))) f (Y38 rfl (l := x_2.fName) (m := d1)) fun _ f => ?_
   refine W_end rfl (T_n ?_)
   refine Y6 f (b := decide (x_2.fName = d1)) (fun h_3 => ?_) fun h_3 => ?_
   ·have k_2 : x_2.fName = d1 := dI.1 h_3
    have hF_5 := cnd_t h_3 hF_4
    refine R_seq (R_reg ?_)
    refine Y19 f 2 fun _ f => ?_
    obtain ⟨x_3, hx_3, hF_6⟩ := bS hF_5
    obtain ⟨ad_2, c_2, e_2, hl_2, hr_2, hc_2⟩ := Sli.at_ (h_1.mono hM_2) hx_3
    clear hl_2
    obtain rfl := T_api_Spec.opn hr_2
    refine Y14 (v := .pointer (some (ad_2.add (s_1.1.toNat * 3)))) f (Y31 e_2 rfl (len := x_1.1.length) (cap := cap_1) (k := .i64) (i := s_1.1) (e := 64) (sz := 3) (getI_nn hx_3) (getI_lt hx_3)) fun _ f => ?_
    refine Y14 (v := .agg #[S x_3.fName, .int .i8 x_3.fKind, .bool x_3.fReplace]) f (Y33 (cs := [S x_3.fName, .int .i8 x_3.fKind, .bool x_3.fReplace]) rfl (ad := ad_2.add (s_1.1.toNat * 3)) (fun j v h => p_3.cell (hc_2 j v h))) fun _ f => ?_
    refine Y27 (vs := [S x_3.fName, .int .i8 x_3.fKind, .bool x_3.fReplace]) (j := 0) f p_3 rfl rfl (by simp [Value.oneCell', S]) (by simp) (by decide) (cs' := #[S x_3.fName, .int .i8 x_3.fKind, .bool x_3.fReplace]) fun w_4 p_4 _ f => ?_
    refine Y19 f 1 fun _ f => ?_
    refine W_end rfl (T_n (wp_ret (B_r (T_r (T_r ?_)))))
    obtain rfl := sI hF_6
    exact .inl ⟨rfl, (x_3.fName, x_3.fKind, (x_3.fReplace)), (sI hn_1).symm, M_2, hM_2, f.keep (ks := [4, 5]) (by kernel_rfl), p_4⟩
   ·have k_3 : ¬ (x_2.fName = d1) := iff_f dI h_3
    have hF_7 := cnd_f h_3 hF_4
    refine wp_skip (B_n (T_n (R_reg ?_)))
    refine Y19 f 1 fun _ f => ?_
    obtain ⟨g_1, hF_8⟩ := nS hF_7
    refine Y19 f 1 fun _ f => ?_
    have f := Frm.set f 19 (v := .int .i64 (IntKind.wrap .i64 (s_1.1 + 1))) (v' := .int .i64 (s_1.1 + 1)) (by kernel_rfl) (congrArg (Value.int .i64) (inR_wrap g_1))
    refine Y19 f 1 fun _ f => ?_
    refine W_end rfl (T_n ?_)
    obtain rfl := sI hF_8
    exact ⟨⟨m_2, (s_1.1 + 1, s_1.2.1, s_1.2.2.1, (s_1.2.2.2))⟩, Nat.lt_succ_self _, M_2, hM_2, hn_1, f.keep (ks := [1, 4, 6, 8]) (by kernel_rfl), p_3⟩
  ·have k_4 : ¬ (s_1.1 < ((x_1.1.length : Nat) : Int)) := iff_f dI h_2
   have hF_9 := cnd_f h_2 hs_1
   refine wp_exit (T_x (T_x ?_))
   obtain rfl := sI hF_9
   exact .inr ⟨rfl, (s_1.2.1, s_1.2.2.1, (s_1.2.2.2)), (sI hn_1).symm, M_2, hM_2, f.keep (ks := [4]) (by kernel_rfl), p_3⟩
 ·rintro _ _ w_7 (⟨rfl, y_1, rfl, M_3, hM_3, f, p_5⟩ | ⟨rfl, y_2, rfl, M_4, hM_4, f, p_6⟩)
  ·refine B_r (T_r ?_)
   refine E_rv2 f rfl (Y10 (cs := [S y_1.1, .int .i8 y_1.2.1, .bool y_1.2.2]) (ad := ⟨b_1, 0, none⟩) f (own_cells (p_5.ownCell 0 rfl) 0 rfl)) (Y11 (v := .bool true) f) ?_
   obtain rfl := sI hF_2
   exact ⟨_, rfl, M_3, (hM_1.trans hM_3), (p_5.dropN 1), ⟨[S y_1.1, .int .i8 y_1.2.1, .bool y_1.2.2], rfl, (T_api_Spec.shut)⟩⟩
  ·refine B_x (T_n (R_seq (R_reg ?_)))
   refine Y19 f 1 fun _ f => ?_
   refine Y27 (vs := [S [], .int .i8 0, .bool false]) (j := 0) f p_6 rfl rfl (by simp [Value.oneCell', S]) (by simp) (by decide) (cs' := #[S [], .int .i8 0, .bool false]) fun w_8 p_7 _ f => ?_
   refine Y19 f 1 fun _ f => ?_
   refine W_end rfl (T_n (wp_ret ?_))
   refine E_rv2 f rfl (Y10 (cs := [S [], .int .i8 0, .bool false]) (ad := ⟨b_1, 0, none⟩) f (own_cells (p_7.ownCell 0 rfl) 0 rfl)) (Y11 (v := .bool false) f) ?_
   obtain rfl := sI hF_2
   exact ⟨_, rfl, M_4, (hM_1.trans hM_4), (p_7.dropN 1), ⟨[S [], .int .i8 0, .bool false], rfl, (T_api_Spec.shut)⟩⟩
def ref09_Attr (n : Nat) (d0 : List UInt8) (d1 : List UInt8) (d2 : List UInt8) : Option (List UInt8 × Int) :=
  (ref09_Specs n d0).bind fun x_1 =>
  bif (!(decide (x_1.2 = 0))) then
    (some ((([] : List UInt8), x_1.2)))
  else
    bif (decide (d2 = [65, 114, 110])) then
      (need (d0.length + [58].length ≤ 9223372036854775807) <|
      need ((d0 ++ [58]).length + d1.length ≤ 9223372036854775807) <|
      some (((d0 ++ [58]) ++ d1, (0 : Int))))
    else
      bif (decide (d2 = [90, 111, 110, 101])) then
        (need (inR .i64 ((d1.length : Int) - 1)) <|
        need (0 ≤ (max ((d1.length : Int) - 1) (0 : Int)) ∧ (max ((d1.length : Int) - 1) (0 : Int)) ≤ d1.length) <|
        some ((d1.drop (max ((d1.length : Int) - 1) (0 : Int)).toNat, (0 : Int))))
      else
        some ((([] : List UInt8), (91 : Int)))
set_option maxHeartbeats 2000000 in
theorem ref09_Attr_ok (n : Nat) (M : Mem) (hG : GL M) (d0 : List UInt8) (d1 : List UInt8) (d2 : List UInt8) (r : List UInt8 × Int) (hF : ref09_Attr n d0 d1 d2 = some r) : Ok Tryz.prog M 31 [S d0, S d1, S d2] (fun _ v => v = .tuple #[S r.1, .int .i64 r.2]) := by
 unfold ref09_Attr at hF
 intro M1 hM0 w0 H w p0
 replace hG := GL.mono hM0 hG
 refine R_enter 33 Tryz.func31 rfl rfl (by simp) fun a0 f0 => ?_
 refine R_seq (R_reg ?_)
 refine Y19 f0 2 fun _ f => ?_
 refine W_end rfl (T_n (R_seq (R_reg ?_)))
 refine Y19 f 1 fun _ f => ?_
 obtain ⟨x_1, hx_1, hF_1⟩ := bS hF
 refine Y16 f p0 (ref09_Specs_ok n _ hG d0 x_1 hx_1) fun _ M_1 w_1 hM_1 p_1 q_1 _ f => ?_
 obtain ⟨A_1, cap_1, rfl, h_1⟩ := q_1
 refine Y19 f 5 fun _ f => ?_
 refine W_end rfl (T_n (R_seq (R_seq (R_reg ?_))))
 refine Y19 f 2 fun _ f => ?_
 refine W_end rfl (T_n ?_)
 refine Y6 f (b := !(decide (x_1.2 = 0))) (fun h_2 => ?_) fun h_2 => ?_
 ·have k_1 : ¬ (x_1.2 = 0) := (not_iff dI).1 h_2
  have hF_2 := cnd_t h_2 hF_1
  refine R_seq (R_reg ?_)
  refine Y19 f 3 fun _ f => ?_
  refine W_end rfl (T_n (wp_ret (T_r ?_)))
  refine E_ret2 f rfl (by kernel_rfl : Vc.look _ 6 = some (S [])) (by kernel_rfl : Vc.look _ 7 = some (.int .i64 x_1.2)) ?_
  obtain rfl := sI hF_2
  exact ⟨_, rfl, M_1, hM_1, p_1, rfl⟩
 ·have k_2 : ¬ (¬ (x_1.2 = 0)) := iff_f (not_iff dI) h_2
  have hF_3 := cnd_f h_2 hF_1
  refine wp_skip (T_n (R_seq (R_seq (R_reg ?_))))
  refine Y19 f 1 fun _ f => ?_
  refine W_end rfl (T_n (wp_block (R_seq (R_reg ?_))))
  refine Y14 (v := .bool (decide (d2 = [65, 114, 110]))) f (Y38 rfl (l := d2) (m := [65, 114, 110])) fun _ f => ?_
  refine Y19 f 1 fun _ f => ?_
  refine W_end rfl (T_n ?_)
  refine Y6 f (b := decide (d2 = [65, 114, 110])) (fun h_3 => ?_) fun h_3 => ?_
  ·have k_3 : d2 = [65, 114, 110] := dI.1 h_3
   have hF_4 := cnd_t h_3 hF_3
   refine R_seq (R_reg ?_)
   refine Y19 f 1 fun _ f => ?_
   obtain ⟨g_1, hF_5⟩ := nS hF_4
   refine Y14 (v := S (d0 ++ [58])) f (Y29 rfl (l := d0) (m := [58]) g_1) fun _ f => ?_
   refine Y19 f 1 fun _ f => ?_
   obtain ⟨g_2, hF_6⟩ := nS hF_5
   refine Y14 (v := S ((d0 ++ [58]) ++ d1)) f (Y29 rfl (l := d0 ++ [58]) (m := d1) g_2) fun _ f => ?_
   refine Y19 f 2 fun _ f => ?_
   refine W_end rfl (T_n (wp_ret (B_r (T_r ?_))))
   refine E_ret2 f rfl (by kernel_rfl : Vc.look _ 6 = some (S ((d0 ++ [58]) ++ d1))) (by kernel_rfl : Vc.look _ 7 = some (.int .i64 0)) ?_
   obtain rfl := sI hF_6
   exact ⟨_, rfl, M_1, hM_1, p_1, rfl⟩
  ·have k_4 : ¬ (d2 = [65, 114, 110]) := iff_f dI h_3
   have hF_7 := cnd_f h_3 hF_3
   refine R_seq (R_reg ?_)
   refine Y14 (v := .bool (decide (d2 = [90, 111, 110, 101]))) f (Y38 rfl (l := d2) (m := [90, 111, 110, 101])) fun _ f => ?_
   refine Y19 f 1 fun _ f => ?_
   refine W_end rfl (T_n ?_)
   refine Y6 f (b := decide (d2 = [90, 111, 110, 101])) (fun h_4 => ?_) fun h_4 => ?_
   ·have k_5 : d2 = [90, 111, 110, 101] := dI.1 h_4
    have hF_8 := cnd_t h_4 hF_7
    refine R_seq (R_reg ?_)
    refine Y19 f 3 fun _ f => ?_
    obtain ⟨g_3, hF_9⟩ := nS hF_8
    refine Y19 f 1 fun _ f => ?_
    have f := Frm.set f 30 (v := .int .i64 (IntKind.wrap .i64 ((d1.length : Int) - 1))) (v' := .int .i64 ((d1.length : Int) - 1)) (by kernel_rfl) (congrArg (Value.int .i64) (inR_wrap g_3))
    refine Y14 (v := .int .i64 (max ((d1.length : Int) - 1) (0 : Int))) f (X_max (k := .i64) (a := (d1.length : Int) - 1) (b := (0 : Int)) rfl (by kernel_rfl) (by kernel_rfl)) fun _ f => ?_
    obtain ⟨g_4, hF_10⟩ := nS hF_9
    refine Y14 (v := S (d1.drop (max ((d1.length : Int) - 1) (0 : Int)).toNat)) f (X_strFrom rfl (l := d1) (k := .i64) (a := max ((d1.length : Int) - 1) (0 : Int)) (by kernel_rfl) (by kernel_rfl) (by kernel_rfl) g_4.1 g_4.2) fun _ f => ?_
    refine Y19 f 2 fun _ f => ?_
    refine W_end rfl (T_n (wp_ret (B_r (T_r ?_))))
    refine E_ret2 f rfl (by kernel_rfl : Vc.look _ 6 = some (S (d1.drop (max ((d1.length : Int) - 1) (0 : Int)).toNat))) (by kernel_rfl : Vc.look _ 7 = some (.int .i64 0)) ?_
    obtain rfl := sI hF_10
    exact ⟨_, rfl, M_1, hM_1, p_1, rfl⟩
   ·have k_6 : ¬ (d2 = [90, 111, 110, 101]) := iff_f dI h_4
    have hF_11 := cnd_f h_4 hF_7
    refine wp_skip (B_n (T_n (R_seq (R_reg ?_))))
    refine Y19 f 2 fun _ f => ?_
    refine W_end rfl (T_n (wp_ret ?_))
    refine E_ret2 f rfl (by kernel_rfl : Vc.look _ 6 = some (S [])) (by kernel_rfl : Vc.look _ 7 = some (.int .i64 91)) ?_
    obtain rfl := sI hF_11
    exact ⟨_, rfl, M_1, hM_1, p_1, rfl⟩
end Go.Proofs.YtalifkcchfkgmaaGreatDoor
end

section
set_option linter.unusedVariables false
set_option linter.unusedSimpArgs false
namespace Go.Proofs.YtalifkcchfkgmaaGreatDoor
open Go Go.Vc Go.RowKit
def ref09_value_s1 (n : Nat) (d0 : T_api_Value) (s_1 : Int) : Option (Lp Int (Sum Unit Unit)) :=
    bif (decide (s_1 < ((d0.fList.length : Nat) : Int))) then
      ((getI d0.fList s_1).bind fun x_3 =>
      bif (!(decide (x_3.fKind = 3))) then
        (some (.br (.inl ())))
      else
        (getI d0.fList s_1).bind fun x_4 =>
        (ref05_Word n x_4.fText).bind fun x_5 =>
        bif !x_5 then
          (some (.br (.inl ())))
        else
          need (inR .i64 (s_1 + 1)) <|
          some (.nx (s_1 + 1)))
    else
      some (.br (.inr ()))
def ref09_value (n : Nat) (d0 : T_api_Value) (d1 : Int) : Option Bool :=
  ((bif (!(decide (d0.fKind = d1))) then
      (some ((true)))
    else
      (ref03_Check n d0).bind fun x_1 =>
      some ((!(decide (x_1 = 0)))) : Option Bool)).bind fun y_1 =>
  bif y_1 then
    (some ((false)))
  else
    bif (decide (d1 = 3)) then
      ((ref05_Word n d0.fText).bind fun x_2 =>
      some ((x_2)))
    else
      ((bif (decide (d1 = 4)) then
          (some ((decide ((8 : Int) < ((d0.fList.length : Nat) : Int)))))
        else
          some ((false)) : Option Bool)).bind fun y_2 =>
      bif y_2 then
        (some ((false)))
      else
        (loopF (ref09_value_s1 n d0) n (0 : Int)).bind fun b_2 =>
        (match b_2 with 
        | .inl y_3 => some ((false)) 
        | .inr y_4 => some ((true)))
set_option maxHeartbeats 2000000 in
theorem ref09_value_ok (n : Nat) (M : Mem) (hG : GL M) (c0 : List Value) (d0 : T_api_Value) (h0 : Rep M (emb_T_api_Value d0) c0) (d1 : Int) (r : Bool) (hF : ref09_value n d0 d1 = some r) : Ok Tryz.prog M 57 [.agg c0.toArray, .int .i8 d1] (fun _ v => v = .bool r) := by
 unfold ref09_value at hF
 intro M1 hM0 w0 H w p0
 replace hG := GL.mono hM0 hG
 replace h0 := Rep.mono hM0 _ _ h0
 obtain ⟨A_1, cap_1, A_2, cap_2, rfl, h_1, h_2⟩ := T_api_Value.opn h0
 refine R_enter 52 Tryz.func57 rfl rfl (by simp) fun a0 f0 => ?_
 refine R_seq (R_reg ?_)
 refine Y13 (cs := #[.int .i8 d0.fKind, .bool d0.fBool, .int .i64 d0.fNum, S d0.fText, .slice A_1 d0.fList.length cap_1, .slice A_2 d0.fKeys.length cap_2]) (T := 76) f0 p0 fun b_1 M_1 w_1 hM_1 hc_1 p_1 _ f => ?_
 have hc_2 := fz_box hc_1
 refine Y19 f 1 fun _ f => ?_
 refine W_end rfl (T_n (R_seq (R_seq ?_)))
 obtain ⟨j_1, hj_1, hF_1⟩ := bS hF
 refine R_mid (fun a_10 w_3 => ∃ y_1 : Bool, j_1 = y_1 ∧ ∃ M_2 : Mem, M_1.le M_2 ∧ Frm 52 [(1, .int .i8 d1), (2, .pointer (some (⟨b_1, 0, none⟩))), (14, .bool y_1)] a_10 ∧ Hp w0 M_2 (H) w_3) ?_ ?_
 ·refine R_reg ?_
  refine Y19 f 1 fun _ f => ?_
  refine Y15 f p_1 hc_2 0 rfl fun _ f => ?_
  refine Y19 f 3 fun _ f => ?_
  rcases bE (!(decide (d0.fKind = d1))) with h_3 | h_3
  ·have k_1 : ¬ (d0.fKind = d1) := (not_iff dI).1 h_3
   have hF_2 := cnd_t h_3 hj_1
   have f := Frm.set f 10 (v := .bool (!(decide (d0.fKind = d1)))) (v' := .bool true) (by kernel_rfl) (cB h_3)
   refine Y19 f 4 fun _ f => ?_
   refine W_end rfl (T_n ?_)
   exact ⟨(true), (sI hF_2).symm, M_1, (mR _), f.keep (ks := [1, 2, 14]) (by kernel_rfl), p_1⟩
  ·have k_2 : ¬ (¬ (d0.fKind = d1)) := iff_f (not_iff dI) h_3
   have hF_3 := cnd_f h_3 hj_1
   have f := Frm.set f 10 (v := .bool (!(decide (d0.fKind = d1)))) (v' := .bool false) (by kernel_rfl) (cB h_3)
   refine Y14 (v := .agg #[.int .i8 d0.fKind, .bool d0.fBool, .int .i64 d0.fNum, S d0.fText, .slice A_1 d0.fList.length cap_1, .slice A_2 d0.fKeys.length cap_2]) f (Y33 (cs := [.int .i8 d0.fKind, .bool d0.fBool, .int .i64 d0.fNum, S d0.fText, .slice A_1 d0.fList.length cap_1, .slice A_2 d0.fKeys.length cap_2]) rfl (ad := ⟨b_1, 0, none⟩) (fun j v h => p_1.cell (hc_2 j v h))) fun _ f => ?_
   obtain ⟨x_1, hx_1, hF_4⟩ := bS hF_3
   refine Y18 f p_1 (ref03_Check_ok n _ _ d0 (T_api_Value.shutx (x := d0) (h_1.mono hM_1) (h_2.mono hM_1)) x_1 hx_1) fun w_2 p_2 _ f => ?_
   refine Y19 f 2 fun _ f => ?_
   refine W_end rfl (T_n ?_)
   exact ⟨(!(decide (x_1 = 0))), (sI hF_4).symm, M_1, (mR _), f.keep (ks := [1, 2, 14]) (by kernel_rfl), p_2⟩
 ·rintro a_10 w_3 ⟨y_1, hq_1, M_2, hM_2, f, p_3⟩
  subst j_1
  refine T_n ?_
  refine Y6 f (b := y_1) (fun h_4 => ?_) fun h_4 => ?_
  ·have hF_5 := cnd_t h_4 hF_1
   refine R_seq (R_reg ?_)
   refine Y19 f 1 fun _ f => ?_
   refine W_end rfl (T_n (wp_ret (T_r ?_)))
   refine E_ret1 f rfl (by kernel_rfl : Vc.look _ 4 = some (.bool false)) ?_
   obtain rfl := sI hF_5
   exact ⟨_, rfl, M_2, (hM_1.trans hM_2), p_3, rfl⟩
  ·have hF_6 := cnd_f h_4 hF_1
   refine wp_skip (T_n (R_seq (R_seq (R_reg ?_))))
   refine Y19 f 2 fun _ f => ?_
   refine W_end rfl (T_n ?_)
   refine Y6 f (b := decide (d1 = 3)) (fun h_5 => ?_) fun h_5 => ?_
   ·have k_5 : d1 = 3 := dI.1 h_5
    have hF_7 := cnd_t h_5 hF_6
    refine R_seq (R_reg ?_)
    refine Y19 f 1 fun _ f => ?_
    refine Y15 f p_3 (fzu hM_2 hc_2) 3 rfl fun _ f => ?_
    obtain ⟨x_2, hx_2, hF_8⟩ := bS hF_7
    refine Y18 f p_3 (ref05_Word_ok n _ (GL.mono (hM_1.trans hM_2) hG) d0.fText x_2 hx_2) fun w_4 p_4 _ f => ?_
    refine Y19 f 1 fun _ f => ?_
    refine W_end rfl (T_n (wp_ret (T_r ?_)))
    refine E_ret1 f rfl (by kernel_rfl : Vc.look _ 4 = some (.bool x_2)) ?_
    obtain rfl := sI hF_8
    exact ⟨_, rfl, M_2, (hM_1.trans hM_2), p_4, rfl⟩
   ·have k_6 : ¬ (d1 = 3) := iff_f dI h_5
    have hF_9 := cnd_f h_5 hF_6
    refine wp_skip (T_n (R_seq (R_seq ?_)))
    obtain ⟨j_2, hj_2, hF_10⟩ := bS hF_9
    refine R_mid (fun a_22 w_5 => ∃ y_2 : Bool, j_2 = y_2 ∧ ∃ M_3 : Mem, M_2.le M_3 ∧ Frm 52 [(2, .pointer (some (⟨b_1, 0, none⟩))), (27, .bool y_2)] a_22 ∧ Hp w0 M_3 (H) w_5) ?_ ?_
    ·refine R_reg ?_
     refine Y19 f 3 fun _ f => ?_
     rcases bE (decide (d1 = 4)) with h_6 | h_6
     ·have k_7 : d1 = 4 := dI.1 h_6
      have hF_11 := cnd_t h_6 hj_2
      have f := Frm.set f 22 (v := .bool (decide (d1 = 4))) (v' := .bool true) (by kernel_rfl) (cB h_6)
      refine Y19 f 1 fun _ f => ?_
      refine Y15 f p_3 (fzu hM_2 hc_2) 4 rfl fun _ f => ?_
      refine Y19 f 3 fun _ f => ?_
      refine W_end rfl (T_n ?_)
      exact ⟨(decide ((8 : Int) < ((d0.fList.length : Nat) : Int))), (sI hF_11).symm, M_2, (mR _), f.keep (ks := [2, 27]) (by kernel_rfl), p_3⟩
     ·have k_8 : ¬ (d1 = 4) := iff_f dI h_6
      have hF_12 := cnd_f h_6 hj_2
      have f := Frm.set f 22 (v := .bool (decide (d1 = 4))) (v' := .bool false) (by kernel_rfl) (cB h_6)
      refine Y19 f 5 fun _ f => ?_
      refine W_end rfl (T_n ?_)
      exact ⟨(false), (sI hF_12).symm, M_2, (mR _), f.keep (ks := [2, 27]) (by kernel_rfl), p_3⟩
    ·rintro a_22 w_5 ⟨y_2, hq_2, M_3, hM_3, f, p_5⟩
     subst j_2
     refine T_n ?_
     refine Y6 f (b := y_2) (fun h_7 => ?_) fun h_7 => ?_
     ·have hF_13 := cnd_t h_7 hF_10
      refine R_seq (R_reg ?_)
      refine Y19 f 1 fun _ f => ?_
      refine W_end rfl (T_n (wp_ret (T_r ?_)))
      refine E_ret1 f rfl (by kernel_rfl : Vc.look _ 4 = some (.bool false)) ?_
      obtain rfl := sI hF_13
      exact ⟨_, rfl, M_3, ((hM_1.trans hM_2).trans hM_3), p_5, rfl⟩
     ·have hF_14 := cnd_f h_7 hF_10
      refine wp_skip (T_n (R_seq (R_seq (R_reg ?_))))
      refine Y19 f 1 fun _ f => ?_
      refine W_end rfl (T_n (wp_block ?_))
      obtain ⟨b_2, hL_1, hF_15⟩ := bS hF_14
      refine wp_mono (Q := fun e a w => (e = .ret ∧ (∃ y_3 : Unit, b_2 = .inl y_3 ∧ ∃ M_5 : Mem, M_3.le M_5 ∧ Frm 52 [(4, .bool false)] a ∧ Hp w0 M_5 (H) w)) ∨ (e = .exit 0 ∧ (∃ y_4 : Unit, b_2 = .inr y_4 ∧ ∃ M_6 : Mem, M_3.le M_6 ∧ Frm 52 [] a ∧ Hp w0 M_6 (H) w))) (R_loop (n := 52) (w0 := w0) (M := M_3) (fun (x : Nat × Int) => match x with | (m_1, s_1) => [(2, .pointer (some (⟨b_1, 0, none⟩))), (5, .int .i64 s_1)]) (fun (x : Nat × Int) => match x with | (m_1, s_1) => (H)) (fun (x : Nat × Int) (MM : Mem) => match x with | (m_1, s_1) => loopF (ref09_value_s1 n d0) m_1 s_1 = some b_2) (fun (x : Nat × Int) => match x with | (m_1, s_1) => m_1) (n, (0 : Int)) (f.keep (ks := [2, 5]) (by kernel_rfl)) p_5 hL_1 ?_) ?_
      ·rintro ⟨m_1, s_1⟩ M_4 _ w_6 hM_4 I_1 f p_6
       have I_1L := I_1
       obtain ⟨m_2, r_1, rfl, hs_1, hn_1⟩ := loop_step I_1L
       unfold ref09_value_s1 at hs_1
       refine R_seq (R_seq (R_reg ?_))
       refine Y19 f 2 fun _ f => ?_
       refine Y15 f p_6 (fzu ((hM_2.trans hM_3).trans hM_4) hc_2) 4 rfl fun _ f => ?_
       refine Y19 f 2 fun _ f => ?_
       refine W_end rfl (T_n ?_)
       refine Y6 f (b := decide (s_1 < ((d0.fList.length : Nat) : Int))) (fun h_8 => ?_) fun h_8 => ?_
       ·have k_11 : s_1 < ((d0.fList.length : Nat) : Int) := dI.1 h_8
        have hF_16 := cnd_t h_8 hs_1
        refine wp_skip (T_n (R_seq (wp_block (R_seq (R_reg ?_)))))
        refine Y19 f 1 fun _ f => ?_
        refine Y15 f p_6 (fzu ((hM_2.trans hM_3).trans hM_4) hc_2) 4 rfl fun _ f => ?_
        refine Y19 f 1 fun _ f => ?_
        obtain ⟨x_3, hx_3, hF_17⟩ := bS hF_16
        obtain ⟨ad_1, c_1, e_1, hl_1, hr_1, hc_3⟩ := Sli.at_ (h_1.mono (((hM_1.trans hM_2).trans hM_3).trans hM_4)) hx_3
        clear hl_1
        obtain ⟨A_3, cap_3, A_4, cap_4, rfl, h_9, h_10⟩ := T_api_Value.opn hr_1
        refine Y14 (v := .pointer (some (ad_1.add (s_1.toNat * 6)))) f (Y31 e_1 rfl (len := d0.fList.length) (cap := cap_1) (k := .i64) (i := s_1) (e := 76) (sz := 6) (getI_nn hx_3) (getI_lt hx_3)) fun _ f => ?_
        refine Y19 f 1 fun _ f => ?_
        refine Y15 f p_6 hc_3 0 rfl fun _ f => ?_
        refine Y19 f 2 fun _ f => ?_
        rcases bE (!(decide (x_3.fKind = 3))) with h_11 | h_11
        ·have k_12 : ¬ (x_3.fKind = 3) := (not_iff dI).1 h_11
         have hF_18 := cnd_t h_11 hF_17
         have f := Frm.set f 42 (v := .bool (!(decide (x_3.fKind = 3)))) (v' := .bool true) (by kernel_rfl) (cB h_11)
         refine Y19 f 9 fun _ f => ?_
         refine W_end rfl (T_n ?_)
         refine Y8 f ?_
         refine R_seq (R_reg ?_)
         refine Y19 f 1 fun _ f => ?_
         refine W_end rfl (T_n (wp_ret (B_r (T_r (T_r ?_)))))
         obtain rfl := sI hF_18
         exact .inl ⟨rfl, (), (sI hn_1).symm, M_4, hM_4, f.keep (ks := [4]) (by kernel_rfl), p_6⟩
        ·have k_13 : ¬ (¬ (x_3.fKind = 3)) := iff_f (not_iff dI) h_11
         have hF_19 := cnd_f h_11 hF_17
         have f := Frm.set f 42 (v := .bool (!(decide (x_3.fKind = 3)))) (v' := .bool false) (by kernel_rfl) (cB h_11)
         refine Y19 f 1 fun _ f => ?_
         refine Y15 f p_6 (fzu ((hM_2.trans hM_3).trans hM_4) hc_2) 4 rfl fun _ f => ?_
         refine Y19 f 1 fun _ f => ?_
         obtain ⟨x_4, hx_4, hF_20⟩ := bS hF_19
         obtain ⟨ad_2, c_2, e_2, hl_2, hr_2, hc_4⟩ := Sli.at_ (h_1.mono (((hM_1.trans hM_2).trans hM_3).trans hM_4)) hx_4
         clear hl_2
         obtain ⟨A_5, cap_5, A_6, cap_6, rfl, h_12, h_13⟩ := T_api_Value.opn hr_2
         refine Y14 (v := .pointer (some (ad_2.add (s_1.toNat * 6)))) f (Y31 e_2 rfl (len := d0.fList.length) (cap := cap_1) (k := .i64) (i := s_1) (e := 76) (sz := 6) (getI_nn hx_4) (getI_lt hx_4)) fun _ f => ?_
         refine Y19 f 1 fun _ f => ?_
         refine Y15 f p_6 hc_4 3 rfl fun _ f => ?_
         obtain ⟨x_5, hx_5, hF_21⟩ := bS hF_20
         refine Y18 f p_6 (ref05_Word_ok n _ (GL.mono (((hM_1.trans hM_2).trans hM_3).trans hM_4) hG) x_4.fText x_5 hx_5) fun w_7 p_7 _ f => ?_
         refine Y19 f 2 fun _ f => ?_
         refine W_end rfl (T_n ?_)
         refine Y6 f (b := !x_5) (fun h_14 => ?_) fun h_14 => ?_
         ·have k_14 : (x_5) = false := by simpa using h_14
          have hF_22 := cnd_t h_14 hF_21
          refine R_seq (R_reg ?_)
          refine Y19 f 1 fun _ f => ?_
          refine W_end rfl (T_n (wp_ret (B_r (T_r (T_r ?_)))))
          obtain rfl := sI hF_22
          exact .inl ⟨rfl, (), (sI hn_1).symm, M_4, hM_4, f.keep (ks := [4]) (by kernel_rfl), p_7⟩
         ·have k_15 : (x_5) = true := by simpa using h_14
          have hF_23 := cnd_f h_14 hF_21
          refine wp_skip (B_n (T_n (R_reg ?_)))
          refine Y19 f 1 fun _ f => ?_
          obtain ⟨g_1, hF_24⟩ := nS hF_23
          refine Y19 f 1 fun _ f => ?_
          have f := Frm.set f 34 (v := .int .i64 (IntKind.wrap .i64 (s_1 + 1))) (v' := .int .i64 (s_1 + 1)) (by kernel_rfl) (congrArg (Value.int .i64) (inR_wrap g_1))
          refine Y19 f 1 fun _ f => ?_
          refine W_end rfl (T_n ?_)
          obtain rfl := sI hF_24
          exact ⟨⟨m_2, s_1 + 1⟩, Nat.lt_succ_self _, M_4, hM_4, hn_1, f.keep (ks := [2, 5]) (by kernel_rfl), p_7⟩
       ·have k_16 : ¬ (s_1 < ((d0.fList.length : Nat) : Int)) := iff_f dI h_8
        have hF_25 := cnd_f h_8 hs_1
        refine wp_exit (T_x (T_x ?_))
        obtain rfl := sI hF_25
        exact .inr ⟨rfl, (), (sI hn_1).symm, M_4, hM_4, f.keep (ks := []) (by kernel_rfl), p_6⟩
      ·rintro _ _ w_10 (⟨rfl, y_3, rfl, M_5, hM_5, f, p_8⟩ | ⟨rfl, y_4, rfl, M_6, hM_6, f, p_9⟩)
       ·refine B_r (T_r ?_)
        refine E_ret1 f rfl (by kernel_rfl : Vc.look _ 4 = some (.bool false)) ?_
        obtain rfl := sI hF_15
        exact ⟨_, rfl, M_5, (((hM_1.trans hM_2).trans hM_3).trans hM_5), p_8, rfl⟩
       ·refine B_x (T_n (R_seq (R_reg ?_)))
        refine Y19 f 1 fun _ f => ?_
        refine W_end rfl (T_n (wp_ret ?_))
        refine E_ret1 f rfl (by kernel_rfl : Vc.look _ 4 = some (.bool true)) ?_
        obtain rfl := sI hF_15
        exact ⟨_, rfl, M_6, (((hM_1.trans hM_2).trans hM_3).trans hM_6), p_9, rfl⟩
def ref09_Check_s1 (n : Nat) (d0 : List UInt8) (d1 : List T_api_Given) (s_1 : Int) : Option (Lp Int (Sum Unit Unit)) :=
    bif (decide (s_1 < ((d1.length : Nat) : Int))) then
      ((getI d1 s_1).bind fun x_2 =>
      (ref09_Find n d0 x_2.fName).bind fun x_3 =>
      ((bif !x_3.2 then
          (some ((true)))
        else
          bif (decide ((0 : Int) < s_1)) then
            ((getI d1 s_1).bind fun x_4 =>
            need (inR .i64 (s_1 - 1)) <|
            (getI d1 (s_1 - 1)).bind fun x_5 =>
            some ((Op.bytesLess x_4.fName x_5.fName || x_4.fName == x_5.fName)))
          else
            some ((false)) : Option Bool)).bind fun y_1 =>
      bif y_1 then
        (some (.br (.inl ())))
      else
        (getI d1 s_1).bind fun x_6 =>
        bif x_6.fUnknown then
          (((bif (decide (x_3.1.fKind = 2)) then
              (some ((true)))
            else
              (getI d1 s_1).bind fun x_7 =>
              (ref03_Same n (⟨x_7.fV.fKind, (x_7.fV.fBool), x_7.fV.fNum, x_7.fV.fText, x_7.fV.fList, x_7.fV.fKeys⟩ : T_api_Value) z_T_api_Value).bind fun x_8 =>
              some ((!x_8)) : Option Bool)).bind fun y_2 =>
          bif y_2 then
            (some (.br (.inl ())))
          else
            need (inR .i64 (s_1 + 1)) <|
            some (.nx (s_1 + 1)))
        else
          (getI d1 s_1).bind fun x_9 =>
          (ref09_value n (⟨x_9.fV.fKind, (x_9.fV.fBool), x_9.fV.fNum, x_9.fV.fText, x_9.fV.fList, x_9.fV.fKeys⟩ : T_api_Value) x_3.1.fKind).bind fun x_10 =>
          bif !x_10 then
            (some (.br (.inl ())))
          else
            need (inR .i64 (s_1 + 1)) <|
            some (.nx (s_1 + 1)))
    else
      some (.br (.inr ()))
def ref09_Check (n : Nat) (d0 : List UInt8) (d1 : List T_api_Given) : Option Int :=
  (ref09_Specs n d0).bind fun x_1 =>
  bif (!(decide (x_1.2 = 0))) then
    (some (x_1.2))
  else
    (loopF (ref09_Check_s1 n d0 d1) n (0 : Int)).bind fun b_1 =>
    (match b_1 with 
    | .inl y_3 => some ((91 : Int)) 
    | .inr y_4 => some ((0 : Int)))
set_option maxHeartbeats 2000000 in
theorem ref09_Check_ok (n : Nat) (M : Mem) (hG : GL M) (d0 : List UInt8) (A1 : Option Addr) (cap1 : Nat) (d1 : List T_api_Given) (h1 : Sli M 8 emb_T_api_Given A1 cap1 d1) (r : Int) (hF : ref09_Check n d0 d1 = some r) : Ok Tryz.prog M 33 [S d0, .slice A1 d1.length cap1] (fun _ v => v = .int .i64 r) := by
 unfold ref09_Check at hF
 intro M1 hM0 w0 H w p0
 replace hG := GL.mono hM0 hG
 replace h1 := h1.mono hM0
 refine R_enter 81 Tryz.func33 rfl rfl (by simp) fun a0 f0 => ?_
 refine R_seq (R_reg ?_)
 refine Y19 f0 1 fun _ f => ?_
 refine W_end rfl (T_n (R_seq (R_reg ?_)))
 refine Y19 f 1 fun _ f => ?_
 obtain ⟨x_1, hx_1, hF_1⟩ := bS hF
 refine Y16 f p0 (ref09_Specs_ok n _ hG d0 x_1 hx_1) fun _ M_1 w_1 hM_1 p_1 q_1 _ f => ?_
 obtain ⟨A_1, cap_1, rfl, h_1⟩ := q_1
 refine Y19 f 5 fun _ f => ?_
 refine W_end rfl (T_n (R_seq (R_seq (R_reg ?_))))
 refine Y19 f 2 fun _ f => ?_
 refine W_end rfl (T_n ?_)
 refine Y6 f (b := !(decide (x_1.2 = 0))) (fun h_2 => ?_) fun h_2 => ?_
 ·have k_1 : ¬ (x_1.2 = 0) := (not_iff dI).1 h_2
  have hF_2 := cnd_t h_2 hF_1
  refine R_seq (R_reg ?_)
  refine Y19 f 2 fun _ f => ?_
  refine W_end rfl (T_n (wp_ret (T_r ?_)))
  refine E_ret1 f rfl (by kernel_rfl : Vc.look _ 4 = some (.int .i64 x_1.2)) ?_
  obtain rfl := sI hF_2
  exact ⟨_, rfl, M_1, hM_1, p_1, rfl⟩
 ·have k_2 : ¬ (¬ (x_1.2 = 0)) := iff_f (not_iff dI) h_2
  have hF_3 := cnd_f h_2 hF_1
  refine wp_skip (T_n (R_seq (R_seq (R_reg ?_))))
  refine Y19 f 1 fun _ f => ?_
  refine W_end rfl (T_n (wp_block ?_))
  obtain ⟨b_1, hL_1, hF_4⟩ := bS hF_3
  refine wp_mono (Q := fun e a w => (e = .ret ∧ (∃ y_3 : Unit, b_1 = .inl y_3 ∧ ∃ M_6 : Mem, M_1.le M_6 ∧ Frm 81 [(4, .int .i64 91)] a ∧ Hp w0 M_6 (H) w)) ∨ (e = .exit 0 ∧ (∃ y_4 : Unit, b_1 = .inr y_4 ∧ ∃ M_7 : Mem, M_1.le M_7 ∧ Frm 81 [] a ∧ Hp w0 M_7 (H) w))) (R_loop (n := 81) (w0 := w0) (M := M_1) (fun (x : Nat × Int) => match x with | (m_1, s_1) => [(0, S d0), (1, .slice A1 d1.length cap1), (7, .int .i64 s_1)]) (fun (x : Nat × Int) => match x with | (m_1, s_1) => (H)) (fun (x : Nat × Int) (MM : Mem) => match x with | (m_1, s_1) => loopF (ref09_Check_s1 n d0 d1) m_1 s_1 = some b_1) (fun (x : Nat × Int) => match x with | (m_1, s_1) => m_1) (n, (0 : Int)) (f.keep (ks := [0, 1, 7]) (by kernel_rfl)) p_1 hL_1 ?_) ?_
  ·rintro ⟨m_1, s_1⟩ M_2 _ w_2 hM_2 I_1 f p_2
   have I_1L := I_1
   obtain ⟨m_2, r_1, rfl, hs_1, hn_1⟩ := loop_step I_1L
   unfold ref09_Check_s1 at hs_1
   refine R_seq (R_seq (R_reg ?_))
   refine Y19 f 4 fun _ f => ?_
   refine W_end rfl (T_n ?_)
   refine Y6 f (b := decide (s_1 < ((d1.length : Nat) : Int))) (fun h_3 => ?_) fun h_3 => ?_
   ·have k_3 : s_1 < ((d1.length : Nat) : Int) := dI.1 h_3
    have hF_5 := cnd_t h_3 hs_1
    refine wp_skip (T_n (R_seq (wp_block (R_seq (R_reg ?_)))))
    refine Y19 f 3 fun _ f => ?_
    obtain ⟨x_2, hx_2, hF_6⟩ := bS hF_5
    obtain ⟨ad_1, c_1, e_1, hl_1, hr_1, hc_1⟩ := Sli.at_ (h1.mono (hM_1.trans hM_2)) hx_2
    clear hl_1
    obtain ⟨A_2, cap_2, A_3, cap_3, rfl, h_4, h_5⟩ := T_api_Given.opn hr_1
    refine Y14 (v := .pointer (some (ad_1.add (s_1.toNat * 8)))) f (Y31 e_1 rfl (len := d1.length) (cap := cap1) (k := .i64) (i := s_1) (e := 78) (sz := 8) (getI_nn hx_2) (getI_lt hx_2)) fun _ f => ?_
    refine Y19 f 1 fun _ f => ?_
    refine Y15 f p_2 hc_1 0 rfl fun _ f => ?_
    obtain ⟨x_3, hx_3, hF_7⟩ := bS hF_6
    refine Y16 f p_2 (ref09_Find_ok n _ (GL.mono (hM_1.trans hM_2) hG) d0 x_2.fName x_3 hx_3) fun _ M_3 w_3 hM_3 p_3 q_2 _ f => ?_
    obtain ⟨c_2, rfl, hr_2⟩ := q_2
    obtain rfl := T_api_Spec.opn hr_2
    refine Y19 f 3 fun _ f => ?_
    refine Y12 f p_3 (.cells #[S [], .int .i8 0, .bool false] 64 (0, 0)) fun b_2 w_4 p_4 _ f => ?_
    refine Y27 (vs := [S x_3.1.fName, .int .i8 x_3.1.fKind, .bool x_3.1.fReplace]) (j := 0) f p_4 rfl rfl (by simp [Value.oneCell', S]) (by simp) (by decide) (cs' := #[S x_3.1.fName, .int .i8 x_3.1.fKind, .bool x_3.1.fReplace]) fun w_5 p_5 _ f => ?_
    refine Y19 f 1 fun _ f => ?_
    refine W_end rfl (T_n (R_seq (R_seq ?_)))
    obtain ⟨j_1, hj_1, hF_8⟩ := bS hF_7
    refine R_mid (fun a_34 w_9 => ∃ y_1 : Bool, j_1 = y_1 ∧ ∃ M_4 : Mem, M_3.le M_4 ∧ Frm 81 [(0, S d0), (1, .slice A1 d1.length cap1), (7, .int .i64 s_1), (8, .pointer (some (⟨b_2, 0, none⟩))), (53, .bool y_1)] a_34 ∧ Hp w0 M_4 ((Ent.obj b_2 (.cells #[S x_3.1.fName, .int .i8 x_3.1.fKind, .bool x_3.1.fReplace] 64 (0, 0))) :: H) w_9) ?_ ?_
    ·refine R_draw p_5 (by kernel_rfl) (by kernel_rfl) ?_
     refine Y5 default f 3 fun _ f => ?_
     rcases bE (!x_3.2) with h_6 | h_6
     ·have k_4 : (x_3.2) = false := by simpa using h_6
      have hF_9 := cnd_t h_6 hj_1
      have f := Frm.set f 36 (v := .bool !x_3.2) (v' := .bool true) (by kernel_rfl) (cB h_6)
      refine Y5 default f 17 fun _ f => ?_
      refine Q_end rfl ?_
      intro w_6 p_6
      refine T_n ?_
      exact ⟨(true), (sI hF_9).symm, M_3, (mR _), f.keep (ks := [0, 1, 7, 8, 53]) (by kernel_rfl), p_6⟩
     ·have k_5 : (x_3.2) = true := by simpa using h_6
      have hF_10 := cnd_f h_6 hj_1
      have f := Frm.set f 36 (v := .bool !x_3.2) (v' := .bool false) (by kernel_rfl) (cB h_6)
      refine Y5 default f 3 fun _ f => ?_
      rcases bE (decide ((0 : Int) < s_1)) with h_7 | h_7
      ·have k_6 : (0 : Int) < s_1 := dI.1 h_7
       have hF_11 := cnd_t h_7 hF_10
       have f := Frm.set f 39 (v := .bool (decide ((0 : Int) < s_1))) (v' := .bool true) (by kernel_rfl) (cB h_7)
       refine Y5 default f 2 fun _ f => ?_
       obtain ⟨x_4, hx_4, hF_12⟩ := bS hF_11
       obtain ⟨ad_2, c_3, e_2, hl_2, hr_3, hc_2⟩ := Sli.at_ (h1.mono ((hM_1.trans hM_2).trans hM_3)) hx_4
       clear hl_2
       obtain ⟨A_4, cap_4, A_5, cap_5, rfl, h_8, h_9⟩ := T_api_Given.opn hr_3
       refine Y2 (v := .pointer (some (ad_2.add (s_1.toNat * 8)))) f (fun _ pq => Y31 e_2 rfl (len := d1.length) (cap := cap1) (k := .i64) (i := s_1) (e := 78) (sz := 8) (getI_nn hx_4) (getI_lt hx_4)) fun _ f => ?_
       refine Y5 default f 1 fun _ f => ?_
       refine Y4 f hc_2 0 rfl fun _ f => ?_
       refine Y5 default f 2 fun _ f => ?_
       obtain ⟨g_1, hF_13⟩ := nS hF_12
       refine Y2 (v := .int .i64 (IntKind.wrap .i64 (s_1 - 1))) f (fun _ pq => by kernel_rfl) fun _ f => ?_
       have f := Frm.set f 47 (v := .int .i64 (IntKind.wrap .i64 (s_1 - 1))) (v' := .int .i64 (s_1 - 1)) (by kernel_rfl) (congrArg (Value.int .i64) (inR_wrap g_1))
       obtain ⟨x_5, hx_5, hF_14⟩ := bS hF_13
       obtain ⟨ad_3, c_4, e_3, hl_3, hr_4, hc_3⟩ := Sli.at_ (h1.mono ((hM_1.trans hM_2).trans hM_3)) hx_5
       clear hl_3
       obtain ⟨A_6, cap_6, A_7, cap_7, rfl, h_10, h_11⟩ := T_api_Given.opn hr_4
       refine Y2 (v := .pointer (some (ad_3.add ((s_1 - 1).toNat * 8)))) f (fun _ pq => Y31 e_3 rfl (len := d1.length) (cap := cap1) (k := .i64) (i := s_1 - 1) (e := 78) (sz := 8) (getI_nn hx_5) (getI_lt hx_5)) fun _ f => ?_
       refine Y5 default f 1 fun _ f => ?_
       refine Y4 f hc_3 0 rfl fun _ f => ?_
       refine Y2 (v := .bool (Op.bytesLess x_4.fName x_5.fName || x_4.fName == x_5.fName)) f (fun _ pq => X_strle rfl (l := x_4.fName) (m := x_5.fName) (by kernel_rfl) (by kernel_rfl)) fun _ f => ?_
       refine Y5 default f 2 fun _ f => ?_
       refine Q_end rfl ?_
       intro w_7 p_7
       refine T_n ?_
       exact ⟨(Op.bytesLess x_4.fName x_5.fName || x_4.fName == x_5.fName), (sI hF_14).symm, M_3, (mR _), f.keep (ks := [0, 1, 7, 8, 53]) (by kernel_rfl), p_7⟩
      ·have k_7 : ¬ ((0 : Int) < s_1) := iff_f dI h_7
       have hF_15 := cnd_f h_7 hF_10
       have f := Frm.set f 39 (v := .bool (decide ((0 : Int) < s_1))) (v' := .bool false) (by kernel_rfl) (cB h_7)
       refine Y5 default f 14 fun _ f => ?_
       refine Q_end rfl ?_
       intro w_8 p_8
       refine T_n ?_
       exact ⟨(false), (sI hF_15).symm, M_3, (mR _), f.keep (ks := [0, 1, 7, 8, 53]) (by kernel_rfl), p_8⟩
    ·rintro a_34 w_9 ⟨y_1, hq_1, M_4, hM_4, f, p_9⟩
     subst j_1
     refine T_n ?_
     refine Y6 f (b := y_1) (fun h_12 => ?_) fun h_12 => ?_
     ·have hF_16 := cnd_t h_12 hF_8
      refine R_seq (R_reg ?_)
      refine Y19 f 1 fun _ f => ?_
      refine W_end rfl (T_n (wp_ret (T_r (B_r (T_r (T_r ?_))))))
      obtain rfl := sI hF_16
      exact .inl ⟨rfl, (), (sI hn_1).symm, M_4, ((hM_2.trans hM_3).trans hM_4), f.keep (ks := [4]) (by kernel_rfl), (p_9.dropN 1)⟩
     ·have hF_17 := cnd_f h_12 hF_8
      refine wp_skip (T_n (R_seq (R_seq (R_reg ?_))))
      refine Y19 f 2 fun _ f => ?_
      obtain ⟨x_6, hx_6, hF_18⟩ := bS hF_17
      obtain ⟨ad_4, c_5, e_4, hl_4, hr_5, hc_4⟩ := Sli.at_ (h1.mono (((hM_1.trans hM_2).trans hM_3).trans hM_4)) hx_6
      clear hl_4
      obtain ⟨A_8, cap_8, A_9, cap_9, rfl, h_13, h_14⟩ := T_api_Given.opn hr_5
      refine Y14 (v := .pointer (some (ad_4.add (s_1.toNat * 8)))) f (Y31 e_4 rfl (len := d1.length) (cap := cap1) (k := .i64) (i := s_1) (e := 78) (sz := 8) (getI_nn hx_6) (getI_lt hx_6)) fun _ f => ?_
      refine Y19 f 1 fun _ f => ?_
      refine Y15 f p_9 hc_4 1 rfl fun _ f => ?_
      refine W_end rfl (T_n ?_)
      refine Y6 f (b := x_6.fUnknown) (fun h_15 => ?_) fun h_15 => ?_
      ·have hF_19 := cnd_t h_15 hF_18
       refine R_seq (R_seq ?_)
       obtain ⟨j_2, hj_2, hF_20⟩ := bS hF_19
       refine R_mid (fun a_51 w_11 => ∃ y_2 : Bool, j_2 = y_2 ∧ ∃ M_5 : Mem, M_4.le M_5 ∧ Frm 81 [(0, S d0), (1, .slice A1 d1.length cap1), (7, .int .i64 s_1), (71, .bool y_2)] a_51 ∧ Hp w0 M_5 ((Ent.obj b_2 (.cells #[S x_3.1.fName, .int .i8 x_3.1.fKind, .bool x_3.1.fReplace] 64 (0, 0))) :: H) w_11) ?_ ?_
       ·refine R_reg ?_
        refine Y19 f 1 fun _ f => ?_
        refine Y14 (v := .int .i8 x_3.1.fKind) f (Y32 (v := .int .i8 x_3.1.fKind) rfl (ad := ⟨b_2, 1, none⟩) (p_9.ownCell 0 rfl 1)) fun _ f => ?_
        refine Y19 f 2 fun _ f => ?_
        rcases bE (decide (x_3.1.fKind = 2)) with h_16 | h_16
        ·have k_11 : x_3.1.fKind = 2 := dI.1 h_16
         have hF_21 := cnd_t h_16 hj_2
         have f := Frm.set f 62 (v := .bool (decide (x_3.1.fKind = 2))) (v' := .bool true) (by kernel_rfl) (cB h_16)
         refine Y19 f 9 fun _ f => ?_
         refine W_end rfl (T_n ?_)
         exact ⟨(true), (sI hF_21).symm, M_4, (mR _), f.keep (ks := [0, 1, 7, 71]) (by kernel_rfl), p_9⟩
        ·have k_12 : ¬ (x_3.1.fKind = 2) := iff_f dI h_16
         have hF_22 := cnd_f h_16 hj_2
         have f := Frm.set f 62 (v := .bool (decide (x_3.1.fKind = 2))) (v' := .bool false) (by kernel_rfl) (cB h_16)
         refine Y19 f 2 fun _ f => ?_
         obtain ⟨x_7, hx_7, hF_23⟩ := bS hF_22
         obtain ⟨ad_5, c_6, e_5, hl_5, hr_6, hc_5⟩ := Sli.at_ (h1.mono (((hM_1.trans hM_2).trans hM_3).trans hM_4)) hx_7
         clear hl_5
         obtain ⟨A_10, cap_10, A_11, cap_11, rfl, h_17, h_18⟩ := T_api_Given.opn hr_6
         refine Y14 (v := .pointer (some (ad_5.add (s_1.toNat * 8)))) f (Y31 e_5 rfl (len := d1.length) (cap := cap1) (k := .i64) (i := s_1) (e := 78) (sz := 8) (getI_nn hx_7) (getI_lt hx_7)) fun _ f => ?_
         refine Y19 f 1 fun _ f => ?_
         refine Y14 (v := .agg #[.int .i8 x_7.fV.fKind, .bool x_7.fV.fBool, .int .i64 x_7.fV.fNum, S x_7.fV.fText, .slice A_10 x_7.fV.fList.length cap_10, .slice A_11 x_7.fV.fKeys.length cap_11]) f (Y33 (cs := [.int .i8 x_7.fV.fKind, .bool x_7.fV.fBool, .int .i64 x_7.fV.fNum, S x_7.fV.fText, .slice A_10 x_7.fV.fList.length cap_10, .slice A_11 x_7.fV.fKeys.length cap_11]) rfl (ad := (ad_5.add (s_1.toNat * 8)).add 2) (fz_part (base := ad_5.add (s_1.toNat * 8)) (fun j v h => p_9.cell (hc_5 j v h)) 2 rfl)) fun _ f => ?_
         refine Y19 f 1 fun _ f => ?_
         obtain ⟨x_8, hx_8, hF_24⟩ := bS hF_23
         refine Y18 f p_9 (ref03_Same_ok n _ _ (⟨x_7.fV.fKind, (x_7.fV.fBool), x_7.fV.fNum, x_7.fV.fText, x_7.fV.fList, x_7.fV.fKeys⟩ : T_api_Value) (T_api_Value.shut h_17 h_18) _ z_T_api_Value (T_api_Value.shut Sli.nil Sli.nil) x_8 hx_8) fun w_10 p_10 _ f => ?_
         refine Y19 f 2 fun _ f => ?_
         refine W_end rfl (T_n ?_)
         exact ⟨(!x_8), (sI hF_24).symm, M_4, (mR _), f.keep (ks := [0, 1, 7, 71]) (by kernel_rfl), p_10⟩
       ·rintro a_51 w_11 ⟨y_2, hq_2, M_5, hM_5, f, p_11⟩
        subst j_2
        refine T_n ?_
        refine Y6 f (b := y_2) (fun h_19 => ?_) fun h_19 => ?_
        ·have hF_25 := cnd_t h_19 hF_20
         refine R_seq (R_reg ?_)
         refine Y19 f 1 fun _ f => ?_
         refine W_end rfl (T_n (wp_ret (T_r (T_r (B_r (T_r (T_r ?_)))))))
         obtain rfl := sI hF_25
         exact .inl ⟨rfl, (), (sI hn_1).symm, M_5, (((hM_2.trans hM_3).trans hM_4).trans hM_5), f.keep (ks := [4]) (by kernel_rfl), (p_11.dropN 1)⟩
        ·have hF_26 := cnd_f h_19 hF_20
         refine wp_skip (T_n (wp_exit (T_x (B_x (T_n (R_reg ?_))))))
         refine Y19 f 1 fun _ f => ?_
         obtain ⟨g_2, hF_27⟩ := nS hF_26
         refine Y19 f 1 fun _ f => ?_
         have f := Frm.set f 23 (v := .int .i64 (IntKind.wrap .i64 (s_1 + 1))) (v' := .int .i64 (s_1 + 1)) (by kernel_rfl) (congrArg (Value.int .i64) (inR_wrap g_2))
         refine Y19 f 1 fun _ f => ?_
         refine W_end rfl (T_n ?_)
         obtain rfl := sI hF_27
         exact ⟨⟨m_2, s_1 + 1⟩, Nat.lt_succ_self _, M_5, (((hM_2.trans hM_3).trans hM_4).trans hM_5), hn_1, f.keep (ks := [0, 1, 7]) (by kernel_rfl), (p_11.dropN 1)⟩
      ·have hF_28 := cnd_f h_15 hF_18
       refine wp_skip (T_n (R_seq ?_))
       refine R_draw p_9 (by kernel_rfl) (by kernel_rfl) ?_
       refine Y5 default f 2 fun _ f => ?_
       obtain ⟨x_9, hx_9, hF_29⟩ := bS hF_28
       obtain ⟨ad_6, c_7, e_6, hl_6, hr_7, hc_6⟩ := Sli.at_ (h1.mono (((hM_1.trans hM_2).trans hM_3).trans hM_4)) hx_9
       clear hl_6
       obtain ⟨A_12, cap_12, A_13, cap_13, rfl, h_20, h_21⟩ := T_api_Given.opn hr_7
       refine Y2 (v := .pointer (some (ad_6.add (s_1.toNat * 8)))) f (fun _ pq => Y31 e_6 rfl (len := d1.length) (cap := cap1) (k := .i64) (i := s_1) (e := 78) (sz := 8) (getI_nn hx_9) (getI_lt hx_9)) fun _ f => ?_
       refine Y5 default f 1 fun _ f => ?_
       refine Y2 (v := .agg #[.int .i8 x_9.fV.fKind, .bool x_9.fV.fBool, .int .i64 x_9.fV.fNum, S x_9.fV.fText, .slice A_12 x_9.fV.fList.length cap_12, .slice A_13 x_9.fV.fKeys.length cap_13]) f (fun _ pq => Y33 (cs := [.int .i8 x_9.fV.fKind, .bool x_9.fV.fBool, .int .i64 x_9.fV.fNum, S x_9.fV.fText, .slice A_12 x_9.fV.fList.length cap_12, .slice A_13 x_9.fV.fKeys.length cap_13]) rfl (ad := (ad_6.add (s_1.toNat * 8)).add 2) (fz_part (base := ad_6.add (s_1.toNat * 8)) (fun j v h => pq.cell (hc_6 j v h)) 2 rfl)) fun _ f => ?_
       refine Y5 default f 1 fun _ f => ?_
       refine Y2 (v := .int .i8 x_3.1.fKind) f (fun _ pq => Y32 (v := .int .i8 x_3.1.fKind) rfl (ad := ⟨b_2, 1, none⟩) (pq.ownCell 0 rfl 1)) fun _ f => ?_
       obtain ⟨x_10, hx_10, hF_30⟩ := bS hF_29
       refine Y3 f (ref09_value_ok n _ (GL.mono (((hM_1.trans hM_2).trans hM_3).trans hM_4) hG) _ (⟨x_9.fV.fKind, (x_9.fV.fBool), x_9.fV.fNum, x_9.fV.fText, x_9.fV.fList, x_9.fV.fKeys⟩ : T_api_Value) (T_api_Value.shut h_20 h_21) x_3.1.fKind x_10 hx_10) fun _ f => ?_
       refine Y5 default f 1 fun _ f => ?_
       refine Q_end rfl ?_
       intro w_13 p_13
       refine T_n ?_
       refine Y6 f (b := !x_10) (fun h_22 => ?_) fun h_22 => ?_
       ·have k_16 : (x_10) = false := by simpa using h_22
        have hF_31 := cnd_t h_22 hF_30
        refine R_seq (R_reg ?_)
        refine Y19 f 1 fun _ f => ?_
        refine W_end rfl (T_n (wp_ret (B_r (T_r (T_r ?_)))))
        obtain rfl := sI hF_31
        exact .inl ⟨rfl, (), (sI hn_1).symm, M_4, ((hM_2.trans hM_3).trans hM_4), f.keep (ks := [4]) (by kernel_rfl), (p_13.dropN 1)⟩
       ·have k_17 : (x_10) = true := by simpa using h_22
        have hF_32 := cnd_f h_22 hF_30
        refine wp_skip (B_n (T_n (R_reg ?_)))
        refine Y19 f 1 fun _ f => ?_
        obtain ⟨g_3, hF_33⟩ := nS hF_32
        refine Y19 f 1 fun _ f => ?_
        have f := Frm.set f 23 (v := .int .i64 (IntKind.wrap .i64 (s_1 + 1))) (v' := .int .i64 (s_1 + 1)) (by kernel_rfl) (congrArg (Value.int .i64) (inR_wrap g_3))
        refine Y19 f 1 fun _ f => ?_
        refine W_end rfl (T_n ?_)
        obtain rfl := sI hF_33
        exact ⟨⟨m_2, s_1 + 1⟩, Nat.lt_succ_self _, M_4, ((hM_2.trans hM_3).trans hM_4), hn_1, f.keep (ks := [0, 1, 7]) (by kernel_rfl), (p_13.dropN 1)⟩
   ·have k_18 : ¬ (s_1 < ((d1.length : Nat) : Int)) := iff_f dI h_3
    have hF_34 := cnd_f h_3 hs_1
    refine wp_exit (T_x (T_x ?_))
    obtain rfl := sI hF_34
    exact .inr ⟨rfl, (), (sI hn_1).symm, M_2, hM_2, f.keep (ks := []) (by kernel_rfl), p_2⟩
  ·rintro _ _ w_16 (⟨rfl, y_3, rfl, M_6, hM_6, f, p_14⟩ | ⟨rfl, y_4, rfl, M_7, hM_7, f, p_15⟩)
   ·refine B_r (T_r ?_)
    refine E_ret1 f rfl (by kernel_rfl : Vc.look _ 4 = some (.int .i64 91)) ?_
    obtain rfl := sI hF_4
    exact ⟨_, rfl, M_6, (hM_1.trans hM_6), p_14, rfl⟩
   ·refine B_x (T_n (R_seq (R_reg ?_)))
    refine Y19 f 1 fun _ f => ?_
    refine W_end rfl (T_n (wp_ret ?_))
    refine E_ret1 f rfl (by kernel_rfl : Vc.look _ 4 = some (.int .i64 0)) ?_
    obtain rfl := sI hF_4
    exact ⟨_, rfl, M_7, (hM_1.trans hM_7), p_15, rfl⟩
end Go.Proofs.YtalifkcchfkgmaaGreatDoor
end

section
set_option linter.unusedVariables false
set_option linter.unusedSimpArgs false
namespace Go.Proofs.YtalifkcchfkgmaaGreatDoor
open Go Go.Vc Go.RowKit
def ref09_Same_s1 (n : Nat) (d0 : List T_api_Given) (d1 : List T_api_Given) (s_1 : Int) : Option (Lp Int (Sum Unit Unit)) :=
    bif (decide (s_1 < ((d0.length : Nat) : Int))) then
      ((getI d0 s_1).bind fun x_1 =>
      (getI d1 s_1).bind fun x_2 =>
      bif (!(decide (x_1.fName = x_2.fName))) then
        (some (.br (.inl ())))
      else
        (getI d0 s_1).bind fun x_3 =>
        (getI d1 s_1).bind fun x_4 =>
        bif (!(x_3.fUnknown == x_4.fUnknown)) then
          (some (.br (.inl ())))
        else
          (getI d0 s_1).bind fun x_5 =>
          (getI d1 s_1).bind fun x_6 =>
          (ref03_Same n (⟨x_5.fV.fKind, (x_5.fV.fBool), x_5.fV.fNum, x_5.fV.fText, x_5.fV.fList, x_5.fV.fKeys⟩ : T_api_Value) (⟨x_6.fV.fKind, (x_6.fV.fBool), x_6.fV.fNum, x_6.fV.fText, x_6.fV.fList, x_6.fV.fKeys⟩ : T_api_Value)).bind fun x_7 =>
          bif !x_7 then
            ((getI d0 s_1).bind fun x_8 =>
            (getI d1 s_1).bind fun x_9 =>
            (ref03_Equal n (⟨x_8.fV.fKind, (x_8.fV.fBool), x_8.fV.fNum, x_8.fV.fText, x_8.fV.fList, x_8.fV.fKeys⟩ : T_api_Value) (⟨x_9.fV.fKind, (x_9.fV.fBool), x_9.fV.fNum, x_9.fV.fText, x_9.fV.fList, x_9.fV.fKeys⟩ : T_api_Value)).bind fun x_10 =>
            bif !x_10 then
              (some (.br (.inl ())))
            else
              need (inR .i64 (s_1 + 1)) <|
              some (.nx (s_1 + 1)))
          else
            need (inR .i64 (s_1 + 1)) <|
            some (.nx (s_1 + 1)))
    else
      some (.br (.inr ()))
def ref09_Same (n : Nat) (d0 : List T_api_Given) (d1 : List T_api_Given) : Option Bool :=
  bif (!(decide (((d0.length : Nat) : Int) = ((d1.length : Nat) : Int)))) then
    (some ((false)))
  else
    (loopF (ref09_Same_s1 n d0 d1) n (0 : Int)).bind fun b_1 =>
    (match b_1 with 
    | .inl y_1 => some ((false)) 
    | .inr y_2 => some ((true)))
set_option maxHeartbeats 2000000 in
theorem ref09_Same_ok (n : Nat) (M : Mem) (hG : GL M) (A0 : Option Addr) (cap0 : Nat) (d0 : List T_api_Given) (h0 : Sli M 8 emb_T_api_Given A0 cap0 d0) (A1 : Option Addr) (cap1 : Nat) (d1 : List T_api_Given) (h1 : Sli M 8 emb_T_api_Given A1 cap1 d1) (r : Bool) (hF : ref09_Same n d0 d1 = some r) : Ok Tryz.prog M 22 [.slice A0 d0.length cap0, .slice A1 d1.length cap1] (fun _ v => v = .bool r) := by
 unfold ref09_Same at hF
 intro M1 hM0 w0 H w p0
 replace hG := GL.mono hM0 hG
 replace h0 := h0.mono hM0
 replace h1 := h1.mono hM0
 refine R_enter 69 Tryz.func22 rfl rfl (by simp) fun a0 f0 => ?_
 refine R_seq (R_reg ?_)
 refine Y19 f0 1 fun _ f => ?_
 refine W_end rfl (T_n (R_seq (R_seq (R_reg ?_))))
 refine Y19 f 5 fun _ f => ?_
 refine W_end rfl (T_n ?_)
 refine Y6 f (b := !(decide (((d0.length : Nat) : Int) = ((d1.length : Nat) : Int)))) (fun h_1 => ?_) fun h_1 => ?_
 ·have k_1 : ¬ (((d0.length : Nat) : Int) = ((d1.length : Nat) : Int)) := (not_iff dI).1 h_1
  have hF_1 := cnd_t h_1 hF
  refine R_seq (R_reg ?_)
  refine Y19 f 1 fun _ f => ?_
  refine W_end rfl (T_n (wp_ret (T_r ?_)))
  refine E_ret1 f rfl (by kernel_rfl : Vc.look _ 4 = some (.bool false)) ?_
  obtain rfl := sI hF_1
  exact ⟨_, rfl, M1, (mR _), p0, rfl⟩
 ·have k_2 : ¬ (¬ (((d0.length : Nat) : Int) = ((d1.length : Nat) : Int))) := iff_f (not_iff dI) h_1
  have hF_2 := cnd_f h_1 hF
  refine wp_skip (T_n (R_seq (R_seq (R_reg ?_))))
  refine Y19 f 1 fun _ f => ?_
  refine W_end rfl (T_n (wp_block ?_))
  obtain ⟨b_1, hL_1, hF_3⟩ := bS hF_2
  refine wp_mono (Q := fun e a w => (e = .ret ∧ (∃ y_1 : Unit, b_1 = .inl y_1 ∧ ∃ M_2 : Mem, M1.le M_2 ∧ Frm 69 [(4, .bool false)] a ∧ Hp w0 M_2 (H) w)) ∨ (e = .exit 0 ∧ (∃ y_2 : Unit, b_1 = .inr y_2 ∧ ∃ M_3 : Mem, M1.le M_3 ∧ Frm 69 [] a ∧ Hp w0 M_3 (H) w))) (R_loop (n := 69) (w0 := w0) (M := M1) (fun (x : Nat × Int) => match x with | (m_1, s_1) => [(0, .slice A0 d0.length cap0), (1, .slice A1 d1.length cap1), (5, .int .i64 s_1)]) (fun (x : Nat × Int) => match x with | (m_1, s_1) => (H)) (fun (x : Nat × Int) (MM : Mem) => match x with | (m_1, s_1) => loopF (ref09_Same_s1 n d0 d1) m_1 s_1 = some b_1) (fun (x : Nat × Int) => match x with | (m_1, s_1) => m_1) (n, (0 : Int)) (f.keep (ks := [0, 1, 5]) (by kernel_rfl)) p0 hL_1 ?_) ?_
  ·rintro ⟨m_1, s_1⟩ M_1 _ w_1 hM_1 I_1 f p_1
   have I_1L := I_1
   obtain ⟨m_2, r_1, rfl, hs_1, hn_1⟩ := loop_step I_1L
   unfold ref09_Same_s1 at hs_1
   refine R_seq (R_seq (R_reg ?_))
   refine Y19 f 4 fun _ f => ?_
   refine W_end rfl (T_n ?_)
   refine Y6 f (b := decide (s_1 < ((d0.length : Nat) : Int))) (fun h_2 => ?_) fun h_2 => ?_
   ·have k_3 : s_1 < ((d0.length : Nat) : Int) := dI.1 h_2
    have hF_4 := cnd_t h_2 hs_1
    refine wp_skip (T_n (R_seq (wp_block (R_seq ?_))))
    refine R_draw p_1 (by kernel_rfl) (by kernel_rfl) ?_
    refine Y5 default f 2 fun _ f => ?_
    obtain ⟨x_1, hx_1, hF_5⟩ := bS hF_4
    obtain ⟨ad_1, c_1, e_1, hl_1, hr_1, hc_1⟩ := Sli.at_ (h0.mono hM_1) hx_1
    clear hl_1
    obtain ⟨A_1, cap_1, A_2, cap_2, rfl, h_3, h_4⟩ := T_api_Given.opn hr_1
    refine Y2 (v := .pointer (some (ad_1.add (s_1.toNat * 8)))) f (fun _ pq => Y31 e_1 rfl (len := d0.length) (cap := cap0) (k := .i64) (i := s_1) (e := 78) (sz := 8) (getI_nn hx_1) (getI_lt hx_1)) fun _ f => ?_
    refine Y5 default f 1 fun _ f => ?_
    refine Y4 f hc_1 0 rfl fun _ f => ?_
    refine Y5 default f 2 fun _ f => ?_
    obtain ⟨x_2, hx_2, hF_6⟩ := bS hF_5
    obtain ⟨ad_2, c_2, e_2, hl_2, hr_2, hc_2⟩ := Sli.at_ (h1.mono hM_1) hx_2
    clear hl_2
    obtain ⟨A_3, cap_3, A_4, cap_4, rfl, h_5, h_6⟩ := T_api_Given.opn hr_2
    refine Y2 (v := .pointer (some (ad_2.add (s_1.toNat * 8)))) f (fun _ pq => Y31 e_2 rfl (len := d1.length) (cap := cap1) (k := .i64) (i := s_1) (e := 78) (sz := 8) (getI_nn hx_2) (getI_lt hx_2)) fun _ f => ?_
    refine Y5 default f 1 fun _ f => ?_
    refine Y4 f hc_2 0 rfl fun _ f => ?_
    refine Y2 (v := .bool (!(decide (x_1.fName = x_2.fName)))) f (fun _ pq => Y39 rfl (l := x_1.fName) (m := x_2.fName)) fun _ f => ?_
    refine Y5 default f 1 fun _ f => ?_
    rcases bE (!(decide (x_1.fName = x_2.fName))) with h_7 | h_7
    ·have k_4 : ¬ (x_1.fName = x_2.fName) := (not_iff dI).1 h_7
     have hF_7 := cnd_t h_7 hF_6
     have f := Frm.set f 28 (v := .bool (!(decide (x_1.fName = x_2.fName)))) (v' := .bool true) (by kernel_rfl) (cB h_7)
     refine Y5 default f 40 fun _ f => ?_
     refine Q_end rfl ?_
     intro w_2 p_2
     refine T_n ?_
     refine Y8 f ?_
     refine R_seq (R_reg ?_)
     refine Y19 f 1 fun _ f => ?_
     refine W_end rfl (T_n (wp_ret (B_r (T_r (T_r ?_)))))
     obtain rfl := sI hF_7
     exact .inl ⟨rfl, (), (sI hn_1).symm, M_1, hM_1, f.keep (ks := [4]) (by kernel_rfl), p_2⟩
    ·have k_5 : ¬ (¬ (x_1.fName = x_2.fName)) := iff_f (not_iff dI) h_7
     have hF_8 := cnd_f h_7 hF_6
     have f := Frm.set f 28 (v := .bool (!(decide (x_1.fName = x_2.fName)))) (v' := .bool false) (by kernel_rfl) (cB h_7)
     refine Y5 default f 2 fun _ f => ?_
     obtain ⟨x_3, hx_3, hF_9⟩ := bS hF_8
     obtain ⟨ad_3, c_3, e_3, hl_3, hr_3, hc_3⟩ := Sli.at_ (h0.mono hM_1) hx_3
     clear hl_3
     obtain ⟨A_5, cap_5, A_6, cap_6, rfl, h_8, h_9⟩ := T_api_Given.opn hr_3
     refine Y2 (v := .pointer (some (ad_3.add (s_1.toNat * 8)))) f (fun _ pq => Y31 e_3 rfl (len := d0.length) (cap := cap0) (k := .i64) (i := s_1) (e := 78) (sz := 8) (getI_nn hx_3) (getI_lt hx_3)) fun _ f => ?_
     refine Y5 default f 1 fun _ f => ?_
     refine Y4 f hc_3 1 rfl fun _ f => ?_
     refine Y5 default f 2 fun _ f => ?_
     obtain ⟨x_4, hx_4, hF_10⟩ := bS hF_9
     obtain ⟨ad_4, c_4, e_4, hl_4, hr_4, hc_4⟩ := Sli.at_ (h1.mono hM_1) hx_4
     clear hl_4
     obtain ⟨A_7, cap_7, A_8, cap_8, rfl, h_10, h_11⟩ := T_api_Given.opn hr_4
     refine Y2 (v := .pointer (some (ad_4.add (s_1.toNat * 8)))) f (fun _ pq => Y31 e_4 rfl (len := d1.length) (cap := cap1) (k := .i64) (i := s_1) (e := 78) (sz := 8) (getI_nn hx_4) (getI_lt hx_4)) fun _ f => ?_
     refine Y5 default f 1 fun _ f => ?_
     refine Y4 f hc_4 1 rfl fun _ f => ?_
     refine Y5 default f 3 fun _ f => ?_
     rcases bE (!(x_3.fUnknown == x_4.fUnknown)) with h_12 | h_12
     ·have k_6 : (x_3.fUnknown == x_4.fUnknown) = false := by simpa using h_12
      have hF_11 := cnd_t h_12 hF_10
      have f := Frm.set f 41 (v := .bool (!(x_3.fUnknown == x_4.fUnknown))) (v' := .bool true) (by kernel_rfl) (cB h_12)
      refine Y5 default f 27 fun _ f => ?_
      refine Q_end rfl ?_
      intro w_3 p_3
      refine T_n ?_
      refine Y8 f ?_
      refine R_seq (R_reg ?_)
      refine Y19 f 1 fun _ f => ?_
      refine W_end rfl (T_n (wp_ret (B_r (T_r (T_r ?_)))))
      obtain rfl := sI hF_11
      exact .inl ⟨rfl, (), (sI hn_1).symm, M_1, hM_1, f.keep (ks := [4]) (by kernel_rfl), p_3⟩
     ·have k_7 : (x_3.fUnknown == x_4.fUnknown) = true := by simpa using h_12
      have hF_12 := cnd_f h_12 hF_10
      have f := Frm.set f 41 (v := .bool (!(x_3.fUnknown == x_4.fUnknown))) (v' := .bool false) (by kernel_rfl) (cB h_12)
      refine Y5 default f 2 fun _ f => ?_
      obtain ⟨x_5, hx_5, hF_13⟩ := bS hF_12
      obtain ⟨ad_5, c_5, e_5, hl_5, hr_5, hc_5⟩ := Sli.at_ (h0.mono hM_1) hx_5
      clear hl_5
      obtain ⟨A_9, cap_9, A_10, cap_10, rfl, h_13, h_14⟩ := T_api_Given.opn hr_5
      refine Y2 (v := .pointer (some (ad_5.add (s_1.toNat * 8)))) f (fun _ pq => Y31 e_5 rfl (len := d0.length) (cap := cap0) (k := .i64) (i := s_1) (e := 78) (sz := 8) (getI_nn hx_5) (getI_lt hx_5)) fun _ f => ?_
      refine Y5 default f 1 fun _ f => ?_
      refine Y2 (v := .agg #[.int .i8 x_5.fV.fKind, .bool x_5.fV.fBool, .int .i64 x_5.fV.fNum, S x_5.fV.fText, .slice A_9 x_5.fV.fList.length cap_9, .slice A_10 x_5.fV.fKeys.length cap_10]) f (fun _ pq => Y33 (cs := [.int .i8 x_5.fV.fKind, .bool x_5.fV.fBool, .int .i64 x_5.fV.fNum, S x_5.fV.fText, .slice A_9 x_5.fV.fList.length cap_9, .slice A_10 x_5.fV.fKeys.length cap_10]) rfl (ad := (ad_5.add (s_1.toNat * 8)).add 2) (fz_part (base := ad_5.add (s_1.toNat * 8)) (fun j v h => pq.cell (hc_5 j v h)) 2 rfl)) fun _ f => ?_
      refine Y5 default f 2 fun _ f => ?_
      obtain ⟨x_6, hx_6, hF_14⟩ := bS hF_13
      obtain ⟨ad_6, c_6, e_6, hl_6, hr_6, hc_6⟩ := Sli.at_ (h1.mono hM_1) hx_6
      clear hl_6
      obtain ⟨A_11, cap_11, A_12, cap_12, rfl, h_15, h_16⟩ := T_api_Given.opn hr_6
      refine Y2 (v := .pointer (some (ad_6.add (s_1.toNat * 8)))) f (fun _ pq => Y31 e_6 rfl (len := d1.length) (cap := cap1) (k := .i64) (i := s_1) (e := 78) (sz := 8) (getI_nn hx_6) (getI_lt hx_6)) fun _ f => ?_
      refine Y5 default f 1 fun _ f => ?_
      refine Y2 (v := .agg #[.int .i8 x_6.fV.fKind, .bool x_6.fV.fBool, .int .i64 x_6.fV.fNum, S x_6.fV.fText, .slice A_11 x_6.fV.fList.length cap_11, .slice A_12 x_6.fV.fKeys.length cap_12]) f (fun _ pq => Y33 (cs := [.int .i8 x_6.fV.fKind, .bool x_6.fV.fBool, .int .i64 x_6.fV.fNum, S x_6.fV.fText, .slice A_11 x_6.fV.fList.length cap_11, .slice A_12 x_6.fV.fKeys.length cap_12]) rfl (ad := (ad_6.add (s_1.toNat * 8)).add 2) (fz_part (base := ad_6.add (s_1.toNat * 8)) (fun j v h => pq.cell (hc_6 j v h)) 2 rfl)) fun _ f => ?_
      obtain ⟨x_7, hx_7, hF_15⟩ := bS hF_14
      refine Y3 f (ref03_Same_ok n _ _ (⟨x_5.fV.fKind, (x_5.fV.fBool), x_5.fV.fNum, x_5.fV.fText, x_5.fV.fList, x_5.fV.fKeys⟩ : T_api_Value) (T_api_Value.shut h_13 h_14) _ (⟨x_6.fV.fKind, (x_6.fV.fBool), x_6.fV.fNum, x_6.fV.fText, x_6.fV.fList, x_6.fV.fKeys⟩ : T_api_Value) (T_api_Value.shut h_15 h_16) x_7 hx_7) fun _ f => ?_
      refine Y5 default f 2 fun _ f => ?_
      rcases bE (!x_7) with h_17 | h_17
      ·have k_8 : (x_7) = false := by simpa using h_17
       have hF_16 := cnd_t h_17 hF_15
       have f := Frm.set f 54 (v := .bool !x_7) (v' := .bool true) (by kernel_rfl) (cB h_17)
       refine Y5 default f 2 fun _ f => ?_
       obtain ⟨x_8, hx_8, hF_17⟩ := bS hF_16
       obtain ⟨ad_7, c_7, e_7, hl_7, hr_7, hc_7⟩ := Sli.at_ (h0.mono hM_1) hx_8
       clear hl_7
       obtain ⟨A_13, cap_13, A_14, cap_14, rfl, h_18, h_19⟩ := T_api_Given.opn hr_7
       refine Y2 (v := .pointer (some (ad_7.add (s_1.toNat * 8)))) f (fun _ pq => Y31 e_7 rfl (len := d0.length) (cap := cap0) (k := .i64) (i := s_1) (e := 78) (sz := 8) (getI_nn hx_8) (getI_lt hx_8)) fun _ f => ?_
       refine Y5 default f 1 fun _ f => ?_
       refine Y2 (v := .agg #[.int .i8 x_8.fV.fKind, .bool x_8.fV.fBool, .int .i64 x_8.fV.fNum, S x_8.fV.fText, .slice A_13 x_8.fV.fList.length cap_13, .slice A_14 x_8.fV.fKeys.length cap_14]) f (fun _ pq => Y33 (cs := [.int .i8 x_8.fV.fKind, .bool x_8.fV.fBool, .int .i64 x_8.fV.fNum, S x_8.fV.fText, .slice A_13 x_8.fV.fList.length cap_13, .slice A_14 x_8.fV.fKeys.length cap_14]) rfl (ad := (ad_7.add (s_1.toNat * 8)).add 2) (fz_part (base := ad_7.add (s_1.toNat * 8)) (fun j v h => pq.cell (hc_7 j v h)) 2 rfl)) fun _ f => ?_
       refine Y5 default f 2 fun _ f => ?_
       obtain ⟨x_9, hx_9, hF_18⟩ := bS hF_17
       obtain ⟨ad_8, c_8, e_8, hl_8, hr_8, hc_8⟩ := Sli.at_ (h1.mono hM_1) hx_9
       clear hl_8
       obtain ⟨A_15, cap_15, A_16, cap_16, rfl, h_20, h_21⟩ := T_api_Given.opn hr_8
       refine Y2 (v := .pointer (some (ad_8.add (s_1.toNat * 8)))) f (fun _ pq => Y31 e_8 rfl (len := d1.length) (cap := cap1) (k := .i64) (i := s_1) (e := 78) (sz := 8) (getI_nn hx_9) (getI_lt hx_9)) fun _ f => ?_
       refine Y5 default f 1 fun _ f => ?_
       refine Y2 (v := .agg #[.int .i8 x_9.fV.fKind, .bool x_9.fV.fBool, .int .i64 x_9.fV.fNum, S x_9.fV.fText, .slice A_15 x_9.fV.fList.length cap_15, .slice A_16 x_9.fV.fKeys.length cap_16]) f (fun _ pq => Y33 (cs := [.int .i8 x_9.fV.fKind, .bool x_9.fV.fBool, .int .i64 x_9.fV.fNum, S x_9.fV.fText, .slice A_15 x_9.fV.fList.length cap_15, .slice A_16 x_9.fV.fKeys.length cap_16]) rfl (ad := (ad_8.add (s_1.toNat * 8)).add 2) (fz_part (base := ad_8.add (s_1.toNat * 8)) (fun j v h => pq.cell (hc_8 j v h)) 2 rfl)) fun _ f => ?_
       obtain ⟨x_10, hx_10, hF_19⟩ := bS hF_18
       refine Y3 f (ref03_Equal_ok n _ _ (⟨x_8.fV.fKind, (x_8.fV.fBool), x_8.fV.fNum, x_8.fV.fText, x_8.fV.fList, x_8.fV.fKeys⟩ : T_api_Value) (T_api_Value.shut h_18 h_19) _ (⟨x_9.fV.fKind, (x_9.fV.fBool), x_9.fV.fNum, x_9.fV.fText, x_9.fV.fList, x_9.fV.fKeys⟩ : T_api_Value) (T_api_Value.shut h_20 h_21) x_10 hx_10) fun _ f => ?_
       refine Y5 default f 3 fun _ f => ?_
       refine Q_end rfl ?_
       intro w_6 p_6
       refine T_n ?_
       refine Y6 f (b := !x_10) (fun h_22 => ?_) fun h_22 => ?_
       ·have k_9 : (x_10) = false := by simpa using h_22
        have hF_20 := cnd_t h_22 hF_19
        refine R_seq (R_reg ?_)
        refine Y19 f 1 fun _ f => ?_
        refine W_end rfl (T_n (wp_ret (B_r (T_r (T_r ?_)))))
        obtain rfl := sI hF_20
        exact .inl ⟨rfl, (), (sI hn_1).symm, M_1, hM_1, f.keep (ks := [4]) (by kernel_rfl), p_6⟩
       ·have k_10 : (x_10) = true := by simpa using h_22
        have hF_21 := cnd_f h_22 hF_19
        refine wp_skip (B_n (T_n (R_reg ?_)))
        refine Y19 f 1 fun _ f => ?_
        obtain ⟨g_1, hF_22⟩ := nS hF_21
        refine Y19 f 1 fun _ f => ?_
        have f := Frm.set f 16 (v := .int .i64 (IntKind.wrap .i64 (s_1 + 1))) (v' := .int .i64 (s_1 + 1)) (by kernel_rfl) (congrArg (Value.int .i64) (inR_wrap g_1))
        refine Y19 f 1 fun _ f => ?_
        refine W_end rfl (T_n ?_)
        obtain rfl := sI hF_22
        exact ⟨⟨m_2, s_1 + 1⟩, Nat.lt_succ_self _, M_1, hM_1, hn_1, f.keep (ks := [0, 1, 5]) (by kernel_rfl), p_6⟩
      ·have k_11 : (x_7) = true := by simpa using h_17
       have hF_23 := cnd_f h_17 hF_15
       have f := Frm.set f 54 (v := .bool !x_7) (v' := .bool false) (by kernel_rfl) (cB h_17)
       refine Y5 default f 14 fun _ f => ?_
       refine Q_end rfl ?_
       intro w_7 p_7
       refine T_n ?_
       refine Y7 f ?_
       refine wp_skip (B_n (T_n (R_reg ?_)))
       refine Y19 f 1 fun _ f => ?_
       obtain ⟨g_2, hF_24⟩ := nS hF_23
       refine Y19 f 1 fun _ f => ?_
       have f := Frm.set f 16 (v := .int .i64 (IntKind.wrap .i64 (s_1 + 1))) (v' := .int .i64 (s_1 + 1)) (by kernel_rfl) (congrArg (Value.int .i64) (inR_wrap g_2))
       refine Y19 f 1 fun _ f => ?_
       refine W_end rfl (T_n ?_)
       obtain rfl := sI hF_24
       exact ⟨⟨m_2, s_1 + 1⟩, Nat.lt_succ_self _, M_1, hM_1, hn_1, f.keep (ks := [0, 1, 5]) (by kernel_rfl), p_7⟩
   ·have k_12 : ¬ (s_1 < ((d0.length : Nat) : Int)) := iff_f dI h_2
    have hF_25 := cnd_f h_2 hs_1
    refine wp_exit (T_x (T_x ?_))
    obtain rfl := sI hF_25
    exact .inr ⟨rfl, (), (sI hn_1).symm, M_1, hM_1, f.keep (ks := []) (by kernel_rfl), p_1⟩
  ·rintro _ _ w_10 (⟨rfl, y_1, rfl, M_2, hM_2, f, p_8⟩ | ⟨rfl, y_2, rfl, M_3, hM_3, f, p_9⟩)
   ·refine B_r (T_r ?_)
    refine E_ret1 f rfl (by kernel_rfl : Vc.look _ 4 = some (.bool false)) ?_
    obtain rfl := sI hF_3
    exact ⟨_, rfl, M_2, hM_2, p_8, rfl⟩
   ·refine B_x (T_n (R_seq (R_reg ?_)))
    refine Y19 f 1 fun _ f => ?_
    refine W_end rfl (T_n (wp_ret ?_))
    refine E_ret1 f rfl (by kernel_rfl : Vc.look _ 4 = some (.bool true)) ?_
    obtain rfl := sI hF_3
    exact ⟨_, rfl, M_3, hM_3, p_9, rfl⟩
def ref09_get_s1 (n : Nat) (d0 : List T_api_Given) (d1 : List UInt8) (s_1 : Int × List UInt8 × Bool × Int × Bool × Int × List UInt8 × List T_api_Value × List (List UInt8)) : Option (Lp (Int × List UInt8 × Bool × Int × Bool × Int × List UInt8 × List T_api_Value × List (List UInt8)) (Sum (List UInt8 × Bool × Int × Bool × Int × List UInt8 × List T_api_Value × List (List UInt8)) (List UInt8 × Bool × Int × Bool × Int × List UInt8 × List T_api_Value × List (List UInt8)))) :=
    bif (decide (s_1.1 < ((d0.length : Nat) : Int))) then
      ((getI d0 s_1.1).bind fun x_1 =>
      bif (decide (x_1.fName = d1)) then
        ((getI d0 s_1.1).bind fun x_2 =>
        some (.br (.inl (x_2.fName, (x_2.fUnknown), x_2.fV.fKind, (x_2.fV.fBool), x_2.fV.fNum, x_2.fV.fText, x_2.fV.fList, x_2.fV.fKeys))))
      else
        need (inR .i64 (s_1.1 + 1)) <|
        some (.nx (s_1.1 + 1, s_1.2.1, (s_1.2.2.1), s_1.2.2.2.1, (s_1.2.2.2.2.1), s_1.2.2.2.2.2.1, s_1.2.2.2.2.2.2.1, s_1.2.2.2.2.2.2.2.1, s_1.2.2.2.2.2.2.2.2)))
    else
      some (.br (.inr (s_1.2.1, (s_1.2.2.1), s_1.2.2.2.1, (s_1.2.2.2.2.1), s_1.2.2.2.2.2.1, s_1.2.2.2.2.2.2.1, s_1.2.2.2.2.2.2.2.1, s_1.2.2.2.2.2.2.2.2)))
def ref09_get (n : Nat) (d0 : List T_api_Given) (d1 : List UInt8) : Option (T_api_Given × Bool) :=
  (loopF (ref09_get_s1 n d0 d1) n ((0 : Int), ([] : List UInt8), (false), (0 : Int), (false), (0 : Int), ([] : List UInt8), ([] : List T_api_Value), ([] : List (List UInt8)))).bind fun b_2 =>
  (match b_2 with 
  | .inl y_1 => some (((⟨y_1.1, (y_1.2.1), (⟨y_1.2.2.1, (y_1.2.2.2.1), y_1.2.2.2.2.1, y_1.2.2.2.2.2.1, y_1.2.2.2.2.2.2.1, y_1.2.2.2.2.2.2.2⟩ : T_api_Value)⟩ : T_api_Given), (true))) 
  | .inr y_2 => some (((⟨([] : List UInt8), (false), z_T_api_Value⟩ : T_api_Given), (false))))
set_option maxHeartbeats 2000000 in
theorem ref09_get_ok (n : Nat) (M : Mem) (hG : GL M) (A0 : Option Addr) (cap0 : Nat) (d0 : List T_api_Given) (h0 : Sli M 8 emb_T_api_Given A0 cap0 d0) (d1 : List UInt8) (r : T_api_Given × Bool) (hF : ref09_get n d0 d1 = some r) : Ok Tryz.prog M 66 [.slice A0 d0.length cap0, S d1] (fun M' v => ∃ (c0 : List Value), v = .tuple #[.agg c0.toArray, .bool r.2] ∧ Rep M' (emb_T_api_Given r.1) c0) := by
 unfold ref09_get at hF
 intro M1 hM0 w0 H w p0
 replace hG := GL.mono hM0 hG
 replace h0 := h0.mono hM0
 refine R_enter 25 Tryz.func66 rfl rfl (by simp) fun a0 f0 => ?_
 refine R_seq (R_reg ?_)
 refine Y12 f0 p0 (.cells #[S [], .bool false, .int .i8 0, .bool false, .int .i64 0, S [], .slice none 0 0, .slice none 0 0] 78 (0, 0)) fun b_1 w_1 p_1 _ f => ?_
 refine Y19 f 1 fun _ f => ?_
 refine W_end rfl (T_n (R_seq (R_seq (R_reg ?_))))
 refine Y19 f 1 fun _ f => ?_
 refine W_end rfl (T_n (wp_block ?_))
 obtain ⟨b_2, hL_1, hF_1⟩ := bS hF
 refine wp_mono (Q := fun e a w => (e = .ret ∧ (∃ y_1 : List UInt8 × Bool × Int × Bool × Int × List UInt8 × List T_api_Value × List (List UInt8), b_2 = .inl y_1 ∧ ∃ M_2 : Mem, M1.le M_2 ∧ ∃ (A_7 : Option Addr), ∃ (cap_7 : Nat), ∃ (A_8 : Option Addr), ∃ (cap_8 : Nat), Sli M_2 6 emb_T_api_Value A_7 cap_7 y_1.2.2.2.2.2.2.1 ∧ Sli M_2 1 Dat.str A_8 cap_8 y_1.2.2.2.2.2.2.2 ∧ Frm 25 [(4, .pointer (some (⟨b_1, 0, none⟩))), (5, .bool true)] a ∧ Hp w0 M_2 ((Ent.obj b_1 (.cells #[S y_1.1, .bool y_1.2.1, .int .i8 y_1.2.2.1, .bool y_1.2.2.2.1, .int .i64 y_1.2.2.2.2.1, S y_1.2.2.2.2.2.1, .slice A_7 y_1.2.2.2.2.2.2.1.length cap_7, .slice A_8 y_1.2.2.2.2.2.2.2.length cap_8] 78 (0, 0))) :: H) w)) ∨ (e = .exit 0 ∧ (∃ y_2 : List UInt8 × Bool × Int × Bool × Int × List UInt8 × List T_api_Value × List (List UInt8), b_2 = .inr y_2 ∧ ∃ M_3 : Mem, M1.le M_3 ∧ ∃ (A_9 : Option Addr), ∃ (cap_9 : Nat), ∃ (A_10 : Option Addr), ∃ (cap_10 : Nat), Sli M_3 6 emb_T_api_Value A_9 cap_9 y_2.2.2.2.2.2.2.1 ∧ Sli M_3 1 Dat.str A_10 cap_10 y_2.2.2.2.2.2.2.2 ∧ Frm 25 [(4, .pointer (some (⟨b_1, 0, none⟩)))] a ∧ Hp w0 M_3 ((Ent.obj b_1 (.cells #[S y_2.1, .bool y_2.2.1, .int .i8 y_2.2.2.1, .bool y_2.2.2.2.1, .int .i64 y_2.2.2.2.2.1, S y_2.2.2.2.2.2.1, .slice A_9 y_2.2.2.2.2.2.2.1.length cap_9, .slice A_10 y_2.2.2.2.2.2.2.2.length cap_10] 78 (0, 0))) :: H) w))) (R_loop (n := 25) (w0 := w0) (M := M1) (fun (x : Nat × (Int × List UInt8 × Bool × Int × Bool × Int × List UInt8 × List T_api_Value × List (List UInt8)) × (Option Addr) × Nat × (Option Addr) × Nat) => match x with | (m_1, s_1, A_1, cap_1, A_2, cap_2) => [(0, .slice A0 d0.length cap0), (1, S d1), (4, .pointer (some (⟨b_1, 0, none⟩))), (6, .int .i64 s_1.1)]) (fun (x : Nat × (Int × List UInt8 × Bool × Int × Bool × Int × List UInt8 × List T_api_Value × List (List UInt8)) × (Option Addr) × Nat × (Option Addr) × Nat) => match x with | (m_1, s_1, A_1, cap_1, A_2, cap_2) => ((Ent.obj b_1 (.cells #[S s_1.2.1, .bool s_1.2.2.1, .int .i8 s_1.2.2.2.1, .bool s_1.2.2.2.2.1, .int .i64 s_1.2.2.2.2.2.1, S s_1.2.2.2.2.2.2.1, .slice A_1 s_1.2.2.2.2.2.2.2.1.length cap_1, .slice A_2 s_1.2.2.2.2.2.2.2.2.length cap_2] 78 (0, 0))) :: H)) (fun (x : Nat × (Int × List UInt8 × Bool × Int × Bool × Int × List UInt8 × List T_api_Value × List (List UInt8)) × (Option Addr) × Nat × (Option Addr) × Nat) (MM : Mem) => match x with | (m_1, s_1, A_1, cap_1, A_2, cap_2) => loopF (ref09_get_s1 n d0 d1) m_1 s_1 = some b_2 ∧ Sli MM 6 emb_T_api_Value A_1 cap_1 s_1.2.2.2.2.2.2.2.1 ∧ Sli MM 1 Dat.str A_2 cap_2 s_1.2.2.2.2.2.2.2.2) (fun (x : Nat × (Int × List UInt8 × Bool × Int × Bool × Int × List UInt8 × List T_api_Value × List (List UInt8)) × (Option Addr) × Nat × (Option Addr) × Nat) => match x with | (m_1, s_1, A_1, cap_1, A_2, cap_2) => m_1) (n, ((0 : Int), ([] : List UInt8), (false), (0 : Int), (false), (0 : Int), ([] : List UInt8), ([] : List T_api_Value), ([] : List (List UInt8))), none, 0, none, 0) (f.keep (ks := [0, 1, 4, 6]) (by kernel_rfl)) p_1 ⟨hL_1, Sli.nil, Sli.nil⟩ ?_) ?_
 ·rintro ⟨m_1, s_1, A_1, cap_1, A_2, cap_2⟩ M_1 _ w_2 hM_1 I_1 f p_2
  obtain ⟨I_1L, h_1, h_2⟩ := I_1
  obtain ⟨m_2, r_1, rfl, hs_1, hn_1⟩ := loop_step I_1L
  unfold ref09_get_s1 at hs_1
  refine R_seq (R_seq (R_reg ?_))
  refine Y19 f 4 fun _ f => ?_
  refine W_end rfl (T_n ?_)
  refine Y6 f (b := decide (s_1.1 < ((d0.length : Nat) : Int))) (fun h_3 => ?_) fun h_3 => ?_
  ·have k_1 : s_1.1 < ((d0.length : Nat) : Int) := dI.1 h_3
   have hF_2 := cnd_t h_3 hs_1
   refine wp_skip (T_n (R_seq (wp_block (R_seq (R_reg ?_)))))
   refine Y19 f 2 fun _ f => ?_
   obtain ⟨x_1, hx_1, hF_3⟩ := bS hF_2
   obtain ⟨ad_1, c_1, e_1, hl_1, hr_1, hc_1⟩ := Sli.at_ (h0.mono hM_1) hx_1
   clear hl_1
   obtain ⟨A_3, cap_3, A_4, cap_4, rfl, h_4, h_5⟩ := T_api_Given.opn hr_1
   refine Y14 (v := .pointer (some (ad_1.add (s_1.1.toNat * 8)))) f (Y31 e_1 rfl (len := d0.length) (cap := cap0) (k := .i64) (i := s_1.1) (e := 78) (sz := 8) (getI_nn hx_1) (getI_lt hx_1)) fun _ f => ?_
   refine Y19 f 1 fun _ f => ?_
   refine Y15 f p_2 hc_1 0 rfl fun _ f => ?_
   refine Y19 f 1 fun _ f => ?_
   refine Y14 (v := .bool (decide (x_1.fName = d1))) f (Y38 rfl (l := x_1.fName) (m := d1)) fun _ f => ?_
   refine W_end rfl (T_n ?_)
   refine Y6 f (b := decide (x_1.fName = d1)) (fun h_6 => ?_) fun h_6 => ?_
   ·have k_2 : x_1.fName = d1 := dI.1 h_6
    have hF_4 := cnd_t h_6 hF_3
    refine R_seq (R_reg ?_)
    refine Y19 f 2 fun _ f => ?_
    obtain ⟨x_2, hx_2, hF_5⟩ := bS hF_4
    obtain ⟨ad_2, c_2, e_2, hl_2, hr_2, hc_2⟩ := Sli.at_ (h0.mono hM_1) hx_2
    clear hl_2
    obtain ⟨A_5, cap_5, A_6, cap_6, rfl, h_7, h_8⟩ := T_api_Given.opn hr_2
    refine Y14 (v := .pointer (some (ad_2.add (s_1.1.toNat * 8)))) f (Y31 e_2 rfl (len := d0.length) (cap := cap0) (k := .i64) (i := s_1.1) (e := 78) (sz := 8) (getI_nn hx_2) (getI_lt hx_2)) fun _ f => ?_
    refine Y14 (v := .agg #[S x_2.fName, .bool x_2.fUnknown, .int .i8 x_2.fV.fKind, .bool x_2.fV.fBool, .int .i64 x_2.fV.fNum, S x_2.fV.fText, .slice A_5 x_2.fV.fList.length cap_5, .slice A_6 x_2.fV.fKeys.length cap_6]) f (Y33 (cs := [S x_2.fName, .bool x_2.fUnknown, .int .i8 x_2.fV.fKind, .bool x_2.fV.fBool, .int .i64 x_2.fV.fNum, S x_2.fV.fText, .slice A_5 x_2.fV.fList.length cap_5, .slice A_6 x_2.fV.fKeys.length cap_6]) rfl (ad := ad_2.add (s_1.1.toNat * 8)) (fun j v h => p_2.cell (hc_2 j v h))) fun _ f => ?_
    refine Y27 (vs := [S x_2.fName, .bool x_2.fUnknown, .int .i8 x_2.fV.fKind, .bool x_2.fV.fBool, .int .i64 x_2.fV.fNum, S x_2.fV.fText, .slice A_5 x_2.fV.fList.length cap_5, .slice A_6 x_2.fV.fKeys.length cap_6]) (j := 0) f p_2 rfl rfl (by simp [Value.oneCell', S]) (by simp) (by decide) (cs' := #[S x_2.fName, .bool x_2.fUnknown, .int .i8 x_2.fV.fKind, .bool x_2.fV.fBool, .int .i64 x_2.fV.fNum, S x_2.fV.fText, .slice A_5 x_2.fV.fList.length cap_5, .slice A_6 x_2.fV.fKeys.length cap_6]) fun w_3 p_3 _ f => ?_
    refine Y19 f 1 fun _ f => ?_
    refine W_end rfl (T_n (wp_ret (B_r (T_r (T_r ?_)))))
    obtain rfl := sI hF_5
    exact .inl ⟨rfl, (x_2.fName, (x_2.fUnknown), x_2.fV.fKind, (x_2.fV.fBool), x_2.fV.fNum, x_2.fV.fText, x_2.fV.fList, x_2.fV.fKeys), (sI hn_1).symm, M_1, hM_1, A_5, cap_5, A_6, cap_6, h_7, h_8, f.keep (ks := [4, 5]) (by kernel_rfl), p_3⟩
   ·have k_3 : ¬ (x_1.fName = d1) := iff_f dI h_6
    have hF_6 := cnd_f h_6 hF_3
    refine wp_skip (B_n (T_n (R_reg ?_)))
    refine Y19 f 1 fun _ f => ?_
    obtain ⟨g_1, hF_7⟩ := nS hF_6
    refine Y19 f 1 fun _ f => ?_
    have f := Frm.set f 12 (v := .int .i64 (IntKind.wrap .i64 (s_1.1 + 1))) (v' := .int .i64 (s_1.1 + 1)) (by kernel_rfl) (congrArg (Value.int .i64) (inR_wrap g_1))
    refine Y19 f 1 fun _ f => ?_
    refine W_end rfl (T_n ?_)
    obtain rfl := sI hF_7
    exact ⟨⟨m_2, (s_1.1 + 1, s_1.2.1, (s_1.2.2.1), s_1.2.2.2.1, (s_1.2.2.2.2.1), s_1.2.2.2.2.2.1, s_1.2.2.2.2.2.2.1, s_1.2.2.2.2.2.2.2.1, s_1.2.2.2.2.2.2.2.2), A_1, cap_1, A_2, cap_2⟩, Nat.lt_succ_self _, M_1, hM_1, ⟨hn_1, h_1, h_2⟩, f.keep (ks := [0, 1, 4, 6]) (by kernel_rfl), p_2⟩
  ·have k_4 : ¬ (s_1.1 < ((d0.length : Nat) : Int)) := iff_f dI h_3
   have hF_8 := cnd_f h_3 hs_1
   refine wp_exit (T_x (T_x ?_))
   obtain rfl := sI hF_8
   exact .inr ⟨rfl, (s_1.2.1, (s_1.2.2.1), s_1.2.2.2.1, (s_1.2.2.2.2.1), s_1.2.2.2.2.2.1, s_1.2.2.2.2.2.2.1, s_1.2.2.2.2.2.2.2.1, s_1.2.2.2.2.2.2.2.2), (sI hn_1).symm, M_1, hM_1, A_1, cap_1, A_2, cap_2, h_1, h_2, f.keep (ks := [4]) (by kernel_rfl), p_2⟩
 ·rintro _ _ w_6 (⟨rfl, y_1, rfl, M_2, hM_2, A_7, cap_7, A_8, cap_8, h_9, h_10, f, p_4⟩ | ⟨rfl, y_2, rfl, M_3, hM_3, A_9, cap_9, A_10, cap_10, h_11, h_12, f, p_5⟩)
  ·refine B_r (T_r ?_)
   refine E_rv2 f rfl (Y10 (cs := [S y_1.1, .bool y_1.2.1, .int .i8 y_1.2.2.1, .bool y_1.2.2.2.1, .int .i64 y_1.2.2.2.2.1, S y_1.2.2.2.2.2.1, .slice A_7 y_1.2.2.2.2.2.2.1.length cap_7, .slice A_8 y_1.2.2.2.2.2.2.2.length cap_8]) (ad := ⟨b_1, 0, none⟩) f (own_cells (p_4.ownCell 0 rfl) 0 rfl)) (Y11 (v := .bool true) f) ?_
   obtain rfl := sI hF_1
   exact ⟨_, rfl, M_2, hM_2, (p_4.dropN 1), ⟨[S y_1.1, .bool y_1.2.1, .int .i8 y_1.2.2.1, .bool y_1.2.2.2.1, .int .i64 y_1.2.2.2.2.1, S y_1.2.2.2.2.2.1, .slice A_7 y_1.2.2.2.2.2.2.1.length cap_7, .slice A_8 y_1.2.2.2.2.2.2.2.length cap_8], rfl, (T_api_Given.shut h_9 h_10)⟩⟩
  ·refine B_x (T_n (R_seq (R_reg ?_)))
   refine Y19 f 1 fun _ f => ?_
   refine Y27 (vs := [S [], .bool false, .int .i8 0, .bool false, .int .i64 0, S [], .slice none 0 0, .slice none 0 0]) (j := 0) f p_5 rfl rfl (by simp [Value.oneCell', S]) (by simp) (by decide) (cs' := #[S [], .bool false, .int .i8 0, .bool false, .int .i64 0, S [], .slice none 0 0, .slice none 0 0]) fun w_7 p_6 _ f => ?_
   refine Y19 f 1 fun _ f => ?_
   refine W_end rfl (T_n (wp_ret ?_))
   refine E_rv2 f rfl (Y10 (cs := [S [], .bool false, .int .i8 0, .bool false, .int .i64 0, S [], .slice none 0 0, .slice none 0 0]) (ad := ⟨b_1, 0, none⟩) f (own_cells (p_6.ownCell 0 rfl) 0 rfl)) (Y11 (v := .bool false) f) ?_
   obtain rfl := sI hF_1
   exact ⟨_, rfl, M_3, hM_3, (p_6.dropN 1), ⟨[S [], .bool false, .int .i8 0, .bool false, .int .i64 0, S [], .slice none 0 0, .slice none 0 0], rfl, (T_api_Given.shut Sli.nil Sli.nil)⟩⟩
def ref09_Differ_s1 (n : Nat) (d1 : List T_api_Given) (s_1 : Int) : Option (Lp Int (Sum Unit Unit)) :=
    bif (decide (s_1 < ((d1.length : Nat) : Int))) then
      ((getI d1 s_1).bind fun x_3 =>
      bif x_3.fUnknown then
        (some (.br (.inl ())))
      else
        need (inR .i64 (s_1 + 1)) <|
        some (.nx (s_1 + 1)))
    else
      some (.br (.inr ()))
def ref09_Differ_s2 (n : Nat) (d1 : List T_api_Given) (d2 : List T_api_Given) (x_4 : List T_api_Spec × Int) (s_2 : Int × Int) : Option (Lp (Int × Int) (Sum Unit Int)) :=
    bif (decide (s_2.2 < ((x_4.1.length : Nat) : Int))) then
      ((getI x_4.1 s_2.2).bind fun x_5 =>
      (ref09_get n d1 x_5.fName).bind fun x_6 =>
      (getI x_4.1 s_2.2).bind fun x_7 =>
      (ref09_get n d2 x_7.fName).bind fun x_8 =>
      ((bif (x_6.2 == x_8.2) then
          (bif !x_6.2 then
            (some ((true)))
          else
            bif !x_8.1.fUnknown then
              ((ref03_Equal n (⟨x_6.1.fV.fKind, (x_6.1.fV.fBool), x_6.1.fV.fNum, x_6.1.fV.fText, x_6.1.fV.fList, x_6.1.fV.fKeys⟩ : T_api_Value) (⟨x_8.1.fV.fKind, (x_8.1.fV.fBool), x_8.1.fV.fNum, x_8.1.fV.fText, x_8.1.fV.fList, x_8.1.fV.fKeys⟩ : T_api_Value)).bind fun x_9 =>
              some ((x_9)))
            else
              some ((false)))
        else
          some ((false)) : Option Bool)).bind fun y_3 =>
      bif y_3 then
        (need (inR .i64 (s_2.2 + 1)) <|
        some (.nx (s_2.1, s_2.2 + 1)))
      else
        (getI x_4.1 s_2.2).bind fun x_10 =>
        bif x_10.fReplace then
          (some (.br (.inl ())))
        else
          need (inR .i64 (s_2.2 + 1)) <|
          some (.nx ((2 : Int), s_2.2 + 1)))
    else
      some (.br (.inr s_2.1))
def ref09_Differ (n : Nat) (d0 : List UInt8) (d1 : List T_api_Given) (d2 : List T_api_Given) : Option (Int × Int) :=
  (ref09_Check n d0 d1).bind fun x_1 =>
  bif (!(decide (x_1 = 0))) then
    (some (((0 : Int), x_1)))
  else
    (ref09_Check n d0 d2).bind fun x_2 =>
    bif (!(decide (x_2 = 0))) then
      (some (((0 : Int), x_2)))
    else
      (loopF (ref09_Differ_s1 n d1) n (0 : Int)).bind fun b_1 =>
      (match b_1 with 
      | .inl y_1 => some (((0 : Int), (91 : Int))) 
      | .inr y_2 => (ref09_Specs n d0).bind fun x_4 =>
        (loopF (ref09_Differ_s2 n d1 d2 x_4) n ((0 : Int), (0 : Int))).bind fun b_2 =>
        (match b_2 with 
        | .inl y_4 => some (((3 : Int), (0 : Int))) 
        | .inr y_5 => some ((y_5, (0 : Int)))))
set_option maxHeartbeats 2000000 in
theorem ref09_Differ_ok (n : Nat) (M : Mem) (hG : GL M) (d0 : List UInt8) (A1 : Option Addr) (cap1 : Nat) (d1 : List T_api_Given) (h1 : Sli M 8 emb_T_api_Given A1 cap1 d1) (A2 : Option Addr) (cap2 : Nat) (d2 : List T_api_Given) (h2 : Sli M 8 emb_T_api_Given A2 cap2 d2) (r : Int × Int) (hF : ref09_Differ n d0 d1 d2 = some r) : Ok Tryz.prog M 36 [S d0, .slice A1 d1.length cap1, .slice A2 d2.length cap2] (fun _ v => v = .tuple #[.int .i8 r.1, .int .i64 r.2]) := by
 unfold ref09_Differ at hF
 intro M1 hM0 w0 H w p0
 replace hG := GL.mono hM0 hG
 replace h1 := h1.mono hM0
 replace h2 := h2.mono hM0
 refine R_enter 97 Tryz.func36 rfl rfl (by simp) fun a0 f0 => ?_
 refine R_seq (R_reg ?_)
 refine Y19 f0 2 fun _ f => ?_
 refine W_end rfl (T_n (R_seq (R_reg ?_)))
 refine Y19 f 2 fun _ f => ?_
 obtain ⟨x_1, hx_1, hF_1⟩ := bS hF
 refine Y18 f p0 (ref09_Check_ok n _ hG d0 A1 cap1 d1 h1 x_1 hx_1) fun w_1 p_1 _ f => ?_
 refine Y19 f 1 fun _ f => ?_
 refine W_end rfl (T_n (R_seq (R_seq (R_reg ?_))))
 refine Y19 f 2 fun _ f => ?_
 refine W_end rfl (T_n ?_)
 refine Y6 f (b := !(decide (x_1 = 0))) (fun h_1 => ?_) fun h_1 => ?_
 ·have k_1 : ¬ (x_1 = 0) := (not_iff dI).1 h_1
  have hF_2 := cnd_t h_1 hF_1
  refine R_seq (R_reg ?_)
  refine Y19 f 3 fun _ f => ?_
  refine W_end rfl (T_n (wp_ret (T_r ?_)))
  refine E_ret2 f rfl (by kernel_rfl : Vc.look _ 6 = some (.int .i8 0)) (by kernel_rfl : Vc.look _ 7 = some (.int .i64 x_1)) ?_
  obtain rfl := sI hF_2
  exact ⟨_, rfl, M1, (mR _), p_1, rfl⟩
 ·have k_2 : ¬ (¬ (x_1 = 0)) := iff_f (not_iff dI) h_1
  have hF_3 := cnd_f h_1 hF_1
  refine wp_skip (T_n (R_seq (R_reg ?_)))
  refine Y19 f 2 fun _ f => ?_
  obtain ⟨x_2, hx_2, hF_4⟩ := bS hF_3
  refine Y18 f p_1 (ref09_Check_ok n _ hG d0 A2 cap2 d2 h2 x_2 hx_2) fun w_2 p_2 _ f => ?_
  refine Y19 f 1 fun _ f => ?_
  refine W_end rfl (T_n (R_seq (R_seq (R_reg ?_))))
  refine Y19 f 2 fun _ f => ?_
  refine W_end rfl (T_n ?_)
  refine Y6 f (b := !(decide (x_2 = 0))) (fun h_2 => ?_) fun h_2 => ?_
  ·have k_3 : ¬ (x_2 = 0) := (not_iff dI).1 h_2
   have hF_5 := cnd_t h_2 hF_4
   refine R_seq (R_reg ?_)
   refine Y19 f 3 fun _ f => ?_
   refine W_end rfl (T_n (wp_ret (T_r ?_)))
   refine E_ret2 f rfl (by kernel_rfl : Vc.look _ 6 = some (.int .i8 0)) (by kernel_rfl : Vc.look _ 7 = some (.int .i64 x_2)) ?_
   obtain rfl := sI hF_5
   exact ⟨_, rfl, M1, (mR _), p_2, rfl⟩
  ·have k_4 : ¬ (¬ (x_2 = 0)) := iff_f (not_iff dI) h_2
   have hF_6 := cnd_f h_2 hF_4
   refine wp_skip (T_n (R_seq (R_seq (R_reg ?_))))
   refine Y19 f 1 fun _ f => ?_
   refine W_end rfl (T_n (wp_block ?_))
   obtain ⟨b_1, hL_1, hF_7⟩ := bS hF_6
   refine wp_mono (Q := fun e a w => (e = .ret ∧ (∃ y_1 : Unit, b_1 = .inl y_1 ∧ ∃ M_2 : Mem, M1.le M_2 ∧ Frm 97 [(6, .int .i8 0), (7, .int .i64 91)] a ∧ Hp w0 M_2 (H) w)) ∨ (e = .exit 0 ∧ (∃ y_2 : Unit, b_1 = .inr y_2 ∧ ∃ M_3 : Mem, M1.le M_3 ∧ Frm 97 [(0, S d0), (1, .slice A1 d1.length cap1), (2, .slice A2 d2.length cap2)] a ∧ Hp w0 M_3 (H) w))) (R_loop (n := 97) (w0 := w0) (M := M1) (fun (x : Nat × Int) => match x with | (m_1, s_1) => [(0, S d0), (1, .slice A1 d1.length cap1), (2, .slice A2 d2.length cap2), (9, .int .i64 s_1)]) (fun (x : Nat × Int) => match x with | (m_1, s_1) => (H)) (fun (x : Nat × Int) (MM : Mem) => match x with | (m_1, s_1) => loopF (ref09_Differ_s1 n d1) m_1 s_1 = some b_1) (fun (x : Nat × Int) => match x with | (m_1, s_1) => m_1) (n, (0 : Int)) (f.keep (ks := [0, 1, 2, 9]) (by kernel_rfl)) p_2 hL_1 ?_) ?_
   ·rintro ⟨m_1, s_1⟩ M_1 _ w_3 hM_1 I_1 f p_3
    have I_1L := I_1
    obtain ⟨m_2, r_1, rfl, hs_1, hn_1⟩ := loop_step I_1L
    unfold ref09_Differ_s1 at hs_1
    refine R_seq (R_seq (R_reg ?_))
    refine Y19 f 4 fun _ f => ?_
    refine W_end rfl (T_n ?_)
    refine Y6 f (b := decide (s_1 < ((d1.length : Nat) : Int))) (fun h_3 => ?_) fun h_3 => ?_
    ·have k_5 : s_1 < ((d1.length : Nat) : Int) := dI.1 h_3
     have hF_8 := cnd_t h_3 hs_1
     refine wp_skip (T_n (R_seq (wp_block (R_seq (R_reg ?_)))))
     refine Y19 f 2 fun _ f => ?_
     obtain ⟨x_3, hx_3, hF_9⟩ := bS hF_8
     obtain ⟨ad_1, c_1, e_1, hl_1, hr_1, hc_1⟩ := Sli.at_ (h1.mono hM_1) hx_3
     clear hl_1
     obtain ⟨A_1, cap_1, A_2, cap_2, rfl, h_4, h_5⟩ := T_api_Given.opn hr_1
     refine Y14 (v := .pointer (some (ad_1.add (s_1.toNat * 8)))) f (Y31 e_1 rfl (len := d1.length) (cap := cap1) (k := .i64) (i := s_1) (e := 78) (sz := 8) (getI_nn hx_3) (getI_lt hx_3)) fun _ f => ?_
     refine Y19 f 1 fun _ f => ?_
     refine Y15 f p_3 hc_1 1 rfl fun _ f => ?_
     refine W_end rfl (T_n ?_)
     refine Y6 f (b := x_3.fUnknown) (fun h_6 => ?_) fun h_6 => ?_
     ·have hF_10 := cnd_t h_6 hF_9
      refine R_seq (R_reg ?_)
      refine Y19 f 2 fun _ f => ?_
      refine W_end rfl (T_n (wp_ret (B_r (T_r (T_r ?_)))))
      obtain rfl := sI hF_10
      exact .inl ⟨rfl, (), (sI hn_1).symm, M_1, hM_1, f.keep (ks := [6, 7]) (by kernel_rfl), p_3⟩
     ·have hF_11 := cnd_f h_6 hF_9
      refine wp_skip (B_n (T_n (R_reg ?_)))
      refine Y19 f 1 fun _ f => ?_
      obtain ⟨g_1, hF_12⟩ := nS hF_11
      refine Y19 f 1 fun _ f => ?_
      have f := Frm.set f 35 (v := .int .i64 (IntKind.wrap .i64 (s_1 + 1))) (v' := .int .i64 (s_1 + 1)) (by kernel_rfl) (congrArg (Value.int .i64) (inR_wrap g_1))
      refine Y19 f 1 fun _ f => ?_
      refine W_end rfl (T_n ?_)
      obtain rfl := sI hF_12
      exact ⟨⟨m_2, s_1 + 1⟩, Nat.lt_succ_self _, M_1, hM_1, hn_1, f.keep (ks := [0, 1, 2, 9]) (by kernel_rfl), p_3⟩
    ·have k_8 : ¬ (s_1 < ((d1.length : Nat) : Int)) := iff_f dI h_3
     have hF_13 := cnd_f h_3 hs_1
     refine wp_exit (T_x (T_x ?_))
     obtain rfl := sI hF_13
     exact .inr ⟨rfl, (), (sI hn_1).symm, M_1, hM_1, f.keep (ks := [0, 1, 2]) (by kernel_rfl), p_3⟩
   ·rintro _ _ w_6 (⟨rfl, y_1, rfl, M_2, hM_2, f, p_4⟩ | ⟨rfl, y_2, rfl, M_3, hM_3, f, p_5⟩)
    ·refine B_r (T_r ?_)
     refine E_ret2 f rfl (by kernel_rfl : Vc.look _ 6 = some (.int .i8 0)) (by kernel_rfl : Vc.look _ 7 = some (.int .i64 91)) ?_
     obtain rfl := sI hF_7
     exact ⟨_, rfl, M_2, hM_2, p_4, rfl⟩
    ·refine B_x (T_n (R_seq (R_reg ?_)))
     refine Y19 f 1 fun _ f => ?_
     obtain ⟨x_4, hx_4, hF_14⟩ := bS hF_7
     refine Y16 f p_5 (ref09_Specs_ok n _ (GL.mono hM_3 hG) d0 x_4 hx_4) fun _ M_4 w_7 hM_4 p_6 q_1 _ f => ?_
     obtain ⟨A_3, cap_3, rfl, h_7⟩ := q_1
     refine Y19 f 5 fun _ f => ?_
     refine W_end rfl (T_n (R_seq (R_reg ?_)))
     refine Y19 f 1 fun _ f => ?_
     refine W_end rfl (T_n (R_seq (R_seq (R_reg ?_))))
     refine Y19 f 1 fun _ f => ?_
     refine W_end rfl (T_n (wp_block ?_))
     obtain ⟨b_2, hL_2, hF_15⟩ := bS hF_14
     refine wp_mono (Q := fun e a w => (e = .ret ∧ (∃ y_4 : Unit, b_2 = .inl y_4 ∧ ∃ M_9 : Mem, M_4.le M_9 ∧ Frm 97 [(6, .int .i8 3), (7, .int .i64 0)] a ∧ Hp w0 M_9 (H) w)) ∨ (e = .exit 2 ∧ (∃ y_5 : Int, b_2 = .inr y_5 ∧ ∃ M_10 : Mem, M_4.le M_10 ∧ Frm 97 [(12, .int .i8 y_5)] a ∧ Hp w0 M_10 (H) w))) (R_loop (n := 97) (w0 := w0) (M := M_4) (fun (x : Nat × (Int × Int)) => match x with | (m_3, s_2) => [(1, .slice A1 d1.length cap1), (2, .slice A2 d2.length cap2), (10, .slice A_3 x_4.1.length cap_3), (12, .int .i8 s_2.1), (13, .int .i64 s_2.2)]) (fun (x : Nat × (Int × Int)) => match x with | (m_3, s_2) => (H)) (fun (x : Nat × (Int × Int)) (MM : Mem) => match x with | (m_3, s_2) => loopF (ref09_Differ_s2 n d1 d2 x_4) m_3 s_2 = some b_2) (fun (x : Nat × (Int × Int)) => match x with | (m_3, s_2) => m_3) (n, ((0 : Int), (0 : Int))) (f.keep (ks := [1, 2, 10, 12, 13]) (by kernel_rfl)) p_6 hL_2 ?_) ?_
     ·rintro ⟨m_3, s_2⟩ M_5 _ w_8 hM_5 I_2 f p_7
      have I_2L := I_2
      obtain ⟨m_4, r_2, rfl, hs_2, hn_2⟩ := loop_step I_2L
      unfold ref09_Differ_s2 at hs_2
      refine R_seq (R_seq (R_reg ?_))
      refine Y19 f 4 fun _ f => ?_
      refine W_end rfl (T_n ?_)
      refine Y6 f (b := decide (s_2.2 < ((x_4.1.length : Nat) : Int))) (fun h_8 => ?_) fun h_8 => ?_
      ·have k_9 : s_2.2 < ((x_4.1.length : Nat) : Int) := dI.1 h_8
       have hF_16 := cnd_t h_8 hs_2
       refine wp_skip (T_n (R_seq (wp_block (R_seq (R_reg ?_)))))
       refine Y19 f 3 fun _ f => ?_
       obtain ⟨x_5, hx_5, hF_17⟩ := bS hF_16
       obtain ⟨ad_2, c_2, e_2, hl_2, hr_2, hc_2⟩ := Sli.at_ (h_7.mono hM_5) hx_5
       clear hl_2
       obtain rfl := T_api_Spec.opn hr_2
       refine Y14 (v := .pointer (some (ad_2.add (s_2.2.toNat * 3)))) f (Y31 e_2 rfl (len := x_4.1.length) (cap := cap_3) (k := .i64) (i := s_2.2) (e := 64) (sz := 3) (getI_nn hx_5) (getI_lt hx_5)) fun _ f => ?_
       refine Y19 f 1 fun _ f => ?_
       refine Y15 f p_7 hc_2 0 rfl fun _ f => ?_
       obtain ⟨x_6, hx_6, hF_18⟩ := bS hF_17
       refine Y16 f p_7 (ref09_get_ok n _ (GL.mono ((hM_3.trans hM_4).trans hM_5) hG) A1 cap1 d1 (h1.mono ((hM_3.trans hM_4).trans hM_5)) x_5.fName x_6 hx_6) fun _ M_6 w_9 hM_6 p_8 q_2 _ f => ?_
       obtain ⟨c_3, rfl, hr_3⟩ := q_2
       obtain ⟨A_4, cap_4, A_5, cap_5, rfl, h_9, h_10⟩ := T_api_Given.opn hr_3
       refine Y19 f 3 fun _ f => ?_
       refine Y12 f p_8 (.cells #[S [], .bool false, .int .i8 0, .bool false, .int .i64 0, S [], .slice none 0 0, .slice none 0 0] 78 (0, 0)) fun b_3 w_10 p_9 _ f => ?_
       refine Y27 (vs := [S x_6.1.fName, .bool x_6.1.fUnknown, .int .i8 x_6.1.fV.fKind, .bool x_6.1.fV.fBool, .int .i64 x_6.1.fV.fNum, S x_6.1.fV.fText, .slice A_4 x_6.1.fV.fList.length cap_4, .slice A_5 x_6.1.fV.fKeys.length cap_5]) (j := 0) f p_9 rfl rfl (by simp [Value.oneCell', S]) (by simp) (by decide) (cs' := #[S x_6.1.fName, .bool x_6.1.fUnknown, .int .i8 x_6.1.fV.fKind, .bool x_6.1.fV.fBool, .int .i64 x_6.1.fV.fNum, S x_6.1.fV.fText, .slice A_4 x_6.1.fV.fList.length cap_4, .slice A_5 x_6.1.fV.fKeys.length cap_5]) fun w_11 p_10 _ f => ?_
       refine Y19 f 1 fun _ f => ?_
       refine W_end rfl (T_n (R_seq (R_reg ?_)))
       refine Y19 f 3 fun _ f => ?_
       obtain ⟨x_7, hx_7, hF_19⟩ := bS hF_18
       obtain ⟨ad_3, c_4, e_3, hl_3, hr_4, hc_3⟩ := Sli.at_ (h_7.mono (hM_5.trans hM_6)) hx_7
       clear hl_3
       obtain rfl := T_api_Spec.opn hr_4
       refine Y14 (v := .pointer (some (ad_3.add (s_2.2.toNat * 3)))) f (Y31 e_3 rfl (len := x_4.1.length) (cap := cap_3) (k := .i64) (i := s_2.2) (e := 64) (sz := 3) (getI_nn hx_7) (getI_lt hx_7)) fun _ f => ?_
       refine Y19 f 1 fun _ f => ?_
       refine Y15 f p_10 hc_3 0 rfl fun _ f => ?_
       obtain ⟨x_8, hx_8, hF_20⟩ := bS hF_19
       refine Y16 f p_10 (ref09_get_ok n _ (GL.mono (((hM_3.trans hM_4).trans hM_5).trans hM_6) hG) A2 cap2 d2 (h2.mono (((hM_3.trans hM_4).trans hM_5).trans hM_6)) x_7.fName x_8 hx_8) fun _ M_7 w_12 hM_7 p_11 q_3 _ f => ?_
       obtain ⟨c_5, rfl, hr_5⟩ := q_3
       obtain ⟨A_6, cap_6, A_7, cap_7, rfl, h_11, h_12⟩ := T_api_Given.opn hr_5
       refine Y19 f 3 fun _ f => ?_
       refine Y12 f p_11 (.cells #[S [], .bool false, .int .i8 0, .bool false, .int .i64 0, S [], .slice none 0 0, .slice none 0 0] 78 (0, 0)) fun b_4 w_13 p_12 _ f => ?_
       refine Y27 (vs := [S x_8.1.fName, .bool x_8.1.fUnknown, .int .i8 x_8.1.fV.fKind, .bool x_8.1.fV.fBool, .int .i64 x_8.1.fV.fNum, S x_8.1.fV.fText, .slice A_6 x_8.1.fV.fList.length cap_6, .slice A_7 x_8.1.fV.fKeys.length cap_7]) (j := 0) f p_12 rfl rfl (by simp [Value.oneCell', S]) (by simp) (by decide) (cs' := #[S x_8.1.fName, .bool x_8.1.fUnknown, .int .i8 x_8.1.fV.fKind, .bool x_8.1.fV.fBool, .int .i64 x_8.1.fV.fNum, S x_8.1.fV.fText, .slice A_6 x_8.1.fV.fList.length cap_6, .slice A_7 x_8.1.fV.fKeys.length cap_7]) fun w_14 p_13 _ f => ?_
       refine Y19 f 1 fun _ f => ?_
       refine W_end rfl (T_n (R_seq (R_seq ?_)))
       obtain ⟨j_1, hj_1, hF_21⟩ := bS hF_20
       refine R_mid (fun a_65 w_16 => ∃ y_3 : Bool, j_1 = y_3 ∧ ∃ M_8 : Mem, M_7.le M_8 ∧ Frm 97 [(1, .slice A1 d1.length cap1), (2, .slice A2 d2.length cap2), (10, .slice A_3 x_4.1.length cap_3), (12, .int .i8 s_2.1), (13, .int .i64 s_2.2), (90, .bool y_3)] a_65 ∧ Hp w0 M_8 ((Ent.obj b_4 (.cells #[S x_8.1.fName, .bool x_8.1.fUnknown, .int .i8 x_8.1.fV.fKind, .bool x_8.1.fV.fBool, .int .i64 x_8.1.fV.fNum, S x_8.1.fV.fText, .slice A_6 x_8.1.fV.fList.length cap_6, .slice A_7 x_8.1.fV.fKeys.length cap_7] 78 (0, 0))) :: (Ent.obj b_3 (.cells #[S x_6.1.fName, .bool x_6.1.fUnknown, .int .i8 x_6.1.fV.fKind, .bool x_6.1.fV.fBool, .int .i64 x_6.1.fV.fNum, S x_6.1.fV.fText, .slice A_4 x_6.1.fV.fList.length cap_4, .slice A_5 x_6.1.fV.fKeys.length cap_5] 78 (0, 0))) :: H) w_16) ?_ ?_
       ·refine R_reg ?_
        refine Y19 f 4 fun _ f => ?_
        rcases bE (x_6.2 == x_8.2) with h_13 | h_13
        ·have hF_22 := cnd_t h_13 hj_1
         have f := Frm.set f 75 (v := .bool (x_6.2 == x_8.2)) (v' := .bool true) (by kernel_rfl) (cB h_13)
         refine Y19 f 3 fun _ f => ?_
         rcases bE (!x_6.2) with h_14 | h_14
         ·have k_11 : (x_6.2) = false := by simpa using h_14
          have hF_23 := cnd_t h_14 hF_22
          have f := Frm.set f 78 (v := .bool !x_6.2) (v' := .bool true) (by kernel_rfl) (cB h_14)
          refine Y19 f 12 fun _ f => ?_
          refine W_end rfl (T_n ?_)
          exact ⟨(true), (sI hF_23).symm, M_7, (mR _), f.keep (ks := [1, 2, 10, 12, 13, 90]) (by kernel_rfl), p_13⟩
         ·have k_12 : (x_6.2) = true := by simpa using h_14
          have hF_24 := cnd_f h_14 hF_22
          have f := Frm.set f 78 (v := .bool !x_6.2) (v' := .bool false) (by kernel_rfl) (cB h_14)
          refine Y19 f 1 fun _ f => ?_
          refine Y14 (v := .bool x_8.1.fUnknown) f (Y32 (v := .bool x_8.1.fUnknown) rfl (ad := ⟨b_4, 1, none⟩) (p_13.ownCell 0 rfl 1)) fun _ f => ?_
          refine Y19 f 2 fun _ f => ?_
          rcases bE (!x_8.1.fUnknown) with h_15 | h_15
          ·have k_13 : (x_8.1.fUnknown) = false := by simpa using h_15
           have hF_25 := cnd_t h_15 hF_24
           have f := Frm.set f 82 (v := .bool !x_8.1.fUnknown) (v' := .bool true) (by kernel_rfl) (cB h_15)
           refine Y19 f 1 fun _ f => ?_
           refine Y14 (v := .agg #[.int .i8 x_6.1.fV.fKind, .bool x_6.1.fV.fBool, .int .i64 x_6.1.fV.fNum, S x_6.1.fV.fText, .slice A_4 x_6.1.fV.fList.length cap_4, .slice A_5 x_6.1.fV.fKeys.length cap_5]) f (Y33 (cs := [.int .i8 x_6.1.fV.fKind, .bool x_6.1.fV.fBool, .int .i64 x_6.1.fV.fNum, S x_6.1.fV.fText, .slice A_4 x_6.1.fV.fList.length cap_4, .slice A_5 x_6.1.fV.fKeys.length cap_5]) rfl (ad := ⟨b_3, 2, none⟩) (own_cells (p_13.ownCell 1 rfl) 2 rfl)) fun _ f => ?_
           refine Y19 f 1 fun _ f => ?_
           refine Y14 (v := .agg #[.int .i8 x_8.1.fV.fKind, .bool x_8.1.fV.fBool, .int .i64 x_8.1.fV.fNum, S x_8.1.fV.fText, .slice A_6 x_8.1.fV.fList.length cap_6, .slice A_7 x_8.1.fV.fKeys.length cap_7]) f (Y33 (cs := [.int .i8 x_8.1.fV.fKind, .bool x_8.1.fV.fBool, .int .i64 x_8.1.fV.fNum, S x_8.1.fV.fText, .slice A_6 x_8.1.fV.fList.length cap_6, .slice A_7 x_8.1.fV.fKeys.length cap_7]) rfl (ad := ⟨b_4, 2, none⟩) (own_cells (p_13.ownCell 0 rfl) 2 rfl)) fun _ f => ?_
           obtain ⟨x_9, hx_9, hF_26⟩ := bS hF_25
           refine Y18 f p_13 (ref03_Equal_ok n _ _ (⟨x_6.1.fV.fKind, (x_6.1.fV.fBool), x_6.1.fV.fNum, x_6.1.fV.fText, x_6.1.fV.fList, x_6.1.fV.fKeys⟩ : T_api_Value) (T_api_Value.shut (h_9.mono hM_7) (h_10.mono hM_7)) _ (⟨x_8.1.fV.fKind, (x_8.1.fV.fBool), x_8.1.fV.fNum, x_8.1.fV.fText, x_8.1.fV.fList, x_8.1.fV.fKeys⟩ : T_api_Value) (T_api_Value.shut h_11 h_12) x_9 hx_9) fun w_15 p_14 _ f => ?_
           refine Y19 f 3 fun _ f => ?_
           refine W_end rfl (T_n ?_)
           exact ⟨(x_9), (sI hF_26).symm, M_7, (mR _), f.keep (ks := [1, 2, 10, 12, 13, 90]) (by kernel_rfl), p_14⟩
          ·have k_14 : (x_8.1.fUnknown) = true := by simpa using h_15
           have hF_27 := cnd_f h_15 hF_24
           have f := Frm.set f 82 (v := .bool !x_8.1.fUnknown) (v' := .bool false) (by kernel_rfl) (cB h_15)
           refine Y19 f 8 fun _ f => ?_
           refine W_end rfl (T_n ?_)
           exact ⟨(false), (sI hF_27).symm, M_7, (mR _), f.keep (ks := [1, 2, 10, 12, 13, 90]) (by kernel_rfl), p_13⟩
        ·have hF_28 := cnd_f h_13 hj_1
         have f := Frm.set f 75 (v := .bool (x_6.2 == x_8.2)) (v' := .bool false) (by kernel_rfl) (cB h_13)
         refine Y19 f 15 fun _ f => ?_
         refine W_end rfl (T_n ?_)
         exact ⟨(false), (sI hF_28).symm, M_7, (mR _), f.keep (ks := [1, 2, 10, 12, 13, 90]) (by kernel_rfl), p_13⟩
       ·rintro a_65 w_16 ⟨y_3, hq_1, M_8, hM_8, f, p_15⟩
        subst j_1
        refine T_n ?_
        refine Y6 f (b := y_3) (fun h_16 => ?_) fun h_16 => ?_
        ·have hF_29 := cnd_t h_16 hF_21
         refine wp_exit (T_x (B_x (T_n (R_reg ?_))))
         refine Y19 f 1 fun _ f => ?_
         obtain ⟨g_2, hF_30⟩ := nS hF_29
         refine Y19 f 1 fun _ f => ?_
         have f := Frm.set f 51 (v := .int .i64 (IntKind.wrap .i64 (s_2.2 + 1))) (v' := .int .i64 (s_2.2 + 1)) (by kernel_rfl) (congrArg (Value.int .i64) (inR_wrap g_2))
         refine Y19 f 1 fun _ f => ?_
         refine W_end rfl (T_n ?_)
         obtain rfl := sI hF_30
         exact ⟨⟨m_4, (s_2.1, s_2.2 + 1)⟩, Nat.lt_succ_self _, M_8, (((hM_5.trans hM_6).trans hM_7).trans hM_8), hn_2, f.keep (ks := [1, 2, 10, 12, 13]) (by kernel_rfl), (p_15.dropN 2)⟩
        ·have hF_31 := cnd_f h_16 hF_21
         refine wp_skip (T_n (R_seq (R_seq (R_reg ?_))))
         refine Y19 f 2 fun _ f => ?_
         obtain ⟨x_10, hx_10, hF_32⟩ := bS hF_31
         obtain ⟨ad_4, c_6, e_4, hl_4, hr_6, hc_4⟩ := Sli.at_ (h_7.mono (((hM_5.trans hM_6).trans hM_7).trans hM_8)) hx_10
         clear hl_4
         obtain rfl := T_api_Spec.opn hr_6
         refine Y14 (v := .pointer (some (ad_4.add (s_2.2.toNat * 3)))) f (Y31 e_4 rfl (len := x_4.1.length) (cap := cap_3) (k := .i64) (i := s_2.2) (e := 64) (sz := 3) (getI_nn hx_10) (getI_lt hx_10)) fun _ f => ?_
         refine Y19 f 1 fun _ f => ?_
         refine Y15 f p_15 hc_4 2 rfl fun _ f => ?_
         refine W_end rfl (T_n ?_)
         refine Y6 f (b := x_10.fReplace) (fun h_17 => ?_) fun h_17 => ?_
         ·have hF_33 := cnd_t h_17 hF_32
          refine R_seq (R_reg ?_)
          refine Y19 f 2 fun _ f => ?_
          refine W_end rfl (T_n (wp_ret (T_r (B_r (T_r (T_r ?_))))))
          obtain rfl := sI hF_33
          exact .inl ⟨rfl, (), (sI hn_2).symm, M_8, (((hM_5.trans hM_6).trans hM_7).trans hM_8), f.keep (ks := [6, 7]) (by kernel_rfl), (p_15.dropN 2)⟩
         ·have hF_34 := cnd_f h_17 hF_32
          refine wp_skip (T_n (R_reg ?_))
          refine Y19 f 1 fun _ f => ?_
          refine W_end rfl (B_n (T_n (R_reg ?_)))
          refine Y19 f 1 fun _ f => ?_
          obtain ⟨g_3, hF_35⟩ := nS hF_34
          refine Y19 f 1 fun _ f => ?_
          have f := Frm.set f 51 (v := .int .i64 (IntKind.wrap .i64 (s_2.2 + 1))) (v' := .int .i64 (s_2.2 + 1)) (by kernel_rfl) (congrArg (Value.int .i64) (inR_wrap g_3))
          refine Y19 f 1 fun _ f => ?_
          refine W_end rfl (T_n ?_)
          obtain rfl := sI hF_35
          exact ⟨⟨m_4, ((2 : Int), s_2.2 + 1)⟩, Nat.lt_succ_self _, M_8, (((hM_5.trans hM_6).trans hM_7).trans hM_8), hn_2, f.keep (ks := [1, 2, 10, 12, 13]) (by kernel_rfl), (p_15.dropN 2)⟩
      ·have k_20 : ¬ (s_2.2 < ((x_4.1.length : Nat) : Int)) := iff_f dI h_8
       have hF_36 := cnd_f h_8 hs_2
       refine wp_exit (T_x (T_x ?_))
       obtain rfl := sI hF_36
       exact .inr ⟨rfl, s_2.1, (sI hn_2).symm, M_5, hM_5, f.keep (ks := [12]) (by kernel_rfl), p_7⟩
     ·rintro _ _ w_19 (⟨rfl, y_4, rfl, M_9, hM_9, f, p_16⟩ | ⟨rfl, y_5, rfl, M_10, hM_10, f, p_17⟩)
      ·refine B_r (T_r ?_)
       refine E_ret2 f rfl (by kernel_rfl : Vc.look _ 6 = some (.int .i8 3)) (by kernel_rfl : Vc.look _ 7 = some (.int .i64 0)) ?_
       obtain rfl := sI hF_15
       exact ⟨_, rfl, M_9, ((hM_3.trans hM_4).trans hM_9), p_16, rfl⟩
      ·refine B_x (T_n (R_seq (R_reg ?_)))
       refine Y19 f 3 fun _ f => ?_
       refine W_end rfl (T_n (wp_ret ?_))
       refine E_ret2 f rfl (by kernel_rfl : Vc.look _ 6 = some (.int .i8 y_5)) (by kernel_rfl : Vc.look _ 7 = some (.int .i64 0)) ?_
       obtain rfl := sI hF_15
       exact ⟨_, rfl, M_10, ((hM_3.trans hM_4).trans hM_10), p_17, rfl⟩
end Go.Proofs.YtalifkcchfkgmaaGreatDoor
end

section
set_option linter.unusedVariables false
set_option linter.unusedSimpArgs false
namespace Go.Proofs.YtalifkcchfkgmaaGreatDoor
open Go Go.Vc Go.RowKit
/-! ### the first one of a list -/
theorem range_getD {α : Type} (d : α) (l : List α) : (List.range l.length).map (fun k => l.getD k d) = l := by
  apply List.ext_getElem (by simp)
  intro i h1 h2
  simp [List.getD, h2]
theorem range_find {α β : Type} (d : α) (h : α → Option β) (l : List α) : (List.range l.length).findSome? (fun k => h (l.getD k d)) = l.findSome? h := by
  conv => rhs; rw [← range_getD d l]
  rw [List.findSome?_map]
  rfl
theorem findSome_ite {α β : Type} (q : α → Bool) (g : α → β) : ∀ l : List α, l.findSome? (fun x => if q x = true then some (g x) else none) = (l.find? q).map g
  | [] => rfl
  | x :: l => by
    rw [List.findSome?_cons, List.find?_cons]
    cases h : q x with
    | true => simp
    | false => simpa using findSome_ite q g l
theorem range_first {α β : Type} (d : α) (q : α → Bool) (g : α → β) (l : List α) : (List.range l.length).findSome? (fun k => if q (l.getD k d) = true then some (g (l.getD k d)) else none) = (l.find? q).map g := by
  rw [← findSome_ite, ← range_find d]
/-! ### types and their properties -/
theorem kind_cases (kind : List UInt8) : kind = kDisk ∨ kind = kNet ∨ kind = kNode ∨ kind = kRule ∨ (kDisk ≠ kind ∧ kNet ≠ kind ∧ kNode ≠ kind ∧ kRule ≠ kind) := by
  by_cases h1 : kind = kDisk
  · exact .inl h1
  by_cases h2 : kind = kNet
  · exact .inr (.inl h2)
  by_cases h3 : kind = kNode
  · exact .inr (.inr (.inl h3))
  by_cases h4 : kind = kRule
  · exact .inr (.inr (.inr (.inl h4)))
  exact .inr (.inr (.inr (.inr ⟨fun e => h1 e.symm, fun e => h2 e.symm, fun e => h3 e.symm, fun e => h4 e.symm⟩)))
def specsL (kind : List UInt8) : List T_api_Spec := (namesS kind).map fun x => specOf kind x
theorem none_kind {kind : List UInt8} (h : kDisk ≠ kind ∧ kNet ≠ kind ∧ kNode ≠ kind ∧ kRule ≠ kind) : kindIn kind = false ∧ propsD kind = [] ∧ specsL kind = [] := by
  obtain ⟨h1, h2, h3, h4⟩ := h
  unfold kindIn propsD specsL namesS
  rw [decide_eq_false h1, decide_eq_false h2, decide_eq_false h3, decide_eq_false h4]
  exact ⟨rfl, rfl, rfl⟩
theorem Specs_ref {n : Nat} (kind : List UInt8) : ref09_Specs n kind = some (specsL kind, bif kindIn kind then 0 else 90) := by
  rcases kind_cases kind with rfl | rfl | rfl | rfl | h
  · rfl
  · rfl
  · rfl
  · rfl
  · obtain ⟨e1, e2, e3⟩ := none_kind h
    obtain ⟨h1, h2, h3, h4⟩ := h
    rw [e1, e3]
    unfold ref09_Specs
    rw [decide_eq_false fun e => h1 e.symm, decide_eq_false fun e => h2 e.symm, decide_eq_false fun e => h3 e.symm, decide_eq_false fun e => h4 e.symm]
    rfl
theorem specs_app (kind : List UInt8) (l : List (List UInt8)) (x : List UInt8) : (l ++ [x]).map (fun x => specOf kind x) = l.map (fun x => specOf kind x) ++ [specOf kind x] := by simp
theorem names_few (kind : List UInt8) : (namesS kind).length ≤ 4 := by
  unfold namesS
  cases decide (kDisk = kind) <;> cases decide (kNet = kind) <;> cases decide (kNode = kind) <;> cases decide (kRule = kind) <;> decide
theorem Specs_run {n : Nat} (hn : 6000 < n) (kind : List UInt8) : schema_Specs n kind = some (specsL kind, bif kindIn kind then 0 else 90) := by
  unfold schema_Specs
  cases hk : kindIn kind with
  | false =>
    have e : specsL kind = [] := by
      rcases kind_cases kind with rfl | rfl | rfl | rfl | h
      · cases hk
      · cases hk
      · cases hk
      · cases hk
      · exact (none_kind h).2.2
    rw [Bool.not_false, cT, e]; rfl
  | true =>
    have hf := names_few kind
    rw [Bool.not_true, cF]
    have := loop_all (n := n) (step := schema_Specs_s1 n kind) (fun k => (((namesS kind).take k).map (fun x => specOf kind x), (k : Int))) (namesS kind).length (specsL kind) (fun k hk => by
      unfold schema_Specs_s1
      have hx : (namesS kind)[k]? = some (namesS kind)[k] := List.getElem?_eq_getElem hk
      have hg : (namesS kind).getD k [] = (namesS kind)[k] := by simp [List.getD, hk]
      dsimp only
      rw [decide_eq_true (by omega), cT, getI_at [] hk, bnd, need_t (by rw [List.length_map, List.length_take]; omega), need_i (by omega) (by omega), hg, List.take_add_one, hx]
      have e : ((⟨((specAt kind (namesS kind)[k]).getD z_T_api_Spec).fName, ((specAt kind (namesS kind)[k]).getD z_T_api_Spec).fKind, (((specAt kind (namesS kind)[k]).getD z_T_api_Spec).fReplace)⟩ : T_api_Spec)) = specOf kind (namesS kind)[k] := rfl
      rw [e, Option.toList_some, specs_app]
      rfl) (by
      unfold schema_Specs_s1
      dsimp only
      rw [decide_eq_false (by omega), cF, List.take_length]; rfl) (by omega)
    have e0 : ((((namesS kind).take 0).map (fun x => specOf kind x), ((0 : Nat) : Int)) : List T_api_Spec × Int) = (([] : List T_api_Spec), (0 : Int)) := rfl
    rw [e0] at this
    rw [this, bnd]; rfl
theorem specs_few (kind : List UInt8) : (specsL kind).length ≤ 4 := by unfold specsL; rw [List.length_map]; exact names_few kind
theorem find_spec (kind prop : List UInt8) : (specsL kind).find? (fun s => decide (s.fName = prop)) = specAt kind prop := by
  rcases kind_cases kind with rfl | rfl | rfl | rfl | h
  · have e : specsL kDisk = [⟨[75, 105, 110, 100], 3, true⟩, ⟨[83, 105, 122, 101], 2, false⟩, ⟨[84, 97, 103, 115], 4, false⟩] := rfl
    rw [e]; unfold specAt
    have e2 : propsD kDisk = dDisk := rfl
    rw [e2]; unfold dDisk
    simp only [List.find?_cons, List.find?_nil, mget]
    by_cases h1 : ([75, 105, 110, 100] : List UInt8) = prop
    · subst h1; rfl
    by_cases h2 : ([83, 105, 122, 101] : List UInt8) = prop
    · subst h2; rfl
    by_cases h3 : ([84, 97, 103, 115] : List UInt8) = prop
    · subst h3; rfl
    simp [h1, h2, h3]
  · have e : specsL kNet = [⟨[76, 97, 98, 101, 108], 3, false⟩, ⟨[82, 97, 110, 103, 101], 3, true⟩] := rfl
    rw [e]; unfold specAt
    have e2 : propsD kNet = dNet := rfl
    rw [e2]; unfold dNet
    simp only [List.find?_cons, List.find?_nil, mget]
    by_cases h1 : ([76, 97, 98, 101, 108] : List UInt8) = prop
    · subst h1; rfl
    by_cases h2 : ([82, 97, 110, 103, 101] : List UInt8) = prop
    · subst h2; rfl
    simp [h1, h2]
  · have e : specsL kNode = [⟨[67, 111, 117, 110, 116], 2, false⟩, ⟨[68, 105, 115, 107], 3, false⟩, ⟨[73, 109, 97, 103, 101], 3, true⟩, ⟨[78, 101, 116], 3, true⟩] := rfl
    rw [e]; unfold specAt
    have e2 : propsD kNode = dNode := rfl
    rw [e2]; unfold dNode
    simp only [List.find?_cons, List.find?_nil, mget]
    by_cases h1 : ([67, 111, 117, 110, 116] : List UInt8) = prop
    · subst h1; rfl
    by_cases h2 : ([68, 105, 115, 107] : List UInt8) = prop
    · subst h2; rfl
    by_cases h3 : ([73, 109, 97, 103, 101] : List UInt8) = prop
    · subst h3; rfl
    by_cases h4 : ([78, 101, 116] : List UInt8) = prop
    · subst h4; rfl
    simp [h1, h2, h3, h4]
  · have e : specsL kRule = [⟨[78, 111, 100, 101], 3, false⟩, ⟨[80, 111, 114, 116], 2, true⟩] := rfl
    rw [e]; unfold specAt
    have e2 : propsD kRule = dRule := rfl
    rw [e2]; unfold dRule
    simp only [List.find?_cons, List.find?_nil, mget]
    by_cases h1 : ([78, 111, 100, 101] : List UInt8) = prop
    · subst h1; rfl
    by_cases h2 : ([80, 111, 114, 116] : List UInt8) = prop
    · subst h2; rfl
    simp [h1, h2]
  · obtain ⟨e1, e2, e3⟩ := none_kind h
    unfold specAt
    rw [e2, e3]; rfl
theorem Find_ref {n : Nat} (hn : 6000 < n) (kind prop : List UInt8) : ref09_Find n kind prop = some (specOf kind prop, (specAt kind prop).isSome) := by
  unfold ref09_Find
  rw [Specs_ref, bnd]
  have hf := specs_few kind
  have := loop_run (n := n) (step := ref09_Find_s1 n prop (specsL kind, bif kindIn kind then 0 else 90)) (fun k => ((k : Int), ([] : List UInt8), (0 : Int), false))
    (fun k => if decide (((specsL kind).getD k z_T_api_Spec).fName = prop) = true then some (.inl (((specsL kind).getD k z_T_api_Spec).fName, ((specsL kind).getD k z_T_api_Spec).fKind, ((specsL kind).getD k z_T_api_Spec).fReplace)) else none) (specsL kind).length (.inr ([], 0, false)) (fun k hk => by
    unfold ref09_Find_s1
    dsimp only
    rw [decide_eq_true (by omega), cT, getI_at z_T_api_Spec hk, bnd, bnd, need_i (by omega) (by omega)]
    by_cases hp : ((specsL kind).getD k z_T_api_Spec).fName = prop
    · rw [decide_eq_true hp, cT, if_pos rfl]
    · rw [decide_eq_false hp, cF, if_neg (by decide)]; rfl) (by
    unfold ref09_Find_s1
    dsimp only
    rw [decide_eq_false (by omega), cF]) (by omega)
  have e0 : (((0 : Nat) : Int), ([] : List UInt8), (0 : Int), false) = ((0 : Int), ([] : List UInt8), (0 : Int), false) := rfl
  rw [e0] at this
  have e := range_first z_T_api_Spec (fun s => decide (s.fName = prop)) (fun s => (Sum.inl (s.fName, s.fKind, s.fReplace) : Sum (List UInt8 × Int × Bool) (List UInt8 × Int × Bool))) (specsL kind)
  rw [this, bnd, e, find_spec]
  unfold specOf
  cases specAt kind prop with
  | none => rfl
  | some s => rfl
theorem Attr_both {n : Nat} (hn : 6000 < n) {kind phys name : List UInt8} (hk : kind.length ≤ 200) (hp : phys.length ≤ 200) : ∃ r, schema_Attr n kind phys name = some r ∧ ref09_Attr n kind phys name = some r := by
  unfold schema_Attr ref09_Attr
  rw [Specs_ref, bnd]
  dsimp only
  cases kindIn kind with
  | false => exact ⟨([], 90), rfl, rfl⟩
  | true =>
    rw [Bool.not_true, cF, cT, decide_eq_true (rfl : (0 : Int) = 0), Bool.not_true, cF]
    by_cases h1 : name = [65, 114, 110]
    · rw [decide_eq_true h1, cT, cT, need_t (by simp only [List.length_cons, List.length_nil]; omega), need_t (by simp only [List.length_append, List.length_cons, List.length_nil]; omega)]
      exact ⟨_, rfl, rfl⟩
    · rw [decide_eq_false h1, cF, cF]
      by_cases h2 : name = [90, 111, 110, 101]
      · have em : max (phys.length : Int) 1 - 1 = max ((phys.length : Int) - 1) 0 := by omega
        rw [decide_eq_true h2, cT, cT, need_i (by omega) (by omega), need_i (by omega) (by omega), em, need_t (by omega)]
        exact ⟨_, rfl, rfl⟩
      · rw [decide_eq_false h2, cF, cF]; exact ⟨_, rfl, rfl⟩
/-! ### values -/
theorem word_ref {n : Nat} (hn : 6000 < n) {t : List UInt8} : ref05_Word n t = some (wordV t) := by
  unfold ref05_Word wordV
  by_cases h : (t.length : Int) ≤ 64
  · rw [decide_eq_true h, cT, cT, valid_ref (by omega) (by omega) (by omega), bnd]
  · rw [decide_eq_false h, cF, cF]
theorem check_okV {v : T_api_Value} (h : checkV v = 0) : OkV v := (checkV_ok h).1
theorem check_part {v x : T_api_Value} (hx : x ∈ v.fList) (h : checkV v = 0) : checkV x = 0 := by
  obtain ⟨hok, h1, h2⟩ := checkV_ok h
  have h3 : depthV x ≤ depthV v := by
    have := depthVs_mem hx
    rw [depthV_eq v]; omega
  have h4 : (walkV x).length ≤ (walkV v).length := by
    have := walkVs_mem hx
    rw [walkV_eq v, List.length_cons]; omega
  have h5 : faultL (walkV x) = 0 := hok.part hx
  unfold checkV
  rw [if_neg (by omega), if_pos h5, if_neg (by omega)]
theorem value_ref {n : Nat} (hn : 6000 < n) {v : T_api_Value} (h : Fine v) {k : Int} (hk : k = 2 ∨ k = 3 ∨ k = 4) : ref09_value n v k = some (valueV v k) := by
  unfold ref09_value valueV fitV
  by_cases h1 : v.fKind = k
  · rw [decide_eq_true h1, Bool.not_true, cF, cF, check_ref hn h, bnd]
    by_cases hc : checkV v = 0
    · rw [decide_eq_true hc, Bool.not_true, bnd, cF, cT]
      by_cases h3 : k = 3
      · rw [decide_eq_true h3, cT, cT, word_ref hn, bnd]
      · rw [decide_eq_false h3, cF, cF]
        have hw := h.wide
        have hlen := hw.1
        by_cases h4 : k = 4
        · rw [decide_eq_true h4, cT, cT, bnd]
          by_cases h8 : ((v.fList.length : Nat) : Int) ≤ 8
          · rw [decide_eq_true h8, cT, decide_eq_false (by omega), cF]
            have := loop_any (n := n) (step := ref09_value_s1 n v) (fun i => !wordy (v.fList.getD i z_T_api_Value)) v.fList.length (.inl ()) (.inr ()) (fun i hi => by
              unfold ref09_value_s1 wordy fitV
              have hm : v.fList.getD i z_T_api_Value ∈ v.fList := by simp [List.getD, hi]
              rw [decide_eq_true (by omega), cT, getI_at z_T_api_Value hi, bnd, decide_eq_true (check_part hm hc)]
              by_cases hk3 : (v.fList.getD i z_T_api_Value).fKind = 3
              · rw [decide_eq_true hk3, Bool.not_true, cF, cF, cT, bnd, word_ref hn, bnd, need_i (by omega) (by omega)]
                cases wordV (v.fList.getD i z_T_api_Value).fText <;> rfl
              · rw [decide_eq_false hk3, Bool.not_false, cT, cT, cF]; rfl) (by
              unfold ref09_value_s1
              rw [decide_eq_false (by omega), cF]) (by omega)
            rw [this, bnd, any_range z_T_api_Value (fun x => !wordy x)]
            cases v.fList.any (fun x => !wordy x) <;> rfl
          · rw [decide_eq_false h8, cF, decide_eq_true (by omega), cT]
        · rw [decide_eq_false h4, cF, cF, bnd, cF]
          have h2 : v.fKind = 2 := by omega
          have hp := (check_okV hc).plain
          have hl0 : v.fList = [] := by
            obtain ⟨_, _, _, _, _, h6, _⟩ := hp
            cases hl : v.fList with
            | nil => rfl
            | cons x r =>
              have := h6 (by rw [hl]; simp)
              omega
          have : loopF (ref09_value_s1 n v) n 0 = some (.inr ()) := by
            obtain ⟨m, rfl⟩ : ∃ m, n = m + 1 := ⟨n - 1, by omega⟩
            unfold loopF ref09_value_s1
            rw [hl0, decide_eq_false (by simp), cF, bnd]
          rw [this, bnd]
    · rw [decide_eq_false hc, Bool.not_false, bnd, cT, cF]
  · rw [decide_eq_false h1, Bool.not_false, cT, cT, bnd, cT, cF]
theorem empty_iff {v : T_api_Value} : emptyV v = true ↔ v = z_T_api_Value := by
  unfold emptyV
  constructor
  · intro h
    by_cases h0 : v.fKind = 0
    · rw [decide_eq_true h0, cT] at h
      have hp := (check_okV (of_decide_eq_true h)).plain
      obtain ⟨_, _, p1, p2, p3, p4, p5, p6⟩ := hp
      obtain ⟨k, b, m, t, l, ks⟩ := v
      dsimp only at h0 p1 p2 p3 p4 p5 p6
      have e1 : b = false := by
        cases b with
        | false => rfl
        | true => have := p1 rfl; omega
      have e2 : m = 0 := by
        by_cases e : m = 0
        · exact e
        · have := p2 e; omega
      have e3 : t = [] := by
        by_cases e : t = []
        · exact e
        · have := p3 e; omega
      have e4 : l = [] := by
        by_cases e : l.length = 0
        · exact List.length_eq_zero_iff.1 e
        · have := p4 e; omega
      have e5 : ks = [] := List.length_eq_zero_iff.1 (p6 (by omega))
      subst h0; subst e1; subst e2; subst e3; subst e4; subst e5
      rfl
    · rw [decide_eq_false h0, cF] at h; cases h
  · intro h
    subst h
    decide +kernel
theorem same_val {n : Nat} (hn : 6000 < n) {v : T_api_Value} (h : Fine v) (w : T_api_Value) : ref03_Same n v w = some (decide (v = w)) := by
  obtain ⟨b, h1, h2⟩ := Same_run hn (d := 60) (by omega) v w h.small
  rw [h1]
  congr 1
  rw [Bool.eq_iff_iff, h2, decide_eq_true_iff]
/-! ### Check, Same -/
theorem spec_kind {kind prop : List UInt8} (h : (specAt kind prop).isSome = true) : (specOf kind prop).fKind = 2 ∨ (specOf kind prop).fKind = 3 ∨ (specOf kind prop).fKind = 4 := by
  obtain ⟨s, hs⟩ := Option.isSome_iff_exists.1 h
  unfold specOf
  rw [hs, Option.getD_some]
  rw [← find_spec] at hs
  have hm := List.mem_of_find?_eq_some hs
  rcases kind_cases kind with rfl | rfl | rfl | rfl | hn
  · have e : specsL kDisk = [⟨[75, 105, 110, 100], 3, true⟩, ⟨[83, 105, 122, 101], 2, false⟩, ⟨[84, 97, 103, 115], 4, false⟩] := rfl
    rw [e] at hm
    simp only [List.mem_cons, List.not_mem_nil, or_false] at hm
    rcases hm with rfl | rfl | rfl <;> simp
  · have e : specsL kNet = [⟨[76, 97, 98, 101, 108], 3, false⟩, ⟨[82, 97, 110, 103, 101], 3, true⟩] := rfl
    rw [e] at hm
    simp only [List.mem_cons, List.not_mem_nil, or_false] at hm
    rcases hm with rfl | rfl <;> simp
  · have e : specsL kNode = [⟨[67, 111, 117, 110, 116], 2, false⟩, ⟨[68, 105, 115, 107], 3, false⟩, ⟨[73, 109, 97, 103, 101], 3, true⟩, ⟨[78, 101, 116], 3, true⟩] := rfl
    rw [e] at hm
    simp only [List.mem_cons, List.not_mem_nil, or_false] at hm
    rcases hm with rfl | rfl | rfl | rfl <;> simp
  · have e : specsL kRule = [⟨[78, 111, 100, 101], 3, false⟩, ⟨[80, 111, 114, 116], 2, true⟩] := rfl
    rw [e] at hm
    simp only [List.mem_cons, List.not_mem_nil, or_false] at hm
    rcases hm with rfl | rfl <;> simp
  · rw [(none_kind hn).2.2] at hm; cases hm
theorem evG (x : T_api_Value) : (⟨x.fKind, (x.fBool), x.fNum, x.fText, x.fList, x.fKeys⟩ : T_api_Value) = x := by cases x; rfl
theorem Check_ref {n : Nat} (hn : 6000 < n) (kind : List UInt8) {gs : List T_api_Given} (hl : gs.length ≤ 60) (hf : ∀ g ∈ gs, Fine g.fV) : ref09_Check n kind gs = some (checkG kind gs) := by
  unfold ref09_Check checkG
  rw [Specs_ref, bnd]
  dsimp only
  cases kindIn kind with
  | false => rfl
  | true =>
    rw [Bool.not_true, cT, decide_eq_true (rfl : (0 : Int) = 0), Bool.not_true, cF, cF]
    have := loop_any (n := n) (step := ref09_Check_s1 n kind gs) (fun k => !(okG kind (gs.getD k z_T_api_Given) && upG gs k)) gs.length (.inl ()) (.inr ()) (fun k hk => by
      unfold ref09_Check_s1
      have hm : gs.getD k z_T_api_Given ∈ gs := by simp [List.getD, hk]
      rw [decide_eq_true (by omega), cT, getI_at z_T_api_Given hk, bnd, Find_ref hn, bnd]
      dsimp only
      have hup : (if decide ((0 : Int) < (k : Int)) = true then ((some (gs.getD k z_T_api_Given)).bind fun x_4 => need (inR .i64 ((k : Int) - 1)) <| (getI gs ((k : Int) - 1)).bind fun x_5 => some ((Op.bytesLess x_4.fName x_5.fName || x_4.fName == x_5.fName))) else some false : Option Bool) = some (!upG gs k) := by
        unfold upG
        by_cases h0 : k = 0
        · subst h0; rfl
        · have hk1 : k - 1 < gs.length := by omega
          have e1 : (k : Int) - 1 = ((k - 1 : Nat) : Int) := by omega
          rw [decide_eq_true (by omega : (0 : Int) < (k : Int)), if_pos rfl, bnd, need_i (by omega) (by omega), e1, getI_at z_T_api_Given hk1, bnd, less_flip, decide_eq_false h0, Bool.false_or]
      unfold okG
      cases hs : (specAt kind (gs.getD k z_T_api_Given).fName).isSome with
      | false => rfl
      | true =>
        rw [Bool.not_true, cF, cond_ite, hup, bnd, Bool.true_and]
        cases hu : upG gs k with
        | false => rw [Bool.not_false, cT, Bool.and_false]; rfl
        | true =>
          rw [Bool.not_true, cF, bnd, Bool.and_true]
          unfold fitG
          cases (gs.getD k z_T_api_Given).fUnknown with
          | true =>
            rw [cT, cT]
            cases decide ((specOf kind (gs.getD k z_T_api_Given).fName).fKind = 2) with
            | true => rfl
            | false =>
              rw [cF, bnd, evG, same_val hn (hf _ hm), bnd, bnd, Bool.not_false, cT, need_i (by omega) (by omega)]
              have e : decide ((gs.getD k z_T_api_Given).fV = z_T_api_Value) = emptyV (gs.getD k z_T_api_Given).fV := by rw [Bool.eq_iff_iff, decide_eq_true_iff, empty_iff]
              rw [e]
              cases emptyV (gs.getD k z_T_api_Given).fV <;> rfl
          | false =>
            rw [cF, cF, bnd, evG, value_ref hn (hf _ hm) (spec_kind hs), bnd, need_i (by omega) (by omega)]
            cases valueV (gs.getD k z_T_api_Given).fV (specOf kind (gs.getD k z_T_api_Given).fName).fKind <;> rfl) (by
      unfold ref09_Check_s1
      rw [decide_eq_false (by omega), cF]) (by omega)
    rw [this, bnd]
    cases (List.range gs.length).any (fun k => !(okG kind (gs.getD k z_T_api_Given) && upG gs k)) <;> rfl
theorem Same_ref {n : Nat} (hn : 6000 < n) {a b : List T_api_Given} (la : a.length ≤ 60) (ha : ∀ g ∈ a, Fine g.fV) (hb : ∀ g ∈ b, Fine g.fV) :
    ref09_Same n a b = some (decide (a.length = b.length) && !((List.range a.length).any fun k => !sameG (a.getD k z_T_api_Given) (b.getD k z_T_api_Given))) := by
  unfold ref09_Same
  by_cases h : a.length = b.length
  · have h' : ((a.length : Nat) : Int) = ((b.length : Nat) : Int) := by omega
    rw [decide_eq_true h', Bool.not_true, cF, decide_eq_true h, Bool.true_and]
    have := loop_any (n := n) (step := ref09_Same_s1 n a b) (fun k => !sameG (a.getD k z_T_api_Given) (b.getD k z_T_api_Given)) a.length (.inl ()) (.inr ()) (fun k hk => by
      unfold ref09_Same_s1 sameG
      have hm : a.getD k z_T_api_Given ∈ a := by simp [List.getD, hk]
      have hm2 : b.getD k z_T_api_Given ∈ b := by have : k < b.length := by omega
                                                  simp [List.getD, this]
      rw [decide_eq_true (by omega), cT, getI_at z_T_api_Given hk, getI_at z_T_api_Given (by omega : k < b.length)]
      simp only [bnd, evG]
      rw [same_val hn (ha _ hm), Equal_ref hn (ha _ hm) (hb _ hm2), need_i (by omega) (by omega)]
      simp only [bnd]
      cases decide ((a.getD k z_T_api_Given).fName = (b.getD k z_T_api_Given).fName) <;> cases ((a.getD k z_T_api_Given).fUnknown == (b.getD k z_T_api_Given).fUnknown) <;> cases eqV (a.getD k z_T_api_Given).fV (b.getD k z_T_api_Given).fV <;> cases decide ((a.getD k z_T_api_Given).fV = (b.getD k z_T_api_Given).fV) <;> rfl) (by
      unfold ref09_Same_s1
      rw [decide_eq_false (by omega), cF]) (by omega)
    rw [this, bnd]
    cases (List.range a.length).any (fun k => !sameG (a.getD k z_T_api_Given) (b.getD k z_T_api_Given)) <;> rfl
  · have h' : ¬ ((a.length : Nat) : Int) = ((b.length : Nat) : Int) := by omega
    rw [decide_eq_false h', Bool.not_false, cT, decide_eq_false h, Bool.false_and]
/-! ### Differ -/
def getG (gs : List T_api_Given) (k : List UInt8) : Option T_api_Given := gs.find? fun g => decide (g.fName = k)
def zGiven : T_api_Given := ⟨[], false, z_T_api_Value⟩
theorem get_ref {n : Nat} (hn : 6000 < n) {gs : List T_api_Given} (hl : gs.length ≤ 60) (k : List UInt8) : ref09_get n gs k = some ((getG gs k).getD zGiven, (getG gs k).isSome) := by
  unfold ref09_get
  have := loop_run (n := n) (step := ref09_get_s1 n gs k) (fun i => ((i : Int), ([] : List UInt8), false, (0 : Int), false, (0 : Int), ([] : List UInt8), ([] : List T_api_Value), ([] : List (List UInt8))))
    (fun i => if decide ((gs.getD i z_T_api_Given).fName = k) = true then some (.inl ((gs.getD i z_T_api_Given).fName, (gs.getD i z_T_api_Given).fUnknown, (gs.getD i z_T_api_Given).fV.fKind, (gs.getD i z_T_api_Given).fV.fBool, (gs.getD i z_T_api_Given).fV.fNum, (gs.getD i z_T_api_Given).fV.fText, (gs.getD i z_T_api_Given).fV.fList, (gs.getD i z_T_api_Given).fV.fKeys)) else none) gs.length (.inr ([], false, 0, false, 0, [], [], [])) (fun i hi => by
    unfold ref09_get_s1
    dsimp only
    rw [decide_eq_true (by omega), cT, getI_at z_T_api_Given hi, bnd, bnd, need_i (by omega) (by omega)]
    by_cases hp : (gs.getD i z_T_api_Given).fName = k
    · rw [decide_eq_true hp, cT, if_pos rfl]
    · rw [decide_eq_false hp, cF, if_neg (by decide)]; rfl) (by
    unfold ref09_get_s1
    dsimp only
    rw [decide_eq_false (by omega), cF]) (by omega)
  have e0 : (((0 : Nat) : Int), ([] : List UInt8), false, (0 : Int), false, (0 : Int), ([] : List UInt8), ([] : List T_api_Value), ([] : List (List UInt8))) = ((0 : Int), ([] : List UInt8), false, (0 : Int), false, (0 : Int), ([] : List UInt8), ([] : List T_api_Value), ([] : List (List UInt8))) := rfl
  rw [e0] at this
  have e := range_first z_T_api_Given (fun g => decide (g.fName = k)) (fun g => (Sum.inl (g.fName, g.fUnknown, g.fV.fKind, g.fV.fBool, g.fV.fNum, g.fV.fText, g.fV.fList, g.fV.fKeys) : Sum (List UInt8 × Bool × Int × Bool × Int × List UInt8 × List T_api_Value × List (List UInt8)) (List UInt8 × Bool × Int × Bool × Int × List UInt8 × List T_api_Value × List (List UInt8)))) gs
  rw [this, bnd, e]
  unfold getG
  cases gs.find? fun g => decide (g.fName = k) with
  | none => rfl
  | some g => obtain ⟨_, _, v⟩ := g; cases v; rfl
theorem find_mem {gs : List T_api_Given} {k : List UInt8} {g : T_api_Given} (h : getG gs k = some g) : g ∈ gs ∧ g.fName = k := by
  unfold getG at h
  exact ⟨List.mem_of_find?_eq_some h, by have := List.find?_some h; simpa using this⟩
theorem get_byN {gs : List T_api_Given} (hd : (gs.map (·.fName)).Nodup) (k : List UInt8) : getG gs k = mget (byN gs) k := by
  cases h : getG gs k with
  | some g =>
    obtain ⟨h1, h2⟩ := find_mem h
    rw [← h2, byN_mem hd h1]
  | none =>
    cases h2 : mget (byN gs) k with
    | none => rfl
    | some g =>
      obtain ⟨h3, h4⟩ := byN_some rfl h2
      unfold getG at h
      rw [List.find?_eq_none] at h
      exact absurd (decide_eq_true h4) (h g h3)
def pairsS (kind : List UInt8) : List (List UInt8 × T_api_Spec) := (specsL kind).map fun s => (s.fName, s)
theorem pairsS_perm (kind : List UInt8) : (propsD kind).Perm (pairsS kind) := by
  rcases kind_cases kind with rfl | rfl | rfl | rfl | h
  · have e1 : propsD kDisk = dDisk := rfl
    have e2 : pairsS kDisk = [([75, 105, 110, 100], ⟨[75, 105, 110, 100], 3, true⟩), ([83, 105, 122, 101], ⟨[83, 105, 122, 101], 2, false⟩), ([84, 97, 103, 115], ⟨[84, 97, 103, 115], 4, false⟩)] := rfl
    rw [e1, e2]
    exact of_decide_eq_true (by decide +kernel)
  · have e1 : propsD kNet = dNet := rfl
    have e2 : pairsS kNet = dNet := rfl
    rw [e1, e2]
  · have e1 : propsD kNode = dNode := rfl
    have e2 : pairsS kNode = dNode := rfl
    rw [e1, e2]
  · have e1 : propsD kRule = dRule := rfl
    have e2 : pairsS kRule = dRule := rfl
    rw [e1, e2]
  · obtain ⟨_, e2, e3⟩ := none_kind h
    unfold pairsS
    rw [e2, e3]
    exact .refl _
theorem any_getD {α : Type} (d : α) (q : α → Bool) (l : List α) (k : Nat) (hk : k < l.length) : (l.take (k + 1)).any q = ((l.take k).any q || q (l.getD k d)) := by
  rw [List.take_add_one, List.getElem?_eq_getElem hk, List.any_append]
  simp [List.getD, hk]
theorem find_any {α β : Type} (d : α) (q : α → Bool) (b : β) (l : List α) : (List.range l.length).findSome? (fun k => if q (l.getD k d) = true then some b else none) = bif l.any q then some b else none := by
  rw [range_find d (fun x => if q x = true then some b else none), findSome_ite q (fun _ => b)]
  cases h : l.any q with
  | true =>
    obtain ⟨x, hx, hq⟩ := List.any_eq_true.1 h
    cases hf : l.find? q with
    | none => rw [List.find?_eq_none] at hf; exact absurd hq (hf x hx)
    | some y => rfl
  | false =>
    cases hf : l.find? q with
    | none => rfl
    | some y =>
      have := List.any_eq_false.1 h y (List.mem_of_find?_eq_some hf)
      exact absurd (List.find?_some hf) this
theorem differ_loop {n : Nat} (hn : 6000 < n) {kind : List UInt8} {z : Int} {a b : List T_api_Given} (la : a.length ≤ 60) (lb : b.length ≤ 60) (ha : ∀ g ∈ a, Fine g.fV) (hb : ∀ g ∈ b, Fine g.fV) (na : (a.map (·.fName)).Nodup) (nb : (b.map (·.fName)).Nodup) :
    loopF (ref09_Differ_s2 n a b (specsL kind, z)) n (0, 0) = some (bif (pairsS kind).any (fun p => !sameK a b p.1 && p.2.fReplace) then .inl () else .inr (bif (pairsS kind).any (fun p => !sameK a b p.1) then 2 else 0)) := by
  have hf := specs_few kind
  have := loop_run (n := n) (step := ref09_Differ_s2 n a b (specsL kind, z)) (fun k => ((bif ((specsL kind).take k).any (fun s => !sameK a b s.fName) then (2 : Int) else 0), (k : Int))) (fun k => if (!sameK a b ((specsL kind).getD k z_T_api_Spec).fName && ((specsL kind).getD k z_T_api_Spec).fReplace) = true then some (Sum.inl ()) else none) (specsL kind).length (.inr (bif (specsL kind).any (fun s => !sameK a b s.fName) then 2 else 0)) (fun k hk => by
    unfold ref09_Differ_s2
    dsimp only
    rw [decide_eq_true (by omega), cT, getI_at z_T_api_Spec hk]
    simp only [bnd]
    rw [get_ref hn la, get_ref hn lb, get_byN na, get_byN nb]
    simp only [bnd]
    rw [need_i (by omega) (by omega), any_getD z_T_api_Spec _ _ _ hk]
    generalize (specsL kind).getD k z_T_api_Spec = s
    have ecast : ((k : Int) + 1) = ((k + 1 : Nat) : Int) := by omega
    have key : ∀ (R : Bool → Option (Lp (Int × Int) (Sum Unit Int))), ((bif ((mget (byN a) s.fName).isSome == (mget (byN b) s.fName).isSome) then
          (bif !(mget (byN a) s.fName).isSome then
            (some ((true)))
          else
            bif !((mget (byN b) s.fName).getD zGiven).fUnknown then
              ((ref03_Equal n (⟨((mget (byN a) s.fName).getD zGiven).fV.fKind, (((mget (byN a) s.fName).getD zGiven).fV.fBool), ((mget (byN a) s.fName).getD zGiven).fV.fNum, ((mget (byN a) s.fName).getD zGiven).fV.fText, ((mget (byN a) s.fName).getD zGiven).fV.fList, ((mget (byN a) s.fName).getD zGiven).fV.fKeys⟩ : T_api_Value) (⟨((mget (byN b) s.fName).getD zGiven).fV.fKind, (((mget (byN b) s.fName).getD zGiven).fV.fBool), ((mget (byN b) s.fName).getD zGiven).fV.fNum, ((mget (byN b) s.fName).getD zGiven).fV.fText, ((mget (byN b) s.fName).getD zGiven).fV.fList, ((mget (byN b) s.fName).getD zGiven).fV.fKeys⟩ : T_api_Value)).bind fun x_9 =>
              some ((x_9)))
            else
              some ((false)))
        else
          some ((false)) : Option Bool)).bind R = R (sameK a b s.fName) := by
      intro R
      unfold sameK
      cases hx : mget (byN a) s.fName with
      | none =>
        cases hy : mget (byN b) s.fName with
        | none => rfl
        | some y => rfl
      | some x =>
        cases hy : mget (byN b) s.fName with
        | none => rfl
        | some y =>
          have fx := ha x (byN_some rfl hx).1
          have fy := hb y (byN_some rfl hy).1
          simp only [Option.isSome_some, Option.getD_some, beq_self_eq_true, Bool.not_true]
          rw [cT, cF, cT, cF, evG, evG, Equal_ref hn fx fy]
          simp only [bnd]
          cases y.fUnknown <;> rfl
    rw [key]
    cases hsk : sameK a b s.fName with
    | true =>
      rw [cT, Bool.not_true, Bool.false_and, Bool.or_false, if_neg (by decide), ecast]
    | false =>
      rw [cF, Bool.not_false, Bool.true_and, Bool.or_true]
      cases s.fReplace with
      | true => rw [cT, if_pos rfl]
      | false => rw [cF, need_i (by omega) (by omega), if_neg (by decide), ecast, cT]) (by
    unfold ref09_Differ_s2
    dsimp only
    rw [decide_eq_false (by omega), cF, List.take_length]) (by omega)
  have e0 : ((bif ((specsL kind).take 0).any (fun s => !sameK a b s.fName) then (2 : Int) else 0), ((0 : Nat) : Int)) = ((0 : Int), (0 : Int)) := rfl
  rw [e0] at this
  have e := find_any z_T_api_Spec (fun s => !sameK a b s.fName && s.fReplace) (Sum.inl () : Sum Unit Int) (specsL kind)
  rw [this, e]
  unfold pairsS
  rw [List.any_map, List.any_map]
  have c1 : ((fun p : List UInt8 × T_api_Spec => !sameK a b p.1 && p.2.fReplace) ∘ fun s : T_api_Spec => (s.fName, s)) = fun s => !sameK a b s.fName && s.fReplace := rfl
  have c2 : ((fun p : List UInt8 × T_api_Spec => !sameK a b p.1) ∘ fun s : T_api_Spec => (s.fName, s)) = fun s => !sameK a b s.fName := rfl
  rw [c1, c2]
  cases (specsL kind).any (fun s => !sameK a b s.fName && s.fReplace) <;> rfl
theorem Differ_ref {n : Nat} (hn : 6000 < n) (kind : List UInt8) {a b : List T_api_Given} (la : a.length ≤ 60) (lb : b.length ≤ 60) (ha : ∀ g ∈ a, Fine g.fV) (hb : ∀ g ∈ b, Fine g.fV) : ref09_Differ n kind a b = some (differV kind a b) := by
  unfold ref09_Differ differV
  rw [Check_ref hn kind la ha, bnd]
  by_cases h1 : checkG kind a = 0
  · rw [decide_eq_true h1, Bool.not_true, cF, cF, Check_ref hn kind lb hb, bnd]
    by_cases h2 : checkG kind b = 0
    · rw [decide_eq_true h2, Bool.not_true, cF, cF]
      have := loop_any (n := n) (step := ref09_Differ_s1 n a) (fun k => (a.getD k z_T_api_Given).fUnknown) a.length (.inl ()) (.inr ()) (fun k hk => by
        unfold ref09_Differ_s1
        rw [decide_eq_true (by omega), cT, getI_at z_T_api_Given hk, bnd, need_i (by omega) (by omega)]
        cases (a.getD k z_T_api_Given).fUnknown <;> rfl) (by
        unfold ref09_Differ_s1
        rw [decide_eq_false (by omega), cF]) (by omega)
      rw [this, bnd, any_range z_T_api_Given (·.fUnknown)]
      cases a.any (·.fUnknown) with
      | true => rfl
      | false =>
        rw [cF, cF]
        dsimp only
        rw [Specs_ref, bnd, differ_loop hn la lb ha hb (rise_nodup (check_zero h1).2.2) (rise_nodup (check_zero h2).2.2), bnd, endK_perm a b (pairsS_perm kind)]
        unfold endK
        cases (pairsS kind).any (fun p => !sameK a b p.1 && p.2.fReplace) <;> rfl
    · rw [decide_eq_false h2, Bool.not_false, cT, cT]
  · rw [decide_eq_false h1, Bool.not_false, cT, cT]
end Go.Proofs.YtalifkcchfkgmaaGreatDoor
end

section
set_option linter.unusedVariables false
set_option linter.unusedSimpArgs false
namespace Go.Vc
open Go Go.RowKit
section
variable {P : Program} {w : World} {ρ : Operand → Value} {o : Oper}
end
section
variable {α : Type} {M : Mem} {sz : Nat} {f : α → Dat} {A : Option Addr} {cap : Nat} {xs : List α}
end
section
variable {α : Type} {P : Program} {ops : Array Oper} {n : Nat} {Q : Exit → Act → World → Prop} {L : Fr} {a : Act} {w0 w : World} {M : Mem} {H : List Ent} {sz : Nat} {f : α → Dat} {dd : List Deferred}
end
section
variable {P : Program} {w : World} {d : Nat} {xs ys : Array Value}
theorem EqS {t : TypeId} {a b : List UInt8} (ht : P.underlying t = some .string) : (Op.equalIn (d + 1) t (S a) (S b)).run P w = .ok (decide (a = b)) w := by
  have : ((⟨a.toArray⟩ : ByteArray) == ⟨b.toArray⟩) = decide (a = b) := by
    rw [beq_toListBytes, ByteArray.toList_eq, ByteArray.toList_eq]
    rw [Bool.eq_iff_iff]; simp
  simp only [Op.equalIn, Sem.run_bind, run_underlying ht, Result.andThen_ok, Sem.run_pure, this]
theorem EqI {t : TypeId} {k : IntKind} {a b : Int} (ht : P.underlying t = some (.int k)) : (Op.equalIn (d + 1) t (.int k a) (.int k b)).run P w = .ok (decide (a = b)) w := by
  have : (a == b) = decide (a = b) := by rw [Bool.eq_iff_iff]; simp
  simp [Op.equalIn, run_underlying ht, this]
theorem EqB {t : TypeId} {a b : Bool} (ht : P.underlying t = some .bool) : (Op.equalIn (d + 1) t (.bool a) (.bool b)).run P w = .ok (a == b) w := by
  simp [Op.equalIn, run_underlying ht]
def FEq (P : Program) (d : Nat) (xs ys : Array Value) (w : World) : List (TypeId × Nat) → List Bool → Prop
  | [], [] => True
  | (t, o) :: s, r :: rs => (∃ a b, (part t xs o).run P w = .ok a w ∧ (part t ys o).run P w = .ok b w ∧ (Op.equalIn d t a b).run P w = .ok r w) ∧ FEq P d xs ys w s rs
  | _, _ => False
def fieldsAre : List Field → List (TypeId × Nat) → Bool
  | [], [] => true
  | f :: fs, (t, o) :: s => f.name != "_" && (Nat.beq f.type t && (Nat.beq f.offset o && fieldsAre fs s))
  | _, _ => false
def andL : List Bool → Bool
  | [] => true
  | [r] => r
  | r :: rs => r && andL rs
theorem andL_cons (r : Bool) (rs : List Bool) : andL (r :: rs) = (r && andL rs) := by cases rs <;> simp [andL]
theorem FEq.run : ∀ {fs : List Field} {s : List (TypeId × Nat)} {rs : List Bool}, fieldsAre fs s = true → FEq P d xs ys w s rs → (Op.eqFields d xs ys fs).run P w = .ok (andL rs) w
  | [], [], [], _, _ => by simp [Op.eqFields, andL]
  | f :: fs, (t, o) :: s, r :: rs, h, ⟨⟨a, b, ha, hb, hr⟩, h2⟩ => by
    simp only [fieldsAre, Bool.and_eq_true, bne_iff_ne] at h
    obtain ⟨h1, h3, h4, h5⟩ := h
    have e1 := Nat.eq_of_beq_eq_true h3
    have e2 := Nat.eq_of_beq_eq_true h4
    subst e1; subst e2
    have ih := FEq.run h5 h2
    rw [andL_cons]
    simp only [Op.eqFields, h1, ne_eq, not_false_eq_true, if_true, Sem.run_bind, ha, hb, hr, Result.andThen_ok]
    cases r
    · simp
    · simpa using ih
  | [], [], _ :: _, _, h => h.elim
  | [], _ :: _, _, h, _ => by simp [fieldsAre] at h
  | _ :: _, [], _, h, _ => by simp [fieldsAre] at h
  | _ :: _, _ :: _, [], _, h => h.elim
theorem X_aggNe {o : Oper} {ρ : Operand → Value} {t t' : TypeId} {x y : Operand} {xs ys : Array Value} {s : List (TypeId × Nat)} {rs : List Bool} (ho : o.op = .binOp .neq t x y t') (hx : ρ x = .agg xs) (hy : ρ y = .agg ys) (hg : P.eqGuardType P.depth t = false)
    (ht : P.underlying t = some (.struct (P.fieldsOf t))) (hp : P.stoodInHeld t = false) (hf : fieldsAre (P.fieldsOf t).toList s = true) (h : ∀ w, FEq P 9999 xs ys w s rs) (w : World) : (execOp ρ o).run P w = .ok (.value (.bool (!andL rs))) w := by
  unfold execOp
  simp only [ho, hx, hy, Sem.run_bind, run_eqGuard_agg w .neq t x y xs ys hg, Result.andThen_ok, run_neq_struct, run_equalIn_struct w 9999 t xs ys ht hp, FEq.run hf (h w), Sem.run_pure]
theorem Y28 {o : Oper} {ρ : Operand → Value} {t t' : TypeId} {x y : Operand} {xs ys : Array Value} {s : List (TypeId × Nat)} {rs : List Bool} (ho : o.op = .binOp .neq t x y t') (h : ∀ w, FEq P 9999 xs ys w s rs) (w : World) (hx : ρ x = .agg xs := by kernel_rfl) (hy : ρ y = .agg ys := by kernel_rfl) (hg : P.eqGuardType P.depth t = false := by kernel_rfl) (ht : P.underlying t = some (.struct (P.fieldsOf t)) := by kernel_rfl) (hp : P.stoodInHeld t = false := by kernel_rfl) (hf : fieldsAre (P.fieldsOf t).toList s = true := by kernel_rfl) : (execOp ρ o).run P w = .ok (.value (.bool (!andL rs))) w := X_aggNe ho hx hy hg ht hp hf h w
end
end Go.Vc
end

section
set_option linter.unusedVariables false
set_option linter.unusedSimpArgs false
namespace Go.Proofs.YtalifkcchfkgmaaGreatDoor
open Go Go.Vc Go.RowKit
def law09_SchemaTells_s1 (n : Nat) (x_4 : List T_api_Spec × Int) (x_5 : List T_api_Spec × Int) (s_1 : List T_api_Spec × Int) : Option (Lp (List T_api_Spec × Int) (Sum Unit Unit)) :=
    bif (decide (s_1.2 < ((x_4.1.length : Nat) : Int))) then
      ((getI s_1.1 s_1.2).bind fun x_6 =>
      (getI x_5.1 s_1.2).bind fun x_7 =>
      bif (!(andL [decide (x_6.fName = x_7.fName), decide (x_6.fKind = x_7.fKind), (x_6.fReplace == x_7.fReplace)])) then
        (some (.br (.inl ())))
      else
        need (inR .i64 (s_1.2 + 1)) <|
        some (.nx (s_1.1, s_1.2 + 1)))
    else
      some (.br (.inr ()))
def law09_SchemaTells (n : Nat) (d0 : List UInt8) (d1 : List UInt8) (d2 : List UInt8) (d3 : List T_api_Given) (d4 : List T_api_Given) : Option Bool :=
  ((bif (decide ((200 : Int) < (d0.length : Int))) then
      (some ((true)))
    else
      bif (decide ((200 : Int) < (d1.length : Int))) then
        (some ((true)))
      else
        bif (decide ((200 : Int) < (d2.length : Int))) then
          (some ((true)))
        else
          (ref09_Great n d3).bind fun x_1 =>
          bif x_1 then
            (some ((true)))
          else
            (ref09_Great n d4).bind fun x_2 =>
            some ((x_2)) : Option Bool)).bind fun y_1 =>
  bif y_1 then
    ((law09_wakes n).bind fun x_3 =>
    some ((x_3)))
  else
    (schema_Specs n d0).bind fun x_4 =>
    (ref09_Specs n d0).bind fun x_5 =>
    ((bif (!(decide (x_4.2 = x_5.2))) then
        (some ((true)))
      else
        some ((!(decide (((x_4.1.length : Nat) : Int) = ((x_5.1.length : Nat) : Int))))) : Option Bool)).bind fun y_2 =>
    bif y_2 then
      (some ((false)))
    else
      (loopF (law09_SchemaTells_s1 n x_4 x_5) n (x_4.1, (0 : Int))).bind fun b_1 =>
      (match b_1 with 
      | .inl y_3 => some ((false)) 
      | .inr y_4 => (schema_Find n d0 d1).bind fun x_8 =>
        (ref09_Find n d0 d1).bind fun x_9 =>
        (schema_Attr n d0 d2 d1).bind fun x_10 =>
        (ref09_Attr n d0 d2 d1).bind fun x_11 =>
        ((bif (!(andL [decide (x_8.1.fName = x_9.1.fName), decide (x_8.1.fKind = x_9.1.fKind), (x_8.1.fReplace == x_9.1.fReplace)])) then
            (some ((true)))
          else
            bif (!(x_8.2 == x_9.2)) then
              (some ((true)))
            else
              bif (!(decide (x_10.1 = x_11.1))) then
                (some ((true)))
              else
                bif (!(decide (x_10.2 = x_11.2))) then
                  (some ((true)))
                else
                  (schema_Check n d0 d3).bind fun x_12 =>
                  (ref09_Check n d0 d3).bind fun x_13 =>
                  bif (!(decide (x_12 = x_13))) then
                    (some ((true)))
                  else
                    (schema_Same n d3 d4).bind fun x_14 =>
                    (ref09_Same n d3 d4).bind fun x_15 =>
                    some ((!(x_14 == x_15))) : Option Bool)).bind fun y_5 =>
        bif y_5 then
          (some ((false)))
        else
          (schema_Differ n d0 d3 d4).bind fun x_16 =>
          (ref09_Differ n d0 d3 d4).bind fun x_17 =>
          bif (decide (x_16.1 = x_17.1)) then
            (bif (decide (x_16.2 = x_17.2)) then
              ((law09_wakes n).bind fun x_18 =>
              some ((x_18)))
            else
              some ((false)))
          else
            some ((false)))
set_option maxHeartbeats 2000000 in
theorem law09_SchemaTells_ok (n : Nat) (M : Mem) (hG : GL M) (d0 : List UInt8) (d1 : List UInt8) (d2 : List UInt8) (A3 : Option Addr) (cap3 : Nat) (d3 : List T_api_Given) (h3 : Sli M 8 emb_T_api_Given A3 cap3 d3) (A4 : Option Addr) (cap4 : Nat) (d4 : List T_api_Given) (h4 : Sli M 8 emb_T_api_Given A4 cap4 d4) (r : Bool) (hF : law09_SchemaTells n d0 d1 d2 d3 d4 = some r) : Ok Tryz.prog M 6 [S d0, S d1, S d2, .slice A3 d3.length cap3, .slice A4 d4.length cap4] (fun _ v => v = .bool r) := by
 unfold law09_SchemaTells at hF
 intro M1 hM0 w0 H w p0
 replace hG := GL.mono hM0 hG
 replace h3 := h3.mono hM0
 replace h4 := h4.mono hM0
 refine R_enter 168 Tryz.func6 rfl rfl (by simp) fun a0 f0 => ?_
 refine R_seq (R_reg ?_)
 refine Y19 f0 1 fun _ f => ?_
 refine W_end rfl (T_n (R_seq (R_seq ?_)))
 obtain ⟨j_1, hj_1, hF_1⟩ := bS hF
 refine R_mid (fun a_15 w_3 => ∃ y_1 : Bool, j_1 = y_1 ∧ ∃ M_1 : Mem, M1.le M_1 ∧ Frm 168 [(0, S d0), (1, S d1), (2, S d2), (3, .slice A3 d3.length cap3), (4, .slice A4 d4.length cap4), (44, .bool y_1)] a_15 ∧ Hp w0 M_1 (H) w_3) ?_ ?_
 ·refine R_reg ?_
  refine Y19 f 4 fun _ f => ?_
  rcases bE (decide ((200 : Int) < (d0.length : Int))) with h_1 | h_1
  ·have k_1 : (200 : Int) < (d0.length : Int) := dI.1 h_1
   have hF_2 := cnd_t h_1 hj_1
   have f := Frm.set f 27 (v := .bool (decide ((200 : Int) < (d0.length : Int)))) (v' := .bool true) (by kernel_rfl) (cB h_1)
   refine Y19 f 17 fun _ f => ?_
   refine W_end rfl (T_n ?_)
   exact ⟨(true), (sI hF_2).symm, M1, (mR _), f.keep (ks := [0, 1, 2, 3, 4, 44]) (by kernel_rfl), p0⟩
  ·have k_2 : ¬ ((200 : Int) < (d0.length : Int)) := iff_f dI h_1
   have hF_3 := cnd_f h_1 hj_1
   have f := Frm.set f 27 (v := .bool (decide ((200 : Int) < (d0.length : Int)))) (v' := .bool false) (by kernel_rfl) (cB h_1)
   refine Y19 f 5 fun _ f => ?_
   rcases bE (decide ((200 : Int) < (d1.length : Int))) with h_2 | h_2
   ·have k_3 : (200 : Int) < (d1.length : Int) := dI.1 h_2
    have hF_4 := cnd_t h_2 hF_3
    have f := Frm.set f 32 (v := .bool (decide ((200 : Int) < (d1.length : Int)))) (v' := .bool true) (by kernel_rfl) (cB h_2)
    refine Y19 f 12 fun _ f => ?_
    refine W_end rfl (T_n ?_)
    exact ⟨(true), (sI hF_4).symm, M1, (mR _), f.keep (ks := [0, 1, 2, 3, 4, 44]) (by kernel_rfl), p0⟩
   ·have k_4 : ¬ ((200 : Int) < (d1.length : Int)) := iff_f dI h_2
    have hF_5 := cnd_f h_2 hF_3
    have f := Frm.set f 32 (v := .bool (decide ((200 : Int) < (d1.length : Int)))) (v' := .bool false) (by kernel_rfl) (cB h_2)
    refine Y19 f 5 fun _ f => ?_
    rcases bE (decide ((200 : Int) < (d2.length : Int))) with h_3 | h_3
    ·have k_5 : (200 : Int) < (d2.length : Int) := dI.1 h_3
     have hF_6 := cnd_t h_3 hF_5
     have f := Frm.set f 37 (v := .bool (decide ((200 : Int) < (d2.length : Int)))) (v' := .bool true) (by kernel_rfl) (cB h_3)
     refine Y19 f 7 fun _ f => ?_
     refine W_end rfl (T_n ?_)
     exact ⟨(true), (sI hF_6).symm, M1, (mR _), f.keep (ks := [0, 1, 2, 3, 4, 44]) (by kernel_rfl), p0⟩
    ·have k_6 : ¬ ((200 : Int) < (d2.length : Int)) := iff_f dI h_3
     have hF_7 := cnd_f h_3 hF_5
     have f := Frm.set f 37 (v := .bool (decide ((200 : Int) < (d2.length : Int)))) (v' := .bool false) (by kernel_rfl) (cB h_3)
     refine Y19 f 1 fun _ f => ?_
     obtain ⟨x_1, hx_1, hF_8⟩ := bS hF_7
     refine Y18 f p0 (ref09_Great_ok n _ hG A3 cap3 d3 h3 x_1 hx_1) fun w_1 p_1 _ f => ?_
     refine Y19 f 2 fun _ f => ?_
     rcases bE (x_1) with h_4 | h_4
     ·have hF_9 := cnd_t h_4 hF_8
      have f := Frm.set f 41 (v := .bool x_1) (v' := .bool true) (by kernel_rfl) (cB h_4)
      refine Y19 f 3 fun _ f => ?_
      refine W_end rfl (T_n ?_)
      exact ⟨(true), (sI hF_9).symm, M1, (mR _), f.keep (ks := [0, 1, 2, 3, 4, 44]) (by kernel_rfl), p_1⟩
     ·have hF_10 := cnd_f h_4 hF_8
      have f := Frm.set f 41 (v := .bool x_1) (v' := .bool false) (by kernel_rfl) (cB h_4)
      refine Y19 f 1 fun _ f => ?_
      obtain ⟨x_2, hx_2, hF_11⟩ := bS hF_10
      refine Y18 f p_1 (ref09_Great_ok n _ hG A4 cap4 d4 h4 x_2 hx_2) fun w_2 p_2 _ f => ?_
      refine Y19 f 1 fun _ f => ?_
      refine W_end rfl (T_n ?_)
      exact ⟨(x_2), (sI hF_11).symm, M1, (mR _), f.keep (ks := [0, 1, 2, 3, 4, 44]) (by kernel_rfl), p_2⟩
 ·rintro a_15 w_3 ⟨y_1, hq_1, M_1, hM_1, f, p_3⟩
  subst j_1
  refine T_n ?_
  refine Y6 f (b := y_1) (fun h_5 => ?_) fun h_5 => ?_
  ·have hF_12 := cnd_t h_5 hF_1
   refine R_seq (R_reg ?_)
   obtain ⟨x_3, hx_3, hF_13⟩ := bS hF_12
   refine Y18 f p_3 (law09_wakes_ok n _ (GL.mono hM_1 hG) x_3 hx_3) fun w_4 p_4 _ f => ?_
   refine Y19 f 1 fun _ f => ?_
   refine W_end rfl (T_n (wp_ret (T_r ?_)))
   refine E_ret1 f rfl (by kernel_rfl : Vc.look _ 10 = some (.bool x_3)) ?_
   obtain rfl := sI hF_13
   exact ⟨_, rfl, M_1, hM_1, p_4, rfl⟩
  ·have hF_14 := cnd_f h_5 hF_1
   refine wp_skip (T_n (R_seq (R_reg ?_)))
   refine Y19 f 1 fun _ f => ?_
   obtain ⟨x_4, hx_4, hF_15⟩ := bS hF_14
   refine Y17 (E := []) (H := (H)) f p_3 (schema_Specs_ok n _ (GL.mono hM_1 hG) d0 x_4 hx_4) fun _ M_2 E_1 w_5 hM_2 p_5 q_1 _ f => ?_
   obtain ⟨A_1, cap_1, cs_1, rfl, rfl, hr_1⟩ := q_1
   refine Y19 f 5 fun _ f => ?_
   refine W_end rfl (T_n (R_seq (R_reg ?_)))
   refine Y19 f 1 fun _ f => ?_
   obtain ⟨x_5, hx_5, hF_16⟩ := bS hF_15
   refine Y16 f p_5 (ref09_Specs_ok n _ (GL.mono (hM_1.trans hM_2) hG) d0 x_5 hx_5) fun _ M_3 w_6 hM_3 p_6 q_2 _ f => ?_
   obtain ⟨A_2, cap_2, rfl, h_6⟩ := q_2
   refine Y19 f 5 fun _ f => ?_
   refine W_end rfl (T_n (R_seq (R_seq ?_)))
   obtain ⟨j_2, hj_2, hF_17⟩ := bS hF_16
   refine R_mid (fun a_27 w_7 => ∃ y_2 : Bool, j_2 = y_2 ∧ ∃ M_4 : Mem, M_3.le M_4 ∧ Frm 168 [(0, S d0), (1, S d1), (2, S d2), (3, .slice A3 d3.length cap3), (4, .slice A4 d4.length cap4), (11, .slice A_1 x_4.1.length cap_1), (13, .slice A_2 x_5.1.length cap_2), (65, .bool y_2)] a_27 ∧ Hp w0 M_4 ((Ent.row 64 3 (.slice A_1 x_4.1.length cap_1) x_4.1.length cs_1) :: H) w_7) ?_ ?_
   ·refine R_reg ?_
    refine Y19 f 4 fun _ f => ?_
    rcases bE (!(decide (x_4.2 = x_5.2))) with h_7 | h_7
    ·have k_11 : ¬ (x_4.2 = x_5.2) := (not_iff dI).1 h_7
     have hF_18 := cnd_t h_7 hj_2
     have f := Frm.set f 59 (v := .bool (!(decide (x_4.2 = x_5.2)))) (v' := .bool true) (by kernel_rfl) (cB h_7)
     refine Y19 f 6 fun _ f => ?_
     refine W_end rfl (T_n ?_)
     exact ⟨(true), (sI hF_18).symm, M_3, (mR _), f.keep (ks := [0, 1, 2, 3, 4, 11, 13, 65]) (by kernel_rfl), p_6⟩
    ·have k_12 : ¬ (¬ (x_4.2 = x_5.2)) := iff_f (not_iff dI) h_7
     have hF_19 := cnd_f h_7 hj_2
     have f := Frm.set f 59 (v := .bool (!(decide (x_4.2 = x_5.2)))) (v' := .bool false) (by kernel_rfl) (cB h_7)
     refine Y19 f 6 fun _ f => ?_
     refine W_end rfl (T_n ?_)
     exact ⟨(!(decide (((x_4.1.length : Nat) : Int) = ((x_5.1.length : Nat) : Int)))), (sI hF_19).symm, M_3, (mR _), f.keep (ks := [0, 1, 2, 3, 4, 11, 13, 65]) (by kernel_rfl), p_6⟩
   ·rintro a_27 w_7 ⟨y_2, hq_2, M_4, hM_4, f, p_7⟩
    subst j_2
    refine T_n ?_
    refine Y6 f (b := y_2) (fun h_8 => ?_) fun h_8 => ?_
    ·have hF_20 := cnd_t h_8 hF_17
     refine R_seq (R_reg ?_)
     refine Y19 f 1 fun _ f => ?_
     refine W_end rfl (T_n (wp_ret (T_r ?_)))
     refine E_ret1 f rfl (by kernel_rfl : Vc.look _ 10 = some (.bool false)) ?_
     obtain rfl := sI hF_20
     exact ⟨_, rfl, M_4, (((hM_1.trans hM_2).trans hM_3).trans hM_4), (p_7.dropN 1), rfl⟩
    ·have hF_21 := cnd_f h_8 hF_17
     refine wp_skip (T_n (R_seq (R_seq (R_reg ?_))))
     refine Y19 f 3 fun _ f => ?_
     refine W_end rfl (T_n (wp_block ?_))
     obtain ⟨A_3, cap_3, M_5, hv_1, hM_5, p_8, h_9⟩ := p_7.rowSli (f := emb_T_api_Spec) (xs := x_4.1) szd_T_api_Spec (RepSeq.mono (hM_3.trans hM_4) _ _ hr_1)
     have f := Frm.set f 11 (v := .slice A_1 x_4.1.length cap_1) (v' := .slice A_3 x_4.1.length cap_3) (by kernel_rfl) (hv_1)
     obtain ⟨b_1, hL_1, hF_22⟩ := bS hF_21
     refine wp_mono (Q := fun e a w => (e = .ret ∧ (∃ y_3 : Unit, b_1 = .inl y_3 ∧ ∃ M_7 : Mem, M_5.le M_7 ∧ Frm 168 [(10, .bool false)] a ∧ Hp w0 M_7 (H) w)) ∨ (e = .exit 0 ∧ (∃ y_4 : Unit, b_1 = .inr y_4 ∧ ∃ M_8 : Mem, M_5.le M_8 ∧ Frm 168 [(0, S d0), (1, S d1), (2, S d2), (3, .slice A3 d3.length cap3), (4, .slice A4 d4.length cap4)] a ∧ Hp w0 M_8 (H) w))) (R_loop (n := 168) (w0 := w0) (M := M_5) (fun (x : Nat × (List T_api_Spec × Int) × (Option Addr) × Nat) => match x with | (m_1, s_1, A_4, cap_4) => [(0, S d0), (1, S d1), (2, S d2), (3, .slice A3 d3.length cap3), (4, .slice A4 d4.length cap4), (11, .slice A_4 s_1.1.length cap_4), (13, .slice A_2 x_5.1.length cap_2), (67, .int .i64 ((x_4.1.length : Nat) : Int)), (68, .int .i64 s_1.2)]) (fun (x : Nat × (List T_api_Spec × Int) × (Option Addr) × Nat) => match x with | (m_1, s_1, A_4, cap_4) => (H)) (fun (x : Nat × (List T_api_Spec × Int) × (Option Addr) × Nat) (MM : Mem) => match x with | (m_1, s_1, A_4, cap_4) => loopF (law09_SchemaTells_s1 n x_4 x_5) m_1 s_1 = some b_1 ∧ Sli MM 3 emb_T_api_Spec A_4 cap_4 s_1.1) (fun (x : Nat × (List T_api_Spec × Int) × (Option Addr) × Nat) => match x with | (m_1, s_1, A_4, cap_4) => m_1) (n, (x_4.1, (0 : Int)), A_3, cap_3) (f.keep (ks := [0, 1, 2, 3, 4, 11, 13, 67, 68]) (by kernel_rfl)) p_8 ⟨hL_1, h_9⟩ ?_) ?_
     ·rintro ⟨m_1, s_1, A_4, cap_4⟩ M_6 _ w_8 hM_6 I_1 f p_9
      obtain ⟨I_1L, h_10⟩ := I_1
      obtain ⟨m_2, r_1, rfl, hs_1, hn_1⟩ := loop_step I_1L
      unfold law09_SchemaTells_s1 at hs_1
      refine R_seq (R_reg ?_)
      refine Y19 f 1 fun _ f => ?_
      refine W_end rfl (T_n (R_seq ?_))
      refine Y6 f (b := decide (s_1.2 < ((x_4.1.length : Nat) : Int))) (fun h_11 => ?_) fun h_11 => ?_
      ·have k_15 : s_1.2 < ((x_4.1.length : Nat) : Int) := dI.1 h_11
       have hF_23 := cnd_t h_11 hs_1
       refine wp_skip (T_n (R_seq (wp_block (R_seq (R_reg ?_)))))
       refine Y19 f 2 fun _ f => ?_
       refine W_end rfl (T_n (R_seq ?_))
       refine R_draw p_9 (by kernel_rfl) (by kernel_rfl) ?_
       refine Y5 default f 2 fun _ f => ?_
       obtain ⟨x_6, hx_6, hF_24⟩ := bS hF_23
       obtain ⟨ad_1, c_1, e_1, hl_1, hr_2, hc_1⟩ := Sli.at_ h_10 hx_6
       clear hl_1
       obtain rfl := T_api_Spec.opn hr_2
       refine Y2 (v := .pointer (some (ad_1.add (s_1.2.toNat * 3)))) f (fun _ pq => Y31 e_1 rfl (len := s_1.1.length) (cap := cap_4) (k := .i64) (i := s_1.2) (e := 64) (sz := 3) (getI_nn hx_6) (getI_lt hx_6)) fun _ f => ?_
       refine Y2 (v := .agg #[S x_6.fName, .int .i8 x_6.fKind, .bool x_6.fReplace]) f (fun _ pq => Y33 (cs := [S x_6.fName, .int .i8 x_6.fKind, .bool x_6.fReplace]) rfl (ad := ad_1.add (s_1.2.toNat * 3)) (fun j v h => pq.cell (hc_1 j v h))) fun _ f => ?_
       refine Y5 default f 2 fun _ f => ?_
       obtain ⟨x_7, hx_7, hF_25⟩ := bS hF_24
       obtain ⟨ad_2, c_2, e_2, hl_2, hr_3, hc_2⟩ := Sli.at_ (h_6.mono ((hM_4.trans hM_5).trans hM_6)) hx_7
       clear hl_2
       obtain rfl := T_api_Spec.opn hr_3
       refine Y2 (v := .pointer (some (ad_2.add (s_1.2.toNat * 3)))) f (fun _ pq => Y31 e_2 rfl (len := x_5.1.length) (cap := cap_2) (k := .i64) (i := s_1.2) (e := 64) (sz := 3) (getI_nn hx_7) (getI_lt hx_7)) fun _ f => ?_
       refine Y2 (v := .agg #[S x_7.fName, .int .i8 x_7.fKind, .bool x_7.fReplace]) f (fun _ pq => Y33 (cs := [S x_7.fName, .int .i8 x_7.fKind, .bool x_7.fReplace]) rfl (ad := ad_2.add (s_1.2.toNat * 3)) (fun j v h => pq.cell (hc_2 j v h))) fun _ f => ?_
       refine Y2 (v := .bool (!(andL [decide (x_6.fName = x_7.fName), decide (x_6.fKind = x_7.fKind), (x_6.fReplace == x_7.fReplace)]))) f (fun _ pq => Y28 rfl (xs := #[S x_6.fName, .int .i8 x_6.fKind, .bool x_6.fReplace]) (ys := #[S x_7.fName, .int .i8 x_7.fKind, .bool x_7.fReplace]) (s := [(9, 0), (62, 1), (4, 2)]) (rs := [decide (x_6.fName = x_7.fName), decide (x_6.fKind = x_7.fKind), (x_6.fReplace == x_7.fReplace)]) (fun w => ⟨⟨S x_6.fName, S x_7.fName, by kernel_rfl, by kernel_rfl, EqS (by kernel_rfl)⟩, ⟨.int .i8 x_6.fKind, .int .i8 x_7.fKind, by kernel_rfl, by kernel_rfl, EqI (by kernel_rfl)⟩, ⟨.bool x_6.fReplace, .bool x_7.fReplace, by kernel_rfl, by kernel_rfl, EqB (by kernel_rfl)⟩, trivial⟩) _) fun _ f => ?_
       refine Q_end rfl ?_
       intro w_9 p_10
       refine T_n ?_
       refine Y6 f (b := !(andL [decide (x_6.fName = x_7.fName), decide (x_6.fKind = x_7.fKind), (x_6.fReplace == x_7.fReplace)])) (fun h_12 => ?_) fun h_12 => ?_
       ·have k_16 : (andL [decide (x_6.fName = x_7.fName), decide (x_6.fKind = x_7.fKind), (x_6.fReplace == x_7.fReplace)]) = false := by simpa using h_12
        have hF_26 := cnd_t h_12 hF_25
        refine R_seq (R_reg ?_)
        refine Y19 f 1 fun _ f => ?_
        refine W_end rfl (T_n (wp_ret (B_r (T_r (T_r ?_)))))
        obtain rfl := sI hF_26
        exact .inl ⟨rfl, (), (sI hn_1).symm, M_6, hM_6, f.keep (ks := [10]) (by kernel_rfl), p_10⟩
       ·have k_17 : (andL [decide (x_6.fName = x_7.fName), decide (x_6.fKind = x_7.fKind), (x_6.fReplace == x_7.fReplace)]) = true := by simpa using h_12
        have hF_27 := cnd_f h_12 hF_25
        refine wp_skip (B_n (T_n (R_reg ?_)))
        obtain ⟨g_1, hF_28⟩ := nS hF_27
        refine Y19 f 1 fun _ f => ?_
        have f := Frm.set f 80 (v := .int .i64 (IntKind.wrap .i64 (s_1.2 + 1))) (v' := .int .i64 (s_1.2 + 1)) (by kernel_rfl) (congrArg (Value.int .i64) (inR_wrap g_1))
        refine Y19 f 1 fun _ f => ?_
        refine W_end rfl (T_n ?_)
        obtain rfl := sI hF_28
        exact ⟨⟨m_2, (s_1.1, s_1.2 + 1), A_4, cap_4⟩, Nat.lt_succ_self _, M_6, hM_6, ⟨hn_1, h_10⟩, f.keep (ks := [0, 1, 2, 3, 4, 11, 13, 67, 68]) (by kernel_rfl), p_10⟩
      ·have k_18 : ¬ (s_1.2 < ((x_4.1.length : Nat) : Int)) := iff_f dI h_11
       have hF_29 := cnd_f h_11 hs_1
       refine wp_exit (T_x (T_x ?_))
       obtain rfl := sI hF_29
       exact .inr ⟨rfl, (), (sI hn_1).symm, M_6, hM_6, f.keep (ks := [0, 1, 2, 3, 4]) (by kernel_rfl), p_9⟩
     ·rintro _ _ w_12 (⟨rfl, y_3, rfl, M_7, hM_7, f, p_11⟩ | ⟨rfl, y_4, rfl, M_8, hM_8, f, p_12⟩)
      ·refine B_r (T_r ?_)
       refine E_ret1 f rfl (by kernel_rfl : Vc.look _ 10 = some (.bool false)) ?_
       obtain rfl := sI hF_22
       exact ⟨_, rfl, M_7, (((((hM_1.trans hM_2).trans hM_3).trans hM_4).trans hM_5).trans hM_7), p_11, rfl⟩
      ·refine B_x (T_n (R_seq (R_reg ?_)))
       refine Y19 f 2 fun _ f => ?_
       obtain ⟨x_8, hx_8, hF_30⟩ := bS hF_22
       refine Y16 f p_12 (schema_Find_ok n _ (GL.mono (((((hM_1.trans hM_2).trans hM_3).trans hM_4).trans hM_5).trans hM_8) hG) d0 d1 x_8 hx_8) fun _ M_9 w_13 hM_9 p_13 q_3 _ f => ?_
       obtain ⟨c_3, rfl, hr_4⟩ := q_3
       obtain rfl := T_api_Spec.opn hr_4
       refine Y19 f 3 fun _ f => ?_
       refine Y12 f p_13 (.cells #[S [], .int .i8 0, .bool false] 64 (0, 0)) fun b_2 w_14 p_14 _ f => ?_
       refine Y27 (vs := [S x_8.1.fName, .int .i8 x_8.1.fKind, .bool x_8.1.fReplace]) (j := 0) f p_14 rfl rfl (by simp [Value.oneCell', S]) (by simp) (by decide) (cs' := #[S x_8.1.fName, .int .i8 x_8.1.fKind, .bool x_8.1.fReplace]) fun w_15 p_15 _ f => ?_
       refine Y19 f 1 fun _ f => ?_
       refine W_end rfl (T_n (R_seq (R_reg ?_)))
       refine Y19 f 2 fun _ f => ?_
       obtain ⟨x_9, hx_9, hF_31⟩ := bS hF_30
       refine Y16 f p_15 (ref09_Find_ok n _ (GL.mono ((((((hM_1.trans hM_2).trans hM_3).trans hM_4).trans hM_5).trans hM_8).trans hM_9) hG) d0 d1 x_9 hx_9) fun _ M_10 w_16 hM_10 p_16 q_4 _ f => ?_
       obtain ⟨c_4, rfl, hr_5⟩ := q_4
       obtain rfl := T_api_Spec.opn hr_5
       refine Y19 f 3 fun _ f => ?_
       refine Y12 f p_16 (.cells #[S [], .int .i8 0, .bool false] 64 (0, 0)) fun b_3 w_17 p_17 _ f => ?_
       refine Y27 (vs := [S x_9.1.fName, .int .i8 x_9.1.fKind, .bool x_9.1.fReplace]) (j := 0) f p_17 rfl rfl (by simp [Value.oneCell', S]) (by simp) (by decide) (cs' := #[S x_9.1.fName, .int .i8 x_9.1.fKind, .bool x_9.1.fReplace]) fun w_18 p_18 _ f => ?_
       refine Y19 f 1 fun _ f => ?_
       refine W_end rfl (T_n (R_seq (R_reg ?_)))
       refine Y19 f 3 fun _ f => ?_
       obtain ⟨x_10, hx_10, hF_32⟩ := bS hF_31
       refine Y18 f p_18 (schema_Attr_ok n _ (GL.mono (((((((hM_1.trans hM_2).trans hM_3).trans hM_4).trans hM_5).trans hM_8).trans hM_9).trans hM_10) hG) d0 d2 d1 x_10 hx_10) fun w_19 p_19 _ f => ?_
       refine Y19 f 5 fun _ f => ?_
       refine W_end rfl (T_n (R_seq (R_reg ?_)))
       refine Y19 f 3 fun _ f => ?_
       obtain ⟨x_11, hx_11, hF_33⟩ := bS hF_32
       refine Y18 f p_19 (ref09_Attr_ok n _ (GL.mono (((((((hM_1.trans hM_2).trans hM_3).trans hM_4).trans hM_5).trans hM_8).trans hM_9).trans hM_10) hG) d0 d2 d1 x_11 hx_11) fun w_20 p_20 _ f => ?_
       refine Y19 f 5 fun _ f => ?_
       refine W_end rfl (T_n (R_seq (R_seq ?_)))
       obtain ⟨j_3, hj_3, hF_34⟩ := bS hF_33
       refine R_mid (fun a_88 w_25 => ∃ y_5 : Bool, j_3 = y_5 ∧ ∃ M_11 : Mem, M_10.le M_11 ∧ Frm 168 [(0, S d0), (3, .slice A3 d3.length cap3), (4, .slice A4 d4.length cap4), (142, .bool y_5)] a_88 ∧ Hp w0 M_11 ((Ent.obj b_3 (.cells #[S x_9.1.fName, .int .i8 x_9.1.fKind, .bool x_9.1.fReplace] 64 (0, 0))) :: (Ent.obj b_2 (.cells #[S x_8.1.fName, .int .i8 x_8.1.fKind, .bool x_8.1.fReplace] 64 (0, 0))) :: H) w_25) ?_ ?_
       ·refine R_reg ?_
        refine Y14 (v := .agg #[S x_8.1.fName, .int .i8 x_8.1.fKind, .bool x_8.1.fReplace]) f (Y33 (cs := [S x_8.1.fName, .int .i8 x_8.1.fKind, .bool x_8.1.fReplace]) rfl (ad := ⟨b_2, 0, none⟩) (own_cells (p_20.ownCell 1 rfl) 0 rfl)) fun _ f => ?_
        refine Y14 (v := .agg #[S x_9.1.fName, .int .i8 x_9.1.fKind, .bool x_9.1.fReplace]) f (Y33 (cs := [S x_9.1.fName, .int .i8 x_9.1.fKind, .bool x_9.1.fReplace]) rfl (ad := ⟨b_3, 0, none⟩) (own_cells (p_20.ownCell 0 rfl) 0 rfl)) fun _ f => ?_
        refine Y14 (v := .bool (!(andL [decide (x_8.1.fName = x_9.1.fName), decide (x_8.1.fKind = x_9.1.fKind), (x_8.1.fReplace == x_9.1.fReplace)]))) f (Y28 rfl (xs := #[S x_8.1.fName, .int .i8 x_8.1.fKind, .bool x_8.1.fReplace]) (ys := #[S x_9.1.fName, .int .i8 x_9.1.fKind, .bool x_9.1.fReplace]) (s := [(9, 0), (62, 1), (4, 2)]) (rs := [decide (x_8.1.fName = x_9.1.fName), decide (x_8.1.fKind = x_9.1.fKind), (x_8.1.fReplace == x_9.1.fReplace)]) (fun w => ⟨⟨S x_8.1.fName, S x_9.1.fName, by kernel_rfl, by kernel_rfl, EqS (by kernel_rfl)⟩, ⟨.int .i8 x_8.1.fKind, .int .i8 x_9.1.fKind, by kernel_rfl, by kernel_rfl, EqI (by kernel_rfl)⟩, ⟨.bool x_8.1.fReplace, .bool x_9.1.fReplace, by kernel_rfl, by kernel_rfl, EqB (by kernel_rfl)⟩, trivial⟩) _) fun _ f => ?_
        refine Y19 f 1 fun _ f => ?_
        rcases bE (!(andL [decide (x_8.1.fName = x_9.1.fName), decide (x_8.1.fKind = x_9.1.fKind), (x_8.1.fReplace == x_9.1.fReplace)])) with h_13 | h_13
        ·have k_19 : (andL [decide (x_8.1.fName = x_9.1.fName), decide (x_8.1.fKind = x_9.1.fKind), (x_8.1.fReplace == x_9.1.fReplace)]) = false := by simpa using h_13
         have hF_35 := cnd_t h_13 hj_3
         have f := Frm.set f 110 (v := .bool (!(andL [decide (x_8.1.fName = x_9.1.fName), decide (x_8.1.fKind = x_9.1.fKind), (x_8.1.fReplace == x_9.1.fReplace)]))) (v' := .bool true) (by kernel_rfl) (cB h_13)
         refine Y19 f 32 fun _ f => ?_
         refine W_end rfl (T_n ?_)
         exact ⟨(true), (sI hF_35).symm, M_10, (mR _), f.keep (ks := [0, 3, 4, 142]) (by kernel_rfl), p_20⟩
        ·have k_20 : (andL [decide (x_8.1.fName = x_9.1.fName), decide (x_8.1.fKind = x_9.1.fKind), (x_8.1.fReplace == x_9.1.fReplace)]) = true := by simpa using h_13
         have hF_36 := cnd_f h_13 hj_3
         have f := Frm.set f 110 (v := .bool (!(andL [decide (x_8.1.fName = x_9.1.fName), decide (x_8.1.fKind = x_9.1.fKind), (x_8.1.fReplace == x_9.1.fReplace)]))) (v' := .bool false) (by kernel_rfl) (cB h_13)
         refine Y19 f 5 fun _ f => ?_
         rcases bE (!(x_8.2 == x_9.2)) with h_14 | h_14
         ·have k_21 : (x_8.2 == x_9.2) = false := by simpa using h_14
          have hF_37 := cnd_t h_14 hF_36
          have f := Frm.set f 115 (v := .bool (!(x_8.2 == x_9.2))) (v' := .bool true) (by kernel_rfl) (cB h_14)
          refine Y19 f 27 fun _ f => ?_
          refine W_end rfl (T_n ?_)
          exact ⟨(true), (sI hF_37).symm, M_10, (mR _), f.keep (ks := [0, 3, 4, 142]) (by kernel_rfl), p_20⟩
         ·have k_22 : (x_8.2 == x_9.2) = true := by simpa using h_14
          have hF_38 := cnd_f h_14 hF_36
          have f := Frm.set f 115 (v := .bool (!(x_8.2 == x_9.2))) (v' := .bool false) (by kernel_rfl) (cB h_14)
          refine Y19 f 2 fun _ f => ?_
          refine Y14 (v := .bool (!(decide (x_10.1 = x_11.1)))) f (Y39 rfl (l := x_10.1) (m := x_11.1)) fun _ f => ?_
          refine Y19 f 2 fun _ f => ?_
          rcases bE (!(decide (x_10.1 = x_11.1))) with h_15 | h_15
          ·have k_23 : ¬ (x_10.1 = x_11.1) := (not_iff dI).1 h_15
           have hF_39 := cnd_t h_15 hF_38
           have f := Frm.set f 120 (v := .bool (!(decide (x_10.1 = x_11.1)))) (v' := .bool true) (by kernel_rfl) (cB h_15)
           refine Y19 f 22 fun _ f => ?_
           refine W_end rfl (T_n ?_)
           exact ⟨(true), (sI hF_39).symm, M_10, (mR _), f.keep (ks := [0, 3, 4, 142]) (by kernel_rfl), p_20⟩
          ·have k_24 : ¬ (¬ (x_10.1 = x_11.1)) := iff_f (not_iff dI) h_15
           have hF_40 := cnd_f h_15 hF_38
           have f := Frm.set f 120 (v := .bool (!(decide (x_10.1 = x_11.1)))) (v' := .bool false) (by kernel_rfl) (cB h_15)
           refine Y19 f 5 fun _ f => ?_
           rcases bE (!(decide (x_10.2 = x_11.2))) with h_16 | h_16
           ·have k_25 : ¬ (x_10.2 = x_11.2) := (not_iff dI).1 h_16
            have hF_41 := cnd_t h_16 hF_40
            have f := Frm.set f 125 (v := .bool (!(decide (x_10.2 = x_11.2)))) (v' := .bool true) (by kernel_rfl) (cB h_16)
            refine Y19 f 17 fun _ f => ?_
            refine W_end rfl (T_n ?_)
            exact ⟨(true), (sI hF_41).symm, M_10, (mR _), f.keep (ks := [0, 3, 4, 142]) (by kernel_rfl), p_20⟩
           ·have k_26 : ¬ (¬ (x_10.2 = x_11.2)) := iff_f (not_iff dI) h_16
            have hF_42 := cnd_f h_16 hF_40
            have f := Frm.set f 125 (v := .bool (!(decide (x_10.2 = x_11.2)))) (v' := .bool false) (by kernel_rfl) (cB h_16)
            refine Y19 f 2 fun _ f => ?_
            obtain ⟨x_12, hx_12, hF_43⟩ := bS hF_42
            refine Y18 f p_20 (schema_Check_ok n _ (GL.mono (((((((hM_1.trans hM_2).trans hM_3).trans hM_4).trans hM_5).trans hM_8).trans hM_9).trans hM_10) hG) d0 A3 cap3 d3 (h3.mono (((((((hM_1.trans hM_2).trans hM_3).trans hM_4).trans hM_5).trans hM_8).trans hM_9).trans hM_10)) x_12 hx_12) fun w_21 p_21 _ f => ?_
            refine Y19 f 2 fun _ f => ?_
            obtain ⟨x_13, hx_13, hF_44⟩ := bS hF_43
            refine Y18 f p_21 (ref09_Check_ok n _ (GL.mono (((((((hM_1.trans hM_2).trans hM_3).trans hM_4).trans hM_5).trans hM_8).trans hM_9).trans hM_10) hG) d0 A3 cap3 d3 (h3.mono (((((((hM_1.trans hM_2).trans hM_3).trans hM_4).trans hM_5).trans hM_8).trans hM_9).trans hM_10)) x_13 hx_13) fun w_22 p_22 _ f => ?_
            refine Y19 f 3 fun _ f => ?_
            rcases bE (!(decide (x_12 = x_13))) with h_17 | h_17
            ·have k_27 : ¬ (x_12 = x_13) := (not_iff dI).1 h_17
             have hF_45 := cnd_t h_17 hF_44
             have f := Frm.set f 134 (v := .bool (!(decide (x_12 = x_13)))) (v' := .bool true) (by kernel_rfl) (cB h_17)
             refine Y19 f 8 fun _ f => ?_
             refine W_end rfl (T_n ?_)
             exact ⟨(true), (sI hF_45).symm, M_10, (mR _), f.keep (ks := [0, 3, 4, 142]) (by kernel_rfl), p_22⟩
            ·have k_28 : ¬ (¬ (x_12 = x_13)) := iff_f (not_iff dI) h_17
             have hF_46 := cnd_f h_17 hF_44
             have f := Frm.set f 134 (v := .bool (!(decide (x_12 = x_13)))) (v' := .bool false) (by kernel_rfl) (cB h_17)
             refine Y19 f 2 fun _ f => ?_
             obtain ⟨x_14, hx_14, hF_47⟩ := bS hF_46
             refine Y18 f p_22 (schema_Same_ok n _ (GL.mono (((((((hM_1.trans hM_2).trans hM_3).trans hM_4).trans hM_5).trans hM_8).trans hM_9).trans hM_10) hG) A3 cap3 d3 (h3.mono (((((((hM_1.trans hM_2).trans hM_3).trans hM_4).trans hM_5).trans hM_8).trans hM_9).trans hM_10)) A4 cap4 d4 (h4.mono (((((((hM_1.trans hM_2).trans hM_3).trans hM_4).trans hM_5).trans hM_8).trans hM_9).trans hM_10)) x_14 hx_14) fun w_23 p_23 _ f => ?_
             refine Y19 f 2 fun _ f => ?_
             obtain ⟨x_15, hx_15, hF_48⟩ := bS hF_47
             refine Y18 f p_23 (ref09_Same_ok n _ (GL.mono (((((((hM_1.trans hM_2).trans hM_3).trans hM_4).trans hM_5).trans hM_8).trans hM_9).trans hM_10) hG) A3 cap3 d3 (h3.mono (((((((hM_1.trans hM_2).trans hM_3).trans hM_4).trans hM_5).trans hM_8).trans hM_9).trans hM_10)) A4 cap4 d4 (h4.mono (((((((hM_1.trans hM_2).trans hM_3).trans hM_4).trans hM_5).trans hM_8).trans hM_9).trans hM_10)) x_15 hx_15) fun w_24 p_24 _ f => ?_
             refine Y19 f 2 fun _ f => ?_
             refine W_end rfl (T_n ?_)
             exact ⟨(!(x_14 == x_15)), (sI hF_48).symm, M_10, (mR _), f.keep (ks := [0, 3, 4, 142]) (by kernel_rfl), p_24⟩
       ·rintro a_88 w_25 ⟨y_5, hq_3, M_11, hM_11, f, p_25⟩
        subst j_3
        refine T_n ?_
        refine Y6 f (b := y_5) (fun h_18 => ?_) fun h_18 => ?_
        ·have hF_49 := cnd_t h_18 hF_34
         refine R_seq (R_reg ?_)
         refine Y19 f 1 fun _ f => ?_
         refine W_end rfl (T_n (wp_ret (T_r ?_)))
         refine E_ret1 f rfl (by kernel_rfl : Vc.look _ 10 = some (.bool false)) ?_
         obtain rfl := sI hF_49
         exact ⟨_, rfl, M_11, ((((((((hM_1.trans hM_2).trans hM_3).trans hM_4).trans hM_5).trans hM_8).trans hM_9).trans hM_10).trans hM_11), (p_25.dropN 2), rfl⟩
        ·have hF_50 := cnd_f h_18 hF_34
         refine wp_skip (T_n (R_seq (R_reg ?_)))
         refine Y19 f 3 fun _ f => ?_
         obtain ⟨x_16, hx_16, hF_51⟩ := bS hF_50
         refine Y18 f p_25 (schema_Differ_ok n _ (GL.mono ((((((((hM_1.trans hM_2).trans hM_3).trans hM_4).trans hM_5).trans hM_8).trans hM_9).trans hM_10).trans hM_11) hG) d0 A3 cap3 d3 (h3.mono ((((((((hM_1.trans hM_2).trans hM_3).trans hM_4).trans hM_5).trans hM_8).trans hM_9).trans hM_10).trans hM_11)) A4 cap4 d4 (h4.mono ((((((((hM_1.trans hM_2).trans hM_3).trans hM_4).trans hM_5).trans hM_8).trans hM_9).trans hM_10).trans hM_11)) x_16 hx_16) fun w_26 p_26 _ f => ?_
         refine Y19 f 5 fun _ f => ?_
         refine W_end rfl (T_n (R_seq (R_reg ?_)))
         refine Y19 f 3 fun _ f => ?_
         obtain ⟨x_17, hx_17, hF_52⟩ := bS hF_51
         refine Y18 f p_26 (ref09_Differ_ok n _ (GL.mono ((((((((hM_1.trans hM_2).trans hM_3).trans hM_4).trans hM_5).trans hM_8).trans hM_9).trans hM_10).trans hM_11) hG) d0 A3 cap3 d3 (h3.mono ((((((((hM_1.trans hM_2).trans hM_3).trans hM_4).trans hM_5).trans hM_8).trans hM_9).trans hM_10).trans hM_11)) A4 cap4 d4 (h4.mono ((((((((hM_1.trans hM_2).trans hM_3).trans hM_4).trans hM_5).trans hM_8).trans hM_9).trans hM_10).trans hM_11)) x_17 hx_17) fun w_27 p_27 _ f => ?_
         refine Y19 f 5 fun _ f => ?_
         refine W_end rfl (T_n (R_seq (R_reg ?_)))
         refine Y19 f 4 fun _ f => ?_
         rcases bE (decide (x_16.1 = x_17.1)) with h_19 | h_19
         ·have k_31 : x_16.1 = x_17.1 := dI.1 h_19
          have hF_53 := cnd_t h_19 hF_52
          have f := Frm.set f 160 (v := .bool (decide (x_16.1 = x_17.1))) (v' := .bool true) (by kernel_rfl) (cB h_19)
          refine Y19 f 5 fun _ f => ?_
          rcases bE (decide (x_16.2 = x_17.2)) with h_20 | h_20
          ·have k_32 : x_16.2 = x_17.2 := dI.1 h_20
           have hF_54 := cnd_t h_20 hF_53
           have f := Frm.set f 165 (v := .bool (decide (x_16.2 = x_17.2))) (v' := .bool true) (by kernel_rfl) (cB h_20)
           obtain ⟨x_18, hx_18, hF_55⟩ := bS hF_54
           refine Y18 f p_27 (law09_wakes_ok n _ (GL.mono ((((((((hM_1.trans hM_2).trans hM_3).trans hM_4).trans hM_5).trans hM_8).trans hM_9).trans hM_10).trans hM_11) hG) x_18 hx_18) fun w_28 p_28 _ f => ?_
           refine Y19 f 2 fun _ f => ?_
           refine W_end rfl (T_n (wp_ret ?_))
           refine E_ret1 f rfl (by kernel_rfl : Vc.look _ 10 = some (.bool x_18)) ?_
           obtain rfl := sI hF_55
           exact ⟨_, rfl, M_11, ((((((((hM_1.trans hM_2).trans hM_3).trans hM_4).trans hM_5).trans hM_8).trans hM_9).trans hM_10).trans hM_11), (p_28.dropN 2), rfl⟩
          ·have k_33 : ¬ (x_16.2 = x_17.2) := iff_f dI h_20
           have hF_56 := cnd_f h_20 hF_53
           have f := Frm.set f 165 (v := .bool (decide (x_16.2 = x_17.2))) (v' := .bool false) (by kernel_rfl) (cB h_20)
           refine Y19 f 3 fun _ f => ?_
           refine W_end rfl (T_n (wp_ret ?_))
           refine E_ret1 f rfl (by kernel_rfl : Vc.look _ 10 = some (.bool false)) ?_
           obtain rfl := sI hF_56
           exact ⟨_, rfl, M_11, ((((((((hM_1.trans hM_2).trans hM_3).trans hM_4).trans hM_5).trans hM_8).trans hM_9).trans hM_10).trans hM_11), (p_27.dropN 2), rfl⟩
         ·have k_34 : ¬ (x_16.1 = x_17.1) := iff_f dI h_19
          have hF_57 := cnd_f h_19 hF_52
          have f := Frm.set f 160 (v := .bool (decide (x_16.1 = x_17.1))) (v' := .bool false) (by kernel_rfl) (cB h_19)
          refine Y19 f 8 fun _ f => ?_
          refine W_end rfl (T_n (wp_ret ?_))
          refine E_ret1 f rfl (by kernel_rfl : Vc.look _ 10 = some (.bool false)) ?_
          obtain rfl := sI hF_57
          exact ⟨_, rfl, M_11, ((((((((hM_1.trans hM_2).trans hM_3).trans hM_4).trans hM_5).trans hM_8).trans hM_9).trans hM_10).trans hM_11), (p_27.dropN 2), rfl⟩
end Go.Proofs.YtalifkcchfkgmaaGreatDoor
end

section
set_option linter.unusedVariables false
set_option linter.unusedSimpArgs false
namespace Go.Proofs.YtalifkcchfkgmaaGreatDoor
open Go Go.Vc Go.RowKit
theorem tells_loop (kind : List UInt8) {z z' : Int} : loopF (law09_SchemaTells_s1 10000 (specsL kind, z) (specsL kind, z')) 10000 (specsL kind, 0) = some (.inr ()) := by
  have hf := specs_few kind
  refine loop_all (n := 10000) (f := fun k => (specsL kind, (k : Int))) (specsL kind).length (Sum.inr ()) (fun k hk => ?_) ?_ (by omega)
  · unfold law09_SchemaTells_s1
    dsimp only
    rw [decide_eq_true (by omega), cT, getI_at z_T_api_Spec hk, bnd, bnd, need_i (by omega) (by omega)]
    unfold andL andL andL
    rw [decide_eq_true rfl, decide_eq_true rfl, beq_self_eq_true]
    rfl
  · unfold law09_SchemaTells_s1
    dsimp only
    rw [decide_eq_false (by omega), cF]
theorem schemaTells_true (kind name phys : List UInt8) (a b : List T_api_Given) : law09_SchemaTells 10000 kind name phys a b = some true := by
  unfold law09_SchemaTells
  by_cases g0 : (200 : Int) < (kind.length : Int)
  · rw [decide_eq_true g0, cT, bnd, cT, wakes_bind]
  rw [decide_eq_false g0, cF]
  by_cases g1 : (200 : Int) < (name.length : Int)
  · rw [decide_eq_true g1, cT, bnd, cT, wakes_bind]
  rw [decide_eq_false g1, cF]
  by_cases g2 : (200 : Int) < (phys.length : Int)
  · rw [decide_eq_true g2, cT, bnd, cT, wakes_bind]
  rw [decide_eq_false g2, cF]
  obtain ⟨ga, ha1, ha2⟩ := great9 (n := 10000) (by omega) a
  obtain ⟨gb, hb1, hb2⟩ := great9 (n := 10000) (by omega) b
  rw [ha1, bnd, hb1, bnd]
  cases ga with
  | true => rw [cT, bnd, cT, wakes_bind]
  | false =>
    cases gb with
    | true => rw [cF, bnd, cT, wakes_bind]
    | false =>
      obtain ⟨la, fa⟩ := ha2 rfl
      obtain ⟨lb, fb⟩ := hb2 rfl
      have fa' : ∀ g ∈ a, Fine g.fV := fun g hg => (fa g hg).2
      have fb' : ∀ g ∈ b, Fine g.fV := fun g hg => (fb g hg).2
      obtain ⟨r, hr1, hr2⟩ := Attr_both (n := 10000) (by omega) (kind := kind) (phys := phys) (name := name) (by omega) (by omega)
      rw [cF, bnd, cF, Specs_run (by omega), bnd, Specs_ref, bnd]
      dsimp only
      rw [decide_eq_true rfl, Bool.not_true, cF, decide_eq_true rfl, Bool.not_true, bnd, cF, tells_loop, bnd]
      dsimp only
      have hfind : schema_Find 10000 kind name = some (specOf kind name, (specAt kind name).isSome) := rfl
      rw [hfind, bnd, Find_ref (by omega), bnd, hr1, bnd, hr2, bnd]
      dsimp only
      have hand : andL [decide ((specOf kind name).fName = (specOf kind name).fName), decide ((specOf kind name).fKind = (specOf kind name).fKind), ((specOf kind name).fReplace == (specOf kind name).fReplace)] = true := by
        rw [decide_eq_true rfl, decide_eq_true rfl, beq_self_eq_true]; rfl
      rw [hand, Bool.not_true, cF, beq_self_eq_true, Bool.not_true, cF, decide_eq_true rfl, Bool.not_true, cF, decide_eq_true rfl, Bool.not_true, cF, schemaCheck_run (by omega) kind la fa', bnd, Check_ref (by omega) kind la fa', bnd, decide_eq_true rfl, Bool.not_true, cF,
        Same_run9 (by omega) la fa' fb', bnd, Same_ref (by omega) la fa' fb', bnd, beq_self_eq_true, Bool.not_true, bnd, cF, Differ_run (by omega) kind la lb fa' fb', bnd, Differ_ref (by omega) kind la lb fa' fb', bnd, decide_eq_true rfl, cT, decide_eq_true rfl, cT, wakes_bind]
end Go.Proofs.YtalifkcchfkgmaaGreatDoor
end

section
namespace Go.Vc
open Go
mutual
/-- How many values and letters. -/
def dsz : Dat → Nat
  | .int _ _ => 1
  | .bool _ => 1
  | .str l => l.length + 1
  | .list _ ds => dszs ds + 1
  | .struct ds => dszs ds + 1
def dszs : List Dat → Nat
  | [] => 0
  | d :: ds => dsz d + dszs ds
end
theorem dszs_app : ∀ (a b : List Dat), dszs (a ++ b) = dszs a + dszs b
  | [], b => by simp [dszs]
  | d :: a, b => by simp only [List.cons_append, dszs, dszs_app a b]; omega
theorem le_sum : ∀ {l : List Nat} {x : Nat}, x ∈ l → x ≤ l.sum
  | y :: l, x, h => by
    rcases List.mem_cons.1 h with rfl | h
    · simp
    · have := le_sum h; simp only [List.sum_cons]; omega
section
variable {H : Type}
structure BulkOk (B : DataW H → Nat) : Prop where
  one : ∀ d, 1 ≤ B d
  str : ∀ l, B (.lit (.string l)) = l.length + 1
  slice : ∀ e s, (e.map B).sum + 1 ≤ B (.slice e s)
  agg : ∀ e, (e.map B).sum + 1 ≤ B (.agg e)
variable {enc : TypeId × Value → H} {P : Program} {w : World} {t : TypeId} {α : Type} {f : α → Dat} {m : Nat} {B : DataW H → Nat}
def OpnAt (enc : TypeId × Value → H) (P : Program) (w : World) (t : TypeId) {α : Type} (f : α → Dat) (B : DataW H → Nat) (m : Nat) : Prop :=
  ∀ cs x, DataW.trod enc P w 0 (fun _ => true) true m t cs = some x → ∃ a, Rep (Mem.of w) (f a) cs ∧ Vld (f a) ∧ dsz (f a) ≤ B x.1
theorem OpnAt.zero : OpnAt enc P w t f B 0 := fun cs x h => by simp [DataW.trod] at h
theorem opa_int {k : IntKind} (hB : BulkOk B) (ht : P.underlying t = some (.int k)) : OpnAt enc P w t (Dat.int k) B m := fun cs x h => by
  obtain ⟨a, rfl, _, hw⟩ := DataW.trod_int ht h
  exact ⟨a, rfl, hw, hB.one _⟩
theorem opa_bool (hB : BulkOk B) (ht : P.underlying t = some .bool) : OpnAt enc P w t Dat.bool B m := fun cs x h => by
  obtain ⟨a, rfl, _⟩ := DataW.trod_bool ht h
  exact ⟨a, rfl, trivial, hB.one _⟩
theorem opa_str (hB : BulkOk B) (ht : P.underlying t = some .string) : OpnAt enc P w t Dat.str B m := fun cs x h => by
  obtain ⟨s, rfl, hx, hw⟩ := DataW.trod_string ht h
  refine ⟨s.data.toList, (by show [Value.string s] = _; rw [S_eta]), by show s.data.toList.length ≤ maxLen; simpa using hw, ?_⟩
  rw [hx]
  show s.data.toList.length + 1 ≤ B (.lit (.string s.data.toList))
  rw [hB.str]
  exact Nat.le_refl _
theorem opa_slice {e : TypeId} {sz : Nat} (hB : BulkOk B) (ht : P.underlying t = some (.slice e)) (hsz : P.cellsOf e = sz) (h : OpnAt enc P w e f B m) : OpnAt enc P w t (eL sz f) B (m + 1) := fun cs x hx => by
  rcases DataW.trod_slice ht hx with ⟨rfl, hx⟩ | ⟨ad, len, cap, elems, rest, n', hn', rfl, hxe, _, hlc, hcm, hel, hat, _⟩
  · refine ⟨[], Sli.rep (Sli.nil (sz := sz) (f := f)), by simp [Vld, eL, VldAll], ?_⟩
    have := hB.one x.1
    simpa [eL, dsz, dszs] using this
  · obtain rfl : n' = m := by omega
    have key : ∀ k, k ≤ len → ∃ xs : List α, xs.length = k ∧ RepArr (Mem.of w) sz (xs.map f) ad ∧ (∀ x ∈ xs, Vld (f x)) ∧ dszs (xs.map f) ≤ ((elems.take k).map fun x => B x.1).sum := by
      intro k
      induction k with
      | zero => intro _; exact ⟨[], rfl, trivial, fun x hx => (by cases hx), by simp [dszs]⟩
      | succ k ih =>
        intro hk
        obtain ⟨xs, h1, h2, h3, h3b⟩ := ih (by omega)
        have hk' : k < elems.length := by omega
        have := hat k (by omega)
        rw [List.getElem?_eq_getElem hk'] at this
        obtain ⟨cs', g1, g2⟩ := Option.bind_eq_some_iff.1 this
        obtain ⟨a, g3, g4, g4b⟩ := h cs' _ g2
        obtain ⟨g5, g6⟩ := cells_of g1
        rw [hsz] at g5 g6
        refine ⟨xs ++ [a], by simp [h1], ?_, fun x hx => ?_, ?_⟩
        · rw [List.map_append]
          have app : ∀ (ds : List Dat) (ad : Addr), RepArr (Mem.of w) sz ds ad → RepArr (Mem.of w) sz [f a] (ad.add (ds.length * sz)) → RepArr (Mem.of w) sz (ds ++ [f a]) ad := by
            intro ds
            induction ds with
            | nil => intro ad _ hh; simpa [Addr.add] using hh
            | cons d ds ih =>
              intro ad h1 h2
              refine ⟨h1.1, ih _ h1.2 ?_⟩
              rw [add_of_add]
              rw [List.length_cons, show (ds.length + 1) * sz = sz + ds.length * sz by rw [Nat.add_mul]; omega] at h2
              exact h2
          refine app _ _ h2 ⟨⟨cs', g5, g3, ?_⟩, trivial⟩
          rw [List.length_map, h1]
          exact g6
        · rcases List.mem_append.1 hx with hx | hx
          · exact h3 x hx
          · simp at hx; subst hx; exact g4
        · rw [List.map_append, dszs_app, List.take_add_one, List.getElem?_eq_getElem hk', List.map_append, List.sum_append]
          simp only [List.map_cons, List.map_nil, dszs, Option.toList_some, List.sum_cons, List.sum_nil]
          omega
    obtain ⟨xs, h1, h2, h3, h3b⟩ := key len (Nat.le_refl _)
    subst h1
    refine ⟨xs, Sli.rep ⟨hlc, fun e => (by cases e), .inr ⟨ad, rfl, h2⟩⟩, ?_, ?_⟩
    · refine ⟨by rw [List.length_map]; omega, VldAll.mk fun d hd => ?_⟩
      obtain ⟨x, hx, rfl⟩ := List.mem_map.1 hd
      exact h3 x hx
    · rw [hxe]
      show dszs (xs.map f) + 1 ≤ _
      have := hB.slice (elems.map (·.1)) (rest.map (·.1))
      rw [← hel, List.take_length] at h3b
      rw [List.map_map] at this
      have e : (elems.map (B ∘ fun x => x.1)) = elems.map fun x => B x.1 := rfl
      rw [e] at this
      show _ ≤ B (.slice (elems.map (·.1)) (rest.map (·.1)))
      omega
theorem opa_slice0 {e : TypeId} {sz : Nat} (hB : BulkOk B) (ht : P.underlying t = some (.slice e)) (hsz : P.cellsOf e = sz) (h : ∀ k, k < m → OpnAt enc P w e f B k) : OpnAt enc P w t (eL sz f) B m := by
  cases m with
  | zero => exact OpnAt.zero
  | succ m => exact opa_slice hB ht hsz (h m (Nat.lt_succ_self m))
/-- An argument. -/
theorem OpnAt.arg (h : ∀ n, OpnAt enc P w t f B n) {v : Value} {d : DataW H} {ps : List MemPlace} (ht : DataW.Trod enc P w 0 (fun _ => true) true t v d ps) : ∃ a, Rep (Mem.of w) (f a) v.cells.toList ∧ Vld (f a) ∧ dsz (f a) ≤ B d := by
  obtain ⟨fuel, hf⟩ := ht
  exact h fuel _ _ hf
theorem OpnAt.slice_arg {e : TypeId} {sz : Nat} (hB : BulkOk B) (hu : P.underlying t = some (.slice e)) (hsz : P.cellsOf e = sz) (h : ∀ n, OpnAt enc P w e f B n) {v : Value} {d : DataW H} {ps : List MemPlace} (hv : ∃ A len cap, v = .slice A len cap) (ht : DataW.Trod enc P w 0 (fun _ => true) true t v d ps) :
    ∃ A cap xs, v = .slice A xs.length cap ∧ Sli (Mem.of w) sz f A cap xs ∧ Vld (eL sz f xs) ∧ dsz (eL sz f xs) ≤ B d := by
  obtain ⟨A, len, cap, rfl⟩ := hv
  obtain ⟨xs, h1, h2⟩ := OpnAt.arg (f := eL sz f) (fun n => opa_slice0 hB hu hsz fun k _ => h k) ht
  obtain ⟨A', cap', e, hs⟩ := Rep.sli h1
  simp only [Value.cells] at e
  have e' : Value.slice A len cap = Value.slice A' xs.length cap' := by simpa using e
  cases e'
  exact ⟨A, cap, xs, rfl, hs, h2⟩
end
end Go.Vc
end

section
set_option linter.unusedVariables false
set_option linter.unusedSimpArgs false
namespace Go.Proofs.YtalifkcchfkgmaaGreatDoor
open Go Go.Vc Go.RowKit
theorem opa_T_api_Value {H : Type} {enc : TypeId × Value → H} {w : World} {B : DataW H → Nat} (hB : BulkOk B) : ∀ m, OpnAt enc Tryz.prog w 76 emb_T_api_Value B m := by
 intro m
 induction m using Nat.strongRecOn with
 | ind m ih =>
 intro cs x h
 obtain ⟨xs, n, rfl, rfl, hlen, hxl, hf⟩ := DataW.trod_struct Tryz.underlying76 h
 have hct : Tryz.prog.cellsOf 76 = 6 := by kernel_rfl
 rw [hct] at hlen
 obtain ⟨x0, x1, x2, x3, x4, x5, rfl⟩ : ∃ x0 x1 x2 x3 x4 x5, xs = [x0, x1, x2, x3, x4, x5] := by
  match xs, hxl with
  | [x0, x1, x2, x3, x4, x5], _ => exact ⟨x0, x1, x2, x3, x4, x5, rfl⟩
 have f0 : DataW.trod enc Tryz.prog w 0 (fun _ => true) true n 62 ((cs.drop 0).take (Tryz.prog.cellsOf 62)) = some x0 := hf 0 _ rfl
 rw [show Tryz.prog.cellsOf 62 = 1 by kernel_rfl] at f0
 obtain ⟨a0, r0, v0, b0⟩ := (fun _ => opa_int hB Tryz.underlying62) n _ _ f0
 have f1 : DataW.trod enc Tryz.prog w 0 (fun _ => true) true n 4 ((cs.drop 1).take (Tryz.prog.cellsOf 4)) = some x1 := hf 1 _ rfl
 rw [show Tryz.prog.cellsOf 4 = 1 by kernel_rfl] at f1
 obtain ⟨a1, r1, v1, b1⟩ := (fun _ => opa_bool hB Tryz.underlying4) n _ _ f1
 have f2 : DataW.trod enc Tryz.prog w 0 (fun _ => true) true n 3 ((cs.drop 2).take (Tryz.prog.cellsOf 3)) = some x2 := hf 2 _ rfl
 rw [show Tryz.prog.cellsOf 3 = 1 by kernel_rfl] at f2
 obtain ⟨a2, r2, v2, b2⟩ := (fun _ => opa_int hB Tryz.underlying3) n _ _ f2
 have f3 : DataW.trod enc Tryz.prog w 0 (fun _ => true) true n 9 ((cs.drop 3).take (Tryz.prog.cellsOf 9)) = some x3 := hf 3 _ rfl
 rw [show Tryz.prog.cellsOf 9 = 1 by kernel_rfl] at f3
 obtain ⟨a3, r3, v3, b3⟩ := (fun _ => opa_str hB Tryz.underlying9) n _ _ f3
 have f4 : DataW.trod enc Tryz.prog w 0 (fun _ => true) true n 73 ((cs.drop 4).take (Tryz.prog.cellsOf 73)) = some x4 := hf 4 _ rfl
 rw [show Tryz.prog.cellsOf 73 = 1 by kernel_rfl] at f4
 obtain ⟨a4, r4, v4, b4⟩ := (opa_slice0 (m := n) (e := 76) (sz := 6) hB Tryz.underlying73 (by kernel_rfl) (fun k hk => ih k (by omega))) _ _ f4
 have f5 : DataW.trod enc Tryz.prog w 0 (fun _ => true) true n 74 ((cs.drop 5).take (Tryz.prog.cellsOf 74)) = some x5 := hf 5 _ rfl
 rw [show Tryz.prog.cellsOf 74 = 1 by kernel_rfl] at f5
 obtain ⟨a5, r5, v5, b5⟩ := (opa_slice0 (m := n) (e := 9) (sz := 1) hB Tryz.underlying74 (by kernel_rfl) (fun k _ => (fun _ => opa_str hB Tryz.underlying9) k)) _ _ f5
 refine ⟨⟨a0, a1, a2, a3, a4, a5⟩, ?_, ?_, ?_⟩
 ·rw [emb_T_api_Value_eq]
  have hcs : RepSeq (Mem.of w) _ (cs.drop 0) := (RepSeq.cut (k := 1) r0 (by rw [List.drop_drop]; exact (RepSeq.cut (k := 1) r1 (by rw [List.drop_drop]; exact (RepSeq.cut (k := 1) r2 (by rw [List.drop_drop]; exact (RepSeq.cut (k := 1) r3 (by rw [List.drop_drop]; exact (RepSeq.cut (k := 1) r4 (by rw [List.drop_drop]; exact (RepSeq.cut (k := 1) r5 (by rw [List.drop_drop]; exact (show RepSeq (Mem.of w) [] (cs.drop 6) from List.drop_eq_nil_of_le (by omega))))))))))))))
  exact hcs
 ·rw [emb_T_api_Value_eq]; exact ⟨v0, ⟨v1, ⟨v2, ⟨v3, ⟨v4, ⟨v5, trivial⟩⟩⟩⟩⟩⟩
 ·rw [emb_T_api_Value_eq]
  have := hB.agg ([x0, x1, x2, x3, x4, x5].map (·.1))
  simp only [List.map_cons, List.map_nil, List.sum_cons, List.sum_nil] at this ⊢
  simp only [dsz, dszs] at *
  omega
theorem opa_T_api_Given {H : Type} {enc : TypeId × Value → H} {w : World} {B : DataW H → Nat} (hB : BulkOk B) : ∀ m, OpnAt enc Tryz.prog w 78 emb_T_api_Given B m := by
 intro m
 induction m using Nat.strongRecOn with
 | ind m ih =>
 intro cs x h
 obtain ⟨xs, n, rfl, rfl, hlen, hxl, hf⟩ := DataW.trod_struct Tryz.underlying78 h
 have hct : Tryz.prog.cellsOf 78 = 8 := by kernel_rfl
 rw [hct] at hlen
 obtain ⟨x0, x1, x2, rfl⟩ : ∃ x0 x1 x2, xs = [x0, x1, x2] := by
  match xs, hxl with
  | [x0, x1, x2], _ => exact ⟨x0, x1, x2, rfl⟩
 have f0 : DataW.trod enc Tryz.prog w 0 (fun _ => true) true n 9 ((cs.drop 0).take (Tryz.prog.cellsOf 9)) = some x0 := hf 0 _ rfl
 rw [show Tryz.prog.cellsOf 9 = 1 by kernel_rfl] at f0
 obtain ⟨a0, r0, v0, b0⟩ := (fun _ => opa_str hB Tryz.underlying9) n _ _ f0
 have f1 : DataW.trod enc Tryz.prog w 0 (fun _ => true) true n 4 ((cs.drop 1).take (Tryz.prog.cellsOf 4)) = some x1 := hf 1 _ rfl
 rw [show Tryz.prog.cellsOf 4 = 1 by kernel_rfl] at f1
 obtain ⟨a1, r1, v1, b1⟩ := (fun _ => opa_bool hB Tryz.underlying4) n _ _ f1
 have f2 : DataW.trod enc Tryz.prog w 0 (fun _ => true) true n 76 ((cs.drop 2).take (Tryz.prog.cellsOf 76)) = some x2 := hf 2 _ rfl
 rw [show Tryz.prog.cellsOf 76 = 6 by kernel_rfl] at f2
 obtain ⟨a2, r2, v2, b2⟩ := (opa_T_api_Value hB) n _ _ f2
 refine ⟨⟨a0, a1, a2⟩, ?_, ?_, ?_⟩
 ·rw [emb_T_api_Given_eq]
  have hcs : RepSeq (Mem.of w) _ (cs.drop 0) := (RepSeq.cut (k := 1) r0 (by rw [List.drop_drop]; exact (RepSeq.cut (k := 1) r1 (by rw [List.drop_drop]; exact (RepSeq.cut (k := 6) r2 (by rw [List.drop_drop]; exact (show RepSeq (Mem.of w) [] (cs.drop 8) from List.drop_eq_nil_of_le (by omega))))))))
  exact hcs
 ·rw [emb_T_api_Given_eq]; exact ⟨v0, ⟨v1, ⟨v2, trivial⟩⟩⟩
 ·rw [emb_T_api_Given_eq]
  have := hB.agg ([x0, x1, x2].map (·.1))
  simp only [List.map_cons, List.map_nil, List.sum_cons, List.sum_nil] at this ⊢
  simp only [dsz, dszs] at *
  omega
theorem bulk_all {H : Type} (l : List (DataW H)) : Rows.uptoBulkAll l = (l.map Rows.uptoBulk).sum := by
 induction l with
 | nil => simp [Rows.uptoBulkAll]
 | cons x l ih => simp only [Rows.uptoBulkAll, List.map_cons, List.sum_cons, ih]
theorem bulk_ok {H : Type} : BulkOk (H := H) Rows.uptoBulk where
 one d := by
  cases d with
  | lit l => cases l <;> simp [Rows.uptoBulk]
  | nil => simp [Rows.uptoBulk]
  | ptr d => simp [Rows.uptoBulk]
  | slice elems spare => simp [Rows.uptoBulk]
  | agg parts => simp [Rows.uptoBulk]
  | iface t d => simp [Rows.uptoBulk]
  | map entries => simp [Rows.uptoBulk]
  | held h => simp [Rows.uptoBulk]
 str l := by simp [Rows.uptoBulk]
 slice e s := by
  simp only [Rows.uptoBulk]
  rw [bulk_all e]
  omega
 agg e := by
  simp only [Rows.uptoBulk]
  rw [bulk_all e]
  exact Nat.le_refl _
theorem bulk_one {H : Type} {d : DataW H} {l : List (DataW H)} (h : Rows.uptoSmall H l = true) (hd : d ∈ l) : Rows.uptoBulk d ≤ 1048576 := by
 unfold Rows.uptoSmall at h
 have h := of_decide_eq_true h
 rw [bulk_all] at h
 have := le_sum (List.mem_map_of_mem (f := Rows.uptoBulk) hd)
 omega
end Go.Proofs.YtalifkcchfkgmaaGreatDoor
end
