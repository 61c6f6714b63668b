/-
  Chapter 3 in plain Lean: Walk, Same; the law of Walk. Own work.
-/
import Derived.Test.YtekkifakjkhjiaaDoorTreeP1
import Derived.Test.YtekkifakjkhjiaaDoorQ2b
import Derived.Test.YtekkifakjkhjiaaDoorQ2f
import Derived.Test.YtekkifakjkhjiaaDoorQ5
import Derived.Test.YtekkifakjkhjiaaDoorLTreeWalk
namespace Go.Proofs.YtekkifakjkhjiaaDoor
open Go Go.Vc Go.RowKit

theorem great_ok {n : Nat} (hn : 3000 < n) (v : T_api_Value) : ∃ g, ref03_Great n v = some g ∧ (g = false → Small 30 v ∧ (walkV v).length ≤ 5000) := by
  obtain ⟨W, w1, w2, w3, w4⟩ := weight_ok hn n 30 v (by omega) (by omega)
  refine ⟨decide ((5000 : Int) < W), ?_, fun h => ?_⟩
  · unfold ref03_Great ref03_weight
    have e : ((30 : Nat) : Int) = 30 := rfl
    rw [e] at w1
    rw [w1, bnd]
  · have h' := of_decide_eq_false h
    obtain ⟨a, b⟩ := w4 (by omega)
    exact ⟨a, by omega⟩

theorem wvs_mem : ∀ {l : List T_api_Value} {x : T_api_Value}, x ∈ l → (walkV x).length ≤ (walkVs l).length
  | y :: r, x, h => by
    rw [walkVs, List.length_append]
    rcases List.mem_cons.1 h with rfl | h
    · omega
    · have := wvs_mem h
      omega
theorem walkVs_le (l : List T_api_Value) (i : Nat) : (walkVs (l.take i)).length ≤ (walkVs l).length := by
  have := congrArg List.length (walkVs_app (l.take i) (l.drop i))
  rw [List.take_append_drop, List.length_append] at this
  omega

theorem walk_k_ok {n : Nat} (hn : 3000 < n) : ∀ (k d : Nat) (v : T_api_Value), d ≤ k → Small d v → (walkV v).length ≤ 5000 → ref03_Walk_k n k v = some (walkV v)
  | _, 0, v, _, h, _ => h.elim
  | 0, d + 1, v, h, _, _ => absurd h (by omega)
  | k + 1, d + 1, v, hk, hs, hl => by
    obtain ⟨h1, h2, h3, h4, h5⟩ := hs
    show ref03_Walk_b n (ref03_Walk_k n k) v = _
    unfold ref03_Walk_b
    have hw : (walkV v).length = (walkVs v.fList).length + 1 := by rw [walkV_eq, List.length_cons]
    have := loop_all (step := ref03_Walk_s1 n (ref03_Walk_k n k) v) (n := n) (fun q => (v :: walkVs (v.fList.take q), (q : Int))) v.fList.length (walkV v) (fun q hq => by
      have hx : v.fList[q]? = some v.fList[q] := List.getElem?_eq_getElem hq
      have hg : getI v.fList (q : Int) = some v.fList[q] := by simp [getI]
      have hm : v.fList[q] ∈ v.fList := List.getElem_mem hq
      have hml := wvs_mem hm
      have htl := walkVs_le v.fList q
      unfold ref03_Walk_s1
      dsimp only
      rw [decide_eq_true (by omega), cT, hg, bnd, walk_k_ok hn k d v.fList[q] (by omega) (h5 _ hm) (by omega), bnd, need_t (by rw [List.length_cons]; omega), need_i (by omega) (by omega), walkVs_take hx]
      rfl) (by
      unfold ref03_Walk_s1
      dsimp only
      rw [decide_eq_false (by omega), cF, List.take_length, walkV_eq]) (by omega)
    have e0 : ((0 : Nat) : Int) = 0 := rfl
    simp only [List.take_zero, walkVs, e0] at this
    have ev : (⟨v.fKind, (v.fBool), v.fNum, v.fText, v.fList, v.fKeys⟩ : T_api_Value) = v := by cases v; rfl
    rw [ev]
    rw [this, bnd]

theorem same_k_ok {n : Nat} (hn : 3000 < n) : ∀ (k d : Nat) (v : T_api_Value), d ≤ k → Small d v → ref03_Same_k n k v v = some true
  | _, 0, v, _, h => h.elim
  | 0, d + 1, v, h, _ => absurd h (by omega)
  | k + 1, d + 1, v, hk, hs => by
    obtain ⟨h1, h2, h3, h4, h5⟩ := hs
    show ref03_Same_b n (ref03_Same_k n k) v v = _
    unfold ref03_Same_b
    rw [decide_eq_true rfl, decide_eq_true rfl, decide_eq_true rfl, decide_eq_true rfl, decide_eq_true rfl, beq_self_eq_true, Bool.not_true, cF, cF, cF, cF, cF, bnd, cF]
    have a1 := loop_all (step := ref03_Same_s1 n v v) (n := n) (fun q => (q : Int)) v.fKeys.length (.inr ()) (fun q hq => by
      unfold ref03_Same_s1
      rw [decide_eq_true (by omega), cT, getI_at [] hq, bnd, bnd, decide_eq_true rfl, Bool.not_true, cF, need_i (by omega) (by omega)]
      rfl) (by
      unfold ref03_Same_s1
      rw [decide_eq_false (by omega), cF]) (by omega)
    have a2 := loop_all (step := ref03_Same_s2 n (ref03_Same_k n k) v v) (n := n) (fun q => (q : Int)) v.fList.length (.inr ()) (fun q hq => by
      have hg : getI v.fList (q : Int) = some v.fList[q] := by simp [getI]
      unfold ref03_Same_s2
      rw [decide_eq_true (by omega), cT, hg, bnd, bnd, same_k_ok hn k d v.fList[q] (by omega) (h5 _ (List.getElem_mem hq)), bnd, Bool.not_true, cF, need_i (by omega) (by omega)]
      rfl) (by
      unfold ref03_Same_s2
      rw [decide_eq_false (by omega), cF]) (by omega)
    have e0 : ((0 : Nat) : Int) = 0 := rfl
    simp only [e0] at a1 a2
    rw [a1, bnd]
    dsimp only
    rw [a2, bnd]
theorem walkV_small : ∀ (d : Nat) (v x : T_api_Value), Small d v → x ∈ walkV v → ∃ e, e ≤ d ∧ Small e x
  | 0, v, x, h, _ => h.elim
  | d + 1, v, x, h, hx => by
    rw [walkV_eq] at hx
    rcases List.mem_cons.1 hx with rfl | hx
    · exact ⟨d + 1, Nat.le_refl _, h⟩
    · have : ∀ l : List T_api_Value, x ∈ walkVs l → ∃ y ∈ l, x ∈ walkV y := by
        intro l
        induction l with
        | nil => intro h; simp [walkVs] at h
        | cons y r ih =>
          intro h
          rw [walkVs, List.mem_append] at h
          rcases h with h | h
          · exact ⟨y, List.mem_cons_self, h⟩
          · obtain ⟨z, hz, hx⟩ := ih h
            exact ⟨z, List.mem_cons_of_mem _ hz, hx⟩
      obtain ⟨y, hy, hxy⟩ := this _ hx
      obtain ⟨e, he, hs⟩ := walkV_small d y x (h.2.2.2.2 y hy) hxy
      exact ⟨e, by omega, hs⟩
theorem wakes_true : law03_wakes 10000 = some true := by kernel_rfl
theorem walk_fold (l : List T_api_Value) (hl : l.length ≤ 5000) (d1 : Int) (hs : ∀ x ∈ l, ref03_Same 10000 x x = some true) : ∀ (m k : Nat), k + m = l.length →
    (∃ j, foldY (law03_TreeWalk_s1 10000 d1 l) (l.drop k) (k : Int) = some (.br (j, true))) ∨ foldY (law03_TreeWalk_s1 10000 d1 l) (l.drop k) (k : Int) = some (.nx (l.length : Int))
  | 0, k, hk => by
    right
    have : k = l.length := by omega
    subst this
    rw [List.drop_length]
    rfl
  | m + 1, k, hk => by
    have hkl : k < l.length := by omega
    have hx : getI l (k : Int) = some l[k] := by simp [getI]
    rw [List.drop_eq_getElem_cons hkl]
    unfold foldY
    have e : law03_TreeWalk_s1 10000 d1 l (k : Int) l[k] = bif (decide ((k : Int) + 1 = d1)) then some (.br ((k : Int) + 1, true)) else some (.nx ((k : Int) + 1)) := by
      unfold law03_TreeWalk_s1
      rw [decide_eq_false (by omega), cF, hx, bnd, hs _ (List.getElem_mem hkl), bnd, Bool.not_true, bnd, cF, need_i (by omega) (by omega), wakes_true, bnd]
    rw [e]
    by_cases hd : (k : Int) + 1 = d1
    · rw [decide_eq_true hd, cT, bnd]
      exact .inl ⟨_, rfl⟩
    · rw [decide_eq_false hd, cF, bnd]
      exact walk_fold l hl d1 hs m (k + 1) (by omega)
theorem treeWalk_true (v : T_api_Value) (d1 : Int) : law03_TreeWalk 10000 v d1 = some true := by
  obtain ⟨g, hg, hg2⟩ := great_ok (n := 10000) (by omega) v
  unfold law03_TreeWalk
  rw [hg, bnd]
  cases g with
  | true => rw [cT, wakes_true, bnd]
  | false =>
    obtain ⟨hs, hl⟩ := hg2 rfl
    rw [cF]
    unfold ref03_Walk
    rw [walk_k_ok (by omega) 10000 30 v (by omega) hs hl, bnd, need_t (by omega)]
    have hsame : ∀ x ∈ walkV v, ref03_Same 10000 x x = some true := fun x hx => by
      obtain ⟨e, he, h⟩ := walkV_small 30 v x hs hx
      exact same_k_ok (by omega) 10000 e x (by omega) h
    rcases walk_fold (walkV v) hl d1 hsame (walkV v).length 0 (by omega) with ⟨j, h⟩ | h
    · rw [List.drop_zero] at h
      have e0 : ((0 : Nat) : Int) = 0 := rfl
      rw [e0] at h
      rw [h, bnd]
    · rw [List.drop_zero] at h
      have e0 : ((0 : Nat) : Int) = 0 := rfl
      rw [e0] at h
      rw [h, bnd]
      dsimp only
      rw [decide_eq_true rfl, cT, wakes_true, bnd]
end Go.Proofs.YtekkifakjkhjiaaDoor
