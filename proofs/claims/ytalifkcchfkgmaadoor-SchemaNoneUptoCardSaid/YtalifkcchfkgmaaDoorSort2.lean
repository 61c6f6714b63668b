/-
  slices.SortFunc with the closure of tree.order, in the generator's form. Own work.
-/
import Derived.Test.YtalifkcchfkgmaaDoorSort1
import Derived.Test.YtalifkcchfkgmaaDoorLayS
import Derived.Shelf.SlSortCmp.NoneTotal
namespace Go.Proofs.YtalifkcchfkgmaaDoor
open Go Go.Vc Go.RowKit Go.Sort

def keyLe (keys : List (List UInt8)) (x y : Int) : Bool := !(decide (Lib.compareBytes (keys.getD y.toNat []) (keys.getD x.toNat []) < 0))
theorem keyLe_iff {keys : List (List UInt8)} {x y : Int} : keyLe keys x y = true ↔ Lib.compareBytes (keys.getD x.toNat []) (keys.getD y.toNat []) ≤ 0 := by
  have := cb_anti (keys.getD x.toNat []) (keys.getD y.toNat [])
  simp only [keyLe, Bool.not_eq_true', decide_eq_false_iff_not]
  omega
def ins (le : Int → Int → Bool) (x : Int) : List Int → List Int
  | [] => [x]
  | y :: r => bif le x y then x :: y :: r else y :: ins le x r
def isort (le : Int → Int → Bool) : List Int → List Int
  | [] => []
  | x :: r => ins le x (isort le r)
theorem ins_perm (le : Int → Int → Bool) (x : Int) : ∀ l, (ins le x l).Perm (x :: l)
  | [] => List.Perm.refl _
  | y :: r => by
    unfold ins
    cases le x y with
    | true => exact List.Perm.refl _
    | false => exact ((ins_perm le x r).cons y).trans (List.Perm.swap x y r)
theorem isort_perm (le : Int → Int → Bool) : ∀ l, (isort le l).Perm l
  | [] => List.Perm.refl _
  | x :: r => (ins_perm le x _).trans ((isort_perm le r).cons x)
theorem ins_sorted {le : Int → Int → Bool} (ht : ∀ a b c, le a b = true → le b c = true → le a c = true) (hn : ∀ a b, le a b = true ∨ le b a = true) (x : Int) : ∀ l, l.Pairwise (fun a b => le a b = true) → (ins le x l).Pairwise (fun a b => le a b = true)
  | [], _ => by simp [ins]
  | y :: r, h => by
    obtain ⟨h1, h2⟩ := List.pairwise_cons.1 h
    unfold ins
    cases hxy : le x y with
    | true => exact List.pairwise_cons.2 ⟨fun z hz => by
        rcases List.mem_cons.1 hz with rfl | hz
        · exact hxy
        · exact ht _ _ _ hxy (h1 z hz), h⟩
    | false =>
      refine List.pairwise_cons.2 ⟨fun z hz => ?_, ins_sorted ht hn x r h2⟩
      rcases List.mem_cons.1 ((ins_perm le x r).mem_iff.1 hz) with rfl | hz
      · exact (hn z y).resolve_left (by simp [hxy])
      · exact h1 z hz
theorem isort_sorted {le : Int → Int → Bool} (ht : ∀ a b c, le a b = true → le b c = true → le a c = true) (hn : ∀ a b, le a b = true ∨ le b a = true) : ∀ l, (isort le l).Pairwise (fun a b => le a b = true)
  | [] => List.Pairwise.nil
  | x :: r => ins_sorted ht hn x _ (isort_sorted ht hn r)
theorem keyLe_trans (keys : List (List UInt8)) (a b c : Int) (h1 : keyLe keys a b = true) (h2 : keyLe keys b c = true) : keyLe keys a c = true :=
  keyLe_iff.2 (cb_trans _ _ _ (keyLe_iff.1 h1) (keyLe_iff.1 h2)).1
theorem keyLe_total (keys : List (List UInt8)) (a b : Int) : keyLe keys a b = true ∨ keyLe keys b a = true := by
  rw [keyLe_iff, keyLe_iff]
  have := cb_anti (keys.getD a.toNat []) (keys.getD b.toNat [])
  omega
theorem sort_eq {keys : List (List UInt8)} {d : List Int} (hnd : keys.Nodup) (hin : ∀ i ∈ d, 0 ≤ i ∧ i < (keys.length : Int)) : d.mergeSort (keyLe keys) = isort (keyLe keys) d := by
  refine List.Perm.eq_of_pairwise (le := fun a b => keyLe keys a b = true) (fun a b ha hb h1 h2 => ?_) (List.pairwise_mergeSort (keyLe_trans keys) (fun a b => by simpa using keyLe_total keys a b) d) (isort_sorted (keyLe_trans keys) (keyLe_total keys) d) ((List.mergeSort_perm d _).trans (isort_perm _ d).symm)
  have ia := hin a ((List.mergeSort_perm d _).mem_iff.1 ha)
  have ib := hin b ((isort_perm _ d).mem_iff.1 hb)
  have e1 := keyLe_iff.1 h1
  have e2 := keyLe_iff.1 h2
  have e3 := cb_anti (keys.getD a.toNat []) (keys.getD b.toNat [])
  have e4 := cb_eq _ _ (by omega : Lib.compareBytes (keys.getD a.toNat []) (keys.getD b.toNat []) = 0)
  have la : a.toNat < keys.length := by omega
  have lb : b.toNat < keys.length := by omega
  have e5 : keys[a.toNat] = keys[b.toNat] := by simpa [la, lb] using e4
  have := (List.getElem_inj hnd).1 e5
  omega
def h_sortKeys (_ : Nat) (v : T_api_Value) (d : List Int) : Option (List Int) :=
  need (v.fKeys.Nodup ∧ ∀ i ∈ d, 0 ≤ i ∧ i < (v.fKeys.length : Int)) (need (d.length < 4611686018427387904) (some (isort (keyLe v.fKeys) d)))
theorem finOf {n : Nat} : ∀ (d : List Int), (∀ i ∈ d, 0 ≤ i ∧ i < (n : Int)) → ∃ l : List (Fin n), l.map (fun x => (x.val : Int)) = d
  | [], _ => ⟨[], rfl⟩
  | i :: r, h => by
    obtain ⟨l, hl⟩ := finOf r fun j hj => h j (List.mem_cons_of_mem _ hj)
    have hi := h i List.mem_cons_self
    refine ⟨⟨i.toNat, by omega⟩ :: l, ?_⟩
    simp [hl]
    omega
theorem keys_swo {n : Nat} (k : Fin n → List UInt8) : SWO (ltOf fun x y : Fin n => Lib.compareBytes (k x) (k y)) := by
  refine ⟨fun x => by simp [ltOf, cb_self], fun x y z h1 h2 => ?_, fun x y z h1 h2 => ?_⟩
  · simp only [ltOf, decide_eq_true_eq] at *
    exact (cb_trans _ _ _ (by omega) (by omega)).2 (.inl h1)
  · simp only [ltOf, decide_eq_false_iff_not] at *
    have a1 := cb_anti (k x) (k y)
    have a2 := cb_anti (k y) (k z)
    have a3 := cb_anti (k x) (k z)
    have := (cb_trans (k z) (k y) (k x) (by omega) (by omega)).1
    omega

theorem sortKeys_ok (n : Nat) {M : Mem} {bA ad0 : Addr} {v : T_api_Value} {c0 : List Value} (h0 : Rep M (emb_T_api_Value v) c0) (q0 : ∀ j u, c0[j]? = some u → M.cell? (ad0.add j) = some u)
    (hb : M.cell? bA = some (.pointer (some ad0))) (u : Value) (d : List Int) (cs : List Value) (hr : RepSeq M (d.map (Dat.int .i64)) cs) (r : List Int) (hF : h_sortKeys n v d = some r) :
    OkH Tryd.prog M [.row 3 1 u d.length cs] 114 [u, .func (.func 115) #[] #[.pointer (some bA)]] (fun M' E' z => ∃ cs', z = .tuple #[] ∧ E' = [.row 3 1 u r.length cs'] ∧ RepSeq M' (r.map (Dat.int .i64)) cs' ∧ r.length = d.length) := by
  unfold h_sortKeys at hF
  obtain ⟨⟨hnd, hin⟩, hF⟩ := need_some hF
  obtain ⟨hlen, hF⟩ := need_some hF
  obtain rfl := Option.some.inj hF
  rw [← sort_eq hnd hin]
  obtain rfl := repInts hr
  clear hF
  obtain ⟨zs, rfl⟩ := finOf d hin
  clear hr hin
  intro M2 hM w0 H w hp
  have hmap : (zs.mergeSort fun x y => !(ltOf (fun x y : Fin v.fKeys.length => Lib.compareBytes v.fKeys[x] v.fKeys[y])) y x).map (fun x => (x.val : Int)) = (zs.map (fun x => (x.val : Int))).mergeSort (keyLe v.fKeys) := by
    refine List.map_mergeSort fun a _ b _ => ?_
    simp [keyLe, ltOf]
  rw [← hmap]
  have hls : (zs.mergeSort fun x y => !(ltOf (fun x y : Fin v.fKeys.length => Lib.compareBytes v.fKeys[x] v.fKeys[y])) y x).length = zs.length := List.length_mergeSort _
  clear hmap
  by_cases hd : zs = []
  · subst hd
    have key : ∀ p cap, u = .slice p 0 cap → Calls Tryd.prog 114 [u, .func (.func 115) #[] #[.pointer (some bA)]].toArray w fun e w' => e = .returned (.tuple #[]) ∧ w' = w := fun p cap e => by
      subst e
      exact AnyF.slices_SortFunc_none { Tryd.laysS with } p cap _ w
    have hv : ∃ p cap, u = .slice p 0 cap := by
      rcases hp.rowObj with ⟨h1, _⟩ | ⟨g, cap, cur, h1, _⟩
      · exact ⟨_, _, h1⟩
      · exact ⟨_, _, h1⟩
    obtain ⟨p, cap, hv⟩ := hv
    refine (key p cap hv).mono fun e w' ⟨he, hw⟩ => ⟨_, he, M2, _, Mem.le_refl _, ?_, [], rfl, rfl, ?_, by simp⟩
    · subst hw
      simpa using hp
    · simp [RepSeq]
  · have hpos : 0 < v.fKeys.length := by
      cases zs with
      | nil => exact absurd rfl hd
      | cons x _ => exact Nat.lt_of_le_of_lt (Nat.zero_le _) x.isLt
    haveI : Inhabited (Fin v.fKeys.length) := ⟨⟨0, hpos⟩⟩
    rcases hp.rowObj with ⟨h1, h2, h3, h4⟩ | ⟨g, cap, cur, h1, h2, h3, h4, h5, h6, h7⟩
    · simp at h2
      exact absurd h2 hd
    · simp only [List.length_map, List.map_map] at h1 h2 h4 h5 h6
      subst h1
      obtain ⟨enc, henc⟩ : ∃ enc : Fin v.fKeys.length → Value, enc = fun x => .int .i64 (x.val : Int) := ⟨_, rfl⟩
      have he0 : (Value.int IntKind.i64 ∘ fun x : Fin v.fKeys.length => (x.val : Int)) = enc := by rw [henc]; rfl
      rw [he0] at h5
      obtain ⟨cf, hcf⟩ : ∃ cf : Fin v.fKeys.length → Fin v.fKeys.length → Int, cf = fun x y => Lib.compareBytes v.fKeys[x] v.fKeys[y] := ⟨_, rfl⟩
      have hO : SWO (ltOf cf) := by rw [hcf]; exact keys_swo fun x => v.fKeys[x]
      have hT : ∀ x y, (ltOf cf) x y = false → (ltOf cf) y x = false → x = y := fun x y g1 g2 => by
        rw [hcf] at g1 g2
        simp only [ltOf, decide_eq_false_iff_not] at g1 g2
        have a1 := cb_anti v.fKeys[x] v.fKeys[y]
        have := cb_eq _ _ (by omega : Lib.compareBytes v.fKeys[x] v.fKeys[y] = 0)
        exact Fin.ext ((List.getElem_inj hnd).1 this)
      have hcell : ∀ j, j < zs.length → cur[j]? = (zs.map enc)[j]? := fun j hj => by
        rw [← h5, List.getElem?_take_of_lt (by omega), Array.getElem?_toList]
      have hH : Holds enc w g 0 zs.toArray := fun j hj => by
        have hj' : j < zs.length := by simpa using hj
        refine ⟨?_, ?_⟩
        · rw [Nat.zero_add, h7.ownCell 0 rfl, hcell j hj']
          simp [hj']
        · rw [Nat.zero_add]
          exact h7.ownFrozen 0 rfl j (by omega)
      have hg : g < w.heap.size := lt_of_get (h7.own _ List.mem_cons_self).2
      have eg : ∀ args w, (callFunc 115 args).run Tryd.prog w = .ok (.enter 115 args) w := Go.Proofs.enters_of Tryd.func115 (by kernel_rfl) rfl
      have hget : ∀ x : Fin v.fKeys.length, getI v.fKeys (x.val : Int) = some v.fKeys[x] := fun x => by simp [getI]
      have hcmp : CmpLays1 Tryd.prog 115 #[.pointer (some bA)] enc cf g 0 zs.toArray.size w := by
        intro m os dk hs x y
        have hpW : Hp w0 M2 (.obj g (.cells (putCells enc 0 dk cur) 3 (0, 0)) :: H) (sortWorld enc w g 0 m dk os) := ((h7.sameHeap rfl rfl rfl rfl : Hp w0 M2 _ (Sort.ahead w m)).mapCells (putCells enc 0 dk)).grow_ os
        have hc := order1_calls hpW (Rep.mono hM _ _ h0) (fun j u h => hM.cell (q0 j u h)) (hM.cell hb) (x.val : Int) (y.val : Int) v.fKeys[x] v.fKeys[y] (hget x) (hget y)
        have ea : (#[enc x, enc y] ++ #[.pointer (some bA)] : Array Value) = [.int .i64 (x.val : Int), .int .i64 (y.val : Int), .pointer (some bA)].toArray := by rw [henc]; rfl
        rw [ea]
        exact hc.mono fun e w' ⟨he, q, hw⟩ => ⟨by rw [he, hcf], q, #[], by rw [hw, grow_empty]⟩
      have hcall : Calls Tryd.prog 114 #[.slice (some ⟨g, 0, none⟩) zs.length cap, .func (.func 115) #[] #[.pointer (some bA)]] w fun e w' =>
          e = .returned (.tuple #[]) ∧ ∃ n os, w' = sortWorld enc w g 0 n (zs.mergeSort fun x y => !(ltOf cf) y x).toArray os :=
        Any.slices_SortFunc_total Tryd.laysS enc (fun x => by rw [henc]; rfl) cf hO 115 #[.pointer (some bA)] g 0 cap zs.toArray w eg hcmp hH hg (by simpa using hlen) hT
      simp only [List.length_map]
      rw [hcf] at hcall
      refine hcall.mono fun e w' ⟨he, k, os, hw⟩ => ⟨_, he, M2, _, Mem.le_refl _, ?_, _, rfl, rfl, intsRep _, by simp⟩
      subst hw
      have h9 := ((h7.sameHeap rfl rfl rfl rfl : Hp w0 M2 _ (Sort.ahead w k)).mapCells (putCells enc 0 (zs.mergeSort fun x y => !(ltOf (fun x y : Fin v.fKeys.length => Lib.compareBytes v.fKeys[x] v.fKeys[y])) y x).toArray)).grow_ os
      have hcs : cur.size = cap := by omega
      have hlen' : zs.length ≤ cap := h2
      rw [hls]
      refine h9.objRow h2 h3 (by simp [putCells, h4]) ?_ (by simp)
      rw [List.map_map, he0]
      generalize (zs.mergeSort fun x y => !(ltOf (fun x y : Fin v.fKeys.length => Lib.compareBytes v.fKeys[x] v.fKeys[y])) y x) = ys at hls ⊢
      apply List.ext_getElem?
      intro j
      by_cases hj : j < zs.length
      · rw [List.getElem?_take_of_lt (by omega), Array.getElem?_toList]
        have hjc : j < cur.size := by omega
        have hjy : j < ys.length := by omega
        simp [putCells, hjc, hjy]
      · rw [List.getElem?_eq_none (by simp; omega), List.getElem?_eq_none (by simp; omega)]
end Go.Proofs.YtalifkcchfkgmaaDoor
