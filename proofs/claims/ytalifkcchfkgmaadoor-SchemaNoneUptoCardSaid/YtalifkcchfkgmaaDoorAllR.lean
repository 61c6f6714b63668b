/-
  Chapter 9: schema.rising over the types' maps: the keys, sorted. Own work (the walk after the guide's worked Wordkeys).
-/
import Derived.Test.YtalifkcchfkgmaaDoorAllH
import Derived.Test.YtalifkcchfkgmaaDoorIter
set_option linter.unusedVariables false
set_option linter.unusedSimpArgs false
namespace Go.Proofs.YtalifkcchfkgmaaDoor
open Go Go.Vc Go.RowKit Go.Maps Go.Sort
def namesS (kind : List UInt8) : List (List UInt8) := bif decide (kDisk = kind) then [[75, 105, 110, 100], [83, 105, 122, 101], [84, 97, 103, 115]] else bif decide (kNet = kind) then [[76, 97, 98, 101, 108], [82, 97, 110, 103, 101]] else bif decide (kNode = kind) then [[67, 111, 117, 110, 116], [68, 105, 115, 107], [73, 109, 97, 103, 101], [78, 101, 116]] else bif decide (kRule = kind) then [[78, 111, 100, 101], [80, 111, 114, 116]] else []
def kindsS : List (List UInt8) := [kDisk, kNet, kNode, kRule]
/-- how a map's value reads: no matter -/
def RU : Value → Option (DataW Empty × List MemPlace) := fun _ => some (.nil, [])
def entsO {V : Type} (ev : V → Value) (d : List (List UInt8 × V)) : List MapEntry := (d.map fun p => (p.1, ev p.2)).zipIdx.map (mEnt S)
theorem S_inj {a b : List UInt8} (h : S a = S b) : a = b := by
  have := congrArg (fun v => match v with | .string s => s.data.toList | _ => []) h
  simpa [S, mkS] using this
theorem fit_mapO {P : Program} {k : TypeId} (hk : P.underlying k = some .string) {V : Type} (ev : V → Value) (d : List (List UInt8 × V)) (hn : (d.map (·.1)).Nodup) (hl : d.length ≤ maxLen) (hkl : ∀ p ∈ d, p.1.length ≤ maxLen) :
    WideElems.Fit P k RU (entsO ev d).toArray d.length := by
  refine ⟨by simp [entsO]; exact hl, ⟨fun x hx => ?_, ?_, ?_⟩, fun x hx => ?_⟩
  · simp only [entsO, List.toList_toArray, List.mem_map] at hx
    obtain ⟨⟨p, i⟩, hp, rfl⟩ := hx
    have := List.mem_zipIdx hp
    simp [mEnt] at this ⊢
    omega
  · have : ((entsO ev d).toArray.toList.map (·.born)) = List.range' 0 d.length := by
      simp only [entsO, List.map_map]
      have h := List.zipIdx_map_snd 0 (d.map fun p => (p.1, ev p.2))
      rw [List.length_map] at h
      exact h
    rw [this]
    exact List.nodup_range'
  · have : ((entsO ev d).toArray.toList.map (·.key)) = d.map fun p => S p.1 := by
      simp only [entsO, List.map_map]
      have h := congrArg (List.map fun p : List UInt8 × Value => S p.1) (List.zipIdx_map_fst 0 (d.map fun p => (p.1, ev p.2)))
      rw [List.map_map, List.map_map] at h
      exact h
    rw [this]
    have h := List.Pairwise.map (f := S) (S := fun a b => a ≠ b) (fun a b (hab : a ≠ b) e => hab (S_inj e)) hn
    rwa [List.map_map] at h
  · simp only [entsO, List.toList_toArray, List.mem_map] at hx
    obtain ⟨⟨p, i⟩, hp, rfl⟩ := hx
    have h1 := List.fst_mem_of_mem_zipIdx hp
    obtain ⟨q, hq, rfl⟩ := List.mem_map.1 h1
    have hle := hkl q hq
    refine ⟨(.string q.1, .nil), ?_⟩
    have hs : (mkS q.1).size ≤ maxLen := hle
    simp [WideElems.rd, mEnt, keyOf, hk, mapKey, S, RU]
    have hs2 : ({ data := q.fst.toArray } : ByteArray).size ≤ maxLen := hs
    rw [if_pos hs2]; rfl
def datO {P : Program} {k : TypeId} {V : Type} (ev : V → Value) (d : List (List UInt8 × V)) : DataW Empty := .map (((entsO ev d).map (WideElems.rg P k RU)).foldr DataW.insert [])
theorem owns_mapO {P : Program} {k : TypeId} (hk : P.underlying k = some .string) {V : Type} {ev : V → Value} {d : List (List UInt8 × V)} {w : World} {b : Nat} (hb : w.heap[b]? = some (mapO S ev d)) (hn : (d.map (·.1)).Nodup) (hl : d.length ≤ maxLen) (hkl : ∀ p ∈ d, p.1.length ≤ maxLen) :
    w.ownsMap P k RU b d.length (datO (P := P) (k := k) ev d) := by
  refine ⟨(entsO ev d).toArray, d.length, ?_, fit_mapO hk ev d hn hl hkl, by simp [entsO], rfl⟩
  rw [hb]
  unfold mapO mObj entsO
  rw [List.length_map]
theorem repStrs {M : Mem} : ∀ T : List (List UInt8), RepSeq M (T.map Dat.str) (T.map encStr)
  | [] => rfl
  | t :: r => ⟨[S t], r.map encStr, rfl, rfl, repStrs r⟩
theorem leB_sorted {T : List (List UInt8)} (h : T.Pairwise fun a b => leB a b = true) {ss : List (List UInt8)} (hp : ss.Perm T) : ss.mergeSort leB = T := by
  rw [mergeSort_of_perm hp]
  exact List.mergeSort_of_pairwise h
/-- the contract out of the walk -/
theorem rising_of {M : Mem} {b fid : Nat} {o : Obj} {T : List (List UInt8)} (hb : M b = some o) (hT : T.Pairwise fun a b => leB a b = true)
    (h : ∀ w : World, w.heap[b]? = some o → Calls Tryd.prog fid [.map (some b)].toArray w fun e w' => ∃ (v : Value) (ss : List (List UInt8)), e = .returned v ∧ ss.Perm T ∧ w'.ownsRow w.heap.size 9 1 v ss.length ((ss.mergeSort leB).map encStr) ∧ Below w.heap.size w w') :
    Ok Tryd.prog M fid [.map (some b)] (fun M' v => ∃ A cap, v = .slice A T.length cap ∧ Sli M' 1 Dat.str A cap T) := by
  intro M2 hM w0 H w hp
  refine (h w (hp.mem _ _ (hM _ _ hb))).mono ?_
  rintro e w' ⟨v, ss, rfl, hperm, hrow, hbel⟩
  rw [leB_sorted hT hperm, hperm.length_eq] at hrow
  have p2 := hp.newRow hrow ⟨hbel.os, hbel.tape, hbel.output, hbel.size, fun k hk _ => hbel.block k hk⟩
  obtain ⟨A, cap, M', hv, hM', p3, hs⟩ := p2.rowSli (f := Dat.str) (xs := T) szd_str (repStrs T)
  exact ⟨v, rfl, M', hM', p3, A, cap, hv, hs⟩

theorem perm_P {V : Type} {ev : V → Value} {d : List (List UInt8 × V)} {T K : List (List UInt8)} {ss : List (List UInt8)} (h : ss.Perm (strKeys (datO (P := Tryd.prog) (k := 9) ev d))) (e : strKeys (datO (P := Tryd.prog) (k := 9) ev d) = K) (hK : K.Perm T) : ss.Perm T := by rw [e] at h; exact h.trans hK
set_option maxHeartbeats 1000000 in
/-- the walk of schema.rising over a type's properties -/
theorem walkP {d : List (List UInt8 × T_api_Spec)} {T K : List (List UInt8)} (hn : (d.map (·.1)).Nodup) (hl : d.length ≤ maxLen) (hkl : ∀ p ∈ d, p.1.length ≤ maxLen) (e : strKeys (datO (P := Tryd.prog) (k := 9) specE d) = K) (hK : K.Perm T) (hs1 : Maps.size (datO (P := Tryd.prog) (k := 9) specE d) ≤ maxLen) (hs2 : Maps.size (datO (P := Tryd.prog) (k := 9) specE d) * 16 ≤ 140737488355328) (b : Nat) (w : World) (hb : w.heap[b]? = some (mapO S specE d)) :
    Calls Tryd.prog 49 [.map (some b)].toArray w fun e w' => ∃ (v : Value) (ss : List (List UInt8)), e = .returned v ∧ ss.Perm T ∧ w'.ownsRow w.heap.size 9 1 v ss.length ((ss.mergeSort leB).map encStr) ∧ Below w.heap.size w w' := by
  have hown := owns_mapO (P := Tryd.prog) (k := 9) Tryd.underlying9 (ev := specE) hb hn hl hkl
  refine (callsIn_wide (n := 6)).1 ?_
  have hfK : Fence.wide.fn 78 := trivial
  have hfS : Fence.wide.fn 75 := trivial
  refine callsIn_of_wp Tryd.func49 rfl trivial ?_ rfl
  simp only [Tryd.ntmps49, List.size_toArray, List.length_cons, List.length_nil, Nat.reduceAdd, Nat.reduceSub, Array.replicate_succ, Array.replicate_zero, List.push_toArray, List.append_toArray, List.nil_append, List.cons_append]
  gi_wp2_with (first
    | (gi_at_call 78; refine (Tryd.maps_Keys_78 _ _).mono ?_; rintro e w' ⟨rfl, rfl⟩)
    | (gi_at_call 75; refine (Tryd.slices_Sorted_keys_75_78 b _ _ RU w hown hs1 hs2).mono ?_; rintro e w' ⟨v, ss, rfl, hS, hrow, hnil, hb⟩))
  go_ret
  exact ⟨v, ss, rfl, perm_P hS e hK, ownsRow_base_a hrow (by simp), ((Below.refl _ w).alloc (Nat.le_refl _) _).trans (hb.mono (by simp))⟩
set_option maxHeartbeats 1000000 in
/-- .. over the types -/
theorem walkA {d : List (List UInt8 × Option Nat)} {T K : List (List UInt8)} (hn : (d.map (·.1)).Nodup) (hl : d.length ≤ maxLen) (hkl : ∀ p ∈ d, p.1.length ≤ maxLen) (e : strKeys (datO (P := Tryd.prog) (k := 9) mapE d) = K) (hK : K.Perm T) (hs1 : Maps.size (datO (P := Tryd.prog) (k := 9) mapE d) ≤ maxLen) (hs2 : Maps.size (datO (P := Tryd.prog) (k := 9) mapE d) * 16 ≤ 140737488355328) (b : Nat) (w : World) (hb : w.heap[b]? = some (mapO S mapE d)) :
    Calls Tryd.prog 43 [.map (some b)].toArray w fun e w' => ∃ (v : Value) (ss : List (List UInt8)), e = .returned v ∧ ss.Perm T ∧ w'.ownsRow w.heap.size 9 1 v ss.length ((ss.mergeSort leB).map encStr) ∧ Below w.heap.size w w' := by
  have hown := owns_mapO (P := Tryd.prog) (k := 9) Tryd.underlying9 (ev := mapE) hb hn hl hkl
  refine (callsIn_wide (n := 6)).1 ?_
  have hfK : Fence.wide.fn 76 := trivial
  have hfS : Fence.wide.fn 75 := trivial
  refine callsIn_of_wp Tryd.func43 rfl trivial ?_ rfl
  simp only [Tryd.ntmps43, List.size_toArray, List.length_cons, List.length_nil, Nat.reduceAdd, Nat.reduceSub, Array.replicate_succ, Array.replicate_zero, List.push_toArray, List.append_toArray, List.nil_append, List.cons_append]
  gi_wp2_with (first
    | (gi_at_call 76; refine (Tryd.maps_Keys_76 _ _).mono ?_; rintro e w' ⟨rfl, rfl⟩)
    | (gi_at_call 75; refine (Tryd.slices_Sorted_keys_75_76 b _ _ RU w hown hs1 hs2).mono ?_; rintro e w' ⟨v, ss, rfl, hS, hrow, hnil, hb⟩))
  go_ret
  exact ⟨v, ss, rfl, perm_P hS e hK, ownsRow_base_a hrow (by simp), ((Below.refl _ w).alloc (Nat.le_refl _) _).trans (hb.mono (by simp))⟩
theorem risingA_ok {M : Mem} {b0 b1 b2 b3 b4 : Nat} (hA : AllAt M b0 b1 b2 b3 b4) : Ok Tryd.prog M 43 [.map (some b0)] (fun M' v => ∃ A cap, v = .slice A kindsS.length cap ∧ Sli M' 1 Dat.str A cap kindsS) :=
  rising_of hA.h0 (by unfold kindsS; decide) fun w hb => walkA (K := kindsS) (by simp [allB, kDisk, kNet, kNode, kRule]) (by simp [allB, maxLen]) (by simp [allB, kDisk, kNet, kNode, kRule, maxLen]) (by kernel_rfl) (List.Perm.refl _) (of_decide_eq_true (by kernel_rfl)) (of_decide_eq_true (by kernel_rfl)) b0 w hb
set_option maxHeartbeats 1000000 in
/-- .. over none -/
theorem walkN (w : World) : Calls Tryd.prog 49 [.map none].toArray w fun e w' => e = .returned (.slice none 0 0) ∧ Below w.heap.size w w' := by
  refine (callsIn_wide (n := 6)).1 ?_
  have hfK : Fence.wide.fn 78 := trivial
  have hfS : Fence.wide.fn 75 := trivial
  refine callsIn_of_wp Tryd.func49 rfl trivial ?_ rfl
  simp only [Tryd.ntmps49, List.size_toArray, List.length_cons, List.length_nil, Nat.reduceAdd, Nat.reduceSub, Array.replicate_succ, Array.replicate_zero, List.push_toArray, List.append_toArray, List.nil_append, List.cons_append]
  gi_wp2_with (first
    | (gi_at_call 78; refine (Tryd.maps_Keys_78 _ _).mono ?_; rintro e w' ⟨rfl, rfl⟩)
    | (gi_at_call 75; refine (Tryd.slices_Sorted_keys_nil_75_78 w).mono ?_; rintro e w' ⟨v, ss, rfl, hS, hrow, hnil, hb⟩))
  go_ret
  exact ⟨by rw [hnil.2 hS]; rfl, ((Below.refl _ w).alloc (Nat.le_refl _) _).trans (hb.mono (by simp))⟩
theorem risingP_ok {M : Mem} {b0 b1 b2 b3 b4 : Nat} (kind : List UInt8) (hA : AllAt M b0 b1 b2 b3 b4) : Ok Tryd.prog M 49 [.map (blkOf b1 b2 b3 b4 kind)] (fun M' v => ∃ A cap, v = .slice A (namesS kind).length cap ∧ Sli M' 1 Dat.str A cap (namesS kind)) := by
  unfold blkOf namesS
  by_cases h1 : kDisk = kind
  · rw [decide_eq_true h1, cond_true, cond_true]
    exact rising_of hA.h1 (by decide) fun w hb => walkP (K := [[75, 105, 110, 100], [83, 105, 122, 101], [84, 97, 103, 115]]) (by simp [dDisk]) (by simp [dDisk, maxLen]) (by simp [dDisk, maxLen]) (by kernel_rfl) (List.Perm.refl _) (of_decide_eq_true (by kernel_rfl)) (of_decide_eq_true (by kernel_rfl)) b1 w hb
  rw [decide_eq_false h1, cond_false, cond_false]
  by_cases h2 : kNet = kind
  · rw [decide_eq_true h2, cond_true, cond_true]
    exact rising_of hA.h2 (by decide) fun w hb => walkP (K := [[76, 97, 98, 101, 108], [82, 97, 110, 103, 101]]) (by simp [dNet]) (by simp [dNet, maxLen]) (by simp [dNet, maxLen]) (by kernel_rfl) (List.Perm.refl _) (of_decide_eq_true (by kernel_rfl)) (of_decide_eq_true (by kernel_rfl)) b2 w hb
  rw [decide_eq_false h2, cond_false, cond_false]
  by_cases h3 : kNode = kind
  · rw [decide_eq_true h3, cond_true, cond_true]
    exact rising_of hA.h3 (by decide) fun w hb => walkP (K := [[67, 111, 117, 110, 116], [68, 105, 115, 107], [73, 109, 97, 103, 101], [78, 101, 116]]) (by simp [dNode]) (by simp [dNode, maxLen]) (by simp [dNode, maxLen]) (by kernel_rfl) (List.Perm.refl _) (of_decide_eq_true (by kernel_rfl)) (of_decide_eq_true (by kernel_rfl)) b3 w hb
  rw [decide_eq_false h3, cond_false, cond_false]
  by_cases h4 : kRule = kind
  · rw [decide_eq_true h4, cond_true, cond_true]
    exact rising_of hA.h4 (by decide) fun w hb => walkP (K := [[78, 111, 100, 101], [80, 111, 114, 116]]) (by simp [dRule]) (by simp [dRule, maxLen]) (by simp [dRule, maxLen]) (by kernel_rfl) (List.Perm.refl _) (of_decide_eq_true (by kernel_rfl)) (of_decide_eq_true (by kernel_rfl)) b4 w hb
  rw [decide_eq_false h4, cond_false, cond_false]
  intro M2 hM w0 H w hp
  refine (walkN w).mono ?_
  rintro e w' ⟨rfl, hb⟩
  exact ⟨_, rfl, M2, Mem.le_refl _, hp.newer hb, none, 0, rfl, Sli.nil⟩
end Go.Proofs.YtalifkcchfkgmaaDoor
