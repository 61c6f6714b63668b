/-
  VC: maps whose values hold rows; going over a known map in whatever order. Own work.
-/
import Derived.Test.YtalifkcchfkgmaaDoorVkF
set_option linter.unusedVariables false
set_option linter.unusedSimpArgs false
namespace Go.Vc
open Go Go.RowKit
variable {dd : List Deferred}
/-! ### Known maps of structs that hold rows -/
def idV (v : Value) : Value := v
def RepMap {κ δ : Type} (M : Mem) (emb : δ → Dat) : List (κ × δ) → List (κ × Value) → Prop
  | [], m => m = []
  | p :: r, m => ∃ cs m', m = (p.1, Value.agg cs.toArray) :: m' ∧ Rep M (emb p.2) cs ∧ RepMap M emb r m'
section
variable {κ δ : Type} {M M' : Mem} {emb : δ → Dat}
theorem RepMap.mono (h : M.le M') : ∀ {d : List (κ × δ)} {m : List (κ × Value)}, RepMap M emb d m → RepMap M' emb d m
  | [], _, hr => hr
  | p :: r, m, ⟨cs, m', h1, h2, h3⟩ => ⟨cs, m', h1, Rep.mono h _ _ h2, RepMap.mono h h3⟩
theorem RepMap.nil : RepMap M emb ([] : List (κ × δ)) [] := rfl
variable [DecidableEq κ]
theorem RepMap.put {k : κ} {x : δ} {cs : List Value} (hx : Rep M (emb x) cs) : ∀ {d : List (κ × δ)} {m : List (κ × Value)}, RepMap M emb d m → RepMap M emb (mput d k x) (mput m k (.agg cs.toArray))
  | [], m, h => by
    have : m = [] := h
    subst this
    exact ⟨cs, [], rfl, hx, rfl⟩
  | p :: r, m, ⟨c, m', h1, h2, h3⟩ => by
    subst h1
    unfold mput
    by_cases hk : p.1 = k
    · rw [if_pos hk, if_pos hk]
      exact ⟨cs, m', rfl, hx, h3⟩
    · rw [if_neg hk, if_neg hk]
      exact ⟨c, _, rfl, h2, RepMap.put hx h3⟩
theorem RepMap.isSome {k : κ} : ∀ {d : List (κ × δ)} {m : List (κ × Value)}, RepMap M emb d m → (mget m k).isSome = (mget d k).isSome
  | [], m, h => by
    have : m = [] := h
    subst this; rfl
  | p :: r, m, ⟨c, m', h1, h2, h3⟩ => by
    subst h1
    unfold mget
    by_cases hk : p.1 = k
    · rw [if_pos hk, if_pos hk]; rfl
    · rw [if_neg hk, if_neg hk]; exact RepMap.isSome h3
theorem RepMap.get {k : κ} {z : δ} {zc : List Value} (hz : Rep M (emb z) zc) : ∀ {d : List (κ × δ)} {m : List (κ × Value)}, RepMap M emb d m → ∃ cs, (mget m k).getD (.agg zc.toArray) = .agg cs.toArray ∧ Rep M (emb ((mget d k).getD z)) cs
  | [], m, h => by
    have : m = [] := h
    subst this
    exact ⟨zc, rfl, hz⟩
  | p :: r, m, ⟨c, m', h1, h2, h3⟩ => by
    subst h1
    unfold mget
    by_cases hk : p.1 = k
    · rw [if_pos hk, if_pos hk]; exact ⟨c, rfl, h2⟩
    · rw [if_neg hk, if_neg hk]; exact RepMap.get hz h3
end
theorem Hp.fzObj {w0 w : World} {M : Mem} {H : List Ent} {b : Nat} {o : Obj} (h : Hp w0 M (.obj b o :: H) w) : ∃ M', M.le M' ∧ Hp w0 M' H w ∧ M' b = some o :=
  ⟨_, h.freeze.1, h.freeze.2, by simp [Mem.add]⟩
section
variable {κ : Type} [DecidableEq κ] {P : Program} {ek : κ → Value} {w : World}
theorem X_lookupR1 {o : Oper} {ρ : Operand → Value} {t kt et : TypeId} {x ix : Operand} {b : Nat} {m : List (κ × Value)} {k : κ} {z v : Value} (hv : (mget m k).getD z = v) (ho : o.op = .lookup t x ix false) (hx : ρ x = .map (some b)) (hk : ρ ix = ek k) (ht : P.underlying t = some (.map kt et)) (K : KeyLaw P kt ek)
    (hz : (P.info? et).bind (·.zero) = some z) (hb : w.heap[b]? = some (mapO ek idV m)) : (execOp ρ o).run P w = .ok (.value v) w := by
  subst hv
  exact X_lookup1 (ev := idV) ho hx hk ht K hz hb
theorem X_lookupR2 {o : Oper} {ρ : Operand → Value} {t kt et : TypeId} {x ix : Operand} {b : Nat} {m : List (κ × Value)} {k : κ} {z v : Value} {i : Bool} (hv : (mget m k).getD z = v) (hi : (mget m k).isSome = i) (ho : o.op = .lookup t x ix true) (hx : ρ x = .map (some b)) (hk : ρ ix = ek k) (ht : P.underlying t = some (.map kt et)) (K : KeyLaw P kt ek)
    (hz : (P.info? et).bind (·.zero) = some z) (hb : w.heap[b]? = some (mapO ek idV m)) : (execOp ρ o).run P w = .ok (.value (.tuple #[v, .bool i])) w := by
  subst hv; subst hi
  exact X_lookup2 (ev := idV) ho hx hk ht K hz hb
end
/-! ### All orders of a list -/
section
variable {α : Type}
def insAll (x : α) : List α → List (List α)
  | [] => [[x]]
  | y :: l => (x :: y :: l) :: (insAll x l).map (y :: ·)
def permsL : List α → List (List α)
  | [] => [[]]
  | x :: l => (permsL l).flatMap (insAll x)
theorem mem_insAll {x : α} : ∀ (a b : List α), a ++ x :: b ∈ insAll x (a ++ b)
  | [], [] => by simp [insAll]
  | [], y :: b => by simp [insAll]
  | y :: a, b => by
    simp only [List.cons_append, insAll, List.mem_cons, List.mem_map]
    exact .inr ⟨_, mem_insAll a b, rfl⟩
theorem insAll_perm {x : α} : ∀ {l r : List α}, r ∈ insAll x l → r.Perm (x :: l)
  | [], r, h => by simp [insAll] at h; subst h; exact .refl _
  | y :: l, r, h => by
    simp only [insAll, List.mem_cons, List.mem_map] at h
    rcases h with rfl | ⟨r', h1, rfl⟩
    · exact .refl _
    · exact ((insAll_perm h1).cons y).trans (.swap x y l)
theorem permsL_of : ∀ {all l : List α}, l.Perm all → l ∈ permsL all
  | [], l, h => by simp [permsL, h.eq_nil]
  | x :: all, l, h => by
    obtain ⟨a, b, rfl⟩ := List.append_of_mem (h.symm.subset List.mem_cons_self)
    have h2 : (a ++ b).Perm all := List.Perm.cons_inv (a := x) (List.perm_middle.symm.trans h)
    exact List.mem_flatMap.2 ⟨_, permsL_of h2, mem_insAll a b⟩
theorem permsL_perm : ∀ {all l : List α}, l ∈ permsL all → l.Perm all
  | [], l, h => by simp [permsL] at h; subst h; exact .refl _
  | x :: all, l, h => by
    obtain ⟨r, h1, h2⟩ := List.mem_flatMap.1 h
    exact (insAll_perm h2).trans ((permsL_perm h1).cons x)
end
/-! ### Going over a list; whatever the order -/
section
variable {π σ β : Type}
def foldO (E : σ → Option (Lp σ β)) (Y : π → σ → Option (Lp σ β)) : List π → σ → Option β
  | [], s => (E s).bind fun r => match r with | .nx _ => none | .br b => some b
  | p :: l, s => (Y p s).bind fun r => match r with | .nx s' => foldO E Y l s' | .br b => some b
/-- the same in all orders -/
def foldP [DecidableEq β] (E : σ → Option (Lp σ β)) (Y : π → σ → Option (Lp σ β)) (all : List π) (s : σ) : Option β :=
  need (∀ l ∈ permsL all, foldO E Y l s = foldO E Y all s) (foldO E Y all s)
def todoD (m : List π) (seen : Array Nat) : List (π × Nat) := m.zipIdx.filter fun p => !seen.contains p.2
def leftD (m : List π) (seen : Array Nat) : List π := (todoD m seen).map (·.1)
theorem leftD_start (m : List π) : leftD m #[] = m := by
  unfold leftD todoD
  have : (m.zipIdx.filter fun p => !(#[] : Array Nat).contains p.2) = m.zipIdx := List.filter_eq_self.2 (fun p _ => by simp)
  rw [this]; simp
variable {E : σ → Option (Lp σ β)} {Y : π → σ → Option (Lp σ β)} {m : List π} {seen : Array Nat} {s : σ} {b : β}
theorem foldP_start [DecidableEq β] (h : foldP E Y m s = some b) : ∀ l, l.Perm (leftD m #[]) → foldO E Y l s = some b := by
  intro l hl
  rw [leftD_start] at hl
  obtain ⟨h1, h2⟩ := need_some h
  rw [h1 l (permsL_of hl)]; exact h2
theorem foldP_run [DecidableEq β] (h : ∀ l, l.Perm m → foldO E Y l s = some b) : foldP E Y m s = some b := by
  unfold foldP
  rw [need_t (fun l hl => by rw [h l (permsL_perm hl), h m (.refl _)]), h m (.refl _)]
theorem foldO_end (h : ∀ l, l.Perm (leftD m seen) → foldO E Y l s = some b) (h0 : leftD m seen = []) : ∃ r, E s = some r ∧ (match r with | .nx _ => none | .br b => some b) = some b := by
  have := h [] (by rw [h0])
  exact Option.bind_eq_some_iff.1 this
theorem perm_pick {j : Nat} {p : π} : ∀ {Z : List (π × Nat)}, (Z.map (·.2)).Nodup → (p, j) ∈ Z → Z.Perm ((p, j) :: Z.filter fun q => !(q.2 == j))
  | [], _, h => by simp at h
  | z :: Z, hn, h => by
    simp only [List.map_cons, List.nodup_cons] at hn
    rcases List.mem_cons.1 h with rfl | h
    · rw [List.filter_cons_of_neg (by simp)]
      have : (Z.filter fun q => !(q.2 == j)) = Z := List.filter_eq_self.2 (fun q hq => by
        have : q.2 ≠ j := fun e => hn.1 (List.mem_map.2 ⟨q, hq, e⟩)
        simp [this])
      rw [this]
    · have hz : z.2 ≠ j := fun e => hn.1 (e ▸ List.mem_map.2 ⟨_, h, rfl⟩)
      rw [List.filter_cons_of_pos (by simp [hz])]
      exact ((perm_pick hn.2 h).cons z).trans (.swap _ _ _)
theorem zipIdx_nodup : ∀ (m : List π) (n : Nat), ((m.zipIdx n).map (·.2)).Nodup ∧ ∀ q ∈ m.zipIdx n, n ≤ q.2
  | [], n => ⟨by simp, by simp⟩
  | x :: m, n => by
    obtain ⟨h1, h2⟩ := zipIdx_nodup m (n + 1)
    simp only [List.zipIdx_cons, List.map_cons, List.nodup_cons, List.mem_cons]
    refine ⟨⟨fun h => ?_, h1⟩, fun q hq => ?_⟩
    · obtain ⟨q, hq, e⟩ := List.mem_map.1 h
      have := h2 q hq; omega
    · rcases hq with rfl | hq
      · exact Nat.le_refl _
      · have := h2 q hq; omega
theorem todoD_push {p : π} {j : Nat} (h : (p, j) ∈ todoD m seen) : (todoD m seen).Perm ((p, j) :: todoD m (seen.push j)) := by
  have hn : ((todoD m seen).map (·.2)).Nodup := List.Nodup.sublist (List.Sublist.map _ List.filter_sublist) (zipIdx_nodup m 0).1
  have := perm_pick hn h
  have e : todoD m (seen.push j) = (todoD m seen).filter fun q => !(q.2 == j) := by
    unfold todoD
    rw [List.filter_filter]
    congr 1
    funext q
    by_cases hq : q.2 = j <;> simp [hq, Array.contains_push]
  rw [e]; exact this
theorem leftD_push {p : π} {j : Nat} (h : (p, j) ∈ todoD m seen) : (leftD m seen).Perm (p :: leftD m (seen.push j)) := (todoD_push h).map _
theorem leftD_lt {p : π} {j : Nat} (h : (p, j) ∈ todoD m seen) : (leftD m (seen.push j)).length < (leftD m seen).length := by
  rw [(leftD_push h).length_eq]; simp
theorem foldO_go {p : π} {j : Nat} (hj : (p, j) ∈ todoD m seen) (h : ∀ l, l.Perm (leftD m seen) → foldO E Y l s = some b) :
    ∃ r, Y p s = some r ∧ (match r with | .nx s' => ∀ l, l.Perm (leftD m (seen.push j)) → foldO E Y l s' = some b | .br b' => some b' = some b) := by
  have h2 : ∀ l, l.Perm (leftD m (seen.push j)) → foldO E Y (p :: l) s = some b := fun l hl => h _ ((hl.cons p).trans (leftD_push hj).symm)
  obtain ⟨r, h3, h4⟩ := Option.bind_eq_some_iff.1 (h2 _ (.refl _))
  refine ⟨r, h3, ?_⟩
  cases r with
  | nx s' =>
    intro l hl
    have := h2 l hl
    unfold foldO at this
    rw [h3] at this
    exact this
  | br b' => exact h4
end
/-! ### The iterator -/
section
variable {κ V : Type} {ek : κ → Value} {ev : V → Value} {P : Program} {ops : Array Oper} {n : Nat} {Q : Exit → Act → World → Prop} {L : Fr} {a : Act} {w0 w : World} {M : Mem} {H : List Ent}
def KMapAt (M : Mem) (o : Option Nat) (ek : κ → Value) (ev : V → Value) (m : List (κ × V)) : Prop := (∃ b, o = some b ∧ M b = some (mapO ek ev m)) ∨ (o = none ∧ m = [])
theorem KMapAt.mono {M M' : Mem} (h : M.le M') {o : Option Nat} {m : List (κ × V)} : KMapAt M o ek ev m → KMapAt M' o ek ev m
  | .inl ⟨b, h1, h2⟩ => .inl ⟨b, h1, h _ _ h2⟩
  | .inr h1 => .inr h1
theorem todo_mapO (m : List (κ × V)) (seen : Array Nat) : todo (m.map fun p => (p.1, ev p.2)) seen = (todoD m seen).map fun q => ((q.1.1, ev q.1.2), q.2) := by
  unfold todo todoD
  rw [List.zipIdx_map, List.filter_map]
  rfl
theorem W_rangeM {o : Oper} {rest : List Oper} {d : Nat} {t kt et : TypeId} {x : Operand} {ob : Option Nat} {m : List (κ × V)} (hK : KMapAt M ob ek ev m) (hf : Frm n L a dd) (hp : Hp w0 M H w) (hw : wantedL ops L o = some true) (hr : readyL L o = true)
    (hd : o.dst = some d) (hdn : Nat.blt d n = true) (ho : o.op = .range t x) (hx : Vc.ev L x = .map ob) (ht : P.underlying t = some (.map kt et))
    (hk : ∀ r w', Hp w0 M (.obj r (.mapIter ob m.length #[] m.length) :: H) w' → ∀ a', Frm n ((d, .pointer (some ⟨r, 0, none⟩)) :: L) a' dd → wpList P ops Q rest a' w') : wpList P ops Q (o :: rest) a w := by
  rcases hK with ⟨b, rfl, hb⟩ | ⟨rfl, rfl⟩
  · refine W_range (enc := ek) (m := m.map fun (p : κ × V) => (p.1, ev p.2)) hf hp hw hr hd hdn ho hx ht (hp.mem _ (mapO ek ev m) hb) ?_
    rw [List.length_map]; exact hk
  · exact W_range_nil hf hp hw hr hd hdn ho hx ht hk
theorem X_next_nil' {ρ : Operand → Value} {o : Oper} {x : Operand} {r : Nat} {seen : Array Nat} (ho : o.op = .next x false) (hx : ρ x = .pointer (some ⟨r, 0, none⟩)) (hr : w.heap[r]? = some (.mapIter none 0 seen 0)) :
    (execOp ρ o).run P w = .ok (.value (.tuple #[.bool false])) w := by
  have hg : (getObj r).run P w = .ok (.mapIter none 0 seen 0) w := run_getObj hr (by intro _ _ _ h; cases h)
  unfold execOp
  simp only [ho, hx, Instr.next, Sem.run_bind, hg, Result.andThen_ok]
  rfl
theorem W_nextM {o : Oper} {rest : List Oper} {d : Nat} {x : Operand} {r : Nat} {ob : Option Nat} {m : List (κ × V)} {seen : Array Nat} (hK : KMapAt M ob ek ev m) (hf : Frm n L a dd) (hp : Hp w0 M (.obj r (.mapIter ob m.length seen m.length) :: H) w) (hw : wantedL ops L o = some true) (hr : readyL L o = true)
    (hd : o.dst = some d) (hdn : Nat.blt d n = true) (ho : o.op = .next x false) (hx : Vc.ev L x = .pointer (some ⟨r, 0, none⟩))
    (hover : leftD m seen = [] → ∀ w', Hp w0 M (.obj r (.mapIter ob m.length seen m.length) :: H) w' → ∀ a', Frm n ((d, .tuple #[.bool false]) :: L) a' dd → wpList P ops Q rest a' w')
    (hstep : ∀ (p : κ × V) (j : Nat), (p, j) ∈ todoD m seen → ∀ w', Hp w0 M (.obj r (.mapIter ob m.length (seen.push j) m.length) :: H) w' → ∀ a', Frm n ((d, .tuple #[.bool true, ek p.1, ev p.2]) :: L) a' dd → wpList P ops Q rest a' w') :
    wpList P ops Q (o :: rest) a w := by
  rcases hK with ⟨b, rfl, hb⟩ | ⟨rfl, rfl⟩
  · have hl : (m.map fun p => (p.1, ev p.2)).length = m.length := List.length_map ..
    have hp' := hp
    rw [← hl] at hp'
    refine W_next (enc := ek) (m := m.map fun (p : κ × V) => (p.1, ev p.2)) hf hp' hw hr hd hdn ho hx (hp.mem _ (mapO ek ev m) hb) ?_ ?_
    · rw [todo_mapO, hl]
      intro h0
      exact hover (by unfold leftD; rw [List.map_eq_nil_iff] at h0 ⊢; exact h0)
    · rw [todo_mapO, hl]
      intro q hq
      obtain ⟨z, hz, rfl⟩ := List.mem_map.1 hq
      exact hstep z.1 z.2 hz
  · exact W_eq hf hw hr hd hdn (X_next_nil' ho hx (hp.ownObj 0 rfl)) (hover rfl w hp)
theorem todoD_get {π : Type} {m : List π} {seen : Array Nat} {p : π} {j : Nat} (h : (p, j) ∈ todoD m seen) : m[j]? = some p := by
  obtain ⟨h1, h2⟩ := List.mem_filter.1 h
  have h3 := List.mem_zipIdx h1
  obtain ⟨a, b, c⟩ := h3
  simp only [Nat.sub_zero] at c
  rw [c]
  exact List.getElem?_eq_getElem _
theorem X_entryM {ρ : Operand → Value} {o : Oper} {x : Operand} {r j : Nat} {ob : Option Nat} {m : List (κ × V)} {seen : Array Nat} {p : κ × V} (hK : KMapAt M ob ek ev m) (hp : Hp w0 M H w) (hj : (p, j) ∈ todoD m seen) (i : Nat) (he : H[i]? = some (.obj r (.mapIter ob m.length (seen.push j) m.length)))
    (ho : o.op = .entry x) (hx : ρ x = .pointer (some ⟨r, 0, none⟩)) : (execOp ρ o).run P w = .ok (.value (.tuple #[ek p.1, ev p.2])) w := by
  rcases hK with ⟨b, rfl, hb⟩ | ⟨rfl, rfl⟩
  · have hl : (m.map fun p => (p.1, ev p.2)).length = m.length := List.length_map ..
    have hr := hp.ownObj i he
    rw [← hl] at hr
    exact X_entry (enc := ek) (m := m.map fun (p : κ × V) => (p.1, ev p.2)) (p := (p.1, ev p.2)) ho hx hr (hp.mem _ (mapO ek ev m) hb) (by rw [List.getElem?_map, todoD_get hj]; rfl)
  · simp [todoD] at hj
end
end Go.Vc
