/-
  Plain words on numbers' texts, part 2: order; there and back. No program. Own work.
-/
import Derived.Test.YtpofillhffbalaaNum
import GoSem.Op.String
namespace Go.Num
open Go
theorem digs_ne (n : Nat) : digs n ≠ [] := by
  by_cases h : n < 10
  · rw [digs_lt h]; simp
  · rw [digs_ge h]; simp
theorem digs_pos (n : Nat) : 1 ≤ (digs n).length := by
  have := digs_ne n
  cases h : digs n with
  | nil => exact absurd h this
  | cons c r => simp
theorem dch_inj {a b : Nat} (h : dch a = dch b) : a % 10 = b % 10 := by
  have := congrArg UInt8.toNat h
  rw [dch_toNat, dch_toNat] at this
  omega
/-- The three ways in which two numbers stand to one another are those of their texts. -/
theorem len_mono : ∀ (a b : Nat), a ≤ b → (digs a).length ≤ (digs b).length := by
  intro a
  induction a using Nat.strongRecOn with
  | _ a ih =>
    intro b hab
    by_cases ha : a < 10
    · rw [digs_lt ha]; exact digs_pos b
    · rw [digs_ge ha, digs_ge (n := b) (by omega)]
      have := ih (a / 10) (by omega) (b / 10) (by omega)
      simp only [List.length_append, List.length_cons, List.length_nil]
      omega
theorem digs_inj : ∀ (a b : Nat), digs a = digs b → a = b := by
  intro a
  induction a using Nat.strongRecOn with
  | _ a ih =>
    intro b h
    by_cases ha : a < 10
    · by_cases hb : b < 10
      · rw [digs_lt ha, digs_lt hb] at h
        have := dch_inj (by simpa using h); omega
      · rw [digs_lt ha, digs_ge hb] at h
        have h2 := congrArg List.length h
        have := digs_pos (b / 10)
        simp only [List.length_append, List.length_cons, List.length_nil] at h2; omega
    · by_cases hb : b < 10
      · rw [digs_ge ha, digs_lt hb] at h
        have h2 := congrArg List.length h
        have := digs_pos (a / 10)
        simp only [List.length_append, List.length_cons, List.length_nil] at h2; omega
      · rw [digs_ge ha, digs_ge hb] at h
        obtain ⟨h1, h2⟩ := List.append_inj' h rfl
        have e1 := ih (a / 10) (by omega) (b / 10) h1
        have e2 := dch_inj (by simpa using h2)
        omega
theorem less_snoc : ∀ (x y : List UInt8) (c d : UInt8), x.length = y.length → Op.bytesLess (x ++ [c]) (y ++ [d]) = (Op.bytesLess x y || (x == y && decide (c < d)))
  | [], [], c, d, _ => by simp [Op.bytesLess]
  | a :: x, b :: y, c, d, h => by
    simp only [List.cons_append, Op.bytesLess]
    rw [less_snoc x y c d (by simpa using h)]
    simp [List.cons_beq_cons, Bool.and_or_distrib_left, Bool.or_assoc, Bool.and_assoc]
theorem less_irr : ∀ (x : List UInt8), Op.bytesLess x x = false
  | [] => rfl
  | a :: x => by simp [Op.bytesLess, less_irr x]
theorem dch_less (a b : Nat) : (dch a < dch b) ↔ a % 10 < b % 10 := by
  rw [UInt8.lt_iff_toNat_lt, dch_toNat, dch_toNat]; omega
theorem less_digs : ∀ (a b : Nat), (digs a).length = (digs b).length → Op.bytesLess (digs a) (digs b) = decide (a < b) := by
  intro a
  induction a using Nat.strongRecOn with
  | _ a ih =>
    intro b h
    by_cases ha : a < 10
    · by_cases hb : b < 10
      · rw [digs_lt ha, digs_lt hb]
        have := less_snoc [] [] (dch a) (dch b) rfl
        simp only [List.nil_append] at this
        rw [this, less_irr, Bool.eq_iff_iff]
        simp [dch_less]; omega
      · rw [digs_lt ha, digs_ge hb] at h
        have := digs_pos (b / 10)
        simp only [List.length_append, List.length_cons, List.length_nil] at h; omega
    · by_cases hb : b < 10
      · rw [digs_ge ha, digs_lt hb] at h
        have := digs_pos (a / 10)
        simp only [List.length_append, List.length_cons, List.length_nil] at h; omega
      · rw [digs_ge ha, digs_ge hb] at h ⊢
        have hl : (digs (a / 10)).length = (digs (b / 10)).length := by simpa using h
        rw [less_snoc _ _ _ _ hl, ih (a / 10) (by omega) (b / 10) hl, Bool.eq_iff_iff]
        by_cases e : a / 10 = b / 10
        · rw [e]; simp [dch_less]; omega
        · have : ¬ digs (a / 10) = digs (b / 10) := fun h => e (digs_inj _ _ h)
          simp [this]; omega
theorem len_lt_of {a b : Nat} (h : (digs a).length < (digs b).length) : a < b := by
  rcases Nat.lt_or_ge a b with h1 | h1
  · exact h1
  · have := len_mono b a h1; omega

/-! ### NumberOrder -/
theorem text_fit {n : Int} (h : (text n).2 = 0) : fitsB n = true := by
  cases hf : fitsB n with
  | true => rfl
  | false => rw [text_no hf] at h; simp at h
theorem order_len {n m : Int} (hn : (text n).2 = 0) (hm : (text m).2 = 0) (hs : (decide (n < 0) == decide (m < 0)) = true) (hl : ¬ ((text n).1.length : Int) = ((text m).1.length : Int)) :
    (decide (((text n).1.length : Int) < ((text m).1.length : Int)) == (!(decide (n < m) == decide (n < 0)))) = true := by
  have fn := text_fit hn; have fm := text_fit hm
  by_cases h0 : n < 0
  · have h1 : m < 0 := by simpa [h0] using hs
    rw [text_neg fn h0, text_neg fm h1] at hl ⊢
    simp only [List.length_cons] at hl ⊢
    rw [beq_iff_eq, Bool.eq_iff_iff]
    simp only [h0, decide_true, Bool.not_eq_true', beq_eq_false_iff_ne, ne_eq, decide_eq_true_eq]
    constructor
    · intro h; have := len_lt_of (a := (-n).toNat) (b := (-m).toNat) (by omega); omega
    · intro h
      have h2 : (-n).toNat ≤ (-m).toNat := by omega
      have := len_mono _ _ h2; omega
  · have h1 : ¬ m < 0 := by simpa [h0] using hs
    rw [text_pos fn h0, text_pos fm h1] at hl ⊢
    dsimp only at hl ⊢
    rw [beq_iff_eq, Bool.eq_iff_iff]
    simp only [h0, decide_false, Bool.not_eq_true', beq_eq_false_iff_ne, ne_eq, decide_eq_true_eq, Bool.not_eq_false]
    constructor
    · intro h; have := len_lt_of (a := n.toNat) (b := m.toNat) (by omega); omega
    · intro h
      have h2 : n.toNat ≤ m.toNat := by omega
      have := len_mono _ _ h2; omega
theorem less_cons (c : UInt8) (x y : List UInt8) : Op.bytesLess (c :: x) (c :: y) = Op.bytesLess x y := by simp [Op.bytesLess]
theorem order_neg {n m : Int} (hn : (text n).2 = 0) (hm : (text m).2 = 0) (hs : (decide (n < 0) == decide (m < 0)) = true) (hl : ((text n).1.length : Int) = ((text m).1.length : Int)) (h0 : n < 0) :
    (Op.bytesLess (text n).1 (text m).1 == decide (m < n)) = true := by
  have fn := text_fit hn; have fm := text_fit hm
  have h1 : m < 0 := by simpa [h0] using hs
  rw [text_neg fn h0, text_neg fm h1] at hl ⊢
  simp only [List.length_cons] at hl
  simp only [less_cons]
  rw [less_digs _ _ (by omega), beq_iff_eq, Bool.eq_iff_iff]
  simp only [decide_eq_true_eq]; omega
theorem order_pos {n m : Int} (hn : (text n).2 = 0) (hm : (text m).2 = 0) (hs : (decide (n < 0) == decide (m < 0)) = true) (hl : ((text n).1.length : Int) = ((text m).1.length : Int)) (h0 : ¬ n < 0) :
    (Op.bytesLess (text n).1 (text m).1 == decide (n < m)) = true := by
  have fn := text_fit hn; have fm := text_fit hm
  have h1 : ¬ m < 0 := by simpa [h0] using hs
  rw [text_pos fn h0, text_pos fm h1] at hl ⊢
  simp only at hl
  rw [less_digs _ _ (by omega), beq_iff_eq, Bool.eq_iff_iff]
  simp only [decide_eq_true_eq]; omega
end Go.Num
namespace Go.Num
open Go
/-! ### There and back -/
theorem dig_dch (n : Nat) : dig (dch n) = true := by rw [dig_iff, dch_toNat]; omega
theorem digs_dig : ∀ (n : Nat), ∀ c ∈ digs n, dig c = true := by
  intro n
  induction n using Nat.strongRecOn with
  | _ n ih =>
    intro c hc
    by_cases h : n < 10
    · rw [digs_lt h] at hc; simp only [List.mem_cons, List.not_mem_nil, or_false] at hc; rw [hc]; exact dig_dch n
    · rw [digs_ge h] at hc
      rcases List.mem_append.1 hc with hc | hc
      · exact ih (n / 10) (by omega) c hc
      · simp only [List.mem_cons, List.not_mem_nil, or_false] at hc; rw [hc]; exact dig_dch n
theorem nd_app : ∀ (ds b : List UInt8) (k : Nat), (∀ c ∈ ds, dig c = true) → nd (ds ++ b) k = nd b (k + ds.length)
  | [], b, k, _ => by simp
  | c :: ds, b, k, h => by
    simp only [List.cons_append, nd, h c List.mem_cons_self, if_true]
    rw [nd_app ds b (k + 1) (fun x hx => h x (List.mem_cons_of_mem _ hx))]
    simp only [List.length_cons]; congr 1; omega
theorem vl_app : ∀ (ds b : List UInt8) (v : Nat), (∀ c ∈ ds, dig c = true) → vl (ds ++ b) v = vl b (vl ds v)
  | [], b, v, _ => by simp [vl]
  | c :: ds, b, v, h => by
    simp only [List.cons_append, vl, h c List.mem_cons_self, if_true]
    exact vl_app ds b _ (fun x hx => h x (List.mem_cons_of_mem _ hx))
theorem vl_digs : ∀ (n : Nat), vl (digs n) 0 = n := by
  intro n
  induction n using Nat.strongRecOn with
  | _ n ih =>
    by_cases h : n < 10
    · rw [digs_lt h]; simp only [vl, dig_dch, if_true]; rw [dch_toNat]; omega
    · rw [digs_ge h, vl_app _ _ _ (digs_dig _), ih (n / 10) (by omega)]
      simp only [vl, dig_dch, if_true]; rw [dch_toNat]; omega
theorem digs_zero : ∀ (n : Nat), (digs n).getD 0 0 = 48 → n = 0 := by
  intro n
  induction n using Nat.strongRecOn with
  | _ n ih =>
    intro h0
    by_cases h : n < 10
    · rw [digs_lt h] at h0
      have : (dch n).toNat = 48 := by rw [show dch n = 48 by simpa using h0]; rfl
      rw [dch_toNat] at this; omega
    · rw [digs_ge h] at h0
      have hp := digs_pos (n / 10)
      have : (digs (n / 10)).getD 0 0 = 48 := by
        rw [← h0]; simp only [List.getD]; rw [List.getElem?_append_left (by omega)]
      have := ih (n / 10) (by omega) this
      omega
/-- Nothing of a number goes on here. -/
def stops (b : List UInt8) : Prop := dig (b.getD 0 0) = false ∧ b.getD 0 0 ≠ 46 ∧ b.getD 0 0 ≠ 101 ∧ b.getD 0 0 ≠ 69
theorem getD_app (x b : List UInt8) (j : Nat) : (x ++ b).getD (x.length + j) 0 = b.getD j 0 := by
  simp [List.getD, List.getElem?_append_right]
theorem neg_digs (n : Nat) (b : List UInt8) : neg (digs n ++ b) = false := by
  have hp := digs_pos n
  cases h : digs n with
  | nil => rw [h] at hp; simp at hp
  | cons c r =>
    have hd := digs_dig n c (by rw [h]; exact List.mem_cons_self)
    rw [dig_iff] at hd
    simp only [neg, List.cons_append, List.getD_cons_zero, decide_eq_false_iff_not]
    intro e; rw [e] at hd; simp at hd
theorem scanL_text {n : Int} (hf : fitsB n = true) (b : List UInt8) (hb : stops b) (at_ : Int) : scanL ((text n).1 ++ b) at_ = (n, at_ + (text n).1.length, 0) := by
  obtain ⟨f1, f2⟩ := fitsB_iff.1 hf
  obtain ⟨b1, b2, b3, b4⟩ := hb
  have key : ∀ (f m : Nat) (l : List UInt8), l.drop f = digs m ++ b → fst l = f → (neg l = true → f = 1 ∧ m ≠ 0) → m ≤ 9007199254740992 → l.getD f 0 = (digs m ++ b).getD 0 0 → l.getD (f + (digs m).length) 0 = b.getD 0 0 →
      scanL l at_ = (if neg l then -(m : Int) else m, at_ + (f + (digs m).length : Nat), 0) := by
    intro f m l hd hfst hneg hm h0 hk
    have hp := digs_pos m
    have hnd : nd (l.drop f) f = f + (digs m).length := by
      rw [hd, nd_app _ _ _ (digs_dig m)]
      have := nd_stop b 0 b1
      cases b with
      | nil => rfl
      | cons c r =>
        have : dig c = false := by simpa using b1
        simp only [nd, this]; rfl
    have hvl : vl (l.drop f) 0 = m := by
      rw [hd, vl_app _ _ _ (digs_dig m), vl_digs]
      cases b with
      | nil => rfl
      | cons c r =>
        have : dig c = false := by simpa using b1
        simp only [vl, this]; rfl
    unfold scanL
    simp only []
    rw [hfst, hnd, hvl, hk, if_neg, if_neg, if_neg]
    · unfold big; rintro (h | ⟨h, h'⟩)
      · omega
      · exact (hneg h).2 h'
    · rintro (h | h | h | h)
      · omega
      · exact b2 h
      · exact b3 h
      · exact b4 h
    · rintro ⟨h, h'⟩
      rw [h0] at h
      have h2 : (digs m).getD 0 0 = 48 := by
        rw [← h]; simp only [List.getD]; rw [List.getElem?_append_left (by omega)]
      have := digs_zero m h2
      subst this
      rw [digs_lt (by omega)] at h'
      simp at h'
  by_cases h0 : n < 0
  · rw [text_neg hf h0]
    dsimp only
    have hn : neg (45 :: digs (-n).toNat ++ b) = true := by simp [neg]
    have := key 1 (-n).toNat (45 :: digs (-n).toNat ++ b) (by simp) (fst_t hn) (fun _ => ⟨rfl, by omega⟩) (by omega) (by simp [List.getD]) (by
      have := getD_app (45 :: digs (-n).toNat) b 0
      simp only [List.length_cons, Nat.add_zero] at this
      rw [Nat.add_comm 1]; exact this)
    rw [this, hn]
    simp only [if_true, List.length_cons]
    refine Prod.ext ?_ (Prod.ext ?_ rfl)
    · dsimp only; omega
    · dsimp only; omega
  · rw [text_pos hf h0]
    dsimp only
    have hn := neg_digs n.toNat b
    have := key 0 n.toNat (digs n.toNat ++ b) (by simp) (fst_f hn) (fun h => by rw [hn] at h; cases h) (by omega) rfl (by
      have := getD_app (digs n.toNat) b 0
      simpa using this)
    rw [this, hn]
    refine Prod.ext ?_ (Prod.ext ?_ rfl)
    · show (n.toNat : Int) = n; omega
    · dsimp only; omega
theorem stops_nil : stops [] := by unfold stops; decide
theorem read_text {n : Int} (hf : fitsB n = true) : read (text n).1 = (n, 0) := by
  have h := scanL_text hf [] stops_nil 0
  simp only [List.append_nil] at h
  have hs : scan (text n).1 0 = (n, 0 + ((text n).1.length : Int), 0) := by
    rw [scan_inside (by omega)]
    simpa using h
  unfold read
  rw [hs]
  simp
theorem scan_text {n : Int} (hf : fitsB n = true) (a b : List UInt8) (hb : stops b) : scan (a ++ (text n).1 ++ b) (a.length : Int) = (n, (a.length : Int) + (text n).1.length, 0) := by
  rw [scan_inside (by simp only [List.length_append]; omega)]
  have : (a ++ (text n).1 ++ b).drop ((a.length : Int)).toNat = (text n).1 ++ b := by simp [List.append_assoc]
  rw [this]
  exact scanL_text hf b hb _
theorem text_inj {n m : Int} (hn : fitsB n = true) (hm : fitsB m = true) (h : (text n).1 = (text m).1) : n = m := by
  have h1 := read_text hn
  rw [h, read_text hm] at h1
  simpa using (congrArg Prod.fst h1).symm
/-- Digits that may be, back to front: the number that they are has them for its text. -/
theorem vl_snoc (ds : List UInt8) (c : UInt8) (h : ∀ x ∈ ds, dig x = true) (hc : dig c = true) (v : Nat) : vl (ds ++ [c]) v = 10 * vl ds v + (c.toNat - 48) := by
  rw [vl_app ds [c] v h]; simp only [vl, hc, if_true]
theorem vl_mono : ∀ (ds : List UInt8) (v : Nat), 1 ≤ v → 1 ≤ vl ds v
  | [], v, h => h
  | c :: r, v, h => by
    simp only [vl]
    split
    · exact vl_mono r _ (by omega)
    · exact h
theorem digs_vl : ∀ (r : List UInt8), (∀ x ∈ r.reverse, dig x = true) → r ≠ [] → (r.reverse.getD 0 0 = 48 → r.length = 1) → digs (vl r.reverse 0) = r.reverse
  | [], _, h, _ => absurd rfl h
  | [c], hd, _, _ => by
    have hc := hd c (by simp)
    have hc' := (dig_iff c).1 hc
    simp only [List.reverse_cons, List.reverse_nil, List.nil_append, vl, hc, if_true, Nat.mul_zero, Nat.zero_add]
    rw [digs_lt (by omega)]
    congr 1
    refine UInt8.toNat_inj.1 ?_
    rw [dch_toNat]; omega
  | c :: d :: r, hd, _, hz => by
    have hc := hd c (by simp)
    have hc' := (dig_iff c).1 hc
    have hd' : ∀ x ∈ (d :: r).reverse, dig x = true := fun x hx => hd x (by rw [List.reverse_cons]; exact List.mem_append_left _ hx)
    have hlen : 0 < ((d :: r).reverse).length := by simp
    have h0 : (c :: d :: r).reverse.getD 0 0 = (d :: r).reverse.getD 0 0 := by
      rw [List.reverse_cons]; simp only [List.getD]; rw [List.getElem?_append_left hlen]
    have hne : (d :: r).reverse.getD 0 0 ≠ 48 := fun h => by
      have := hz (h0.trans h); simp at this
    have hi := digs_vl (d :: r) hd' (by simp) (fun h => absurd h hne)
    have hv : 1 ≤ vl (d :: r).reverse 0 := by
      cases hr : (d :: r).reverse with
      | nil => rw [hr] at hlen; simp at hlen
      | cons x y =>
        rw [hr] at hne hd'
        have hx := hd' x List.mem_cons_self
        have hx' := (dig_iff x).1 hx
        simp only [vl, hx, if_true]
        refine vl_mono y _ ?_
        have : x.toNat ≠ 48 := fun e => hne (by simp only [List.getD_cons_zero]; exact UInt8.toNat_inj.1 e)
        omega
    rw [List.reverse_cons, vl_snoc _ _ hd' hc]
    rw [digs_ge (by omega)]
    rw [show (10 * vl (d :: r).reverse 0 + (c.toNat - 48)) / 10 = vl (d :: r).reverse 0 by omega, hi]
    congr 2
    refine UInt8.toNat_inj.1 ?_
    rw [dch_toNat]; omega
theorem nd_all : ∀ (l : List UInt8) (k : Nat), nd l k = k + l.length → ∀ x ∈ l, dig x = true
  | [], _, _, _, hx => by simp at hx
  | c :: r, k, h, x, hx => by
    simp only [nd] at h
    split at h
    · rename_i hc
      rcases List.mem_cons.1 hx with rfl | hx
      · exact hc
      · exact nd_all r (k + 1) (by simp only [List.length_cons] at h; omega) x hx
    · simp only [List.length_cons] at h; omega
theorem text_read {s : List UInt8} (h : (read s).2 = 0) : text (read s).1 = (s, 0) := by
  have hr : (scan s 0).2.2 = 0 ∧ (scan s 0).2.1 = s.length := by
    unfold read at h
    split at h
    · assumption
    · simp at h
  have hx : (read s).1 = (scan s 0).1 := by unfold read; rw [if_pos hr]
  rw [hx]
  rw [scan_inside (by omega)] at hr ⊢
  simp only [Int.toNat_zero, List.drop_zero] at hr ⊢
  obtain ⟨h1, h2⟩ := hr
  unfold scanL at h1 h2 ⊢
  simp only [] at h1 h2 ⊢
  by_cases c1 : s.getD (fst s) 0 = 48 ∧ fst s + 2 ≤ nd (s.drop (fst s)) (fst s)
  · rw [if_pos c1] at h1; simp at h1
  rw [if_neg c1] at h1 h2 ⊢
  by_cases c2 : nd (s.drop (fst s)) (fst s) = fst s ∨ s.getD (nd (s.drop (fst s)) (fst s)) 0 = 46 ∨ s.getD (nd (s.drop (fst s)) (fst s)) 0 = 101 ∨ s.getD (nd (s.drop (fst s)) (fst s)) 0 = 69
  · rw [if_pos c2] at h1; simp at h1
  rw [if_neg c2] at h1 h2 ⊢
  by_cases c3 : big < vl (s.drop (fst s)) 0 ∨ (neg s = true ∧ vl (s.drop (fst s)) 0 = 0)
  · rw [if_pos c3] at h1; simp at h1
  rw [if_neg c3] at h2 ⊢
  simp only [] at h2 ⊢
  have hle := fst_le s
  have hk : nd (s.drop (fst s)) (fst s) = s.length := by omega
  have hall := nd_all (s.drop (fst s)) (fst s) (by rw [hk, List.length_drop]; omega)
  have hlt : fst s < s.length := by
    rcases Nat.lt_or_ge (fst s) s.length with h | h
    · exact h
    · exact absurd (.inl (by omega)) c2
  have hd := digs_vl (s.drop (fst s)).reverse (by rwa [List.reverse_reverse]) (by
      intro e
      have := congrArg List.length e
      simp at this; omega) (by
      rw [List.reverse_reverse]
      intro h48
      have h48' : s.getD (fst s) 0 = 48 := by
        rw [← h48]; simp [List.getD, List.getElem?_drop]
      have : ¬ fst s + 2 ≤ nd (s.drop (fst s)) (fst s) := fun hx => c1 ⟨h48', hx⟩
      simp only [List.length_reverse, List.length_drop]; omega)
  rw [List.reverse_reverse] at hd
  have hb : vl (s.drop (fst s)) 0 ≤ 9007199254740992 := by
    have : ¬ big < vl (s.drop (fst s)) 0 := fun hx => c3 (.inl hx)
    unfold big at this; omega
  cases hn : neg s with
  | false =>
    rw [fst_f hn] at hd hb ⊢
    simp only [List.drop_zero] at hd hb ⊢
    rw [if_neg (by simp)]
    rw [text_pos (fitsB_iff.2 (by omega)) (by omega)]
    simp [hd]
  | true =>
    have hv : vl (s.drop (fst s)) 0 ≠ 0 := fun hx => c3 (.inr ⟨hn, hx⟩)
    rw [fst_t hn] at hd hb hv ⊢
    rw [if_pos rfl]
    rw [text_neg (fitsB_iff.2 (by omega)) (by omega)]
    rw [show (- -((vl (s.drop 1) 0 : Nat) : Int)).toNat = vl (s.drop 1) 0 by omega, hd]
    congr 1
    have h45 : s.getD 0 0 = 45 := by simpa [neg] using hn
    cases s with
    | nil => simp at h45
    | cons c r => simp at h45; simp [h45]

/-! ### NumberBack -/
theorem text_zero (n : Int) : (text n).2 = 0 ↔ fitsB n = true := ⟨text_fit, fun h => by simp [text, h]⟩
theorem back4_t {n : Int} (h : (-9007199254740992 : Int) ≤ n) : (!(decide ((text n).2 = 0) == decide (n ≤ 9007199254740992))) = false := by
  simp only [text_zero, fitsB_iff, h, true_and, beq_self_eq_true, Bool.not_true]
theorem back4_f {n : Int} (h : ¬ ((-9007199254740992 : Int) ≤ n)) : (!(decide ((text n).2 = 0) == false)) = false := by
  simp only [text_zero, fitsB_iff, h, false_and, decide_false, beq_self_eq_true, Bool.not_true]
theorem text_bad {n : Int} (h : ¬ (text n).2 = 0) : (text n).1 = [] := by
  rw [text_zero] at h
  rw [text_no (by simpa using h)]
theorem text_len {n : Int} (h : fitsB n = true) : (text n).1.length ≤ 17 := by
  have h2 := fitsB_iff.1 h
  by_cases h0 : n < 0
  · rw [text_neg h h0]; have := digs_len16 (n := (-n).toNat) (by omega); simp; omega
  · rw [text_pos h h0]; have := digs_len16 (n := n.toNat) (by omega); dsimp only; omega
theorem text_same {n m : Int} (hn : fitsB n = true) (hm : fitsB m = true) : (!(decide ((text n).1 = (text m).1) == decide (n = m))) = false := by
  have : (text n).1 = (text m).1 ↔ n = m := ⟨text_inj hn hm, fun h => by rw [h]⟩
  simp only [this, beq_self_eq_true, Bool.not_true]
theorem stops_of {b : List UInt8} (h : ¬ (((0 : Int) < (b.length : Int)) ∧ ((bif (decide ((48 : Int) ≤ ((b.getD 0 0).toNat : Int))) then ((decide (((b.getD 0 0).toNat : Int) ≤ 57)) || ((decide (((b.getD 0 0).toNat : Int) = 46)) || ((decide (((b.getD 0 0).toNat : Int) = 101)) || (decide (((b.getD 0 0).toNat : Int) = 69))))) else ((decide (((b.getD 0 0).toNat : Int) = 46)) || ((decide (((b.getD 0 0).toNat : Int) = 101)) || (decide (((b.getD 0 0).toNat : Int) = 69))))) = true))) : stops b := by
  rcases Nat.eq_zero_or_pos b.length with h0 | h0
  · rw [List.eq_nil_of_length_eq_zero h0]; exact stops_nil
  · have h1 := fun x => h ⟨by omega, x⟩
    by_cases h48 : (48 : Int) ≤ ((b.getD 0 0).toNat : Int)
    · simp only [h48, decide_true, cond_true, Bool.or_eq_true, decide_eq_true_eq] at h1
      refine ⟨?_, fun e => ?_, fun e => ?_, fun e => ?_⟩
      · cases hd : dig (b.getD 0 0) with
        | false => rfl
        | true => have := (dig_iff _).1 hd; exact absurd (.inl (by omega)) h1
      · exact h1 (.inr (.inl (to_byte e rfl)))
      · exact h1 (.inr (.inr (.inl (to_byte e rfl))))
      · exact h1 (.inr (.inr (.inr (to_byte e rfl))))
    · simp only [h48, decide_false, cond_false, Bool.or_eq_true, decide_eq_true_eq] at h1
      refine ⟨?_, fun e => ?_, fun e => ?_, fun e => ?_⟩
      · cases hd : dig (b.getD 0 0) with
        | false => rfl
        | true => have := (dig_iff _).1 hd; omega
      · exact h1 (.inl (to_byte e rfl))
      · exact h1 (.inr (.inl (to_byte e rfl)))
      · exact h1 (.inr (.inr (to_byte e rfl)))
end Go.Num
