/-
  Chapter 12, plain: how great parts are; which parts may be. Own work.
-/
import Derived.Test.YtdmjgmleilgbpaaDoorSubLaws2
import Derived.Test.YtdmjgmleilgbpaaDoorQ7g
import Derived.Test.YtdmjgmleilgbpaaDoorOp
namespace Go.Proofs.YtdmjgmleilgbpaaDoor
open Go Go.Vc

theorem dsz_E (x : T_api_Expr) : dsz (emb_T_api_Expr x) = 7 + x.fText.length + x.fName.length + x.fAttr.length + dszs (x.fL.map emb_T_api_Expr) := by
  rw [emb_T_api_Expr_eq]
  simp only [dsz, dszs, eL]
  omega
theorem dsz_at {l : List T_api_Expr} {x : T_api_Expr} (h : x ∈ l) : dsz (emb_T_api_Expr x) ≤ dszs (l.map emb_T_api_Expr) := dszs_mem (List.mem_map_of_mem h)
theorem dsz_len (l : List T_api_Expr) : l.length ≤ dszs (l.map emb_T_api_Expr) := by
  have := dszs_len (l.map emb_T_api_Expr)
  rwa [List.length_map] at this

theorem weight_ok {n : Nat} (hn : 2000000 ≤ n) : ∀ (left k : Nat) (x : T_api_Expr), left < k → left ≤ 30 → dsz (emb_T_api_Expr x) ≤ 1048576 →
    ∃ w : Int, ref12_weight_k n k x (left : Int) = some w ∧ 0 ≤ w ∧ w ≤ 30000 * (left + 1) ∧ (w ≤ 3000 → x.fText.length + x.fName.length + x.fAttr.length ≤ 3000)
  | left, k, x, hk, hl, hb => by
    obtain ⟨k, rfl⟩ : ∃ r, k = r + 1 := ⟨k - 1, by omega⟩
    have hd := dsz_E x
    have hlen := dsz_len x.fL
    unfold ref12_weight_k ref12_weight_b
    by_cases h0 : left = 0
    · subst h0
      rw [decide_eq_true (by omega), cT, bnd, cT]
      exact ⟨10000, rfl, by omega, by omega, by omega⟩
    rw [decide_eq_false (by omega), cF]
    by_cases h5 : 500 < x.fL.length
    · rw [decide_eq_true (by omega), bnd, cT]
      exact ⟨10000, rfl, by omega, by omega, by omega⟩
    rw [decide_eq_false (by omega), bnd, cF, need_i (by omega) (by omega), need_i (by omega) (by omega), need_i (by omega) (by omega)]
    obtain ⟨w0, hw0⟩ : ∃ w0 : Int, w0 = 1 + min ((x.fText.length : Int) + (x.fName.length : Int) + (x.fAttr.length : Int)) 10000 := ⟨_, rfl⟩
    rw [← hw0]
    have hloop := loop_inv (n := n) (step := ref12_weight_s1 n (ref12_weight_k n k) x (left : Int)) (fun j s => s.2 = (j : Int) ∧ w0 ≤ s.1 ∧ s.1 ≤ 10000 + 30000 * left) (fun b => w0 ≤ b ∧ b ≤ 10000 + 30000 * left) x.fL.length (s0 := (w0, 0)) ⟨rfl, by omega, by dsimp only; omega⟩ (fun j s hj hI => by
      obtain ⟨a, b⟩ := s
      obtain ⟨h1, h2, h3⟩ := hI
      dsimp only at h1 h2 h3
      subst h1
      unfold ref12_weight_s1
      dsimp only
      rw [decide_eq_true (by omega), cT]
      by_cases h6 : a ≤ 10000
      · have hx : x.fL.getD j (txE []) ∈ x.fL := by simp [List.getD, hj]
        have hdx := dsz_at hx
        obtain ⟨w, g1, g2, g3, _⟩ := weight_ok hn (left - 1) k (x.fL.getD j (txE [])) (by omega) (by omega) (by omega)
        have e : (left : Int) - 1 = ((left - 1 : Nat) : Int) := by omega
        rw [decide_eq_true h6, bnd, cT, getI_at (txE []) hj, bnd, need_i (by omega) (by omega), e, g1, bnd, need_i (by omega) (by omega), need_i (by omega) (by omega)]
        exact .inl ⟨_, rfl, by dsimp only; omega, by dsimp only; omega, by dsimp only; omega⟩
      · rw [decide_eq_false h6, bnd, cF]
        exact .inr ⟨_, rfl, by omega, by omega⟩) (fun s hI => by
      obtain ⟨a, b⟩ := s
      obtain ⟨h1, h2, h3⟩ := hI
      dsimp only at h1 h2 h3
      subst h1
      unfold ref12_weight_s1
      dsimp only
      rw [decide_eq_false (by omega), cF, bnd, cF]
      exact ⟨_, rfl, by omega, by omega⟩) (by omega)
    obtain ⟨b, g1, g2, g3⟩ := hloop
    rw [g1, bnd]
    exact ⟨b, rfl, by omega, by omega, by omega⟩
theorem great_ok {n : Nat} (hn : 2000000 ≤ n) {x : T_api_Expr} (hb : dsz (emb_T_api_Expr x) ≤ 1048576) : ∃ g, ref12_Great n x = some g ∧ (g = false → x.fText.length + x.fName.length + x.fAttr.length ≤ 3000) := by
  unfold ref12_Great ref12_weight
  obtain ⟨w, g1, g2, g3, g4⟩ := weight_ok hn 30 n x (by omega) (by omega) hb
  rw [show ((30 : Nat) : Int) = 30 from rfl] at g1
  rw [g1, bnd]
  refine ⟨_, rfl, fun h => g4 ?_⟩
  have := of_decide_eq_false h
  omega
theorem great_all {n : Nat} (hn : 2000000 ≤ n) {l : List T_api_Expr} (hb : dsz (eL 6 emb_T_api_Expr l) ≤ 1048576) : ∃ g, law12_great n l = some g ∧ (g = false → l.length ≤ 200 ∧ ∀ x ∈ l, x.fText.length + x.fName.length + x.fAttr.length ≤ 3000) := by
  unfold law12_great
  have hb' : dszs (l.map emb_T_api_Expr) + 1 ≤ 1048576 := hb
  have hlen := dsz_len l
  by_cases h : 200 < l.length
  · rw [decide_eq_true (by omega), cT]
    exact ⟨true, rfl, fun h => by cases h⟩
  rw [decide_eq_false (by omega), cF]
  have hloop := loop_inv (n := n) (step := law12_great_s1 n l) (fun j s => s = (j : Int) ∧ ∀ i, i < j → (l.getD i (txE [])).fText.length + (l.getD i (txE [])).fName.length + (l.getD i (txE [])).fAttr.length ≤ 3000) (fun b => b = .inr () → ∀ i, i < l.length → (l.getD i (txE [])).fText.length + (l.getD i (txE [])).fName.length + (l.getD i (txE [])).fAttr.length ≤ 3000) l.length (s0 := 0) ⟨rfl, fun i hi => by omega⟩ (fun j s hj hI => by
    obtain ⟨rfl, h2⟩ := hI
    have hx : l.getD j (txE []) ∈ l := by simp [List.getD, hj]
    have hdx := dsz_at hx
    obtain ⟨g, g1, g2⟩ := great_ok hn (x := l.getD j (txE [])) (by omega)
    unfold law12_great_s1
    rw [decide_eq_true (by omega), cT, getI_at (txE []) hj, bnd, g1, bnd]
    cases g with
    | true => rw [cT]; exact .inr ⟨_, rfl, fun h => by cases h⟩
    | false =>
      rw [cF, need_i (by omega) (by omega)]
      refine .inl ⟨_, rfl, by omega, fun i hi => ?_⟩
      by_cases hij : i = j
      · subst hij; exact g2 rfl
      · exact h2 i (by omega)) (fun s hI => by
    obtain ⟨rfl, h2⟩ := hI
    unfold law12_great_s1
    rw [decide_eq_false (by omega), cF]
    exact ⟨_, rfl, fun _ => h2⟩) (by omega)
  obtain ⟨b, g1, g2⟩ := hloop
  rw [g1, bnd]
  cases b with
  | inl u => exact ⟨true, rfl, fun h => by cases h⟩
  | inr u =>
    refine ⟨false, rfl, fun _ => ⟨by omega, fun x hx => ?_⟩⟩
    obtain ⟨i, hi, rfl⟩ := List.mem_iff_getElem.1 hx
    have := g2 rfl i hi
    simpa [List.getD, hi] using this

def partS (x : T_api_Expr) : Bool := x.fL.isEmpty && (decide (x.fNum = 0) &&
  ((decide (x.fKind = 0) && (decide (x.fName = []) && (decide (x.fAttr = []) && (!decide (x.fText = []) && Lib.validD x.fText)))) ||
   ((decide (x.fKind = 3) && (decide (x.fText = []) && (decide (x.fAttr = []) && nameS x.fName))) ||
   (decide (x.fKind = 4) && (decide (x.fText = []) && (nameS x.fName && attrS x.fAttr))))))
theorem app_nil (a b : List UInt8) : decide (a ++ b = []) = (decide (a = []) && decide (b = [])) := by
  rw [Bool.eq_iff_iff]
  simp
theorem isEmpty_len {α : Type} (l : List α) : decide ((0 : Int) < ((l.length : Nat) : Int)) = !l.isEmpty := by
  cases l with
  | nil => rfl
  | cons a l => rw [List.length_cons, decide_eq_true (by omega)]; rfl
theorem and_bif (b c : Bool) : (bif b then some c else some false : Option Bool) = some (b && c) := by cases b <;> rfl
end Go.Proofs.YtdmjgmleilgbpaaDoor
