/-
  Chapter 12, plain: the same parts. Own work.
-/
import Derived.Test.YtdmjgmleilgbpaaDoorSubLaws1
import Derived.Test.YtdmjgmleilgbpaaDoorQ2s
namespace Go.Proofs.YtdmjgmleilgbpaaDoor
open Go Go.Vc

theorem same_k {n k : Nat} (hn : 100000 ≤ n) (l : List T_api_Expr) (hl : l.length < 100000) (hf : ∀ x ∈ l, Flat x) : ref12_SameAll_k n (k + 2) l l = some true := by
  unfold ref12_SameAll_k ref12_SameAll_b
  rw [decide_eq_true rfl, Bool.not_true, cF]
  have hone : ∀ x ∈ l, ref12_Same_2 n (ref12_SameAll_k n (k + 1)) x x = some true := fun x hx => by
    unfold ref12_Same_2
    have := hf x hx
    unfold Flat at this
    rw [this]
    obtain ⟨n, rfl⟩ : ∃ r, n = r + 1 := ⟨n - 1, by omega⟩
    rw [decide_eq_true rfl, cT, decide_eq_true rfl, cT, decide_eq_true rfl, cT, decide_eq_true rfl, cT, decide_eq_true rfl, cT]
    rfl
  have := loop_all (n := n) (step := ref12_SameAll_s1 n (ref12_SameAll_k n (k + 1)) l l) (fun k => (k : Int)) l.length (.inr ()) (fun j hj => by
    unfold ref12_SameAll_s1
    rw [decide_eq_true (by omega), cT, getI_at (txE []) hj, bnd, bnd, hone _ (by simp [List.getD, hj]), bnd, Bool.not_true, cF, need_i (by omega) (by omega)]
    rfl) (by
    unfold ref12_SameAll_s1
    rw [decide_eq_false (by omega), cF]) (by omega)
  rw [show (0 : Int) = ((0 : Nat) : Int) from rfl, this, bnd]
theorem same_t {n : Nat} (hn : 100000 ≤ n) (l : List T_api_Expr) (hl : l.length < 100000) (hf : ∀ x ∈ l, Flat x) : ref12_SameAll n l l = some true := by
  unfold ref12_SameAll
  obtain ⟨k, hk⟩ : ∃ r, n = r + 2 := ⟨n - 2, by omega⟩
  have := same_k (n := n) (k := k) hn l hl hf
  rw [← hk] at this
  exact this

end Go.Proofs.YtdmjgmleilgbpaaDoor
