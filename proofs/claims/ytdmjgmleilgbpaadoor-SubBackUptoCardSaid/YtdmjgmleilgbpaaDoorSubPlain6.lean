/-
  Chapter 12, plain: holes; what a text's parts are, by definition. Own work.
-/
import Derived.Test.YtdmjgmleilgbpaaDoorSubPlain5
import Derived.Test.YtdmjgmleilgbpaaDoorUtfB
namespace Go.Proofs.YtdmjgmleilgbpaaDoor
open Go Go.Vc

def holeS (s : List UInt8) : T_api_Expr × Bool := match s.findIdx? (· == 46) with
  | some i => (⟨4, [], 0, s.take i, s.drop (i + 1), []⟩, nameS (s.take i) && attrS (s.drop (i + 1)))
  | none => (⟨3, [], 0, s, [], []⟩, nameS s)
theorem hole_sub {n : Nat} {s : List UInt8} (hn : s.length < n) (hs : s.length < 1000000) : sub_hole n s = some (holeS s) := by
  unfold sub_hole holeS
  rw [hole_cut 46 hs, bnd]
  cases h : s.findIdx? (· == 46) with
  | none =>
    dsimp only
    rw [cF, name_sub hn hs, bnd]
  | some i =>
    dsimp only
    rw [cT, name_sub (by rw [List.length_take]; omega) (by rw [List.length_take]; omega), bnd]
    cases nameS (s.take i) with
    | true => rw [cT, attr_sub (by rw [List.length_drop]; omega) (by rw [List.length_drop]; omega), bnd, bnd, Bool.true_and]
    | false => rw [cF, bnd, Bool.false_and]

/-- A text's pieces. -/
inductive It
  | tx (b : List UInt8)
  | ho (x : T_api_Expr)
def txE (b : List UInt8) : T_api_Expr := ⟨0, b, 0, [], [], []⟩
def add (it : It) (k : Nat) (p : List It × Option Nat) : List It × Option Nat := (it :: p.1, p.2.map (· + k))
/-- A text's pieces, by definition; the place of the first hole that is none. -/
def prs : List UInt8 → List It × Option Nat
  | [] => ([], none)
  | c :: r =>
    if c = 36 ∧ r.head? = some 123 then
      match (r.drop 1).findIdx? (· == 125) with
      | none => ([], some 0)
      | some i =>
        if ((r.drop 1).take i).head? = some 33 then add (.tx (36 :: 123 :: ((r.drop 1).take i).drop 1 ++ [125])) (i + 3) (prs (r.drop (i + 2)))
        else if (holeS ((r.drop 1).take i)).2 then add (.ho (holeS ((r.drop 1).take i)).1) (i + 3) (prs (r.drop (i + 2)))
        else ([], some 0)
    else add (.tx [c]) 1 (prs r)
  termination_by s => s.length
  decreasing_by all_goals simp <;> omega
def fl (b : List UInt8) : List T_api_Expr := if b = [] then [] else [txE b]
def mrg : List UInt8 → List It → List T_api_Expr
  | b, [] => fl b
  | b, .tx a :: r => mrg (b ++ a) r
  | b, .ho x :: r => fl b ++ x :: mrg [] r
def lexS (s : List UInt8) : List T_api_Expr × Int × Int :=
  if Lib.validD s = true then
    if s.length ≤ 4096 then match (prs s).2 with
      | some p => ([], (p : Int), 130)
      | none => (mrg [] (prs s).1, 0, 0)
    else ([], 0, 3)
  else ([], 0, 10)

theorem prs_nil : prs [] = ([], none) := by rw [prs]
theorem prs_ch {c : UInt8} {r : List UInt8} (h : ¬ (c = 36 ∧ r.head? = some 123)) : prs (c :: r) = add (.tx [c]) 1 (prs r) := by rw [prs, if_neg h]
theorem prs_bad {r : List UInt8} (h : r.findIdx? (· == 125) = none) : prs (36 :: 123 :: r) = ([], some 0) := by
  rw [prs, if_pos ⟨rfl, rfl⟩, List.drop_one, List.tail_cons, h]
theorem prs_esc {r : List UInt8} {i : Nat} (h : r.findIdx? (· == 125) = some i) (h2 : (r.take i).head? = some 33) : prs (36 :: 123 :: r) = add (.tx (36 :: 123 :: (r.take i).drop 1 ++ [125])) (i + 3) (prs (r.drop (i + 1))) := by
  rw [prs, if_pos ⟨rfl, rfl⟩, List.drop_one, List.tail_cons, h]
  dsimp only
  rw [if_pos h2]
  rfl
theorem prs_hole {r : List UInt8} {i : Nat} (h : r.findIdx? (· == 125) = some i) (h2 : (r.take i).head? ≠ some 33) (h3 : (holeS (r.take i)).2 = true) : prs (36 :: 123 :: r) = add (.ho (holeS (r.take i)).1) (i + 3) (prs (r.drop (i + 1))) := by
  rw [prs, if_pos ⟨rfl, rfl⟩, List.drop_one, List.tail_cons, h]
  dsimp only
  rw [if_neg h2, if_pos h3]
  rfl
theorem prs_none {r : List UInt8} {i : Nat} (h : r.findIdx? (· == 125) = some i) (h2 : (r.take i).head? ≠ some 33) (h3 : (holeS (r.take i)).2 = false) : prs (36 :: 123 :: r) = ([], some 0) := by
  rw [prs, if_pos ⟨rfl, rfl⟩, List.drop_one, List.tail_cons, h]
  dsimp only
  rw [if_neg h2, if_neg (by rw [h3]; simp)]
end Go.Proofs.YtdmjgmleilgbpaaDoor
