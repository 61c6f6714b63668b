/-
  Chapter 12, plain: attributes, the program's. Own work.
-/
import Derived.Test.YtdmjgmleilgbpaaDoorSubPlain4
namespace Go.Proofs.YtdmjgmleilgbpaaDoor
open Go Go.Vc

theorem attr_sub {n : Nat} {s : List UInt8} (hn : s.length < n) (hs : s.length < 1000000) : sub_Attr n s = some (attrS s) := by
  unfold sub_Attr h_CutPrefix
  rw [bnd]
  dsimp only
  cases hp : Lib.hasPrefix s [79, 117, 116, 112, 117, 116, 115, 46] with
  | true =>
    obtain ⟨r, rfl⟩ := List.isPrefixOf_iff_prefix.1 hp
    rw [cT]
    have e : Lib.trimPrefix ([79, 117, 116, 112, 117, 116, 115, 46] ++ r) [79, 117, 116, 112, 117, 116, 115, 46] = r := by
      unfold Lib.trimPrefix
      rw [if_pos hp]
      rfl
    rw [e, name_sub (by simp at hn; omega) (by simp at hs; omega), bnd]
    simp [attrS, List.findIdx?_cons]
  | false =>
    rw [cF, name_sub hn hs, bnd]
    congr 1
    unfold attrS
    cases h : s.findIdx? (· == 46) with
    | none => rfl
    | some i =>
      obtain ⟨hi, h1, _⟩ := List.findIdx?_eq_some_iff_getElem.1 h
      have h2 : s[i] = 46 := by simpa using h1
      rw [nameS_dot (by rw [← h2]; exact List.getElem_mem hi)]
      have h3 : ¬ s.take i = [79, 117, 116, 112, 117, 116, 115] := fun h3 => by
        have h4 : s = [79, 117, 116, 112, 117, 116, 115, 46] ++ s.drop (i + 1) := by
          conv => lhs; rw [← List.take_append_drop i s, h3, List.drop_eq_getElem_cons hi, h2]
          rfl
        have h5 : Lib.hasPrefix s [79, 117, 116, 112, 117, 116, 115, 46] = true := List.isPrefixOf_iff_prefix.2 ⟨_, h4.symm⟩
        rw [hp] at h5
        cases h5
      show false = (decide (s.take i = [79, 117, 116, 112, 117, 116, 115]) && nameS (s.drop (i + 1)))
      rw [decide_eq_false h3, Bool.false_and]
end Go.Proofs.YtdmjgmleilgbpaaDoor
