/-
  Printed by a program: the structs, as data. No condition.
-/
import Derived.Test.YtalifkcchfkgmaaDoorVkB
set_option linter.unusedVariables false
set_option linter.unusedSimpArgs false
namespace Go.Proofs.YtalifkcchfkgmaaDoor
open Go Go.Vc Go.RowKit
structure T_api_Value where
  fKind : Int
  fBool : Bool
  fNum : Int
  fText : List UInt8
  fList : List T_api_Value
  fKeys : List (List UInt8)
mutual
def emb_T_api_Value : T_api_Value → Dat
  | ⟨x0, x1, x2, x3, x4, x5⟩ => .struct [(Dat.int .i8) x0, Dat.bool x1, (Dat.int .i64) x2, Dat.str x3, .list 6 (embs_T_api_Value x4), (eL 1 Dat.str) x5]
def embs_T_api_Value : List T_api_Value → List Dat
  | [] => []
  | x :: r => emb_T_api_Value x :: embs_T_api_Value r
end
theorem embs_T_api_Value_eq : ∀ l : List T_api_Value, embs_T_api_Value l = l.map emb_T_api_Value
  | [] => by simp [embs_T_api_Value]
  | x :: r => by simp [embs_T_api_Value, embs_T_api_Value_eq r]
theorem emb_T_api_Value_eq (x : T_api_Value) : emb_T_api_Value x = .struct [(Dat.int .i8) x.fKind, Dat.bool x.fBool, (Dat.int .i64) x.fNum, Dat.str x.fText, (eL 6 emb_T_api_Value) x.fList, (eL 1 Dat.str) x.fKeys] := by
  cases x
  simp [emb_T_api_Value, eL, embs_T_api_Value_eq]
theorem szd_T_api_Value (x : T_api_Value) : Szd 6 (emb_T_api_Value x) := by rw [emb_T_api_Value_eq]; exact (szd_cons ((szd_int .i8) _) (szd_cons (szd_bool _) (szd_cons ((szd_int .i64) _) (szd_cons (szd_str _) (szd_cons ((fun _ => szd_list _ _) _) (szd_cons ((fun _ => szd_list _ _) _) szd_nil))))))
theorem T_api_Value.opn {M : Mem} {x : T_api_Value} {cs : List Value} (h : Rep M (emb_T_api_Value x) cs) : ∃ (A4 : Option Addr) (c4 : Nat) (A5 : Option Addr) (c5 : Nat), cs = [.int .i8 x.fKind, .bool x.fBool, .int .i64 x.fNum, S x.fText, .slice A4 x.fList.length c4, .slice A5 x.fKeys.length c5] ∧ Sli M 6 emb_T_api_Value A4 c4 x.fList ∧ Sli M 1 Dat.str A5 c5 x.fKeys := by
  rw [emb_T_api_Value_eq] at h
  obtain ⟨cq_0, dq_0, eq_0, hq_0, gq_0⟩ := h
  have yq_0 : cq_0 = _ := hq_0
  obtain ⟨cq_1, dq_1, eq_1, hq_1, gq_1⟩ := gq_0
  have yq_1 : cq_1 = _ := hq_1
  obtain ⟨cq_2, dq_2, eq_2, hq_2, gq_2⟩ := gq_1
  have yq_2 : cq_2 = _ := hq_2
  obtain ⟨cq_3, dq_3, eq_3, hq_3, gq_3⟩ := gq_2
  have yq_3 : cq_3 = _ := hq_3
  obtain ⟨cq_4, dq_4, eq_4, hq_4, gq_4⟩ := gq_3
  obtain ⟨Aq_4, kq_4, yq_4, zq_4⟩ := Rep.sli hq_4
  obtain ⟨cq_5, dq_5, eq_5, hq_5, gq_5⟩ := gq_4
  obtain ⟨Aq_5, kq_5, yq_5, zq_5⟩ := Rep.sli hq_5
  have lq : dq_5 = [] := gq_5
  exact ⟨Aq_4, kq_4, Aq_5, kq_5, by simp [eq_0, yq_0, eq_1, yq_1, eq_2, yq_2, eq_3, yq_3, eq_4, yq_4, eq_5, yq_5, lq], zq_4, zq_5⟩
theorem T_api_Value.shut {M : Mem} {a0 : Int} {a1 : Bool} {a2 : Int} {a3 : List UInt8} {a4 : List T_api_Value} {a5 : List (List UInt8)} {A4 : Option Addr} {c4 : Nat} {A5 : Option Addr} {c5 : Nat} (h4 : Sli M 6 emb_T_api_Value A4 c4 a4) (h5 : Sli M 1 Dat.str A5 c5 a5) : Rep M (emb_T_api_Value ⟨a0, a1, a2, a3, a4, a5⟩) [.int .i8 a0, .bool a1, .int .i64 a2, S a3, .slice A4 a4.length c4, .slice A5 a5.length c5] := by
  rw [emb_T_api_Value_eq]; exact ⟨_, _, rfl, rfl, ⟨_, _, rfl, rfl, ⟨_, _, rfl, rfl, ⟨_, _, rfl, rfl, ⟨_, _, rfl, (Sli.rep h4), ⟨_, _, rfl, (Sli.rep h5), rfl⟩⟩⟩⟩⟩⟩
theorem T_api_Value.shutx {M : Mem} {x : T_api_Value} {A4 : Option Addr} {c4 : Nat} {A5 : Option Addr} {c5 : Nat} (h4 : Sli M 6 emb_T_api_Value A4 c4 x.fList) (h5 : Sli M 1 Dat.str A5 c5 x.fKeys) : Rep M (emb_T_api_Value x) [.int .i8 x.fKind, .bool x.fBool, .int .i64 x.fNum, S x.fText, .slice A4 x.fList.length c4, .slice A5 x.fKeys.length c5] := by
  have h := T_api_Value.shut (M := M) (a0 := x.fKind) (a1 := x.fBool) (a2 := x.fNum) (a3 := x.fText) (a4 := x.fList) (a5 := x.fKeys) h4 h5
  rw [emb_T_api_Value_eq] at h ⊢
  exact h
structure T_api_Given where
  fName : List UInt8
  fUnknown : Bool
  fV : T_api_Value
def emb_T_api_Given : T_api_Given → Dat
  | ⟨x0, x1, x2⟩ => .struct [Dat.str x0, Dat.bool x1, emb_T_api_Value x2]
theorem emb_T_api_Given_eq (x : T_api_Given) : emb_T_api_Given x = .struct [Dat.str x.fName, Dat.bool x.fUnknown, emb_T_api_Value x.fV] := by
  cases x
  simp [emb_T_api_Given, eL]
theorem szd_T_api_Given (x : T_api_Given) : Szd 8 (emb_T_api_Given x) := by rw [emb_T_api_Given_eq]; exact (szd_cons (szd_str _) (szd_cons (szd_bool _) (szd_cons (szd_T_api_Value _) szd_nil)))
theorem T_api_Given.opn {M : Mem} {x : T_api_Given} {cs : List Value} (h : Rep M (emb_T_api_Given x) cs) : ∃ (A6 : Option Addr) (c6 : Nat) (A7 : Option Addr) (c7 : Nat), cs = [S x.fName, .bool x.fUnknown, .int .i8 x.fV.fKind, .bool x.fV.fBool, .int .i64 x.fV.fNum, S x.fV.fText, .slice A6 x.fV.fList.length c6, .slice A7 x.fV.fKeys.length c7] ∧ Sli M 6 emb_T_api_Value A6 c6 x.fV.fList ∧ Sli M 1 Dat.str A7 c7 x.fV.fKeys := by
  rw [emb_T_api_Given_eq] at h
  obtain ⟨cq_0, dq_0, eq_0, hq_0, gq_0⟩ := h
  have yq_0 : cq_0 = _ := hq_0
  obtain ⟨cq_1, dq_1, eq_1, hq_1, gq_1⟩ := gq_0
  have yq_1 : cq_1 = _ := hq_1
  obtain ⟨cq_2, dq_2, eq_2, hq_2, gq_2⟩ := gq_1
  rw [emb_T_api_Value_eq] at hq_2
  obtain ⟨cq_2_0, dq_2_0, eq_2_0, hq_2_0, gq_2_0⟩ := hq_2
  have yq_2_0 : cq_2_0 = _ := hq_2_0
  obtain ⟨cq_2_1, dq_2_1, eq_2_1, hq_2_1, gq_2_1⟩ := gq_2_0
  have yq_2_1 : cq_2_1 = _ := hq_2_1
  obtain ⟨cq_2_2, dq_2_2, eq_2_2, hq_2_2, gq_2_2⟩ := gq_2_1
  have yq_2_2 : cq_2_2 = _ := hq_2_2
  obtain ⟨cq_2_3, dq_2_3, eq_2_3, hq_2_3, gq_2_3⟩ := gq_2_2
  have yq_2_3 : cq_2_3 = _ := hq_2_3
  obtain ⟨cq_2_4, dq_2_4, eq_2_4, hq_2_4, gq_2_4⟩ := gq_2_3
  obtain ⟨Aq_2_4, kq_2_4, yq_2_4, zq_2_4⟩ := Rep.sli hq_2_4
  obtain ⟨cq_2_5, dq_2_5, eq_2_5, hq_2_5, gq_2_5⟩ := gq_2_4
  obtain ⟨Aq_2_5, kq_2_5, yq_2_5, zq_2_5⟩ := Rep.sli hq_2_5
  have lq_2 : dq_2_5 = [] := gq_2_5
  have lq : dq_2 = [] := gq_2
  exact ⟨Aq_2_4, kq_2_4, Aq_2_5, kq_2_5, by simp [eq_0, yq_0, eq_1, yq_1, eq_2, eq_2_0, yq_2_0, eq_2_1, yq_2_1, eq_2_2, yq_2_2, eq_2_3, yq_2_3, eq_2_4, yq_2_4, eq_2_5, yq_2_5, lq_2, lq], zq_2_4, zq_2_5⟩
theorem T_api_Given.shut {M : Mem} {a0 : List UInt8} {a1 : Bool} {a2 : Int} {a3 : Bool} {a4 : Int} {a5 : List UInt8} {a6 : List T_api_Value} {a7 : List (List UInt8)} {A6 : Option Addr} {c6 : Nat} {A7 : Option Addr} {c7 : Nat} (h6 : Sli M 6 emb_T_api_Value A6 c6 a6) (h7 : Sli M 1 Dat.str A7 c7 a7) : Rep M (emb_T_api_Given ⟨a0, a1, ⟨a2, a3, a4, a5, a6, a7⟩⟩) [S a0, .bool a1, .int .i8 a2, .bool a3, .int .i64 a4, S a5, .slice A6 a6.length c6, .slice A7 a7.length c7] := by
  rw [emb_T_api_Given_eq]; exact ⟨_, _, rfl, rfl, ⟨_, _, rfl, rfl, ⟨_, _, rfl, (by rw [emb_T_api_Value_eq]; exact ⟨_, _, rfl, rfl, ⟨_, _, rfl, rfl, ⟨_, _, rfl, rfl, ⟨_, _, rfl, rfl, ⟨_, _, rfl, (Sli.rep h6), ⟨_, _, rfl, (Sli.rep h7), rfl⟩⟩⟩⟩⟩⟩), rfl⟩⟩⟩
theorem T_api_Given.shutx {M : Mem} {x : T_api_Given} {A6 : Option Addr} {c6 : Nat} {A7 : Option Addr} {c7 : Nat} (h6 : Sli M 6 emb_T_api_Value A6 c6 x.fV.fList) (h7 : Sli M 1 Dat.str A7 c7 x.fV.fKeys) : Rep M (emb_T_api_Given x) [S x.fName, .bool x.fUnknown, .int .i8 x.fV.fKind, .bool x.fV.fBool, .int .i64 x.fV.fNum, S x.fV.fText, .slice A6 x.fV.fList.length c6, .slice A7 x.fV.fKeys.length c7] := by
  obtain ⟨u0, u1, ⟨u2, u3, u4, u5, u6, u7⟩⟩ := x
  exact T_api_Given.shut h6 h7
structure T_api_Spec where
  fName : List UInt8
  fKind : Int
  fReplace : Bool
  deriving DecidableEq, Inhabited
def emb_T_api_Spec : T_api_Spec → Dat
  | ⟨x0, x1, x2⟩ => .struct [Dat.str x0, (Dat.int .i8) x1, Dat.bool x2]
theorem emb_T_api_Spec_eq (x : T_api_Spec) : emb_T_api_Spec x = .struct [Dat.str x.fName, (Dat.int .i8) x.fKind, Dat.bool x.fReplace] := by
  cases x
  simp [emb_T_api_Spec, eL]
theorem szd_T_api_Spec (x : T_api_Spec) : Szd 3 (emb_T_api_Spec x) := by rw [emb_T_api_Spec_eq]; exact (szd_cons (szd_str _) (szd_cons ((szd_int .i8) _) (szd_cons (szd_bool _) szd_nil)))
theorem T_api_Spec.opn {M : Mem} {x : T_api_Spec} {cs : List Value} (h : Rep M (emb_T_api_Spec x) cs) : cs = [S x.fName, .int .i8 x.fKind, .bool x.fReplace] := by
  rw [emb_T_api_Spec_eq] at h
  obtain ⟨cq_0, dq_0, eq_0, hq_0, gq_0⟩ := h
  have yq_0 : cq_0 = _ := hq_0
  obtain ⟨cq_1, dq_1, eq_1, hq_1, gq_1⟩ := gq_0
  have yq_1 : cq_1 = _ := hq_1
  obtain ⟨cq_2, dq_2, eq_2, hq_2, gq_2⟩ := gq_1
  have yq_2 : cq_2 = _ := hq_2
  have lq : dq_2 = [] := gq_2
  simp [eq_0, yq_0, eq_1, yq_1, eq_2, yq_2, lq]
theorem T_api_Spec.shut {M : Mem} {a0 : List UInt8} {a1 : Int} {a2 : Bool}   : Rep M (emb_T_api_Spec ⟨a0, a1, a2⟩) [S a0, .int .i8 a1, .bool a2] := by
  rw [emb_T_api_Spec_eq]; exact ⟨_, _, rfl, rfl, ⟨_, _, rfl, rfl, ⟨_, _, rfl, rfl, rfl⟩⟩⟩
theorem T_api_Spec.shutx {M : Mem} {x : T_api_Spec}   : Rep M (emb_T_api_Spec x) [S x.fName, .int .i8 x.fKind, .bool x.fReplace] := by
  have h := T_api_Spec.shut (M := M) (a0 := x.fName) (a1 := x.fKind) (a2 := x.fReplace)
  rw [emb_T_api_Spec_eq] at h ⊢
  exact h
abbrev z_T_api_Value : T_api_Value := (⟨(0 : Int), (false), (0 : Int), ([] : List UInt8), ([] : List T_api_Value), ([] : List (List UInt8))⟩ : T_api_Value)
abbrev z_T_api_Given : T_api_Given := (⟨([] : List UInt8), (false), (⟨(0 : Int), (false), (0 : Int), ([] : List UInt8), ([] : List T_api_Value), ([] : List (List UInt8))⟩ : T_api_Value)⟩ : T_api_Given)
abbrev z_T_api_Spec : T_api_Spec := (⟨([] : List UInt8), (0 : Int), (false)⟩ : T_api_Spec)
end Go.Proofs.YtalifkcchfkgmaaDoor
