/-
  Printed by a program: the structs, as data. No condition.
-/
import Derived.Test.YtekkifakjkhjiaaDoorVkB
set_option linter.unusedVariables false
set_option linter.unusedSimpArgs false
namespace Go.Proofs.YtekkifakjkhjiaaDoor
open Go Go.Vc Go.RowKit
structure T_api_Value where
  fKind : Int
  fBool : Bool
  fNum : Int
  fText : List UInt8
  fList : List T_api_Value
  fKeys : List (List UInt8)
mutual
def emb_T_api_Value : T_api_Value → Dat
  | ⟨x0, x1, x2, x3, x4, x5⟩ => .struct [(Dat.int .i8) x0, Dat.bool x1, (Dat.int .i64) x2, Dat.str x3, .list 6 (embs_T_api_Value x4), (eL 1 Dat.str) x5]
def embs_T_api_Value : List T_api_Value → List Dat
  | [] => []
  | x :: r => emb_T_api_Value x :: embs_T_api_Value r
end
theorem embs_T_api_Value_eq : ∀ l : List T_api_Value, embs_T_api_Value l = l.map emb_T_api_Value
  | [] => by simp [embs_T_api_Value]
  | x :: r => by simp [embs_T_api_Value, embs_T_api_Value_eq r]
theorem emb_T_api_Value_eq (x : T_api_Value) : emb_T_api_Value x = .struct [(Dat.int .i8) x.fKind, Dat.bool x.fBool, (Dat.int .i64) x.fNum, Dat.str x.fText, (eL 6 emb_T_api_Value) x.fList, (eL 1 Dat.str) x.fKeys] := by
  cases x
  simp [emb_T_api_Value, eL, embs_T_api_Value_eq]
theorem szd_T_api_Value (x : T_api_Value) : Szd 6 (emb_T_api_Value x) := by rw [emb_T_api_Value_eq]; exact (szd_cons ((szd_int .i8) _) (szd_cons (szd_bool _) (szd_cons ((szd_int .i64) _) (szd_cons (szd_str _) (szd_cons ((fun _ => szd_list _ _) _) (szd_cons ((fun _ => szd_list _ _) _) szd_nil))))))
theorem T_api_Value.opn {M : Mem} {x : T_api_Value} {cs : List Value} (h : Rep M (emb_T_api_Value x) cs) : ∃ (A4 : Option Addr) (c4 : Nat) (A5 : Option Addr) (c5 : Nat), cs = [.int .i8 x.fKind, .bool x.fBool, .int .i64 x.fNum, S x.fText, .slice A4 x.fList.length c4, .slice A5 x.fKeys.length c5] ∧ Sli M 6 emb_T_api_Value A4 c4 x.fList ∧ Sli M 1 Dat.str A5 c5 x.fKeys := by
  rw [emb_T_api_Value_eq] at h
  obtain ⟨cq_0, dq_0, eq_0, hq_0, gq_0⟩ := h
  have yq_0 : cq_0 = _ := hq_0
  obtain ⟨cq_1, dq_1, eq_1, hq_1, gq_1⟩ := gq_0
  have yq_1 : cq_1 = _ := hq_1
  obtain ⟨cq_2, dq_2, eq_2, hq_2, gq_2⟩ := gq_1
  have yq_2 : cq_2 = _ := hq_2
  obtain ⟨cq_3, dq_3, eq_3, hq_3, gq_3⟩ := gq_2
  have yq_3 : cq_3 = _ := hq_3
  obtain ⟨cq_4, dq_4, eq_4, hq_4, gq_4⟩ := gq_3
  obtain ⟨Aq_4, kq_4, yq_4, zq_4⟩ := Rep.sli hq_4
  obtain ⟨cq_5, dq_5, eq_5, hq_5, gq_5⟩ := gq_4
  obtain ⟨Aq_5, kq_5, yq_5, zq_5⟩ := Rep.sli hq_5
  have lq : dq_5 = [] := gq_5
  exact ⟨Aq_4, kq_4, Aq_5, kq_5, by simp [eq_0, yq_0, eq_1, yq_1, eq_2, yq_2, eq_3, yq_3, eq_4, yq_4, eq_5, yq_5, lq], zq_4, zq_5⟩
theorem T_api_Value.shut {M : Mem} {a0 : Int} {a1 : Bool} {a2 : Int} {a3 : List UInt8} {a4 : List T_api_Value} {a5 : List (List UInt8)} {A4 : Option Addr} {c4 : Nat} {A5 : Option Addr} {c5 : Nat} (h4 : Sli M 6 emb_T_api_Value A4 c4 a4) (h5 : Sli M 1 Dat.str A5 c5 a5) : Rep M (emb_T_api_Value ⟨a0, a1, a2, a3, a4, a5⟩) [.int .i8 a0, .bool a1, .int .i64 a2, S a3, .slice A4 a4.length c4, .slice A5 a5.length c5] := by
  rw [emb_T_api_Value_eq]; exact ⟨_, _, rfl, rfl, ⟨_, _, rfl, rfl, ⟨_, _, rfl, rfl, ⟨_, _, rfl, rfl, ⟨_, _, rfl, (Sli.rep h4), ⟨_, _, rfl, (Sli.rep h5), rfl⟩⟩⟩⟩⟩⟩
theorem T_api_Value.shutx {M : Mem} {x : T_api_Value} {A4 : Option Addr} {c4 : Nat} {A5 : Option Addr} {c5 : Nat} (h4 : Sli M 6 emb_T_api_Value A4 c4 x.fList) (h5 : Sli M 1 Dat.str A5 c5 x.fKeys) : Rep M (emb_T_api_Value x) [.int .i8 x.fKind, .bool x.fBool, .int .i64 x.fNum, S x.fText, .slice A4 x.fList.length c4, .slice A5 x.fKeys.length c5] := by
  have h := T_api_Value.shut (M := M) (a0 := x.fKind) (a1 := x.fBool) (a2 := x.fNum) (a3 := x.fText) (a4 := x.fList) (a5 := x.fKeys) h4 h5
  rw [emb_T_api_Value_eq] at h ⊢
  exact h
abbrev z_T_api_Value : T_api_Value := (⟨(0 : Int), (false), (0 : Int), ([] : List UInt8), ([] : List T_api_Value), ([] : List (List UInt8))⟩ : T_api_Value)
end Go.Proofs.YtekkifakjkhjiaaDoor
