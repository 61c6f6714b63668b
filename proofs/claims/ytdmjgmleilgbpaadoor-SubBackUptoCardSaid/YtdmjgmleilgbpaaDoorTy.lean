/-
  Printed by a program: the structs, as data. No condition.
-/
import Derived.Test.YtdmjgmleilgbpaaDoorVkB
set_option linter.unusedVariables false
set_option linter.unusedSimpArgs false
namespace Go.Proofs.YtdmjgmleilgbpaaDoor
open Go Go.Vc Go.RowKit
structure T_api_Expr where
  fKind : Int
  fText : List UInt8
  fNum : Int
  fName : List UInt8
  fAttr : List UInt8
  fL : List T_api_Expr
mutual
def emb_T_api_Expr : T_api_Expr → Dat
  | ⟨x0, x1, x2, x3, x4, x5⟩ => .struct [(Dat.int .i8) x0, Dat.str x1, (Dat.int .i64) x2, Dat.str x3, Dat.str x4, .list 6 (embs_T_api_Expr x5)]
def embs_T_api_Expr : List T_api_Expr → List Dat
  | [] => []
  | x :: r => emb_T_api_Expr x :: embs_T_api_Expr r
end
theorem embs_T_api_Expr_eq : ∀ l : List T_api_Expr, embs_T_api_Expr l = l.map emb_T_api_Expr
  | [] => by simp [embs_T_api_Expr]
  | x :: r => by simp [embs_T_api_Expr, embs_T_api_Expr_eq r]
theorem emb_T_api_Expr_eq (x : T_api_Expr) : emb_T_api_Expr x = .struct [(Dat.int .i8) x.fKind, Dat.str x.fText, (Dat.int .i64) x.fNum, Dat.str x.fName, Dat.str x.fAttr, (eL 6 emb_T_api_Expr) x.fL] := by
  cases x
  simp [emb_T_api_Expr, eL, embs_T_api_Expr_eq]
theorem szd_T_api_Expr (x : T_api_Expr) : Szd 6 (emb_T_api_Expr x) := by rw [emb_T_api_Expr_eq]; exact (szd_cons ((szd_int .i8) _) (szd_cons (szd_str _) (szd_cons ((szd_int .i64) _) (szd_cons (szd_str _) (szd_cons (szd_str _) (szd_cons ((fun _ => szd_list _ _) _) szd_nil))))))
theorem T_api_Expr.opn {M : Mem} {x : T_api_Expr} {cs : List Value} (h : Rep M (emb_T_api_Expr x) cs) : ∃ (A5 : Option Addr) (c5 : Nat), cs = [.int .i8 x.fKind, S x.fText, .int .i64 x.fNum, S x.fName, S x.fAttr, .slice A5 x.fL.length c5] ∧ Sli M 6 emb_T_api_Expr A5 c5 x.fL := by
  rw [emb_T_api_Expr_eq] at h
  obtain ⟨cq_0, dq_0, eq_0, hq_0, gq_0⟩ := h
  have yq_0 : cq_0 = _ := hq_0
  obtain ⟨cq_1, dq_1, eq_1, hq_1, gq_1⟩ := gq_0
  have yq_1 : cq_1 = _ := hq_1
  obtain ⟨cq_2, dq_2, eq_2, hq_2, gq_2⟩ := gq_1
  have yq_2 : cq_2 = _ := hq_2
  obtain ⟨cq_3, dq_3, eq_3, hq_3, gq_3⟩ := gq_2
  have yq_3 : cq_3 = _ := hq_3
  obtain ⟨cq_4, dq_4, eq_4, hq_4, gq_4⟩ := gq_3
  have yq_4 : cq_4 = _ := hq_4
  obtain ⟨cq_5, dq_5, eq_5, hq_5, gq_5⟩ := gq_4
  obtain ⟨Aq_5, kq_5, yq_5, zq_5⟩ := Rep.sli hq_5
  have lq : dq_5 = [] := gq_5
  exact ⟨Aq_5, kq_5, by simp [eq_0, yq_0, eq_1, yq_1, eq_2, yq_2, eq_3, yq_3, eq_4, yq_4, eq_5, yq_5, lq], zq_5⟩
theorem T_api_Expr.shut {M : Mem} {a0 : Int} {a1 : List UInt8} {a2 : Int} {a3 : List UInt8} {a4 : List UInt8} {a5 : List T_api_Expr} {A5 : Option Addr} {c5 : Nat} (h5 : Sli M 6 emb_T_api_Expr A5 c5 a5) : Rep M (emb_T_api_Expr ⟨a0, a1, a2, a3, a4, a5⟩) [.int .i8 a0, S a1, .int .i64 a2, S a3, S a4, .slice A5 a5.length c5] := by
  rw [emb_T_api_Expr_eq]; exact ⟨_, _, rfl, rfl, ⟨_, _, rfl, rfl, ⟨_, _, rfl, rfl, ⟨_, _, rfl, rfl, ⟨_, _, rfl, rfl, ⟨_, _, rfl, (Sli.rep h5), rfl⟩⟩⟩⟩⟩⟩
theorem T_api_Expr.shutx {M : Mem} {x : T_api_Expr} {A5 : Option Addr} {c5 : Nat} (h5 : Sli M 6 emb_T_api_Expr A5 c5 x.fL) : Rep M (emb_T_api_Expr x) [.int .i8 x.fKind, S x.fText, .int .i64 x.fNum, S x.fName, S x.fAttr, .slice A5 x.fL.length c5] := by
  have h := T_api_Expr.shut (M := M) (a0 := x.fKind) (a1 := x.fText) (a2 := x.fNum) (a3 := x.fName) (a4 := x.fAttr) (a5 := x.fL) h5
  rw [emb_T_api_Expr_eq] at h ⊢
  exact h
abbrev z_T_api_Expr : T_api_Expr := (⟨(0 : Int), ([] : List UInt8), (0 : Int), ([] : List UInt8), ([] : List UInt8), ([] : List T_api_Expr)⟩ : T_api_Expr)
end Go.Proofs.YtdmjgmleilgbpaaDoor
