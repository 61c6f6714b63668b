/-
  Texts of this claim, packed (what nothing names is left out): Ty, Q1, Q2a, WalkIt, Vu, Q2f, Shelf, Lay, Hd, Sort1, Q2d, Q2e, Q3a, WalkIt2, Q4b, LayS, Sort2, Q4i, Q3c, Q4h, Q4d, Q4g. Own work, partly printed by own programs. No condition.
-/
import Derived.Test.YtocefedhenhbfaaDoorPkK1
import Derived.Test.YtocefedhenhbfaaDoorRows
import Derived.Shelf.Abstract
import Derived.Lib.MapLaws
import Derived.Lib.ValidLaws
import Derived.Shelf.Strings.Builder1
import Derived.Shelf.Strings.Builder2
import Derived.Shelf.Small.Bits
import Derived.Shelf.Small.Strs
import Derived.Shelf.Strconv.Itoa0
import Derived.Shelf.Bits.Mul64
import Derived.Ground.Names2Prog
import Derived.Shelf.Slices.SearchI
import Derived.Ground.SlsfProg
import Derived.Shelf.SlSortCmp.Insertion
import Derived.Shelf.SlSortCmp.SiftDown1
import Derived.Shelf.SlSortCmp.HeapSort1
import Derived.Shelf.SlSortCmp.Insertion1
import Derived.Shelf.SlSortCmp.Median1
import Derived.Shelf.SlSortCmp.Pivot1
import Derived.Shelf.SlSortCmp.ReverseRange1
import Derived.Shelf.SlSortCmp.PartialInsertion1
import Derived.Shelf.SlSortCmp.PartitionEqual1
import Derived.Shelf.SlSortCmp.Partition1
import Derived.Shelf.SlSortCmp.Pdq1
import Derived.Shelf.SlSortCmp.Whole1
import Derived.Shelf.SlSortCmp.NoneTotal
import Derived.Test.YtocefedhenhbfaaDoorProg
import Derived.Shelf.Lays
import Derived.Shelf.Unicode.ValidAny
import Derived.Lib.Bytealg
import Derived.Shelf.SlLaysF
set_option linter.unusedVariables false
set_option linter.unusedSimpArgs false
set_option maxHeartbeats 2000000
section
namespace Go.Proofs.YtocefedhenhbfaaDoor
open Go Go.Vc Go.RowKit
structure TD0 where
  fKind : Int
  fBool : Bool
  fNum : Int
  fText : List UInt8
  fList : List TD0
  fKeys : List (List UInt8)
mutual
def emb_TD0 : TD0 → Dat
  | ⟨x0, x1, x2, x3, x4, x5⟩ => .struct [(Dat.int .i8) x0, Dat.bool x1, (Dat.int .i64) x2, Dat.str x3, .list 6 (embs_TD0 x4), (eL 1 Dat.str) x5]
def embs_TD0 : List TD0 → List Dat
  | [] => []
  | x :: r => emb_TD0 x :: embs_TD0 r
end
theorem embs_TD0_eq : ∀ l : List TD0, embs_TD0 l = l.map emb_TD0
 | [] => by simp [embs_TD0]
 | x :: r => by simp [embs_TD0, embs_TD0_eq r]
theorem emb_TD0_eq (x : TD0) : emb_TD0 x = .struct [(Dat.int .i8) x.fKind, Dat.bool x.fBool, (Dat.int .i64) x.fNum, Dat.str x.fText, (eL 6 emb_TD0) x.fList, (eL 1 Dat.str) x.fKeys] := by
 cases x
 simp [emb_TD0, eL, embs_TD0_eq]
theorem szd_TD0 (x : TD0) : Szd 6 (emb_TD0 x) := by rw [emb_TD0_eq]; exact (szd_cons ((szd_int .i8) _) (szd_cons (szd_bool _) (szd_cons ((szd_int .i64) _) (szd_cons (szd_str _) (szd_cons ((fun _ => szd_list _ _) _) (szd_cons ((fun _ => szd_list _ _) _) szd_nil))))))
theorem TD0.opn {M : Mem} {x : TD0} {cs : List Value} (h : Rep M (emb_TD0 x) cs) : ∃ (A4 : Option Addr) (c4 : Nat) (A5 : Option Addr) (c5 : Nat), cs = [.int .i8 x.fKind, .bool x.fBool, .int .i64 x.fNum, S x.fText, .slice A4 x.fList.length c4, .slice A5 x.fKeys.length c5] ∧ Sli M 6 emb_TD0 A4 c4 x.fList ∧ Sli M 1 Dat.str A5 c5 x.fKeys := by
 rw [emb_TD0_eq] at h
 obtain ⟨cq_0, dq_0, eq_0, hq_0, gq_0⟩ := h
 have yq_0 : cq_0 = _ := hq_0
 obtain ⟨cq_1, dq_1, eq_1, hq_1, gq_1⟩ := gq_0
 have yq_1 : cq_1 = _ := hq_1
 obtain ⟨cq_2, dq_2, eq_2, hq_2, gq_2⟩ := gq_1
 have yq_2 : cq_2 = _ := hq_2
 obtain ⟨cq_3, dq_3, eq_3, hq_3, gq_3⟩ := gq_2
 have yq_3 : cq_3 = _ := hq_3
 obtain ⟨cq_4, dq_4, eq_4, hq_4, gq_4⟩ := gq_3
 obtain ⟨Aq_4, kq_4, yq_4, zq_4⟩ := Rep.sli hq_4
 obtain ⟨cq_5, dq_5, eq_5, hq_5, gq_5⟩ := gq_4
 obtain ⟨Aq_5, kq_5, yq_5, zq_5⟩ := Rep.sli hq_5
 have lq : dq_5 = [] := gq_5
 exact ⟨Aq_4, kq_4, Aq_5, kq_5, by simp [eq_0, yq_0, eq_1, yq_1, eq_2, yq_2, eq_3, yq_3, eq_4, yq_4, eq_5, yq_5, lq], zq_4, zq_5⟩
theorem TD0.shut {M : Mem} {a0 : Int} {a1 : Bool} {a2 : Int} {a3 : List UInt8} {a4 : List TD0} {a5 : List (List UInt8)} {A4 : Option Addr} {c4 : Nat} {A5 : Option Addr} {c5 : Nat} (h4 : Sli M 6 emb_TD0 A4 c4 a4) (h5 : Sli M 1 Dat.str A5 c5 a5) : Rep M (emb_TD0 ⟨a0, a1, a2, a3, a4, a5⟩) [.int .i8 a0, .bool a1, .int .i64 a2, S a3, .slice A4 a4.length c4, .slice A5 a5.length c5] := by
 rw [emb_TD0_eq]; exact ⟨_, _, rfl, rfl, ⟨_, _, rfl, rfl, ⟨_, _, rfl, rfl, ⟨_, _, rfl, rfl, ⟨_, _, rfl, (Sli.rep h4), ⟨_, _, rfl, (Sli.rep h5), rfl⟩⟩⟩⟩⟩⟩
theorem TD0.shutx {M : Mem} {x : TD0} {A4 : Option Addr} {c4 : Nat} {A5 : Option Addr} {c5 : Nat} (h4 : Sli M 6 emb_TD0 A4 c4 x.fList) (h5 : Sli M 1 Dat.str A5 c5 x.fKeys) : Rep M (emb_TD0 x) [.int .i8 x.fKind, .bool x.fBool, .int .i64 x.fNum, S x.fText, .slice A4 x.fList.length c4, .slice A5 x.fKeys.length c5] := by
 have h := TD0.shut (M := M) (a0 := x.fKind) (a1 := x.fBool) (a2 := x.fNum) (a3 := x.fText) (a4 := x.fList) (a5 := x.fKeys) h4 h5
 rw [emb_TD0_eq] at h ⊢
 exact h
structure TE0 where
  fName : List UInt8
  fUnknown : Bool
  fV : TD0
def emb_TE0 : TE0 → Dat
  | ⟨x0, x1, x2⟩ => .struct [Dat.str x0, Dat.bool x1, emb_TD0 x2]
theorem emb_TE0_eq (x : TE0) : emb_TE0 x = .struct [Dat.str x.fName, Dat.bool x.fUnknown, emb_TD0 x.fV] := by
 cases x
 simp [emb_TE0, eL]
theorem szd_TE0 (x : TE0) : Szd 8 (emb_TE0 x) := by rw [emb_TE0_eq]; exact (szd_cons (szd_str _) (szd_cons (szd_bool _) (szd_cons (szd_TD0 _) szd_nil)))
theorem TE0.opn {M : Mem} {x : TE0} {cs : List Value} (h : Rep M (emb_TE0 x) cs) : ∃ (A6 : Option Addr) (c6 : Nat) (A7 : Option Addr) (c7 : Nat), cs = [S x.fName, .bool x.fUnknown, .int .i8 x.fV.fKind, .bool x.fV.fBool, .int .i64 x.fV.fNum, S x.fV.fText, .slice A6 x.fV.fList.length c6, .slice A7 x.fV.fKeys.length c7] ∧ Sli M 6 emb_TD0 A6 c6 x.fV.fList ∧ Sli M 1 Dat.str A7 c7 x.fV.fKeys := by
 rw [emb_TE0_eq] at h
 obtain ⟨cq_0, dq_0, eq_0, hq_0, gq_0⟩ := h
 have yq_0 : cq_0 = _ := hq_0
 obtain ⟨cq_1, dq_1, eq_1, hq_1, gq_1⟩ := gq_0
 have yq_1 : cq_1 = _ := hq_1
 obtain ⟨cq_2, dq_2, eq_2, hq_2, gq_2⟩ := gq_1
 rw [emb_TD0_eq] at hq_2
 obtain ⟨cq_2_0, dq_2_0, eq_2_0, hq_2_0, gq_2_0⟩ := hq_2
 have yq_2_0 : cq_2_0 = _ := hq_2_0
 obtain ⟨cq_2_1, dq_2_1, eq_2_1, hq_2_1, gq_2_1⟩ := gq_2_0
 have yq_2_1 : cq_2_1 = _ := hq_2_1
 obtain ⟨cq_2_2, dq_2_2, eq_2_2, hq_2_2, gq_2_2⟩ := gq_2_1
 have yq_2_2 : cq_2_2 = _ := hq_2_2
 obtain ⟨cq_2_3, dq_2_3, eq_2_3, hq_2_3, gq_2_3⟩ := gq_2_2
 have yq_2_3 : cq_2_3 = _ := hq_2_3
 obtain ⟨cq_2_4, dq_2_4, eq_2_4, hq_2_4, gq_2_4⟩ := gq_2_3
 obtain ⟨Aq_2_4, kq_2_4, yq_2_4, zq_2_4⟩ := Rep.sli hq_2_4
 obtain ⟨cq_2_5, dq_2_5, eq_2_5, hq_2_5, gq_2_5⟩ := gq_2_4
 obtain ⟨Aq_2_5, kq_2_5, yq_2_5, zq_2_5⟩ := Rep.sli hq_2_5
 have lq_2 : dq_2_5 = [] := gq_2_5
 have lq : dq_2 = [] := gq_2
 exact ⟨Aq_2_4, kq_2_4, Aq_2_5, kq_2_5, by simp [eq_0, yq_0, eq_1, yq_1, eq_2, eq_2_0, yq_2_0, eq_2_1, yq_2_1, eq_2_2, yq_2_2, eq_2_3, yq_2_3, eq_2_4, yq_2_4, eq_2_5, yq_2_5, lq_2, lq], zq_2_4, zq_2_5⟩
theorem TE0.shut {M : Mem} {a0 : List UInt8} {a1 : Bool} {a2 : Int} {a3 : Bool} {a4 : Int} {a5 : List UInt8} {a6 : List TD0} {a7 : List (List UInt8)} {A6 : Option Addr} {c6 : Nat} {A7 : Option Addr} {c7 : Nat} (h6 : Sli M 6 emb_TD0 A6 c6 a6) (h7 : Sli M 1 Dat.str A7 c7 a7) : Rep M (emb_TE0 ⟨a0, a1, ⟨a2, a3, a4, a5, a6, a7⟩⟩) [S a0, .bool a1, .int .i8 a2, .bool a3, .int .i64 a4, S a5, .slice A6 a6.length c6, .slice A7 a7.length c7] := by
 rw [emb_TE0_eq]; exact ⟨_, _, rfl, rfl, ⟨_, _, rfl, rfl, ⟨_, _, rfl, (by rw [emb_TD0_eq]; exact ⟨_, _, rfl, rfl, ⟨_, _, rfl, rfl, ⟨_, _, rfl, rfl, ⟨_, _, rfl, rfl, ⟨_, _, rfl, (Sli.rep h6), ⟨_, _, rfl, (Sli.rep h7), rfl⟩⟩⟩⟩⟩⟩), rfl⟩⟩⟩
theorem TE0.shutx {M : Mem} {x : TE0} {A6 : Option Addr} {c6 : Nat} {A7 : Option Addr} {c7 : Nat} (h6 : Sli M 6 emb_TD0 A6 c6 x.fV.fList) (h7 : Sli M 1 Dat.str A7 c7 x.fV.fKeys) : Rep M (emb_TE0 x) [S x.fName, .bool x.fUnknown, .int .i8 x.fV.fKind, .bool x.fV.fBool, .int .i64 x.fV.fNum, S x.fV.fText, .slice A6 x.fV.fList.length c6, .slice A7 x.fV.fKeys.length c7] := by
 obtain ⟨u0, u1, ⟨u2, u3, u4, u5, u6, u7⟩⟩ := x
 exact TE0.shut h6 h7
structure TF0 where
  fPhys : List UInt8
  fType : List UInt8
  fProps : List TE0
def emb_TF0 : TF0 → Dat
  | ⟨x0, x1, x2⟩ => .struct [Dat.str x0, Dat.str x1, (eL 8 emb_TE0) x2]
theorem emb_TF0_eq (x : TF0) : emb_TF0 x = .struct [Dat.str x.fPhys, Dat.str x.fType, (eL 8 emb_TE0) x.fProps] := by
 cases x
 simp [emb_TF0, eL]
theorem szd_TF0 (x : TF0) : Szd 3 (emb_TF0 x) := by rw [emb_TF0_eq]; exact (szd_cons (szd_str _) (szd_cons (szd_str _) (szd_cons ((fun _ => szd_list _ _) _) szd_nil)))
theorem TF0.opn {M : Mem} {x : TF0} {cs : List Value} (h : Rep M (emb_TF0 x) cs) : ∃ (A2 : Option Addr) (c2 : Nat), cs = [S x.fPhys, S x.fType, .slice A2 x.fProps.length c2] ∧ Sli M 8 emb_TE0 A2 c2 x.fProps := by
 rw [emb_TF0_eq] at h
 obtain ⟨cq_0, dq_0, eq_0, hq_0, gq_0⟩ := h
 have yq_0 : cq_0 = _ := hq_0
 obtain ⟨cq_1, dq_1, eq_1, hq_1, gq_1⟩ := gq_0
 have yq_1 : cq_1 = _ := hq_1
 obtain ⟨cq_2, dq_2, eq_2, hq_2, gq_2⟩ := gq_1
 obtain ⟨Aq_2, kq_2, yq_2, zq_2⟩ := Rep.sli hq_2
 have lq : dq_2 = [] := gq_2
 exact ⟨Aq_2, kq_2, by simp [eq_0, yq_0, eq_1, yq_1, eq_2, yq_2, lq], zq_2⟩
theorem TF0.shut {M : Mem} {a0 : List UInt8} {a1 : List UInt8} {a2 : List TE0} {A2 : Option Addr} {c2 : Nat} (h2 : Sli M 8 emb_TE0 A2 c2 a2) : Rep M (emb_TF0 ⟨a0, a1, a2⟩) [S a0, S a1, .slice A2 a2.length c2] := by
 rw [emb_TF0_eq]; exact ⟨_, _, rfl, rfl, ⟨_, _, rfl, rfl, ⟨_, _, rfl, (Sli.rep h2), rfl⟩⟩⟩
theorem TF0.shutx {M : Mem} {x : TF0} {A2 : Option Addr} {c2 : Nat} (h2 : Sli M 8 emb_TE0 A2 c2 x.fProps) : Rep M (emb_TF0 x) [S x.fPhys, S x.fType, .slice A2 x.fProps.length c2] := by
 have h := TF0.shut (M := M) (a0 := x.fPhys) (a1 := x.fType) (a2 := x.fProps) h2
 rw [emb_TF0_eq] at h ⊢
 exact h
structure TH0 where
  fToken : Int
  fKind : Int
  fPhys : List UInt8
  fType : List UInt8
  fProps : List TE0
def emb_TH0 : TH0 → Dat
  | ⟨x0, x1, x2, x3, x4⟩ => .struct [(Dat.int .i64) x0, (Dat.int .i8) x1, Dat.str x2, Dat.str x3, (eL 8 emb_TE0) x4]
theorem emb_TH0_eq (x : TH0) : emb_TH0 x = .struct [(Dat.int .i64) x.fToken, (Dat.int .i8) x.fKind, Dat.str x.fPhys, Dat.str x.fType, (eL 8 emb_TE0) x.fProps] := by
 cases x
 simp [emb_TH0, eL]
theorem szd_TH0 (x : TH0) : Szd 5 (emb_TH0 x) := by rw [emb_TH0_eq]; exact (szd_cons ((szd_int .i64) _) (szd_cons ((szd_int .i8) _) (szd_cons (szd_str _) (szd_cons (szd_str _) (szd_cons ((fun _ => szd_list _ _) _) szd_nil)))))
theorem TH0.opn {M : Mem} {x : TH0} {cs : List Value} (h : Rep M (emb_TH0 x) cs) : ∃ (A4 : Option Addr) (c4 : Nat), cs = [.int .i64 x.fToken, .int .i8 x.fKind, S x.fPhys, S x.fType, .slice A4 x.fProps.length c4] ∧ Sli M 8 emb_TE0 A4 c4 x.fProps := by
 rw [emb_TH0_eq] at h
 obtain ⟨cq_0, dq_0, eq_0, hq_0, gq_0⟩ := h
 have yq_0 : cq_0 = _ := hq_0
 obtain ⟨cq_1, dq_1, eq_1, hq_1, gq_1⟩ := gq_0
 have yq_1 : cq_1 = _ := hq_1
 obtain ⟨cq_2, dq_2, eq_2, hq_2, gq_2⟩ := gq_1
 have yq_2 : cq_2 = _ := hq_2
 obtain ⟨cq_3, dq_3, eq_3, hq_3, gq_3⟩ := gq_2
 have yq_3 : cq_3 = _ := hq_3
 obtain ⟨cq_4, dq_4, eq_4, hq_4, gq_4⟩ := gq_3
 obtain ⟨Aq_4, kq_4, yq_4, zq_4⟩ := Rep.sli hq_4
 have lq : dq_4 = [] := gq_4
 exact ⟨Aq_4, kq_4, by simp [eq_0, yq_0, eq_1, yq_1, eq_2, yq_2, eq_3, yq_3, eq_4, yq_4, lq], zq_4⟩
theorem TH0.shut {M : Mem} {a0 : Int} {a1 : Int} {a2 : List UInt8} {a3 : List UInt8} {a4 : List TE0} {A4 : Option Addr} {c4 : Nat} (h4 : Sli M 8 emb_TE0 A4 c4 a4) : Rep M (emb_TH0 ⟨a0, a1, a2, a3, a4⟩) [.int .i64 a0, .int .i8 a1, S a2, S a3, .slice A4 a4.length c4] := by
 rw [emb_TH0_eq]; exact ⟨_, _, rfl, rfl, ⟨_, _, rfl, rfl, ⟨_, _, rfl, rfl, ⟨_, _, rfl, rfl, ⟨_, _, rfl, (Sli.rep h4), rfl⟩⟩⟩⟩⟩
structure TC0 where
  fEnded : Bool
  fOk : Bool
  fPhys : List UInt8
  deriving DecidableEq, Inhabited
def emb_TC0 : TC0 → Dat
  | ⟨x0, x1, x2⟩ => .struct [Dat.bool x0, Dat.bool x1, Dat.str x2]
theorem emb_TC0_eq (x : TC0) : emb_TC0 x = .struct [Dat.bool x.fEnded, Dat.bool x.fOk, Dat.str x.fPhys] := by
 cases x
 simp [emb_TC0, eL]
theorem TC0.opn {M : Mem} {x : TC0} {cs : List Value} (h : Rep M (emb_TC0 x) cs) : cs = [.bool x.fEnded, .bool x.fOk, S x.fPhys] := by
 rw [emb_TC0_eq] at h
 obtain ⟨cq_0, dq_0, eq_0, hq_0, gq_0⟩ := h
 have yq_0 : cq_0 = _ := hq_0
 obtain ⟨cq_1, dq_1, eq_1, hq_1, gq_1⟩ := gq_0
 have yq_1 : cq_1 = _ := hq_1
 obtain ⟨cq_2, dq_2, eq_2, hq_2, gq_2⟩ := gq_1
 have yq_2 : cq_2 = _ := hq_2
 have lq : dq_2 = [] := gq_2
 simp [eq_0, yq_0, eq_1, yq_1, eq_2, yq_2, lq]
theorem TC0.shut {M : Mem} {a0 : Bool} {a1 : Bool} {a2 : List UInt8}   : Rep M (emb_TC0 ⟨a0, a1, a2⟩) [.bool a0, .bool a1, S a2] := by
 rw [emb_TC0_eq]; exact ⟨_, _, rfl, rfl, ⟨_, _, rfl, rfl, ⟨_, _, rfl, rfl, rfl⟩⟩⟩
theorem TC0.shutx {M : Mem} {x : TC0}   : Rep M (emb_TC0 x) [.bool x.fEnded, .bool x.fOk, S x.fPhys] := by
 have h := TC0.shut (M := M) (a0 := x.fEnded) (a1 := x.fOk) (a2 := x.fPhys)
 rw [emb_TC0_eq] at h ⊢
 exact h
structure TG0 where
  fName : List UInt8
  fKind : Int
  fReplace : Bool
  deriving DecidableEq, Inhabited
def emb_TG0 : TG0 → Dat
  | ⟨x0, x1, x2⟩ => .struct [Dat.str x0, (Dat.int .i8) x1, Dat.bool x2]
theorem emb_TG0_eq (x : TG0) : emb_TG0 x = .struct [Dat.str x.fName, (Dat.int .i8) x.fKind, Dat.bool x.fReplace] := by
 cases x
 simp [emb_TG0, eL]
theorem TG0.opn {M : Mem} {x : TG0} {cs : List Value} (h : Rep M (emb_TG0 x) cs) : cs = [S x.fName, .int .i8 x.fKind, .bool x.fReplace] := by
 rw [emb_TG0_eq] at h
 obtain ⟨cq_0, dq_0, eq_0, hq_0, gq_0⟩ := h
 have yq_0 : cq_0 = _ := hq_0
 obtain ⟨cq_1, dq_1, eq_1, hq_1, gq_1⟩ := gq_0
 have yq_1 : cq_1 = _ := hq_1
 obtain ⟨cq_2, dq_2, eq_2, hq_2, gq_2⟩ := gq_1
 have yq_2 : cq_2 = _ := hq_2
 have lq : dq_2 = [] := gq_2
 simp [eq_0, yq_0, eq_1, yq_1, eq_2, yq_2, lq]
theorem TG0.shut {M : Mem} {a0 : List UInt8} {a1 : Int} {a2 : Bool}   : Rep M (emb_TG0 ⟨a0, a1, a2⟩) [S a0, .int .i8 a1, .bool a2] := by
 rw [emb_TG0_eq]; exact ⟨_, _, rfl, rfl, ⟨_, _, rfl, rfl, ⟨_, _, rfl, rfl, rfl⟩⟩⟩
theorem TG0.shutx {M : Mem} {x : TG0}   : Rep M (emb_TG0 x) [S x.fName, .int .i8 x.fKind, .bool x.fReplace] := by
 have h := TG0.shut (M := M) (a0 := x.fName) (a1 := x.fKind) (a2 := x.fReplace)
 rw [emb_TG0_eq] at h ⊢
 exact h
structure TB0 where
  fL : List TF0
  fMade : Int
def emb_TB0 : TB0 → Dat
  | ⟨x0, x1⟩ => .struct [(eL 3 emb_TF0) x0, (Dat.int .i64) x1]
theorem emb_TB0_eq (x : TB0) : emb_TB0 x = .struct [(eL 3 emb_TF0) x.fL, (Dat.int .i64) x.fMade] := by
 cases x
 simp [emb_TB0, eL]
theorem TB0.opn {M : Mem} {x : TB0} {cs : List Value} (h : Rep M (emb_TB0 x) cs) : ∃ (A0 : Option Addr) (c0 : Nat), cs = [.slice A0 x.fL.length c0, .int .i64 x.fMade] ∧ Sli M 3 emb_TF0 A0 c0 x.fL := by
 rw [emb_TB0_eq] at h
 obtain ⟨cq_0, dq_0, eq_0, hq_0, gq_0⟩ := h
 obtain ⟨Aq_0, kq_0, yq_0, zq_0⟩ := Rep.sli hq_0
 obtain ⟨cq_1, dq_1, eq_1, hq_1, gq_1⟩ := gq_0
 have yq_1 : cq_1 = _ := hq_1
 have lq : dq_1 = [] := gq_1
 exact ⟨Aq_0, kq_0, by simp [eq_0, yq_0, eq_1, yq_1, lq], zq_0⟩
theorem TB0.shut {M : Mem} {a0 : List TF0} {a1 : Int} {A0 : Option Addr} {c0 : Nat} (h0 : Sli M 3 emb_TF0 A0 c0 a0) : Rep M (emb_TB0 ⟨a0, a1⟩) [.slice A0 a0.length c0, .int .i64 a1] := by
 rw [emb_TB0_eq]; exact ⟨_, _, rfl, (Sli.rep h0), ⟨_, _, rfl, rfl, rfl⟩⟩
structure TA0 where
  fDo : Int
  fN : Int
  fX : TH0
def emb_TA0 : TA0 → Dat
  | ⟨x0, x1, x2⟩ => .struct [(Dat.int .i64) x0, (Dat.int .i64) x1, emb_TH0 x2]
theorem emb_TA0_eq (x : TA0) : emb_TA0 x = .struct [(Dat.int .i64) x.fDo, (Dat.int .i64) x.fN, emb_TH0 x.fX] := by
 cases x
 simp [emb_TA0, eL]
theorem TA0.opn {M : Mem} {x : TA0} {cs : List Value} (h : Rep M (emb_TA0 x) cs) : ∃ (A6 : Option Addr) (c6 : Nat), cs = [.int .i64 x.fDo, .int .i64 x.fN, .int .i64 x.fX.fToken, .int .i8 x.fX.fKind, S x.fX.fPhys, S x.fX.fType, .slice A6 x.fX.fProps.length c6] ∧ Sli M 8 emb_TE0 A6 c6 x.fX.fProps := by
 rw [emb_TA0_eq] at h
 obtain ⟨cq_0, dq_0, eq_0, hq_0, gq_0⟩ := h
 have yq_0 : cq_0 = _ := hq_0
 obtain ⟨cq_1, dq_1, eq_1, hq_1, gq_1⟩ := gq_0
 have yq_1 : cq_1 = _ := hq_1
 obtain ⟨cq_2, dq_2, eq_2, hq_2, gq_2⟩ := gq_1
 rw [emb_TH0_eq] at hq_2
 obtain ⟨cq_2_0, dq_2_0, eq_2_0, hq_2_0, gq_2_0⟩ := hq_2
 have yq_2_0 : cq_2_0 = _ := hq_2_0
 obtain ⟨cq_2_1, dq_2_1, eq_2_1, hq_2_1, gq_2_1⟩ := gq_2_0
 have yq_2_1 : cq_2_1 = _ := hq_2_1
 obtain ⟨cq_2_2, dq_2_2, eq_2_2, hq_2_2, gq_2_2⟩ := gq_2_1
 have yq_2_2 : cq_2_2 = _ := hq_2_2
 obtain ⟨cq_2_3, dq_2_3, eq_2_3, hq_2_3, gq_2_3⟩ := gq_2_2
 have yq_2_3 : cq_2_3 = _ := hq_2_3
 obtain ⟨cq_2_4, dq_2_4, eq_2_4, hq_2_4, gq_2_4⟩ := gq_2_3
 obtain ⟨Aq_2_4, kq_2_4, yq_2_4, zq_2_4⟩ := Rep.sli hq_2_4
 have lq_2 : dq_2_4 = [] := gq_2_4
 have lq : dq_2 = [] := gq_2
 exact ⟨Aq_2_4, kq_2_4, by simp [eq_0, yq_0, eq_1, yq_1, eq_2, eq_2_0, yq_2_0, eq_2_1, yq_2_1, eq_2_2, yq_2_2, eq_2_3, yq_2_3, eq_2_4, yq_2_4, lq_2, lq], zq_2_4⟩
abbrev z_TD0 : TD0 := (⟨(0 : Int), (false), (0 : Int), ([] : List UInt8), ([] : List TD0), ([] : List (List UInt8))⟩ : TD0)
abbrev z_TE0 : TE0 := (⟨([] : List UInt8), (false), (⟨(0 : Int), (false), (0 : Int), ([] : List UInt8), ([] : List TD0), ([] : List (List UInt8))⟩ : TD0)⟩ : TE0)
abbrev z_TF0 : TF0 := (⟨([] : List UInt8), ([] : List UInt8), ([] : List TE0)⟩ : TF0)
abbrev z_TH0 : TH0 := (⟨(0 : Int), (0 : Int), ([] : List UInt8), ([] : List UInt8), ([] : List TE0)⟩ : TH0)
abbrev z_TC0 : TC0 := (⟨(false), (false), ([] : List UInt8)⟩ : TC0)
abbrev z_TG0 : TG0 := (⟨([] : List UInt8), (0 : Int), (false)⟩ : TG0)
abbrev z_TB0 : TB0 := (⟨([] : List TF0), (0 : Int)⟩ : TB0)
abbrev z_TA0 : TA0 := (⟨(0 : Int), (0 : Int), (⟨(0 : Int), (0 : Int), ([] : List UInt8), ([] : List UInt8), ([] : List TE0)⟩ : TH0)⟩ : TA0)
def ref01_One_s1 (n : Nat) (d0 : List UInt8) (d1 : Int) (y_5 : Int × Int × Int) (s_1 : Int × Int) : Option (Lp (Int × Int) (Sum Unit Int)) :=
    bif (decide (s_1.2 < y_5.1)) then
      (need (inR .i64 (d1 + s_1.2)) <|
      (getI d0 (d1 + s_1.2)).bind fun c_2 =>
      ((bif (decide (((c_2).toNat : Int) < 128)) then
          (some ((true)))
        else
          some ((decide ((191 : Int) < ((c_2).toNat : Int)))) : Option Bool)).bind fun y_6 =>
      bif y_6 then
        (some (.br (.inl ())))
      else
        need (inR .i64 ((64 : Int) * s_1.1)) <|
        need (inR .i64 (((64 : Int) * s_1.1) + ((c_2).toNat : Int))) <|
        need (inR .i64 ((((64 : Int) * s_1.1) + ((c_2).toNat : Int)) - 128)) <|
        need (inR .i64 (s_1.2 + 1)) <|
        some (.nx ((((64 : Int) * s_1.1) + ((c_2).toNat : Int)) - 128, s_1.2 + 1)))
    else
      some (.br (.inr s_1.1))
def ref01_One (n : Nat) (d0 : List UInt8) (d1 : Int) : Option (Int × Int) :=
  ((bif (decide (d1 < 0)) then
      (some ((true)))
    else
      some ((decide ((d0.length : Int) ≤ d1))) : Option Bool)).bind fun y_1 =>
  bif y_1 then
    (some (((0 : Int), (0 : Int))))
  else
    (getI d0 d1).bind fun c_1 =>
    ((bif (decide (((c_1).toNat : Int) < 128)) then
        (((some ((((c_1).toNat : Int), (1 : Int))) : Option (Int × Int))).map Lp.br)
      else
        ((bif (decide ((192 : Int) ≤ ((c_1).toNat : Int))) then
            (some ((decide (((c_1).toNat : Int) < 224))))
          else
            some ((false)) : Option Bool)).bind fun y_2 =>
        bif y_2 then
          (some (.nx ((2 : Int), bAnd .i64 ((c_1).toNat : Int) (31 : Int), (128 : Int))))
        else
          ((bif (decide ((224 : Int) ≤ ((c_1).toNat : Int))) then
              (some ((decide (((c_1).toNat : Int) < 240))))
            else
              some ((false)) : Option Bool)).bind fun y_3 =>
          bif y_3 then
            (some (.nx ((3 : Int), bAnd .i64 ((c_1).toNat : Int) (15 : Int), (2048 : Int))))
          else
            ((bif (decide ((240 : Int) ≤ ((c_1).toNat : Int))) then
                (some ((decide (((c_1).toNat : Int) < 248))))
              else
                some ((false)) : Option Bool)).bind fun y_4 =>
            bif y_4 then
              (some (.nx ((4 : Int), bAnd .i64 ((c_1).toNat : Int) (7 : Int), (65536 : Int))))
            else
              ((some (((0 : Int), (0 : Int))) : Option (Int × Int))).map Lp.br : Option (Lp (Int × Int × Int) (Int × Int)))).bind fun j => joinF j fun y_5 =>
    need (inR .i64 (d1 + y_5.1)) <|
    bif (decide ((d0.length : Int) < (d1 + y_5.1))) then
      (some (((0 : Int), (0 : Int))))
    else
      (loopF (ref01_One_s1 n d0 d1 y_5) n (y_5.2.1, (1 : Int))).bind fun b_1 =>
      (match b_1 with 
      | .inl y_7 => some (((0 : Int), (0 : Int))) 
      | .inr y_8 => ((bif (decide (y_8 < y_5.2.2)) then
            (some ((true)))
          else
            bif (decide ((1114111 : Int) < y_8)) then
              (some ((true)))
            else
              bif (decide ((55296 : Int) ≤ y_8)) then
                (some ((decide (y_8 ≤ 57343))))
              else
                some ((false)) : Option Bool)).bind fun y_9 =>
        bif y_9 then
          (some (((0 : Int), (0 : Int))))
        else
          some ((y_8, y_5.1)))
def ref01_Valid_s1 (n : Nat) (d0 : List UInt8) (s_1 : Int) : Option (Lp Int (Sum Unit Unit)) :=
    bif (decide (s_1 < (d0.length : Int))) then
      ((ref01_One n d0 s_1).bind fun x_1 =>
      bif (decide (x_1.2 = 0)) then
        (some (.br (.inl ())))
      else
        need (inR .i64 (s_1 + x_1.2)) <|
        some (.nx (s_1 + x_1.2)))
    else
      some (.br (.inr ()))
def ref01_Valid (n : Nat) (d0 : List UInt8) : Option Bool :=
  (loopF (ref01_Valid_s1 n d0) n (0 : Int)).bind fun b_1 =>
  (match b_1 with 
  | .inl y_1 => some ((false)) 
  | .inr y_2 => some ((true)))
def ref03_weight_s1 (n : Nat) (d0 : TD0) (s_1 : Int × Int) : Option (Lp (Int × Int) Int) :=
    bif (decide (s_1.2 < ((d0.fKeys.length : Nat) : Int))) then
      ((getI d0.fKeys s_1.2).bind fun x_1 =>
      need (inR .i64 (s_1.1 + (min (x_1.length : Int) (10000 : Int)))) <|
      need (inR .i64 (s_1.2 + 1)) <|
      some (.nx (s_1.1 + (min (x_1.length : Int) (10000 : Int)), s_1.2 + 1)))
    else
      some (.br s_1.1)
def ref03_weight_s2 (n : Nat) (rec_ref03_weight : TD0 → Int → Option Int) (d0 : TD0) (d1 : Int) (s_2 : Int × Int) : Option (Lp (Int × Int) Int) :=
    ((bif (decide (s_2.2 < ((d0.fList.length : Nat) : Int))) then
        (some ((decide (s_2.1 ≤ 10000))))
      else
        some ((false)) : Option Bool)).bind fun y_3 =>
    bif y_3 then
      ((getI d0.fList s_2.2).bind fun x_2 =>
      need (inR .i64 (d1 - 1)) <|
      (rec_ref03_weight x_2 (d1 - 1)).bind fun x_3 =>
      need (inR .i64 (s_2.1 + x_3)) <|
      need (inR .i64 (s_2.2 + 1)) <|
      some (.nx (s_2.1 + x_3, s_2.2 + 1)))
    else
      some (.br s_2.1)
def ref03_weight_b (n : Nat) (rec_ref03_weight : TD0 → Int → Option Int) (d0 : TD0) (d1 : Int) : Option Int :=
  ((bif (decide (d1 = 0)) then
      (some ((true)))
    else
      bif (decide ((3000 : Int) < ((d0.fList.length : Nat) : Int))) then
        (some ((true)))
      else
        some ((decide ((3000 : Int) < ((d0.fKeys.length : Nat) : Int)))) : Option Bool)).bind fun y_1 =>
  bif y_1 then
    (some ((10000 : Int)))
  else
    need (inR .i64 ((1 : Int) + (min (d0.fText.length : Int) (10000 : Int)))) <|
    (loopF (ref03_weight_s1 n d0) n ((1 : Int) + (min (d0.fText.length : Int) (10000 : Int)), (0 : Int))).bind fun y_2 =>
    (loopF (ref03_weight_s2 n rec_ref03_weight d0 d1) n (y_2, (0 : Int))).bind fun y_4 =>
    some (y_4)
set_option maxRecDepth 20000 in
theorem ref03_weight_b_ok (n : Nat) (rec_ref03_weight : TD0 → Int → Option Int) (hrec_ref03_weight : ∀ (M : Mem) (c0 : List Value) (d0 : TD0) (h0 : Rep M (emb_TD0 d0) c0) (d1 : Int) (r : Int) (hF : rec_ref03_weight d0 d1 = some r), Ok Tryd.prog M 25 [.agg c0.toArray, .int .i64 d1] (fun _ v => v = .int .i64 r)) (M : Mem) (c0 : List Value) (d0 : TD0) (h0 : Rep M (emb_TD0 d0) c0) (d1 : Int) (r : Int) (hF : ref03_weight_b n rec_ref03_weight d0 d1 = some r) : Ok Tryd.prog M 25 [.agg c0.toArray, .int .i64 d1] (fun _ v => v = .int .i64 r) := by
 unfold ref03_weight_b at hF
 intro M1 hM0 w0 H w p0
 replace h0 := Rep.mono hM0 _ _ h0
 obtain ⟨A_1, cap_1, A_2, cap_2, rfl, h_1, h_2⟩ := TD0.opn h0
 refine R_enter 65 Tryd.func25 rfl rfl (by simp) fun a0 f0 => RR (Y13 (cs := #[.int .i8 d0.fKind, .bool d0.fBool, .int .i64 d0.fNum, S d0.fText, .slice A_1 d0.fList.length cap_1, .slice A_2 d0.fKeys.length cap_2]) (T := 26) f0 p0 fun b_1 M_1 w_1 hM_1 hc_1 p_1 _ f => ?_)
 have hc_2 := fz_box hc_1
 refine Y f 1 fun _ f => eT (R_seq (R_seq ?_))
 obtain ⟨j_1, hj_1, hF_1⟩ := bS hF
 refine R_mid (fun a_12 w_2 => ∃ y_1 : Bool, j_1 = y_1 ∧ ∃ M_2 : Mem, M_1.le M_2 ∧ Frm 65 [(1, .int .i64 d1), (2, .pointer (some (⟨b_1, 0, none⟩))), (21, .bool y_1)] a_12 ∧ Hp w0 M_2 (H) w_2) ?_ ?_
 ·refine R_reg (Y f 3 fun _ f => ?_)
  rcases cE hj_1 with ⟨h_3, hF_2⟩ | ⟨h_3, hF_3⟩
  ·have k_1 := dI.1 h_3
   have f := f.st 10 (cB h_3)
   refine Y f 11 fun _ f => eT ?_
   exact ⟨(true), (sI hF_2).symm, M_1, (mR _), f.kp, p_1⟩
  ·have k_2 := iff_f dI h_3
   have f := f.st 10 (cB h_3)
   refine Y f 1 fun _ f => Y15 f p_1 hc_2 4 rfl fun _ f => Y f 4 fun _ f => ?_
   rcases cE hF_3 with ⟨h_4, hF_4⟩ | ⟨h_4, hF_5⟩
   ·have k_3 := dI.1 h_4
    have f := f.st 16 (cB h_4)
    refine Y f 5 fun _ f => eT ?_
    exact ⟨(true), (sI hF_4).symm, M_1, (mR _), f.kp, p_1⟩
   ·have k_4 := iff_f dI h_4
    have f := f.st 16 (cB h_4)
    refine Y f 1 fun _ f => Y15 f p_1 hc_2 5 rfl fun _ f => Y f 3 fun _ f => eT ?_
    exact ⟨(decide ((3000 : Int) < ((d0.fKeys.length : Nat) : Int))), (sI hF_5).symm, M_1, (mR _), f.kp, p_1⟩
 ·rintro a_12 w_2 ⟨y_1, hq_1, M_2, hM_2, f, p_2⟩
  subst j_1
  refine T_n (RcF f hF_1 (fun h_5 hF_6 => ?_) fun h_5 hF_7 => ?_)
  ·refine RR (Y f 1 fun _ f => eT (wp_ret (T_r (E_ret1 f rfl (by kernel_rfl : Vc.look _ 4 = some (.int .i64 10000)) ?_))))
   obtain rfl := sI hF_6
   exact ⟨_, rfl, M_2, (hM_1.trans hM_2), p_2, rfl⟩
  ·refine wp_skip (T_n (RR (Y f 1 fun _ f => Y15 f p_2 (fzu hM_2 hc_2) 3 rfl fun _ f => Y f 1 fun _ f => Z (v := .int .i64 (min (d0.fText.length : Int) (10000 : Int))) f (X_min (k := .i64) (a := (d0.fText.length : Int)) (b := (10000 : Int)) rfl (by kernel_rfl) (by kernel_rfl)) fun _ f => ?_)))
   obtain ⟨g_1, hF_8⟩ := nS hF_7
   refine Y f 1 fun _ f => ?_
   have f := f.st 26 (congrArg (Value.int .i64) (inR_wrap g_1))
   refine Y f 1 fun _ f => eT (R_seq (RR (Y f 1 fun _ f => eT (wp_block ?_))))
   obtain ⟨b_2, hL_1, hF_9⟩ := bS hF_8
   refine wp_mono (Q := fun e a w => (e = .exit 0 ∧ (∃ y_2 : Int, b_2 = y_2 ∧ ∃ M_4 : Mem, M_2.le M_4 ∧ Frm 65 [(1, .int .i64 d1), (2, .pointer (some (⟨b_1, 0, none⟩))), (5, .int .i64 y_2)] a ∧ Hp w0 M_4 (H) w))) (R_loop (n := 65) (w0 := w0) (M := M_2) (fun (x : Nat × (Int × Int)) => match x with | (m_1, s_1) => [(1, .int .i64 d1), (2, .pointer (some (⟨b_1, 0, none⟩))), (5, .int .i64 s_1.1), (6, .int .i64 s_1.2)]) (fun (x : Nat × (Int × Int)) => match x with | (m_1, s_1) => (H)) (fun (x : Nat × (Int × Int)) (MM : Mem) => match x with | (m_1, s_1) => loopF (ref03_weight_s1 n d0) m_1 s_1 = some b_2) (fun (x : Nat × (Int × Int)) => match x with | (m_1, s_1) => m_1) (n, ((1 : Int) + (min (d0.fText.length : Int) (10000 : Int)), (0 : Int))) (f.kp) p_2 hL_1 ?_) ?_
   ·rintro ⟨m_1, s_1⟩ M_3 _ w_3 hM_3 I_1 f p_3
    have I_1L := I_1
    obtain ⟨m_2, r_1, rfl, hs_1, hn_1⟩ := loop_step I_1L
    unfold ref03_weight_s1 at hs_1
    refine R_seq (RR (Y f 2 fun _ f => Y15 f p_3 (fzu (hM_2.trans hM_3) hc_2) 5 rfl fun _ f => Y f 2 fun _ f => eT (RcF f hs_1 (fun h_6 hF_10 => ?_) fun h_6 hF_14 => ?_)))
    ·have k_7 := dI.1 h_6
     refine wp_skip (T_n (R_seq (wp_block (R_reg (Y f 2 fun _ f => Y15 f p_3 (fzu (hM_2.trans hM_3) hc_2) 5 rfl fun _ f => Y f 1 fun _ f => ?_)))))
     obtain ⟨x_1, hx_1, hF_11⟩ := bS hF_10
     obtain ⟨ad_1, c_1, e_1, -, hr_1, hc_3⟩ := Sli.at_ (h_2.mono ((hM_1.trans hM_2).trans hM_3)) hx_1
     obtain rfl : c_1 = [S x_1] := hr_1
     refine Z f (Y31 e_1 rfl (len := d0.fKeys.length) (cap := cap_2) (k := .i64) (i := s_1.2) (e := 9) (sz := 1) (getI_nn hx_1) (getI_lt hx_1)) fun _ f => Y15 f p_3 hc_3 0 rfl fun _ f => Y f 1 fun _ f => Z (v := .int .i64 (min (x_1.length : Int) (10000 : Int))) f (X_min (k := .i64) (a := (x_1.length : Int)) (b := (10000 : Int)) rfl (by kernel_rfl) (by kernel_rfl)) fun _ f => ?_
     obtain ⟨g_2, hF_12⟩ := nS hF_11
     refine Y f 1 fun _ f => ?_
     have f := f.st 42 (congrArg (Value.int .i64) (inR_wrap g_2))
     refine Y f 1 fun _ f => W_end rfl (B_n (T_n (R_reg (Y f 1 fun _ f => ?_))))
     obtain ⟨g_3, hF_13⟩ := nS hF_12
     refine Y f 1 fun _ f => ?_
     have f := f.st 33 (congrArg (Value.int .i64) (inR_wrap g_3))
     refine Y f 1 fun _ f => eT ?_
     obtain rfl := sI hF_13
     exact ⟨⟨m_2, (s_1.1 + (min (x_1.length : Int) (10000 : Int)), s_1.2 + 1)⟩, Nat.lt_succ_self _, M_3, hM_3, hn_1, f.kp, p_3⟩
    ·have k_8 := iff_f dI h_6
     refine wp_exit (T_x (T_x ?_))
     obtain rfl := sI hF_14
     exact ⟨rfl, s_1.1, (sI hn_1).symm, M_3, hM_3, f.kp, p_3⟩
   ·rintro _ _ w_5 ⟨rfl, y_2, hq_, M_4, hM_4, f, p_4⟩
    subst b_2
    refine B_x (T_n (R_seq (RR (Y f 1 fun _ f => eT (wp_block ?_)))))
    obtain ⟨b_3, hL_2, hF_15⟩ := bS hF_9
    refine wp_mono (Q := fun e a w => (e = .exit 2 ∧ (∃ y_4 : Int, b_3 = y_4 ∧ ∃ M_7 : Mem, M_4.le M_7 ∧ Frm 65 [(5, .int .i64 y_4)] a ∧ Hp w0 M_7 (H) w))) (R_loop (n := 65) (w0 := w0) (M := M_4) (fun (x : Nat × (Int × Int)) => match x with | (m_3, s_2) => [(1, .int .i64 d1), (2, .pointer (some (⟨b_1, 0, none⟩))), (5, .int .i64 s_2.1), (7, .int .i64 s_2.2)]) (fun (x : Nat × (Int × Int)) => match x with | (m_3, s_2) => (H)) (fun (x : Nat × (Int × Int)) (MM : Mem) => match x with | (m_3, s_2) => loopF (ref03_weight_s2 n rec_ref03_weight d0 d1) m_3 s_2 = some b_3) (fun (x : Nat × (Int × Int)) => match x with | (m_3, s_2) => m_3) (n, (y_2, (0 : Int))) (f.kp) p_4 hL_2 ?_) ?_
    ·rintro ⟨m_3, s_2⟩ M_5 _ w_6 hM_5 I_2 f p_5
     have I_2L := I_2
     obtain ⟨m_4, r_2, rfl, hs_2, hn_2⟩ := loop_step I_2L
     unfold ref03_weight_s2 at hs_2
     refine R_seq (R_seq ?_)
     obtain ⟨j_2, hj_2, hF_16⟩ := bS hs_2
     refine R_mid (fun a_46 w_7 => ∃ y_3 : Bool, j_2 = y_3 ∧ ∃ M_6 : Mem, M_5.le M_6 ∧ Frm 65 [(1, .int .i64 d1), (2, .pointer (some (⟨b_1, 0, none⟩))), (5, .int .i64 s_2.1), (7, .int .i64 s_2.2), (51, .bool y_3)] a_46 ∧ Hp w0 M_6 (H) w_7) ?_ ?_
     ·refine R_reg (Y f 2 fun _ f => Y15 f p_5 (fzu ((hM_2.trans hM_4).trans hM_5) hc_2) 4 rfl fun _ f => Y f 3 fun _ f => ?_)
      rcases cE hj_2 with ⟨h_7, hF_17⟩ | ⟨h_7, hF_18⟩
      ·have k_9 := dI.1 h_7
       have f := f.st 48 (cB h_7)
       refine Y f 3 fun _ f => eT ?_
       exact ⟨(decide (s_2.1 ≤ 10000)), (sI hF_17).symm, M_5, (mR _), f.kp, p_5⟩
      ·have k_10 := iff_f dI h_7
       have f := f.st 48 (cB h_7)
       refine Y f 3 fun _ f => eT ?_
       exact ⟨(false), (sI hF_18).symm, M_5, (mR _), f.kp, p_5⟩
     ·rintro a_46 w_7 ⟨y_3, hq_2, M_6, hM_6, f, p_6⟩
      subst j_2
      refine T_n (RcF f hF_16 (fun h_8 hF_19 => ?_) fun h_8 hF_25 => ?_)
      ·refine wp_skip (T_n (R_seq (wp_block (R_reg (Y f 2 fun _ f => Y15 f p_6 (fzu (((hM_2.trans hM_4).trans hM_5).trans hM_6) hc_2) 4 rfl fun _ f => Y f 1 fun _ f => ?_)))))
       obtain ⟨x_2, hx_2, hF_20⟩ := bS hF_19
       obtain ⟨ad_2, c_2, e_2, -, hr_2, hc_4⟩ := Sli.at_ (h_1.mono ((((hM_1.trans hM_2).trans hM_4).trans hM_5).trans hM_6)) hx_2
       obtain ⟨A_3, cap_3, A_4, cap_4, rfl, h_9, h_10⟩ := TD0.opn hr_2
       refine Z f (Y31 e_2 rfl (len := d0.fList.length) (cap := cap_1) (k := .i64) (i := s_2.2) (e := 26) (sz := 6) (getI_nn hx_2) (getI_lt hx_2)) fun _ f => Z (v := .agg #[.int .i8 x_2.fKind, .bool x_2.fBool, .int .i64 x_2.fNum, S x_2.fText, .slice A_3 x_2.fList.length cap_3, .slice A_4 x_2.fKeys.length cap_4]) f (Y33 (cs := [.int .i8 x_2.fKind, .bool x_2.fBool, .int .i64 x_2.fNum, S x_2.fText, .slice A_3 x_2.fList.length cap_3, .slice A_4 x_2.fKeys.length cap_4]) rfl (ad := ad_2.add (s_2.2.toNat * 6)) (fun j v h => p_6.cell (hc_4 j v h))) fun _ f => Y f 1 fun _ f => ?_
       obtain ⟨g_4, hF_21⟩ := nS hF_20
       refine Y f 1 fun _ f => ?_
       have f := f.st 61 (congrArg (Value.int .i64) (inR_wrap g_4))
       obtain ⟨x_3, hx_3, hF_22⟩ := bS hF_21
       refine Y18 f p_6 (hrec_ref03_weight _ _ x_2 (TD0.shutx (x := x_2) h_9 h_10) (d1 - 1) x_3 hx_3) fun w_8 p_7 _ f => ?_
       obtain ⟨g_5, hF_23⟩ := nS hF_22
       refine Y f 1 fun _ f => ?_
       have f := f.st 63 (congrArg (Value.int .i64) (inR_wrap g_5))
       refine Y f 1 fun _ f => W_end rfl (B_n (T_n (R_reg (Y f 1 fun _ f => ?_))))
       obtain ⟨g_6, hF_24⟩ := nS hF_23
       refine Y f 1 fun _ f => ?_
       have f := f.st 53 (congrArg (Value.int .i64) (inR_wrap g_6))
       refine Y f 1 fun _ f => eT ?_
       obtain rfl := sI hF_24
       exact ⟨⟨m_4, (s_2.1 + x_3, s_2.2 + 1)⟩, Nat.lt_succ_self _, M_6, (hM_5.trans hM_6), hn_2, f.kp, p_7⟩
      ·refine wp_exit (T_x (T_x ?_))
       obtain rfl := sI hF_25
       exact ⟨rfl, s_2.1, (sI hn_2).symm, M_6, (hM_5.trans hM_6), f.kp, p_6⟩
    ·rintro _ _ w_10 ⟨rfl, y_4, hq_, M_7, hM_7, f, p_8⟩
     subst b_3
     refine B_x (T_n (RR (Y f 2 fun _ f => eT (wp_ret (E_ret1 f rfl (by kernel_rfl : Vc.look _ 4 = some (.int .i64 y_4)) ?_)))))
     obtain rfl := sI hF_15
     exact ⟨_, rfl, M_7, (((hM_1.trans hM_2).trans hM_4).trans hM_7), p_8, rfl⟩
def ref03_weight_k (n : Nat) : Nat → TD0 → Int → Option Int
  | 0 => fun _ _ => none
  | k + 1 => ref03_weight_b n (ref03_weight_k n k)
def ref03_weight (n : Nat) (d0 : TD0) (d1 : Int) : Option Int := ref03_weight_k n n d0 d1
theorem ref03_weight_ok (n : Nat) (M : Mem) (c0 : List Value) (d0 : TD0) (h0 : Rep M (emb_TD0 d0) c0) (d1 : Int) (r : Int) (hF : ref03_weight n d0 d1 = some r) : Ok Tryd.prog M 25 [.agg c0.toArray, .int .i64 d1] (fun _ v => v = .int .i64 r) := by
 have key : ∀ (k : Nat) (M : Mem) (c0 : List Value) (d0 : TD0) (h0 : Rep M (emb_TD0 d0) c0) (d1 : Int) (r : Int) (hF : ref03_weight_k n k d0 d1 = some r), Ok Tryd.prog M 25 [.agg c0.toArray, .int .i64 d1] (fun _ v => v = .int .i64 r) := by
  intro k
  induction k with
  | zero => intro M c0 d0 h0 d1 r hF; simp [ref03_weight_k] at hF
  | succ k ih => intro M c0 d0 h0 d1 r hF; exact ref03_weight_b_ok n (ref03_weight_k n k) ih M c0 d0 h0 d1 r hF
 exact key n M c0 d0 h0 d1 r hF
def ref03_Great (n : Nat) (d0 : TD0) : Option Bool :=
  (ref03_weight n d0 (30 : Int)).bind fun x_1 =>
  some ((decide ((5000 : Int) < x_1)))
theorem ref03_Great_ok (n : Nat) (M : Mem) (c0 : List Value) (d0 : TD0) (h0 : Rep M (emb_TD0 d0) c0) (r : Bool) (hF : ref03_Great n d0 = some r) : Ok Tryd.prog M 8 [.agg c0.toArray] (fun _ v => v = .bool r) := by
 unfold ref03_Great at hF
 intro M1 hM0 w0 H w p0
 replace h0 := Rep.mono hM0 _ _ h0
 obtain ⟨A_1, cap_1, A_2, cap_2, rfl, h_1, h_2⟩ := TD0.opn h0
 refine R_enter 6 Tryd.func8 rfl rfl (by simp) fun a0 f0 => RR (Y13 (cs := #[.int .i8 d0.fKind, .bool d0.fBool, .int .i64 d0.fNum, S d0.fText, .slice A_1 d0.fList.length cap_1, .slice A_2 d0.fKeys.length cap_2]) (T := 26) f0 p0 fun b_1 M_1 w_1 hM_1 hc_1 p_1 _ f => ?_)
 have hc_2 := fz_box hc_1
 refine Y f 1 fun _ f => eT (RR (Z (v := .agg #[.int .i8 d0.fKind, .bool d0.fBool, .int .i64 d0.fNum, S d0.fText, .slice A_1 d0.fList.length cap_1, .slice A_2 d0.fKeys.length cap_2]) f (Y33 (cs := [.int .i8 d0.fKind, .bool d0.fBool, .int .i64 d0.fNum, S d0.fText, .slice A_1 d0.fList.length cap_1, .slice A_2 d0.fKeys.length cap_2]) rfl (ad := ⟨b_1, 0, none⟩) (fun j v h => p_1.cell (hc_2 j v h))) fun _ f => ?_))
 obtain ⟨x_1, hx_1, hF_1⟩ := bS hF
 refine Y18 f p_1 (ref03_weight_ok n _ _ d0 (TD0.shutx (x := d0) (h_1.mono hM_1) (h_2.mono hM_1)) (30 : Int) x_1 hx_1) fun w_2 p_2 _ f => Y f 2 fun _ f => eT (wp_ret (E_ret1 f rfl (by kernel_rfl : Vc.look _ 2 = some (.bool (decide ((5000 : Int) < x_1)))) ?_))
 obtain rfl := sI hF_1
 exact ⟨_, rfl, M_1, hM_1, p_2, rfl⟩
mutual
def walkV : TD0 → List TD0
  | ⟨k, b, n, t, l, ks⟩ => ⟨k, b, n, t, l, ks⟩ :: walkVs l
def walkVs : List TD0 → List TD0
  | [] => []
  | x :: r => walkV x ++ walkVs r
end
theorem walkV_eq (v : TD0) : walkV v = v :: walkVs v.fList := by cases v; rw [walkV]
theorem walkVs_drop {l : List TD0} {i : Nat} {x : TD0} (h : l[i]? = some x) : walkVs (l.drop i) = walkV x ++ walkVs (l.drop (i + 1)) := by
 obtain ⟨hi, hx⟩ := List.getElem?_eq_some_iff.1 h
 rw [List.drop_eq_getElem_cons hi, hx, walkVs]
theorem part_small {v x : TD0} (h : x ∈ v.fList) : SizeOf.sizeOf x < SizeOf.sizeOf v := by
 have := List.sizeOf_lt_of_mem h
 cases v
 simp only [TD0.mk.sizeOf_spec]
 dsimp only at this
 omega
theorem walkV_pos (v : TD0) : 1 ≤ (walkV v).length := by rw [walkV_eq, List.length_cons]; omega
theorem walkVs_len : ∀ l : List TD0, l.length ≤ (walkVs l).length
 | [] => Nat.zero_le _
 | x :: r => by
  have h1 := walkVs_len r
  have h2 := walkV_pos x
  rw [walkVs, List.length_append, List.length_cons]
  omega
theorem walkVs_mem : ∀ {l : List TD0} {x : TD0}, x ∈ l → (walkV x).length ≤ (walkVs l).length
 | y :: r, x, h => by
  rw [walkVs, List.length_append]
  rcases List.mem_cons.1 h with rfl | h
  ·omega
  ·have := walkVs_mem h
   omega
def valsV (M : Mem) (x : TD0) (vs : List Value) : Prop := ∃ cs, vs = [.agg cs.toArray] ∧ Rep M (emb_TD0 x) cs
def WalkPost {σ β : Type} (J : σ → Mem → List Ent → Prop) (Jx : β → Mem → List Ent → Prop) (r : Lp σ β) (w0 : World) (M1 : Mem) (H : List Ent) : Ending → World → Prop := fun e w' =>
  ∃ M' E', M1.le M' ∧ Hp w0 M' (E' ++ H) w' ∧ match r with
    | .nx s' => e = .returned (.bool true) ∧ J s' M' E'
    | .br b => e = .returned (.bool false) ∧ Jx b M' E'
theorem walkPost_out {σ β : Type} {J : σ → Mem → List Ent → Prop} {Jx : β → Mem → List Ent → Prop} {r : Lp σ β} {w0 : World} {M1 : Mem} {H : List Ent} : ¬ LetsOut (bodyPost Tryd.prog Tryd.f65 (WalkPost J Jx r w0 M1 H)) := by
 rintro ⟨a, w, M', E', _, _, h⟩
 cases r with
 | nx s => cases h.1
 | br b => cases h.1
set_option maxRecDepth 100000 in
theorem walkIns (by_ bs l : Nat) {σ β : Type} (Y : σ → TD0 → Option (Lp σ β)) (J : σ → Mem → List Ent → Prop) (Jx : β → Mem → List Ent → Prop) (hJ : Grows J) (hY : Yld Tryd.prog l valsV J Jx Y) :
  ∀ (m : Nat) (v : TD0), SizeOf.sizeOf v < m → (walkV v).length ≤ 9223372036854775806 → ∀ (s0 : σ) (r : Lp σ β), foldY Y (walkV v) s0 = some r → ∀ (M : Mem) (ad : Addr) (c0 : List Value), Rep M (emb_TD0 v) c0 → (∀ j u, c0[j]? = some u → M.cell? (ad.add j) = some u) →
   M.cell? ⟨by_, 0, none⟩ = some (.func (.yield l) #[] #[]) → M.cell? ⟨bs, 0, none⟩ = some (.func (.func 65) #[] #[.pointer (some ⟨by_, 0, none⟩), .pointer (some ⟨bs, 0, none⟩)]) →
   ∀ w0 M1 E H w, M.le M1 → J s0 M1 E → Hp w0 M1 (E ++ H) w → Calls Tryd.prog 65 [.pointer (some ad), .pointer (some ⟨by_, 0, none⟩), .pointer (some ⟨bs, 0, none⟩)].toArray w (WalkPost J Jx r w0 M1 H)
 | 0, v, hm => fun _ _ _ => absurd hm (by omega)
 | m + 1, v, hm => by
  intro hw0 s0 r hfold M ad c0 h0 q0 hby hbs w0 M1 E H w hM0 hj p0
  replace h0 := Rep.mono hM0 _ _ h0
  replace q0 := fun j u h => hM0.cell (q0 j u h)
  replace hby := hM0.cell hby
  replace hbs := hM0.cell hbs
  have hvl : v.fList.length < 9223372036854775806 := by
   have h1 := walkVs_len v.fList
   rw [walkV_eq, List.length_cons] at hw0
   omega
  rw [walkV_eq] at hfold
  obtain ⟨r1, hy1, hfold⟩ := Option.bind_eq_some_iff.1 hfold
  have hrep := h0
  obtain ⟨A_1, cap_1, A_2, cap_2, rfl, h_1, h_2⟩ := TD0.opn h0
  refine R_enter 30 Tryd.func65 rfl rfl (by simp) (fun a0 f0 => ?_)
  replace f0 : Frm 30 [(0, .pointer (some ad)), (1, .pointer (some ⟨by_, 0, none⟩)), (2, .pointer (some ⟨bs, 0, none⟩))] a0 := f0
  refine R_seq ?_
  refine R_reg ?_
  refine W_run (L' := [(0, .pointer (some ad)), (1, .pointer (some ⟨by_, 0, none⟩)), (2, .pointer (some ⟨bs, 0, none⟩))]) (w' := w) f0 1 [0, 1, 2] (by kernel_rfl) (fun a_1 f_1 => ?_)
  refine W_end rfl ?_
  refine T_n ?_
  refine R_seq ?_
  refine R_seq ?_
  -- the call of yield
  refine RI_out (RI_drawT 4 p0 (by kernel_rfl) (by kernel_rfl) (then_out (then_out walkPost_out)) (by kernel_rfl) (fun w p0 => ?_))
  refine ST_eq (v := .func (.yield l) #[] #[]) f_1 (by kernel_rfl) (by kernel_rfl) rfl rfl (X_load1 (v := .func (.yield l) #[] #[]) rfl (ad := ⟨by_, 0, none⟩) (by kernel_rfl) (by kernel_rfl) (p0.cell hby)) (fun a_2 f_2 => ?_)
  refine ST_eq (v := .pointer (some ad)) f_2 (by kernel_rfl) (by kernel_rfl) rfl rfl (by kernel_rfl) (fun a_3 f_3 => ?_)
  refine ST_eq (v := .pointer (some ad)) f_3 (by kernel_rfl) (by kernel_rfl) rfl rfl (by kernel_rfl) (fun a_4 f_4 => ?_)
  refine ST_eq (v := .agg #[.int .i8 v.fKind, .bool v.fBool, .int .i64 v.fNum, S v.fText, .slice A_1 v.fList.length cap_1, .slice A_2 v.fKeys.length cap_2]) f_4 (by kernel_rfl) (by kernel_rfl) rfl rfl
   (X_loadN (cs := [.int .i8 v.fKind, .bool v.fBool, .int .i64 v.fNum, S v.fText, .slice A_1 v.fList.length cap_1, .slice A_2 v.fKeys.length cap_2]) rfl (ad := ad) (by kernel_rfl) (by kernel_rfl) (fun j u h => p0.cell (q0 j u h))) (fun a_5 f_5 => ?_)
  refine ST_end rfl ?_
  obtain ⟨fn, tmps, asg, bd, hrun, hR⟩ := hY s0 v r1 hy1 w0 M1 E H w _ hj ⟨_, rfl, hrep⟩ p0
  refine WI_round f_5 (by kernel_rfl) (by kernel_rfl) rfl rfl (fun c e => by cases e) (hx := Eq.trans (by kernel_rfl) hrun) hR ?_
  rintro e w_1 ⟨M2, E2, hM2, p_1, hr⟩
  cases r1 with
  | br b =>
   obtain ⟨rfl, hjx⟩ := hr
   refine ⟨_, rfl, fun a_6 f_6 => ?_⟩
   refine list_in (ro := none) (then_out (then_out walkPost_out)) _ (by kernel_rfl) _ _ ?_
   refine W_run (L' := [(0, .pointer (some ad)), (1, .pointer (some ⟨by_, 0, none⟩)), (2, .pointer (some ⟨bs, 0, none⟩)), (11, .bool true)]) (w' := w_1) f_6 1 [0, 1, 2, 11] (by kernel_rfl) (fun a_7 f_7 => ?_)
   refine W_end rfl ?_
   refine T_n ?_
   refine R_cond_t f_7 (by kernel_rfl) (by kernel_rfl) ?_
   refine R_seq ?_
   refine R_reg ?_
   refine W_run (L' := [(4, .bool false)]) (w' := w_1) f_7 1 [4] (by kernel_rfl) (fun a_8 f_8 => ?_)
   refine W_end rfl ?_
   refine T_n ?_
   refine wp_ret ?_
   refine T_r ?_
   refine E_ret1 f_8 rfl (by kernel_rfl : Vc.look _ 4 = some (.bool false)) ?_
   obtain rfl := Option.some.inj hfold
   exact ⟨M2, E2, hM2, p_1, rfl, hjx⟩
  | nx s1 =>
   obtain ⟨rfl, hj1⟩ := hr
   refine ⟨_, rfl, fun a_6 f_6 => ?_⟩
   refine list_in (ro := none) (then_out (then_out walkPost_out)) _ (by kernel_rfl) _ _ ?_
   refine W_run (L' := [(0, .pointer (some ad)), (1, .pointer (some ⟨by_, 0, none⟩)), (2, .pointer (some ⟨bs, 0, none⟩)), (11, .bool false)]) (w' := w_1) f_6 1 [0, 1, 2, 11] (by kernel_rfl) (fun a_7 f_7 => ?_)
   refine W_end rfl ?_
   refine T_n ?_
   refine R_cond_f f_7 (by kernel_rfl) (by kernel_rfl) ?_
   refine wp_skip ?_
   refine T_n ?_
   replace q0 := fun j u h => hM2.cell (q0 j u h)
   replace hby := hM2.cell hby
   replace hbs := hM2.cell hbs
   replace h_1 := h_1.mono hM2
   replace hM0 := hM0.trans hM2
   replace hfold : foldY Y (walkVs v.fList) s1 = some r := hfold
   refine R_seq ?_
   refine R_seq ?_
   refine R_reg ?_
   refine W_run (L' := [(0, .pointer (some ad)), (1, .pointer (some ⟨by_, 0, none⟩)), (2, .pointer (some ⟨bs, 0, none⟩)), (14, .pointer (some (ad.add 4)))]) (w' := w_1) f_7 3 [0, 1, 2, 14] (by kernel_rfl) (fun a_8 f_8 => ?_)
   refine W_eq (v := .slice A_1 v.fList.length cap_1) f_8 (by kernel_rfl) (by kernel_rfl) rfl rfl (X_load1 (v := .slice A_1 v.fList.length cap_1) rfl (ad := ad.add 4) (by kernel_rfl) (by kernel_rfl) (p_1.cell (q0 4 _ rfl))) (fun a_9 f_9 => ?_)
   refine W_run (L' := [(0, .pointer (some ad)), (1, .pointer (some ⟨by_, 0, none⟩)), (2, .pointer (some ⟨bs, 0, none⟩)), (16, .int .i64 ((v.fList.length : Nat) : Int)), (17, .int .i64 0)]) (w' := w_1) f_9 2 [0, 1, 2, 16, 17] (by kernel_rfl) (fun a_10 f_10 => ?_)
   refine W_end rfl ?_
   refine T_n ?_
   refine wp_block ?_
   refine wp_mono (Q := fun e a w => (e = .exit 0 ∧ ∃ s' M' E', r = .nx s' ∧ M1.le M' ∧ J s' M' E' ∧ Frm 30 [(0, .pointer (some ad))] a ∧ Hp w0 M' (E' ++ H) w) ∨ (e = .ret ∧ ∃ b M' E', r = .br b ∧ M1.le M' ∧ Jx b M' E' ∧ Frm 30 [(4, .bool false)] a ∧ Hp w0 M' (E' ++ H) w))
    (R_loop (n := 30) (w0 := w0) (M := M2) (fun (x : Nat × σ × List Ent) => [(0, .pointer (some ad)), (1, .pointer (some ⟨by_, 0, none⟩)), (2, .pointer (some ⟨bs, 0, none⟩)), (16, .int .i64 ((v.fList.length : Nat) : Int)), (17, .int .i64 (x.1 : Int))]) (fun x => x.2.2 ++ H)
     (fun x (MM : Mem) => J x.2.1 MM x.2.2 ∧ foldY Y (walkVs (v.fList.drop x.1)) x.2.1 = some r ∧ x.1 ≤ v.fList.length) (fun x => v.fList.length - x.1) (0, s1, E2) (f_10.keep (ks := [0, 1, 2, 16, 17]) (by kernel_rfl)) p_1 ⟨hj1, by rw [List.drop_zero]; exact hfold, Nat.zero_le _⟩ ?_) ?_
   ·rintro ⟨i, s, Es⟩ M_3 a_11 w_2 hM3 ⟨hjs, hfs, hi⟩ f_11 p_2
    dsimp only at hjs hfs hi
    replace f_11 : Frm 30 [(0, .pointer (some ad)), (1, .pointer (some ⟨by_, 0, none⟩)), (2, .pointer (some ⟨bs, 0, none⟩)), (16, .int .i64 ((v.fList.length : Nat) : Int)), (17, .int .i64 (i : Int))] a_11 := f_11
    replace p_2 : Hp w0 M_3 (Es ++ H) w_2 := p_2
    refine R_seq ?_
    refine R_reg ?_
    refine W_run (L' := [(0, .pointer (some ad)), (1, .pointer (some ⟨by_, 0, none⟩)), (2, .pointer (some ⟨bs, 0, none⟩)), (16, .int .i64 ((v.fList.length : Nat) : Int)), (17, .int .i64 (i : Int)), (18, .bool (decide ((i : Int) < ((v.fList.length : Nat) : Int))))]) (w' := w_2) f_11 1 [0, 1, 2, 16, 17, 18] (by kernel_rfl) (fun a_12 f_12 => ?_)
    refine W_end rfl ?_
    refine T_n ?_
    refine R_seq ?_
    refine R_cond f_12 (b := decide ((i : Int) < ((v.fList.length : Nat) : Int))) (by kernel_rfl) (by kernel_rfl) (fun h_3 => ?_) (fun h_3 => ?_)
    ·have k_1 : i < v.fList.length := by have := of_decide_eq_true h_3; omega
     refine wp_skip ?_
     refine T_n ?_
     refine R_seq ?_
     refine wp_block ?_
     refine R_seq ?_
     refine R_reg ?_
     refine W_run (L' := [(0, .pointer (some ad)), (1, .pointer (some ⟨by_, 0, none⟩)), (2, .pointer (some ⟨bs, 0, none⟩)), (5, .int .i64 (i : Int)), (16, .int .i64 ((v.fList.length : Nat) : Int)), (17, .int .i64 (i : Int))]) (w' := w_2) f_12 2 [0, 1, 2, 5, 16, 17] (by kernel_rfl) (fun a_13 f_13 => ?_)
     refine W_end rfl ?_
     refine T_n ?_
     have hx : v.fList[i]? = some v.fList[i] := List.getElem?_eq_getElem k_1
     have hgx : getI v.fList (i : Int) = some v.fList[i] := by unfold getI; rw [if_pos (by omega)]; exact hx
     rw [walkVs_drop hx, foldY_app] at hfs
     obtain ⟨r2, hr2, hfs⟩ := Option.bind_eq_some_iff.1 hfs
     obtain ⟨ad_1, c_1, e_1, hl_1, hr_1, hc_1⟩ := Sli.at_ (h_1.mono hM3) hgx
     refine R_seq ?_
     refine R_drawT 7 p_2 (by kernel_rfl) (by kernel_rfl) (fun w_3 p_3 => ?_)
     refine ST_eq (v := .func (.func 65) #[] #[.pointer (some ⟨by_, 0, none⟩), .pointer (some ⟨bs, 0, none⟩)]) f_13 (by kernel_rfl) (by kernel_rfl) rfl rfl (X_load1 (v := .func (.func 65) #[] #[.pointer (some ⟨by_, 0, none⟩), .pointer (some ⟨bs, 0, none⟩)]) rfl (ad := ⟨bs, 0, none⟩) (by kernel_rfl) (by kernel_rfl) (p_3.cell (hM3.cell hbs))) (fun a_14 f_14 => ?_)
     refine ST_eq (v := .pointer (some ad)) f_14 (by kernel_rfl) (by kernel_rfl) rfl rfl (by kernel_rfl) (fun a_15 f_15 => ?_)
     refine ST_eq (v := .pointer (some ad)) f_15 (by kernel_rfl) (by kernel_rfl) rfl rfl (by kernel_rfl) (fun a_16 f_16 => ?_)
     refine ST_eq (v := .pointer (some (ad.add 4))) f_16 (by kernel_rfl) (by kernel_rfl) rfl rfl (by kernel_rfl) (fun a_17 f_17 => ?_)
     refine ST_eq (v := .slice A_1 v.fList.length cap_1) f_17 (by kernel_rfl) (by kernel_rfl) rfl rfl (X_load1 (v := .slice A_1 v.fList.length cap_1) rfl (ad := ad.add 4) (by kernel_rfl) (by kernel_rfl) (p_3.cell (hM3.cell (q0 4 _ rfl)))) (fun a_18 f_18 => ?_)
     refine ST_eq (v := .int .i64 (i : Int)) f_18 (by kernel_rfl) (by kernel_rfl) rfl rfl (by kernel_rfl) (fun a_19 f_19 => ?_)
     refine ST_eq (v := .pointer (some (ad_1.add ((i : Int).toNat * 6)))) f_19 (by kernel_rfl) (by kernel_rfl) rfl rfl (X_indexAddrA e_1 rfl (len := v.fList.length) (cap := cap_1) (k := .i64) (i := (i : Int)) (by kernel_rfl) (by kernel_rfl) (e := 26) (by kernel_rfl) (sz := 6) (by kernel_rfl) (getI_nn hgx) (getI_lt hgx)) (fun a_20 f_20 => ?_)
     refine ST_end rfl ?_
     have hcall := walkIns by_ bs l Y J Jx hJ hY m v.fList[i] (by have := part_small (v := v) (List.getElem_mem k_1); omega) (by
      have h1 := walkVs_mem (List.getElem_mem k_1)
      have h2 := hw0
      rw [walkV_eq, List.length_cons] at h2
      omega) s r2 hr2 M_3 _ c_1 hr_1 hc_1 (hM3.cell hby) (hM3.cell hbs) w0 M_3 Es H w_3 (Mem.le_refl _) hjs p_3
     refine W_call (R := fun v w' => ∃ M' E', M_3.le M' ∧ Hp w0 M' (E' ++ H) w' ∧ match r2 with
      | .nx s' => v = .bool true ∧ J s' M' E'
      | .br b => v = .bool false ∧ Jx b M' E') f_20 (by kernel_rfl) (by kernel_rfl) rfl rfl (by kernel_rfl) (hcall.mono fun e w' ⟨M', E', g1, g2, g3⟩ => ?_) ?_
     ·cases r2 with
      | nx s' => exact ⟨_, g3.1, M', E', g1, g2, rfl, g3.2⟩
      | br b => exact ⟨_, g3.1, M', E', g1, g2, rfl, g3.2⟩
     rintro v_1 w_4 ⟨M4, E4, hM4, p_4, g4⟩ a_21 f_21
     cases r2 with
     | br b =>
      obtain ⟨rfl, hjx⟩ := g4
      obtain rfl := Option.some.inj hfs
      refine W_run (L' := [(28, .bool true)]) (w' := w_4) f_21 1 [28] (by kernel_rfl) (fun a_22 f_22 => ?_)
      refine W_end rfl ?_
      refine T_n ?_
      refine R_cond_t f_22 (by kernel_rfl) (by kernel_rfl) ?_
      refine R_seq ?_
      refine R_reg ?_
      refine W_run (L' := [(4, .bool false)]) (w' := w_4) f_22 1 [4] (by kernel_rfl) (fun a_23 f_23 => ?_)
      refine W_end rfl ?_
      refine T_n ?_
      refine wp_ret ?_
      refine B_r ?_
      refine T_r ?_
      refine T_r ?_
      exact .inr ⟨rfl, b, M4, E4, rfl, hM2.trans (hM3.trans hM4), hjx, f_23, p_4⟩
     | nx s2 =>
      obtain ⟨rfl, hj2⟩ := g4
      replace hfs : foldY Y (walkVs (v.fList.drop (i + 1))) s2 = some r := hfs
      refine W_run (L' := [(0, .pointer (some ad)), (1, .pointer (some ⟨by_, 0, none⟩)), (2, .pointer (some ⟨bs, 0, none⟩)), (16, .int .i64 ((v.fList.length : Nat) : Int)), (17, .int .i64 (i : Int)), (28, .bool false)]) (w' := w_4) f_21 1 [0, 1, 2, 16, 17, 28] (by kernel_rfl) (fun a_22 f_22 => ?_)
      refine W_end rfl ?_
      refine T_n ?_
      refine R_cond_f f_22 (by kernel_rfl) (by kernel_rfl) ?_
      refine wp_skip ?_
      refine B_n ?_
      refine T_n ?_
      refine R_reg ?_
      have hin : inR .i64 ((i : Int) + 1) := inR_mk.2 ⟨by omega, by omega⟩
      refine W_run (L' := [(0, .pointer (some ad)), (1, .pointer (some ⟨by_, 0, none⟩)), (2, .pointer (some ⟨bs, 0, none⟩)), (16, .int .i64 ((v.fList.length : Nat) : Int)), (29, .int .i64 (IntKind.wrap .i64 ((i : Int) + 1)))]) (w' := w_4) f_22 1 [0, 1, 2, 16, 29] (by kernel_rfl) (fun a_23 f_23 => ?_)
      have f_24 := Frm.set f_23 29 (v := .int .i64 (IntKind.wrap .i64 ((i : Int) + 1))) (v' := .int .i64 (((i + 1 : Nat) : Int))) (by kernel_rfl) (congrArg (Value.int .i64) ((inR_wrap hin).trans (by omega)))
      have f_25 : Frm 30 [(0, .pointer (some ad)), (1, .pointer (some ⟨by_, 0, none⟩)), (2, .pointer (some ⟨bs, 0, none⟩)), (16, .int .i64 ((v.fList.length : Nat) : Int)), (29, .int .i64 (((i + 1 : Nat) : Int)))] a_23 := f_24.keep (ks := [0, 1, 2, 16, 29]) (by kernel_rfl)
      refine W_run (L' := [(0, .pointer (some ad)), (1, .pointer (some ⟨by_, 0, none⟩)), (2, .pointer (some ⟨bs, 0, none⟩)), (16, .int .i64 ((v.fList.length : Nat) : Int)), (17, .int .i64 (((i + 1 : Nat) : Int)))]) (w' := w_4) f_25 1 [0, 1, 2, 16, 17] (by kernel_rfl) (fun a_26 f_26 => ?_)
      refine W_end rfl ?_
      refine T_n ?_
      exact ⟨(i + 1, s2, E4), by dsimp only; omega, M4, hM3.trans hM4, ⟨hj2, hfs, by dsimp only; omega⟩, f_26, p_4⟩
    ·have k_1 : ¬ (i < v.fList.length) := fun h => by
      have := of_decide_eq_false h_3
      omega
     refine wp_exit ?_
     refine T_x ?_
     refine T_x ?_
     have : v.fList.drop i = [] := List.drop_eq_nil_of_le (by omega)
     rw [this] at hfs
     obtain rfl := Option.some.inj hfs
     exact .inl ⟨rfl, s, M_3, Es, rfl, hM2.trans hM3, hjs, f_12.keep (ks := [0]) (by kernel_rfl), p_2⟩
   ·rintro _ a_24 w_4 (⟨rfl, s', M', E', rfl, g1, g2, f_29, p_3⟩ | ⟨rfl, b, M', E', rfl, g1, g2, f_29, p_3⟩)
    ·refine B_x ?_
     refine T_n ?_
     refine R_seq ?_
     refine R_reg ?_
     refine W_run (L' := [(4, .bool true)]) (w' := w_4) f_29 1 [4] (by kernel_rfl) (fun a_25 f_30 => ?_)
     refine W_end rfl ?_
     refine T_n ?_
     refine wp_ret ?_
     refine E_ret1 f_30 rfl (by kernel_rfl : Vc.look _ 4 = some (.bool true)) ?_
     exact ⟨M', E', g1, p_3, rfl, g2⟩
    ·refine B_r ?_
     refine T_r ?_
     refine E_ret1 f_29 rfl (by kernel_rfl : Vc.look _ 4 = some (.bool false)) ?_
     exact ⟨M', E', g1, p_3, rfl, g2⟩
end Go.Proofs.YtocefedhenhbfaaDoor
end

section
namespace Go.Vc
open Go
theorem mpS {α β : Type} (x : α) (f : α → β) : (some x).map f = some (f x) := (Option.map_some x f).trans (Eq.refl _)
theorem jN {τ Λ : Type} (x : τ) (k : τ → Option Λ) : joinF (.nx x) k = k x := (Eq.refl (joinF (.nx x) k)).trans (Eq.refl _)
theorem jB {τ Λ : Type} (l : Λ) (k : τ → Option Λ) : joinF (.br l) k = some l := (Eq.refl (joinF (.br l) k)).trans (Eq.refl _)
theorem dec_cases (l : List UInt8) (hne : l ≠ []) :
  (Lib.decodeL l = (65533, 1) ∧ 128 ≤ (l.getD 0 0).toNat) ∨
  ∃ r w, Lib.decodeL l = (r, w) ∧ w ≤ l.length ∧ 1 ≤ w ∧ w ≤ 4 ∧ (∀ j, 1 ≤ j → j < w → (l.getD j 0).toNat / 64 = 2) ∧ ((w = 1 ∧ (l.getD 0 0).toNat < 128 ∧ r = (l.getD 0 0).toNat) ∨ (1 < w ∧ 128 ≤ r ∧ 192 ≤ (l.getD 0 0).toNat)) ∧ r ≤ 1114111 := by
 have hl : 0 < l.length := List.length_pos_iff.2 hne
 rw [Lib.decodeL_N]
 rcases Lib.decodeN_shape l.length (l.getD 0 0).toNat (l.getD 1 0).toNat (l.getD 2 0).toNat (l.getD 3 0).toNat with ⟨c, e⟩ | ⟨c1, c2, c3, cv, e⟩ | ⟨c1, c2, c3, c4, cv, cs, e⟩ | ⟨c1, c2, c3, c4, c5, cv, cw, e⟩ | e
 ·exact .inr ⟨_, _, e, by omega, by omega, by omega, fun j h1 h2 => by omega, .inl ⟨rfl, c, rfl⟩, by omega⟩
 ·refine .inr ⟨_, _, e, by omega, by omega, by omega, fun j h1 h2 => ?_, .inr ⟨by omega, by omega, by omega⟩, by omega⟩
  obtain rfl : j = 1 := by omega
  exact c3
 ·refine .inr ⟨_, _, e, by omega, by omega, by omega, fun j h1 h2 => ?_, .inr ⟨by omega, by omega, by omega⟩, by omega⟩
  obtain rfl | rfl : j = 1 ∨ j = 2 := by omega
  ·exact c3
  ·exact c4
 ·refine .inr ⟨_, _, e, by omega, by omega, by omega, fun j h1 h2 => ?_, .inr ⟨by omega, by omega, by omega⟩, by omega⟩
  obtain rfl | rfl | rfl : j = 1 ∨ j = 2 ∨ j = 3 := by omega
  ·exact c3
  ·exact c4
  ·exact c5
 ·by_cases h : (l.getD 0 0).toNat < 128
  ·refine .inr ⟨_, _, Lib.decodeN_ascii _ _ _ _ _ h, by omega, by omega, by omega, fun j h1 h2 => by omega, .inl ⟨rfl, h, rfl⟩, by omega⟩
  ·exact .inl ⟨e, by omega⟩
theorem getD_app {a x : List UInt8} {j : Nat} (h : j < a.length) : (a ++ x).getD j 0 = a.getD j 0 := by
 simp [List.getD, List.getElem?_append, h]
end Go.Vc
end

section
namespace Go.Proofs.YtocefedhenhbfaaDoor
open Go Go.Vc Go.RowKit
def ref03_Walk_s1 (n : Nat) (rec_ref03_Walk : TD0 → Option (List TD0)) (d0 : TD0) (s_1 : List TD0 × Int) : Option (Lp (List TD0 × Int) (List TD0)) :=
    bif (decide (s_1.2 < ((d0.fList.length : Nat) : Int))) then
      ((getI d0.fList s_1.2).bind fun x_1 =>
      (rec_ref03_Walk x_1).bind fun x_2 =>
      need ((s_1.1.length + x_2.length) * 80 ≤ 140737488355328) <|
      need (inR .i64 (s_1.2 + 1)) <|
      some (.nx (s_1.1 ++ x_2, s_1.2 + 1)))
    else
      some (.br s_1.1)
def ref03_Walk_b (n : Nat) (rec_ref03_Walk : TD0 → Option (List TD0)) (d0 : TD0) : Option (List TD0) :=
  (loopF (ref03_Walk_s1 n rec_ref03_Walk d0) n ([(⟨d0.fKind, (d0.fBool), d0.fNum, d0.fText, d0.fList, d0.fKeys⟩ : TD0)], (0 : Int))).bind fun y_1 =>
  some (y_1)
def ref03_Walk_k (n : Nat) : Nat → TD0 → Option (List TD0)
  | 0 => fun _ => none
  | k + 1 => ref03_Walk_b n (ref03_Walk_k n k)
end Go.Proofs.YtocefedhenhbfaaDoor
end

section
namespace Go.Proofs
open Go.Shelf
def Tryd.lays106_ren : Go.Shelf.Ren := ⟨fun | 106 => 71 | 213 => 94 | 265 => 123 | n => n, fun | 9 => 9 | 3 => 3 | n => n, fun | n => n⟩
theorem Tryd.lays106 : Go.Proofs.Lays.n106 Tryd.prog Tryd.lays106_ren := {
 mixed := by kernel_rfl
 f106 := Tryd.func71.trans (congrArg some (by kernel_rfl))
 f213 := Tryd.func94.trans (congrArg some (by kernel_rfl))
 f265 := Tryd.func123.trans (congrArg some (by kernel_rfl))
 t3 := Tryd.underlying3
 a3 := Tryd.isAgg3
 z3 := Tryd.sizeOf3
 v3 := Tryd.zeroValue3
 t9 := Tryd.underlying9
 a9 := Tryd.isAgg9
 z9 := Tryd.sizeOf9
 v9 := Tryd.zeroValue9 }
open Go.RowKit in
theorem Tryd.strings_Compare (a b : ByteArray) (w : World) :
  Calls Tryd.prog 71 #[.string a, .string b] w fun e w' => e = .returned (.int .i64 (Lib.compareBytes a.data.toList b.data.toList)) ∧ w' = w := Any.strings_Compare Tryd.lays106 a b w
end Go.Proofs
end

section
namespace Go.Proofs
open Go Go.Shelf
def Tryd.lays196_ren : Go.Shelf.Ren := ⟨fun | 196 => 90 | 259 => 112 | n => n, fun | 46 => 146 | 53 => 175 | 119 => 161 | 138 => 163 | 139 => 164 | n => n, fun | 3 => 0 | 4 => 1 | n => n⟩
theorem Tryd.lays196 : Go.Proofs.Lays.n196 Tryd.prog Tryd.lays196_ren := {
 mixed := by kernel_rfl
 f196 := Tryd.func90.trans (congrArg some (by kernel_rfl))
 f259 := Tryd.func112.trans (congrArg some (by kernel_rfl))
 t0 := Tryd.underlying0
 a0 := Tryd.isAgg0
 z0 := Tryd.sizeOf0
 v0 := Tryd.zeroValue0
 t3 := Tryd.underlying3
 a3 := Tryd.isAgg3
 z3 := Tryd.sizeOf3
 v3 := Tryd.zeroValue3
 t4 := Tryd.underlying4
 a4 := Tryd.isAgg4
 z4 := Tryd.sizeOf4
 v4 := Tryd.zeroValue4
 t5 := Tryd.underlying5
 a5 := Tryd.isAgg5
 z5 := Tryd.sizeOf5
 v5 := Tryd.zeroValue5
 t9 := Tryd.underlying9
 a9 := Tryd.isAgg9
 z9 := Tryd.sizeOf9
 v9 := Tryd.zeroValue9
 t12 := Tryd.underlying12
 a12 := Tryd.isAgg12
 z12 := Tryd.sizeOf12
 v12 := Tryd.zeroValue12
 t46 := Tryd.underlying146
 a46 := Tryd.isAgg146
 z46 := Tryd.sizeOf146
 v46 := Tryd.zeroValue146
 t53 := Tryd.underlying175
 a53 := Tryd.isAgg175
 z53 := Tryd.sizeOf175
 v53 := Tryd.zeroValue175
 t119 := Tryd.underlying161
 a119 := Tryd.isAgg161
 z119 := Tryd.sizeOf161
 t138 := Tryd.underlying163
 a138 := Tryd.isAgg163
 z138 := Tryd.sizeOf163
 v138 := Tryd.zeroValue163
 t139 := Tryd.underlying164
 a139 := Tryd.isAgg164
 z139 := Tryd.sizeOf164
 v139 := Tryd.zeroValue164
 g3 := by kernel_rfl
 g4 := by kernel_rfl }
end Go.Proofs
end

section
namespace Go.Proofs.YtocefedhenhbfaaDoor
open Go Go.Vc Go.RowKit
def GL (M : Mem) : Prop := Tabs 0 1 M ∧ IntVar 2 M
theorem GL.mono {M M' : Mem} (hM : M.le M') (h : GL M) : GL M' := ⟨h.1.mono hM, h.2.mono hM⟩
def h_ValidString (_ : Nat) (d0 : List UInt8) : Option Bool := need ((d0.length : Int) ≤ 9223372036854775807) (some (Lib.validD d0))
theorem h_ValidString_ok (n : Nat) (M : Mem) (hG : GL M) (d0 : List UInt8) (r : Bool) (hF : h_ValidString n d0 = some r) : Ok Tryd.prog M 90 [S d0] (fun _ v => v = .bool r) := by
 unfold h_ValidString at hF
 obtain ⟨g, hF⟩ := need_some hF
 obtain rfl := Option.some.inj hF
 refine Ok.ofBelow fun M2 w0 H w hM hp => ?_
 exact Any.utf8_ValidString Tryd.lays196 (mkS d0) w (by have : (mkS d0).size = d0.length := rfl; omega) ((hG.1.mono hM).at hp)
def h_Compare (_ : Nat) (d0 d1 : List UInt8) : Option Int := some (Lib.compareBytes d0 d1)
theorem h_Compare_ok (n : Nat) (M : Mem) (d0 d1 : List UInt8) (r : Int) (hF : h_Compare n d0 d1 = some r) : Ok Tryd.prog M 71 [S d0, S d1] (fun _ v => v = .int .i64 r) := by
 obtain rfl := Option.some.inj hF
 exact Ok.ofPure fun w => Tryd.strings_Compare (mkS d0) (mkS d1) w
theorem cb_self : ∀ a : List UInt8, Lib.compareBytes a a = 0
 | [] => rfl
 | x :: r => by simp [Lib.compareBytes, cb_self r]
theorem cb_eq : ∀ a b : List UInt8, Lib.compareBytes a b = 0 → a = b
 | [], [], _ => rfl
 | [], _ :: _, h => by simp [Lib.compareBytes] at h
 | _ :: _, [], h => by simp [Lib.compareBytes] at h
 | x :: r, y :: s, h => by
  unfold Lib.compareBytes at h
  by_cases h1 : x < y
  ·simp [h1] at h
  ·by_cases h2 : y < x
   ·simp [h1, h2] at h
   ·simp only [h1, h2, if_false] at h
    have hxy : x = y := UInt8.toNat_inj.1 (by rw [UInt8.lt_iff_toNat_lt] at h1 h2; omega)
    rw [hxy, cb_eq r s h]
theorem cb_anti : ∀ a b : List UInt8, Lib.compareBytes b a = - Lib.compareBytes a b
 | [], [] => rfl
 | [], _ :: _ => rfl
 | _ :: _, [] => rfl
 | x :: r, y :: s => by
  unfold Lib.compareBytes
  by_cases h1 : x < y
  ·have h2 : ¬ y < x := by rw [UInt8.lt_iff_toNat_lt] at h1 ⊢; omega
   simp [h1, h2]
  ·by_cases h2 : y < x
   ·simp [h1, h2]
   ·simp [h1, h2, cb_anti r s]
theorem cb_trans : ∀ a b c : List UInt8, Lib.compareBytes a b ≤ 0 → Lib.compareBytes b c ≤ 0 → Lib.compareBytes a c ≤ 0 ∧ (Lib.compareBytes a b < 0 ∨ Lib.compareBytes b c < 0 → Lib.compareBytes a c < 0)
 | [], [], c, h1, h2 => ⟨h2, fun h => h.elim (fun h => absurd h (by simp [Lib.compareBytes])) id⟩
 | [], _ :: _, [], h1, h2 => absurd h2 (by simp [Lib.compareBytes])
 | [], _ :: _, _ :: _, h1, h2 => by simp [Lib.compareBytes]
 | _ :: _, [], _, h1, h2 => absurd h1 (by simp [Lib.compareBytes])
 | _ :: _, _ :: _, [], h1, h2 => absurd h2 (by simp [Lib.compareBytes])
 | x :: r, y :: s, z :: t, h1, h2 => by
  have ih := cb_trans r s t
  unfold Lib.compareBytes at h1 h2 ⊢
  by_cases a1 : x < y
  ·by_cases b1 : y < z
   ·have : x < z := by rw [UInt8.lt_iff_toNat_lt] at *; omega
    simp [this]
   ·by_cases b2 : z < y
    ·simp [b1, b2] at h2
    ·have : x < z := by rw [UInt8.lt_iff_toNat_lt] at *; omega
     simp [this]
  ·by_cases a2 : y < x
   ·simp [a1, a2] at h1
   ·have hxy : x = y := UInt8.toNat_inj.1 (by rw [UInt8.lt_iff_toNat_lt] at a1 a2; omega)
    subst hxy
    by_cases b1 : x < z
    ·simp [b1]
    ·by_cases b2 : z < x
     ·simp [b1, b2] at h2
     ·simp only [a1, b1, b2, if_false] at h1 h2 ⊢
      exact ih h1 h2
theorem repInts {M : Mem} {k : IntKind} : ∀ {d : List Int} {cs : List Value}, RepSeq M (d.map (Dat.int k)) cs → cs = d.map (Value.int k)
 | [], cs, h => h
 | x :: r, cs, h => by
  obtain ⟨c1, c2, rfl, h1, h2⟩ := h
  have h1' : c1 = [.int k x] := h1
  rw [h1', repInts h2]
  rfl
theorem intsRep {M : Mem} {k : IntKind} : ∀ d : List Int, RepSeq M (d.map (Dat.int k)) (d.map (Value.int k))
 | [] => rfl
 | x :: r => ⟨[.int k x], r.map (Value.int k), rfl, rfl, intsRep r⟩
section
variable {P : Program} {ops : Array Oper} {K : Act → Prop} {C : World → Prop} {L : Fr} {n : Nat} {dd : List Deferred} {a : Act}
theorem Q_pure {o : Oper} {rest : List Oper} {d : Nat} {f : FuncId} {args : List Value} {v : Value} (hf : Frm n L a dd) (hw : wantedL ops L o = some true) (hr : readyL L o = true)
  (hd : o.dst = some d) (hdn : Nat.blt d n = true) (hx : ∀ w, (execOp (ev L) o).run P w = .ok (.enter f args.toArray) w) (hc : ∀ w, Calls P f args.toArray w fun e w' => e = .returned v ∧ w' = w)
  (hk : ∀ a', Frm n ((d, v) :: L) a' dd → wpQuiet P ops C K rest a') : wpQuiet P ops C K (o :: rest) a := by
 simp only [wpQuiet]
 rw [hf.wanted hw, if_pos rfl]
 refine ⟨v, fun w hC => ?_, ?_⟩
 ·unfold Oper.quietAt
  rw [hf.exec hr, hx w]
  exact ⟨rfl, (hc w).mono fun e w' ⟨he, hw'⟩ => ⟨he, hw' ▸ hC⟩⟩
 ·rw [hd]; exact hk _ (hf.put (by simpa [Nat.blt_eq] using hdn) v)
end
set_option maxRecDepth 100000 in
theorem order1_calls {w0 : World} {M : Mem} {H : List Ent} {W : World} (hp : Hp w0 M H W) {bA ad0 : Addr} {v : TD0} {c0 : List Value} (h0 : Rep M (emb_TD0 v) c0) (q0 : ∀ j u, c0[j]? = some u → M.cell? (ad0.add j) = some u)
  (hb : M.cell? bA = some (.pointer (some ad0))) (x y : Int) (kx ky : List UInt8) (hx : getI v.fKeys x = some kx) (hy : getI v.fKeys y = some ky) :
  Calls Tryd.prog 70 [.int .i64 x, .int .i64 y, .pointer (some bA)].toArray W fun e w' => e = .returned (.int .i64 (Lib.compareBytes kx ky)) ∧ ∃ q, w' = W.drewN q := by
 obtain ⟨A_1, cap_1, A_2, cap_2, rfl, h_1, h_2⟩ := TD0.opn h0
 refine R_enter 21 Tryd.func70 rfl rfl (by simp) (fun a0 f0 => ?_)
 replace f0 : Frm 21 [(0, .int .i64 x), (1, .int .i64 y), (2, .pointer (some bA))] a0 := f0
 refine R_seq ?_
 refine R_reg ?_
 refine W_run (L' := [(0, .int .i64 x), (1, .int .i64 y), (2, .pointer (some bA)), (5, .int .i64 0)]) (w' := W) f0 1 [0, 1, 2, 5] (by kernel_rfl) (fun a_1 f_1 => ?_)
 refine W_end rfl ?_
 refine T_n ?_
 refine R_seq ?_
 refine wp_region_quiet (C := fun w' => ∃ n, w' = W.drewN n) (by kernel_rfl) (by kernel_rfl) ⟨1, rfl⟩ ?_
 refine Q_eq (v := .pointer (some ad0)) f_1 (by kernel_rfl) (by kernel_rfl) rfl rfl (fun _ pq => by obtain ⟨n, rfl⟩ := pq; exact X_load1 (v := .pointer (some ad0)) rfl (ad := bA) (by kernel_rfl) (by kernel_rfl) ((hp.drewN n).cell hb)) (fun a_2 f_2 => ?_)
 refine Q_eq (v := .pointer (some ad0)) f_2 (by kernel_rfl) (by kernel_rfl) rfl rfl (fun _ _ => by kernel_rfl) (fun a_3 f_3 => ?_)
 refine Q_eq (v := .pointer (some (ad0.add 5))) f_3 (by kernel_rfl) (by kernel_rfl) rfl rfl (fun _ _ => by kernel_rfl) (fun a_4 f_4 => ?_)
 refine Q_eq (v := .slice A_2 v.fKeys.length cap_2) f_4 (by kernel_rfl) (by kernel_rfl) rfl rfl (fun _ pq => by obtain ⟨n, rfl⟩ := pq; exact X_load1 (v := .slice A_2 v.fKeys.length cap_2) rfl (ad := ad0.add 5) (by kernel_rfl) (by kernel_rfl) ((hp.drewN n).cell (q0 5 _ rfl))) (fun a_5 f_5 => ?_)
 refine Q_eq (v := .int .i64 x) f_5 (by kernel_rfl) (by kernel_rfl) rfl rfl (fun _ _ => by kernel_rfl) (fun a_6 f_6 => ?_)
 obtain ⟨ad_1, c_1, e_1, hl_1, hr_1, hc_1⟩ := Sli.at_ h_2 hx
 obtain rfl : c_1 = [S kx] := hr_1
 refine Q_eq (v := .pointer (some (ad_1.add (x.toNat * 1)))) f_6 (by kernel_rfl) (by kernel_rfl) rfl rfl (fun _ pq => X_indexAddrA e_1 rfl (len := v.fKeys.length) (cap := cap_2) (k := .i64) (i := x) (by kernel_rfl) (by kernel_rfl) (e := 9) (by kernel_rfl) (sz := 1) (by kernel_rfl) (getI_nn hx) (getI_lt hx)) (fun a_7 f_7 => ?_)
 refine Q_eq (v := S kx) f_7 (by kernel_rfl) (by kernel_rfl) rfl rfl (fun _ pq => by obtain ⟨n, rfl⟩ := pq; exact X_load1 (v := S kx) rfl (ad := ad_1.add (x.toNat * 1)) (by kernel_rfl) (by kernel_rfl) ((hp.drewN n).cell (hc_1 0 _ rfl))) (fun a_8 f_8 => ?_)
 refine Q_eq (v := .pointer (some ad0)) f_8 (by kernel_rfl) (by kernel_rfl) rfl rfl (fun _ pq => by obtain ⟨n, rfl⟩ := pq; exact X_load1 (v := .pointer (some ad0)) rfl (ad := bA) (by kernel_rfl) (by kernel_rfl) ((hp.drewN n).cell hb)) (fun a_9 f_9 => ?_)
 refine Q_eq (v := .pointer (some ad0)) f_9 (by kernel_rfl) (by kernel_rfl) rfl rfl (fun _ _ => by kernel_rfl) (fun a_10 f_10 => ?_)
 refine Q_eq (v := .pointer (some (ad0.add 5))) f_10 (by kernel_rfl) (by kernel_rfl) rfl rfl (fun _ _ => by kernel_rfl) (fun a_11 f_11 => ?_)
 refine Q_eq (v := .slice A_2 v.fKeys.length cap_2) f_11 (by kernel_rfl) (by kernel_rfl) rfl rfl (fun _ pq => by obtain ⟨n, rfl⟩ := pq; exact X_load1 (v := .slice A_2 v.fKeys.length cap_2) rfl (ad := ad0.add 5) (by kernel_rfl) (by kernel_rfl) ((hp.drewN n).cell (q0 5 _ rfl))) (fun a_12 f_12 => ?_)
 refine Q_eq (v := .int .i64 y) f_12 (by kernel_rfl) (by kernel_rfl) rfl rfl (fun _ _ => by kernel_rfl) (fun a_13 f_13 => ?_)
 obtain ⟨ad_2, c_2, e_2, hl_2, hr_2, hc_2⟩ := Sli.at_ h_2 hy
 obtain rfl : c_2 = [S ky] := hr_2
 refine Q_eq (v := .pointer (some (ad_2.add (y.toNat * 1)))) f_13 (by kernel_rfl) (by kernel_rfl) rfl rfl (fun _ pq => X_indexAddrA e_2 rfl (len := v.fKeys.length) (cap := cap_2) (k := .i64) (i := y) (by kernel_rfl) (by kernel_rfl) (e := 9) (by kernel_rfl) (sz := 1) (by kernel_rfl) (getI_nn hy) (getI_lt hy)) (fun a_14 f_14 => ?_)
 refine Q_eq (v := S ky) f_14 (by kernel_rfl) (by kernel_rfl) rfl rfl (fun _ pq => by obtain ⟨n, rfl⟩ := pq; exact X_load1 (v := S ky) rfl (ad := ad_2.add (y.toNat * 1)) (by kernel_rfl) (by kernel_rfl) ((hp.drewN n).cell (hc_2 0 _ rfl))) (fun a_15 f_15 => ?_)
 refine Q_pure (v := .int .i64 (Lib.compareBytes kx ky)) (args := [S kx, S ky]) f_15 (by kernel_rfl) (by kernel_rfl) rfl rfl (fun _ => by kernel_rfl) (fun w => Tryd.strings_Compare (mkS kx) (mkS ky) w) (fun a_16 f_16 => ?_)
 refine Q_eq (v := .int .i64 (Lib.compareBytes kx ky)) f_16 (by kernel_rfl) (by kernel_rfl) rfl rfl (fun _ _ => by kernel_rfl) (fun a_17 f_17 => ?_)
 refine Q_end rfl ?_
 rintro w' ⟨q, rfl⟩
 refine T_n ?_
 refine wp_ret ?_
 refine E_ret1 f_17 rfl (by kernel_rfl : Vc.look _ 5 = some (.int .i64 (Lib.compareBytes kx ky))) ?_
 exact ⟨rfl, q, rfl⟩
def ref03_Count_s1 (n : Nat) (rec_ref03_Count : TD0 → Option Int) (d0 : TD0) (s_1 : Int × Int) : Option (Lp (Int × Int) Int) :=
    bif (decide (s_1.2 < ((d0.fList.length : Nat) : Int))) then
      ((getI d0.fList s_1.2).bind fun x_1 =>
      (rec_ref03_Count x_1).bind fun x_2 =>
      need (inR .i64 (s_1.1 + x_2)) <|
      need (inR .i64 (s_1.2 + 1)) <|
      some (.nx (s_1.1 + x_2, s_1.2 + 1)))
    else
      some (.br s_1.1)
def ref03_Count_b (n : Nat) (rec_ref03_Count : TD0 → Option Int) (d0 : TD0) : Option Int :=
  (loopF (ref03_Count_s1 n rec_ref03_Count d0) n ((1 : Int), (0 : Int))).bind fun y_1 =>
  some (y_1)
def ref03_Count_k (n : Nat) : Nat → TD0 → Option Int
  | 0 => fun _ => none
  | k + 1 => ref03_Count_b n (ref03_Count_k n k)
def ref03_Count (n : Nat) (d0 : TD0) : Option Int := ref03_Count_k n n d0
def ref03_deeper_s1 (n : Nat) (rec_ref03_deeper : TD0 → Int → Option Bool) (d0 : TD0) (d1 : Int) (s_1 : Int) : Option (Lp Int (Sum Unit Unit)) :=
    bif (decide (s_1 < ((d0.fList.length : Nat) : Int))) then
      ((getI d0.fList s_1).bind fun x_1 =>
      need (inR .i64 (d1 - 1)) <|
      (rec_ref03_deeper x_1 (d1 - 1)).bind fun x_2 =>
      bif x_2 then
        (some (.br (.inl ())))
      else
        need (inR .i64 (s_1 + 1)) <|
        some (.nx (s_1 + 1)))
    else
      some (.br (.inr ()))
def ref03_deeper_b (n : Nat) (rec_ref03_deeper : TD0 → Int → Option Bool) (d0 : TD0) (d1 : Int) : Option Bool :=
  bif (decide (d1 = 0)) then
    (some ((true)))
  else
    (loopF (ref03_deeper_s1 n rec_ref03_deeper d0 d1) n (0 : Int)).bind fun b_2 =>
    (match b_2 with 
    | .inl y_1 => some ((true)) 
    | .inr y_2 => some ((false)))
def ref03_deeper_k (n : Nat) : Nat → TD0 → Int → Option Bool
  | 0 => fun _ _ => none
  | k + 1 => ref03_deeper_b n (ref03_deeper_k n k)
def ref03_deeper (n : Nat) (d0 : TD0) (d1 : Int) : Option Bool := ref03_deeper_k n n d0 d1
def ref03_plain (n : Nat) (d0 : TD0) : Option Bool :=
  ((bif (decide (d0.fKind < 0)) then
      (some ((true)))
    else
      some ((decide ((5 : Int) < d0.fKind))) : Option Bool)).bind fun y_1 =>
  bif y_1 then
    (some ((false)))
  else
    ((bif d0.fBool then
        (bif (!(decide (d0.fKind = 1))) then
          (some ((true)))
        else
          bif (!(decide (d0.fNum = 0))) then
            (bif (!(decide (d0.fKind = 2))) then
              (some ((true)))
            else
              bif (!(decide (d0.fText = []))) then
                (some ((!(decide (d0.fKind = 3)))))
              else
                some ((false)))
          else
            bif (!(decide (d0.fText = []))) then
              (some ((!(decide (d0.fKind = 3)))))
            else
              some ((false)))
      else
        bif (!(decide (d0.fNum = 0))) then
          (bif (!(decide (d0.fKind = 2))) then
            (some ((true)))
          else
            bif (!(decide (d0.fText = []))) then
              (some ((!(decide (d0.fKind = 3)))))
            else
              some ((false)))
        else
          bif (!(decide (d0.fText = []))) then
            (some ((!(decide (d0.fKind = 3)))))
          else
            some ((false)) : Option Bool)).bind fun y_2 =>
    bif y_2 then
      (some ((false)))
    else
      ((bif (decide ((0 : Int) < ((d0.fList.length : Nat) : Int))) then
          (bif (!(decide (d0.fKind = 4))) then
            (some ((!(decide (d0.fKind = 5)))))
          else
            some ((false)))
        else
          some ((false)) : Option Bool)).bind fun y_3 =>
      bif y_3 then
        (some ((false)))
      else
        bif (decide (d0.fKind = 5)) then
          (some ((decide (((d0.fKeys.length : Nat) : Int) = ((d0.fList.length : Nat) : Int)))))
        else
          some ((decide (((d0.fKeys.length : Nat) : Int) = 0)))
def ref03_wrong_s1 (n : Nat) (d0 : TD0) (s_1 : Int) : Option (Lp Int (Sum Unit Unit)) :=
    bif (decide (s_1 < ((d0.fKeys.length : Nat) : Int))) then
      ((getI d0.fKeys s_1).bind fun x_3 =>
      (ref01_Valid n x_3).bind fun x_4 =>
      bif !x_4 then
        (some (.br (.inl ())))
      else
        need (inR .i64 (s_1 + 1)) <|
        some (.nx (s_1 + 1)))
    else
      some (.br (.inr ()))
def ref03_wrong_s3 (n : Nat) (d0 : TD0) (s_2 : Int) (s_3 : Int) : Option (Lp Int (Sum Unit Unit)) :=
    bif (decide (s_3 < s_2)) then
      ((getI d0.fKeys s_3).bind fun x_5 =>
      (getI d0.fKeys s_2).bind fun x_6 =>
      bif (decide (x_5 = x_6)) then
        (some (.br (.inl ())))
      else
        need (inR .i64 (s_3 + 1)) <|
        some (.nx (s_3 + 1)))
    else
      some (.br (.inr ()))
def ref03_wrong_s2 (n : Nat) (d0 : TD0) (s_2 : Int) : Option (Lp Int (Sum Unit Unit)) :=
    bif (decide (s_2 < ((d0.fKeys.length : Nat) : Int))) then
      ((loopF (ref03_wrong_s3 n d0 s_2) n (0 : Int)).bind fun b_4 =>
      (match b_4 with 
      | .inl y_4 => some (.br (.inl ())) 
      | .inr y_5 => need (inR .i64 (s_2 + 1)) <|
        some (.nx (s_2 + 1))))
    else
      some (.br (.inr ()))
def ref03_wrong_s4 (n : Nat) (rec_ref03_wrong : TD0 → Option Int) (d0 : TD0) (s_4 : Int) : Option (Lp Int (Sum Int Unit)) :=
    bif (decide (s_4 < ((d0.fList.length : Nat) : Int))) then
      ((getI d0.fList s_4).bind fun x_7 =>
      (rec_ref03_wrong x_7).bind fun x_8 =>
      bif (!(decide (x_8 = 0))) then
        (some (.br (.inl x_8)))
      else
        need (inR .i64 (s_4 + 1)) <|
        some (.nx (s_4 + 1)))
    else
      some (.br (.inr ()))
def ref03_wrong_b (n : Nat) (rec_ref03_wrong : TD0 → Option Int) (d0 : TD0) : Option Int :=
  (ref03_plain n d0).bind fun x_1 =>
  bif !x_1 then
    (some ((2 : Int)))
  else
    ((bif (decide (d0.fNum < (-9007199254740992))) then
        (some ((true)))
      else
        some ((decide ((9007199254740992 : Int) < d0.fNum))) : Option Bool)).bind fun y_1 =>
    bif y_1 then
      (some ((20 : Int)))
    else
      (ref01_Valid n d0.fText).bind fun x_2 =>
      bif !x_2 then
        (some ((10 : Int)))
      else
        (loopF (ref03_wrong_s1 n d0) n (0 : Int)).bind fun b_2 =>
        (match b_2 with 
        | .inl y_2 => some ((10 : Int)) 
        | .inr y_3 => (loopF (ref03_wrong_s2 n d0) n (0 : Int)).bind fun b_3 =>
          (match b_3 with 
          | .inl y_6 => some ((41 : Int)) 
          | .inr y_7 => (loopF (ref03_wrong_s4 n rec_ref03_wrong d0) n (0 : Int)).bind fun b_5 =>
            (match b_5 with 
            | .inl y_8 => some (y_8) 
            | .inr y_9 => some ((0 : Int)))))
def ref03_wrong_k (n : Nat) : Nat → TD0 → Option Int
  | 0 => fun _ => none
  | k + 1 => ref03_wrong_b n (ref03_wrong_k n k)
def ref03_wrong (n : Nat) (d0 : TD0) : Option Int := ref03_wrong_k n n d0
def ref03_Check (n : Nat) (d0 : TD0) : Option Int :=
  (ref03_deeper n d0 (24 : Int)).bind fun x_1 =>
  bif x_1 then
    (some ((30 : Int)))
  else
    (ref03_wrong n d0).bind fun x_2 =>
    bif (!(decide (x_2 = 0))) then
      (some (x_2))
    else
      (ref03_Count n d0).bind fun x_3 =>
      bif (decide ((4096 : Int) < x_3)) then
        (some ((3 : Int)))
      else
        some ((0 : Int))
def tree_depth_s1 (n : Nat) (rec_tree_depth : TD0 → Int → Option Int) (d0 : TD0) (d1 : Int) (s_1 : Int × Int) : Option (Lp (Int × Int) Int) :=
    bif (decide (s_1.2 < ((d0.fList.length : Nat) : Int))) then
      (bif (decide ((0 : Int) < d1)) then
        ((getI d0.fList s_1.2).bind fun x_1 =>
        need (inR .i64 (d1 - 1)) <|
        (rec_tree_depth x_1 (d1 - 1)).bind fun x_2 =>
        need (inR .i64 (s_1.2 + 1)) <|
        some (.nx (max s_1.1 x_2, s_1.2 + 1)))
      else
        need (inR .i64 (s_1.2 + 1)) <|
        some (.nx (s_1.1, s_1.2 + 1)))
    else
      some (.br s_1.1)
def tree_depth_b (n : Nat) (rec_tree_depth : TD0 → Int → Option Int) (d0 : TD0) (d1 : Int) : Option Int :=
  (loopF (tree_depth_s1 n rec_tree_depth d0 d1) n ((0 : Int), (0 : Int))).bind fun y_1 =>
  need (inR .i64 (y_1 + 1)) <|
  some (y_1 + 1)
set_option maxRecDepth 20000 in
theorem tree_depth_b_ok (n : Nat) (rec_tree_depth : TD0 → Int → Option Int) (hrec_tree_depth : ∀ (M : Mem) (ad0 : Addr) (c0 : List Value) (d0 : TD0) (h0 : Rep M (emb_TD0 d0) c0) (q0 : ∀ j v, c0[j]? = some v → M.cell? (ad0.add j) = some v) (d1 : Int) (r : Int) (hF : rec_tree_depth d0 d1 = some r), Ok Tryd.prog M 45 [.pointer (some ad0), .int .i64 d1] (fun _ v => v = .int .i64 r)) (M : Mem) (ad0 : Addr) (c0 : List Value) (d0 : TD0) (h0 : Rep M (emb_TD0 d0) c0) (q0 : ∀ j v, c0[j]? = some v → M.cell? (ad0.add j) = some v) (d1 : Int) (r : Int) (hF : tree_depth_b n rec_tree_depth d0 d1 = some r) : Ok Tryd.prog M 45 [.pointer (some ad0), .int .i64 d1] (fun _ v => v = .int .i64 r) := by
 unfold tree_depth_b at hF
 intro M1 hM0 w0 H w p0
 replace h0 := Rep.mono hM0 _ _ h0
 replace q0 := fun j v h => hM0.cell (q0 j v h)
 obtain ⟨A_1, cap_1, A_2, cap_2, rfl, h_1, h_2⟩ := TD0.opn h0
 refine R_enter 31 Tryd.func45 rfl rfl (by simp) fun a0 f0 => RR (Y f0 1 fun _ f => eT (RR (Y f 1 fun _ f => eT (R_seq (RR (Y f 3 fun _ f => Y15 f p0 q0 4 rfl fun _ f => Y f 2 fun _ f => eT (wp_block ?_)))))))
 obtain ⟨b_1, hL_1, hF_1⟩ := bS hF
 refine wp_mono (Q := fun e a w => (e = .exit 0 ∧ (∃ y_1 : Int, b_1 = y_1 ∧ ∃ M_2 : Mem, M1.le M_2 ∧ Frm 31 [(5, .int .i64 y_1)] a ∧ Hp w0 M_2 (H) w))) (R_loop (n := 31) (w0 := w0) (M := M1) (fun (x : Nat × (Int × Int)) => match x with | (m_1, s_1) => [(0, .pointer (some ad0)), (1, .int .i64 d1), (5, .int .i64 s_1.1), (11, .int .i64 ((d0.fList.length : Nat) : Int)), (12, .int .i64 s_1.2)]) (fun (x : Nat × (Int × Int)) => match x with | (m_1, s_1) => (H)) (fun (x : Nat × (Int × Int)) (MM : Mem) => match x with | (m_1, s_1) => loopF (tree_depth_s1 n rec_tree_depth d0 d1) m_1 s_1 = some b_1) (fun (x : Nat × (Int × Int)) => match x with | (m_1, s_1) => m_1) (n, ((0 : Int), (0 : Int))) (f.kp) p0 hL_1 ?_) ?_
 ·rintro ⟨m_1, s_1⟩ M_1 _ w_1 hM_1 I_1 f p_1
  have I_1L := I_1
  obtain ⟨m_2, r_1, rfl, hs_1, hn_1⟩ := loop_step I_1L
  unfold tree_depth_s1 at hs_1
  refine RR (Y f 1 fun _ f => eT (R_seq (RcF f hs_1 (fun h_3 hF_2 => ?_) fun h_3 hF_10 => ?_)))
  ·have k_1 := dI.1 h_3
   refine wp_skip (T_n (R_seq (wp_block (RR (Y f 2 fun _ f => eT (RR (Y f 2 fun _ f => eT (RcF f hF_2 (fun h_4 hF_3 => ?_) fun h_4 hF_8 => ?_))))))))
   ·have k_2 := dI.1 h_4
    refine R_reg (Y f 4 fun _ f => Y15 f p_1 (fzu hM_1 q0) 4 rfl fun _ f => Y f 1 fun _ f => ?_)
    obtain ⟨x_1, hx_1, hF_4⟩ := bS hF_3
    obtain ⟨ad_1, c_1, e_1, -, hr_1, hc_1⟩ := Sli.at_ (h_1.mono hM_1) hx_1
    obtain ⟨A_3, cap_3, A_4, cap_4, rfl, h_5, h_6⟩ := TD0.opn hr_1
    refine Z f (Y31 e_1 rfl (len := d0.fList.length) (cap := cap_1) (k := .i64) (i := s_1.2) (e := 26) (sz := 6) (getI_nn hx_1) (getI_lt hx_1)) fun _ f => Y f 1 fun _ f => ?_
    obtain ⟨g_1, hF_5⟩ := nS hF_4
    refine Y f 1 fun _ f => ?_
    have f := f.st 25 (congrArg (Value.int .i64) (inR_wrap g_1))
    obtain ⟨x_2, hx_2, hF_6⟩ := bS hF_5
    refine Y18 f p_1 (hrec_tree_depth _ (ad_1.add (s_1.2.toNat * 6)) [.int .i8 x_1.fKind, .bool x_1.fBool, .int .i64 x_1.fNum, S x_1.fText, .slice A_3 x_1.fList.length cap_3, .slice A_4 x_1.fKeys.length cap_4] x_1 (TD0.shutx (x := x_1) h_5 h_6) (fz_at (hc_1) 0 rfl) (d1 - 1) x_2 hx_2) fun w_2 p_2 _ f => Z (v := .int .i64 (max s_1.1 x_2)) f (X_max (k := .i64) (a := s_1.1) (b := x_2) rfl (by kernel_rfl) (by kernel_rfl)) fun _ f => Y f 1 fun _ f => W_end rfl (B_n (T_n (R_reg ?_)))
    obtain ⟨g_2, hF_7⟩ := nS hF_6
    refine Y f 1 fun _ f => ?_
    have f := f.st 28 (congrArg (Value.int .i64) (inR_wrap g_2))
    refine Y f 1 fun _ f => eT ?_
    obtain rfl := sI hF_7
    exact ⟨⟨m_2, (max s_1.1 x_2, s_1.2 + 1)⟩, Nat.lt_succ_self _, M_1, hM_1, hn_1, f.kp, p_2⟩
   ·have k_3 := iff_f dI h_4
    refine wp_skip (B_n (T_n (R_reg ?_)))
    obtain ⟨g_3, hF_9⟩ := nS hF_8
    refine Y f 1 fun _ f => ?_
    have f := f.st 28 (congrArg (Value.int .i64) (inR_wrap g_3))
    refine Y f 1 fun _ f => eT ?_
    obtain rfl := sI hF_9
    exact ⟨⟨m_2, (s_1.1, s_1.2 + 1)⟩, Nat.lt_succ_self _, M_1, hM_1, hn_1, f.kp, p_1⟩
  ·have k_4 := iff_f dI h_3
   refine wp_exit (T_x (T_x ?_))
   obtain rfl := sI hF_10
   exact ⟨rfl, s_1.1, (sI hn_1).symm, M_1, hM_1, f.kp, p_1⟩
 ·rintro _ _ w_4 ⟨rfl, y_1, hq_, M_2, hM_2, f, p_3⟩
  subst b_1
  refine B_x (T_n (RR (Y f 1 fun _ f => ?_)))
  obtain ⟨g_4, hF_11⟩ := nS hF_1
  refine Y f 1 fun _ f => ?_
  have f := f.st 30 (congrArg (Value.int .i64) (inR_wrap g_4))
  refine Y f 1 fun _ f => eT (wp_ret (E_ret1 f rfl (by kernel_rfl : Vc.look _ 4 = some (.int .i64 (y_1 + 1))) ?_))
  obtain rfl := sI hF_11
  exact ⟨_, rfl, M_2, hM_2, p_3, rfl⟩
def tree_depth_k (n : Nat) : Nat → TD0 → Int → Option Int
  | 0 => fun _ _ => none
  | k + 1 => tree_depth_b n (tree_depth_k n k)
def tree_depth (n : Nat) (d0 : TD0) (d1 : Int) : Option Int := tree_depth_k n n d0 d1
theorem tree_depth_ok (n : Nat) (M : Mem) (ad0 : Addr) (c0 : List Value) (d0 : TD0) (h0 : Rep M (emb_TD0 d0) c0) (q0 : ∀ j v, c0[j]? = some v → M.cell? (ad0.add j) = some v) (d1 : Int) (r : Int) (hF : tree_depth n d0 d1 = some r) : Ok Tryd.prog M 45 [.pointer (some ad0), .int .i64 d1] (fun _ v => v = .int .i64 r) := by
 have key : ∀ (k : Nat) (M : Mem) (ad0 : Addr) (c0 : List Value) (d0 : TD0) (h0 : Rep M (emb_TD0 d0) c0) (q0 : ∀ j v, c0[j]? = some v → M.cell? (ad0.add j) = some v) (d1 : Int) (r : Int) (hF : tree_depth_k n k d0 d1 = some r), Ok Tryd.prog M 45 [.pointer (some ad0), .int .i64 d1] (fun _ v => v = .int .i64 r) := by
  intro k
  induction k with
  | zero => intro M ad0 c0 d0 h0 q0 d1 r hF; simp [tree_depth_k] at hF
  | succ k ih => intro M ad0 c0 d0 h0 q0 d1 r hF; exact tree_depth_b_ok n (tree_depth_k n k) ih M ad0 c0 d0 h0 q0 d1 r hF
 exact key n M ad0 c0 d0 h0 q0 d1 r hF
set_option maxRecDepth 100000 in
theorem walk_iter (v : TD0) (hlen : (walkV v).length ≤ 9223372036854775806) (M : Mem) (bv : Nat) (cs : List Value) (hrep : Rep M (emb_TD0 v) cs) (hbv : ∀ j u, cs[j]? = some u → M.cell? ((⟨bv, 0, none⟩ : Addr).add j) = some u) :
  IterOk Tryd.prog 64 [.pointer (some ⟨bv, 0, none⟩)] valsV (walkV v) M := by
 refine ⟨Go.Proofs.enters_of Tryd.func64 (by kernel_rfl) rfl, fun σ β Y s0 r hr l J Jx hJ hJx hY w0 M1 E H w hM0 hj p0 => ?_⟩
 refine R_enter 7 Tryd.func64 rfl rfl (by simp) (fun a0 f0 => ?_)
 replace f0 : Frm 7 [(0, .func (.yield l) #[] #[]), (1, .pointer (some ⟨bv, 0, none⟩))] a0 := f0
 refine R_seq ?_
 refine R_reg ?_
 refine W_box (cs := #[.func (.yield l) #[] #[]]) (T := 27) f0 p0 1 [1, 2] (fun b => [(1, .pointer (some ⟨bv, 0, none⟩)), (2, .pointer (some ⟨b, 0, none⟩))]) (fun _ => by kernel_rfl) (fun by_ M2 w hM1 hc p1 a_1 f_1 => ?_)
 replace f_1 : Frm 7 [(1, .pointer (some ⟨bv, 0, none⟩)), (2, .pointer (some ⟨by_, 0, none⟩))] a_1 := f_1
 refine W_end rfl ?_
 refine T_n ?_
 refine R_seq ?_
 refine R_reg ?_
 refine W_alloc f_1 p1 1 [1, 2, 3] (.cells #[.nilFunc] 112 (0, 0)) (fun b => [(1, .pointer (some ⟨bv, 0, none⟩)), (2, .pointer (some ⟨by_, 0, none⟩)), (3, .pointer (some ⟨b, 0, none⟩))]) (fun _ => by kernel_rfl) (fun bs w p2 a_2 f_2 => ?_)
 replace f_2 : Frm 7 [(1, .pointer (some ⟨bv, 0, none⟩)), (2, .pointer (some ⟨by_, 0, none⟩)), (3, .pointer (some ⟨bs, 0, none⟩))] a_2 := f_2
 refine W_end rfl ?_
 refine T_n ?_
 refine R_seq ?_
 refine R_reg ?_
 refine W_run (L' := [(1, .pointer (some ⟨bv, 0, none⟩)), (3, .pointer (some ⟨bs, 0, none⟩)), (4, .func (.func 65) #[] #[.pointer (some ⟨by_, 0, none⟩), .pointer (some ⟨bs, 0, none⟩)])]) (w' := w) f_2 1 [1, 3, 4] (by kernel_rfl) (fun a_3 f_3 => ?_)
 refine W_store1 f_3 p2 0 (by kernel_rfl) (by kernel_rfl) rfl rfl (b := bs) (j := 0) (v := .func (.func 65) #[] #[.pointer (some ⟨by_, 0, none⟩), .pointer (some ⟨bs, 0, none⟩)]) (by kernel_rfl) (by kernel_rfl) rfl (by kernel_rfl) (by exact rfl) (by simp) (by simp)
  (.obj bs (.cells #[.func (.func 65) #[] #[.pointer (some ⟨by_, 0, none⟩), .pointer (some ⟨bs, 0, none⟩)]] 112 (0, 0)) :: (E ++ H)) (by exact rfl) (fun w p3 a_4 f_4 => ?_)
 refine W_end rfl ?_
 refine T_n ?_
 obtain ⟨hM2, p4⟩ := p3.freeze
 have hself : (M2.add bs (.cells #[.func (.func 65) #[] #[.pointer (some ⟨by_, 0, none⟩), .pointer (some ⟨bs, 0, none⟩)]] 112 (0, 0))).cell? ⟨bs, 0, none⟩ = some (.func (.func 65) #[] #[.pointer (some ⟨by_, 0, none⟩), .pointer (some ⟨bs, 0, none⟩)]) := by rw [add_cell]; rfl
 generalize (M2.add bs (.cells #[.func (.func 65) #[] #[.pointer (some ⟨by_, 0, none⟩), .pointer (some ⟨bs, 0, none⟩)]] 112 (0, 0))) = M3 at hM2 p4 hself
 have hM3 := hM1.trans hM2
 refine R_reg ?_
 refine W_eq (v := .func (.func 65) #[] #[.pointer (some ⟨by_, 0, none⟩), .pointer (some ⟨bs, 0, none⟩)]) f_4 (by kernel_rfl) (by kernel_rfl) rfl rfl (X_load1 (v := .func (.func 65) #[] #[.pointer (some ⟨by_, 0, none⟩), .pointer (some ⟨bs, 0, none⟩)]) rfl (ad := ⟨bs, 0, none⟩) (by kernel_rfl) (by kernel_rfl) (p4.cell hself)) (fun a_5 f_5 => ?_)
 have hcall := walkIns by_ bs l Y J Jx hJ hY (SizeOf.sizeOf v + 1) v (Nat.lt_succ_self _) hlen s0 r hr M3 ⟨bv, 0, none⟩ cs (Rep.mono (hM0.trans hM3) _ _ hrep) (fun j u h => (hM0.trans hM3).cell (hbv j u h)) (hM2.cell (hc 0 _ rfl)) hself w0 M3 E H w (Mem.le_refl _) (hJ _ _ _ _ hM3 hj) p4
 refine W_call (R := fun _ w' => ∃ M' E', M3.le M' ∧ Hp w0 M' (E' ++ H) w' ∧ match r with
  | .nx s' => J s' M' E'
  | .br b => Jx b M' E') f_5 (by kernel_rfl) (by kernel_rfl) rfl rfl (by kernel_rfl) (hcall.mono fun e w' ⟨M', E', g1, g2, g3⟩ => ?_) ?_
 ·cases r with
  | nx s' => exact ⟨_, g3.1, M', E', g1, g2, g3.2⟩
  | br b => exact ⟨_, g3.1, M', E', g1, g2, g3.2⟩
 rintro v_1 w_4 ⟨M4, E4, hM4, p_4, g4⟩ a_6 f_6
 refine W_end rfl ?_
 refine E_end0 f_6 rfl ?_
 cases r with
 | nx s' => exact ⟨_, rfl, M4, E4, hM3.trans hM4, p_4, g4⟩
 | br b => exact ⟨_, rfl, M4, E4, hM3.trans hM4, p_4, g4⟩
def WalkRes (v : TD0) (M : Mem) (u : Value) : Prop := ∃ f caps, u = .func (.func f) #[] caps.toArray ∧ IterOk Tryd.prog f caps valsV (walkV v) M
set_option maxRecDepth 100000 in
theorem walk_ok (v : TD0) (hlen : (walkV v).length ≤ 9223372036854775806) (M : Mem) (cs : List Value) (h0 : Rep M (emb_TD0 v) cs) : Ok Tryd.prog M 46 [.agg cs.toArray] (fun M' u => WalkRes v M' u) := by
 intro M1 hM0 w0 H w p0
 replace h0 := Rep.mono hM0 _ _ h0
 obtain ⟨A_1, cap_1, A_2, cap_2, rfl, h_1, h_2⟩ := TD0.opn h0
 refine R_enter 4 Tryd.func46 rfl rfl (by simp) (fun a0 f0 => ?_)
 replace f0 : Frm 4 [(0, .agg #[.int .i8 v.fKind, .bool v.fBool, .int .i64 v.fNum, S v.fText, .slice A_1 v.fList.length cap_1, .slice A_2 v.fKeys.length cap_2])] a0 := f0
 refine R_seq ?_
 refine R_reg ?_
 refine W_box (cs := #[.int .i8 v.fKind, .bool v.fBool, .int .i64 v.fNum, S v.fText, .slice A_1 v.fList.length cap_1, .slice A_2 v.fKeys.length cap_2]) (T := 26) f0 p0 1 [1] (fun b => [(1, .pointer (some ⟨b, 0, none⟩))]) (fun _ => by kernel_rfl) (fun bv M2 w hM1 hc p1 a_1 f_1 => ?_)
 replace f_1 : Frm 4 [(1, .pointer (some ⟨bv, 0, none⟩))] a_1 := f_1
 have hc2 := fz_box hc
 refine W_run (L' := [(1, .pointer (some ⟨bv, 0, none⟩))]) (w' := w) f_1 1 [1] (by kernel_rfl) (fun a_2 f_2 => ?_)
 refine W_end rfl ?_
 refine T_n ?_
 refine R_seq ?_
 refine R_reg ?_
 refine W_run (L' := [(2, .func (.func 64) #[] #[.pointer (some ⟨bv, 0, none⟩)])]) (w' := w) f_2 2 [2] (by kernel_rfl) (fun a_3 f_3 => ?_)
 refine W_end rfl ?_
 refine T_n ?_
 refine wp_ret ?_
 refine E_ret1 f_3 rfl (by kernel_rfl : Vc.look _ 2 = some (.func (.func 64) #[] #[.pointer (some ⟨bv, 0, none⟩)])) ?_
 refine ⟨_, rfl, M2, hM1, p1, 64, [.pointer (some ⟨bv, 0, none⟩)], rfl, ?_⟩
 exact walk_iter v hlen M2 bv _ (Rep.mono hM1 _ _ h0) hc2
def runes_Valid (n : Nat) (d0 : List UInt8) : Option Bool :=
  (h_ValidString n d0).bind fun x_1 =>
  some ((x_1))
theorem runes_Valid_ok (n : Nat) (M : Mem) (hG : GL M) (d0 : List UInt8) (r : Bool) (hF : runes_Valid n d0 = some r) : Ok Tryd.prog M 66 [S d0] (fun _ v => v = .bool r) := by
 unfold runes_Valid at hF
 intro M1 hM0 w0 H w p0
 replace hG := GL.mono hM0 hG
 refine R_enter 5 Tryd.func66 rfl rfl (by simp) fun a0 f0 => RR (Y f0 1 fun _ f => eT (RR (Y f 1 fun _ f => ?_)))
 obtain ⟨x_1, hx_1, hF_1⟩ := bS hF
 refine Y18 f p0 (h_ValidString_ok n _ hG d0 x_1 hx_1) fun w_1 p_1 _ f => Y f 1 fun _ f => eT (wp_ret (E_ret1 f rfl (by kernel_rfl : Vc.look _ 2 = some (.bool x_1)) ?_))
 obtain rfl := sI hF_1
 exact ⟨_, rfl, M1, (mR _), p_1, rfl⟩
def tree_alone_1 (n : Nat) (d0 : List UInt8) : Option Bool :=
  (runes_Valid n d0).bind fun x_1 =>
  some ((!x_1))
theorem tree_alone_1_ok (n : Nat) (M : Mem) (hG : GL M) (d0 : List UInt8) (r : Bool) (hF : tree_alone_1 n d0 = some r) : Ok Tryd.prog M 68 [S d0] (fun _ v => v = .bool r) := by
 unfold tree_alone_1 at hF
 intro M1 hM0 w0 H w p0
 replace hG := GL.mono hM0 hG
 refine R_enter 6 Tryd.func68 rfl rfl (by simp) fun a0 f0 => RR (Y f0 1 fun _ f => eT (RR (Y f 1 fun _ f => ?_)))
 obtain ⟨x_1, hx_1, hF_1⟩ := bS hF
 refine Y18 f p0 (runes_Valid_ok n _ hG d0 x_1 hx_1) fun w_1 p_1 _ f => Y f 2 fun _ f => eT (wp_ret (E_ret1 f rfl (by kernel_rfl : Vc.look _ 2 = some (.bool !x_1)) ?_))
 obtain rfl := sI hF_1
 exact ⟨_, rfl, M1, (mR _), p_1, rfl⟩
def slices_IndexFuncstring_string_s1 (n : Nat) (d0 : List (List UInt8)) (s_1 : Int) : Option (Lp Int (Sum Int Unit)) :=
    bif (decide (s_1 < ((d0.length : Nat) : Int))) then
      ((getI d0 s_1).bind fun x_1 =>
      (tree_alone_1 n x_1).bind fun x_2 =>
      bif x_2 then
        (some (.br (.inl s_1)))
      else
        need (inR .i64 (s_1 + 1)) <|
        some (.nx (s_1 + 1)))
    else
      some (.br (.inr ()))
def slices_IndexFuncstring_string (n : Nat) (d0 : List (List UInt8)) : Option Int :=
  (loopF (slices_IndexFuncstring_string_s1 n d0) n (0 : Int)).bind fun b_1 =>
  (match b_1 with 
  | .inl y_1 => some (y_1) 
  | .inr y_2 => some ((-1 : Int)))
theorem slices_IndexFuncstring_string_ok (n : Nat) (M : Mem) (hG : GL M) (A0 : Option Addr) (cap0 : Nat) (d0 : List (List UInt8)) (h0 : Sli M 1 Dat.str A0 cap0 d0) (r : Int) (hF : slices_IndexFuncstring_string n d0 = some r) : Ok Tryd.prog M 91 [.slice A0 d0.length cap0, .func (.func 68) #[] #[]] (fun _ v => v = .int .i64 r) := by
 unfold slices_IndexFuncstring_string at hF
 intro M1 hM0 w0 H w p0
 replace hG := GL.mono hM0 hG
 replace h0 := h0.mono hM0
 refine R_enter 19 Tryd.func91 rfl rfl (by simp) fun a0 f0 => RR (Y f0 1 fun _ f => eT (R_seq (RR (Y f 3 fun _ f => eT (wp_block ?_)))))
 obtain ⟨b_1, hL_1, hF_1⟩ := bS hF
 refine wp_mono (Q := fun e a w => (e = .ret ∧ (∃ y_1 : Int, b_1 = .inl y_1 ∧ ∃ M_2 : Mem, M1.le M_2 ∧ Frm 19 [(4, .int .i64 y_1)] a ∧ Hp w0 M_2 (H) w)) ∨ (e = .exit 0 ∧ (∃ y_2 : Unit, b_1 = .inr y_2 ∧ ∃ M_3 : Mem, M1.le M_3 ∧ Frm 19 [] a ∧ Hp w0 M_3 (H) w))) (R_loop (n := 19) (w0 := w0) (M := M1) (fun (x : Nat × Int) => match x with | (m_1, s_1) => [(0, .slice A0 d0.length cap0), (1, .func (.func 68) #[] #[]), (7, .int .i64 ((d0.length : Nat) : Int)), (8, .int .i64 s_1)]) (fun (x : Nat × Int) => match x with | (m_1, s_1) => (H)) (fun (x : Nat × Int) (MM : Mem) => match x with | (m_1, s_1) => loopF (slices_IndexFuncstring_string_s1 n d0) m_1 s_1 = some b_1) (fun (x : Nat × Int) => match x with | (m_1, s_1) => m_1) (n, (0 : Int)) (f.kp) p0 hL_1 ?_) ?_
 ·rintro ⟨m_1, s_1⟩ M_1 _ w_1 hM_1 I_1 f p_1
  have I_1L := I_1
  obtain ⟨m_2, r_1, rfl, hs_1, hn_1⟩ := loop_step I_1L
  unfold slices_IndexFuncstring_string_s1 at hs_1
  refine RR (Y f 1 fun _ f => eT (R_seq (RcF f hs_1 (fun h_1 hF_2 => ?_) fun h_1 hF_8 => ?_)))
  ·have k_1 := dI.1 h_1
   refine wp_skip (T_n (R_seq (wp_block (RR (Y f 2 fun _ f => eT (RR (Y f 3 fun _ f => ?_)))))))
   obtain ⟨x_1, hx_1, hF_3⟩ := bS hF_2
   obtain ⟨ad_1, c_1, e_1, -, hr_1, hc_1⟩ := Sli.at_ (h0.mono hM_1) hx_1
   obtain rfl : c_1 = [S x_1] := hr_1
   refine Z f (Y31 e_1 rfl (len := d0.length) (cap := cap0) (k := .i64) (i := s_1) (e := 9) (sz := 1) (getI_nn hx_1) (getI_lt hx_1)) fun _ f => Y15 f p_1 hc_1 0 rfl fun _ f => ?_
   obtain ⟨x_2, hx_2, hF_4⟩ := bS hF_3
   refine Y18 f p_1 (tree_alone_1_ok n _ (GL.mono hM_1 hG) x_1 x_2 hx_2) fun w_2 p_2 _ f => eT (RcF f hF_4 (fun h_2 hF_5 => ?_) fun h_2 hF_6 => ?_)
   ·refine RR (Y f 2 fun _ f => eT (wp_ret (B_r (T_r (T_r ?_)))))
    obtain rfl := sI hF_5
    exact .inl ⟨rfl, s_1, (sI hn_1).symm, M_1, hM_1, f.kp, p_2⟩
   ·refine wp_skip (B_n (T_n (R_reg ?_)))
    obtain ⟨g_1, hF_7⟩ := nS hF_6
    refine Y f 1 fun _ f => ?_
    have f := f.st 18 (congrArg (Value.int .i64) (inR_wrap g_1))
    refine Y f 1 fun _ f => eT ?_
    obtain rfl := sI hF_7
    exact ⟨⟨m_2, s_1 + 1⟩, Nat.lt_succ_self _, M_1, hM_1, hn_1, f.kp, p_2⟩
  ·have k_4 := iff_f dI h_1
   refine wp_exit (T_x (T_x ?_))
   obtain rfl := sI hF_8
   exact .inr ⟨rfl, (), (sI hn_1).symm, M_1, hM_1, f.kp, p_1⟩
 ·rintro _ _ w_5 (⟨rfl, y_1, rfl, M_2, hM_2, f, p_3⟩ | ⟨rfl, y_2, rfl, M_3, hM_3, f, p_4⟩)
  ·refine B_r (T_r (E_ret1 f rfl (by kernel_rfl : Vc.look _ 4 = some (.int .i64 y_1)) ?_))
   obtain rfl := sI hF_1
   exact ⟨_, rfl, M_2, hM_2, p_3, rfl⟩
  ·refine B_x (T_n (RR (Y f 1 fun _ f => eT (wp_ret (E_ret1 f rfl (by kernel_rfl : Vc.look _ 4 = some (.int .i64 (-1))) ?_)))))
   obtain rfl := sI hF_1
   exact ⟨_, rfl, M_3, hM_3, p_4, rfl⟩
def slices_ContainsFuncstring_string (n : Nat) (d0 : List (List UInt8)) : Option Bool :=
  (slices_IndexFuncstring_string n d0).bind fun x_1 =>
  some ((decide ((0 : Int) ≤ x_1)))
theorem slices_ContainsFuncstring_string_ok (n : Nat) (M : Mem) (hG : GL M) (A0 : Option Addr) (cap0 : Nat) (d0 : List (List UInt8)) (h0 : Sli M 1 Dat.str A0 cap0 d0) (r : Bool) (hF : slices_ContainsFuncstring_string n d0 = some r) : Ok Tryd.prog M 67 [.slice A0 d0.length cap0, .func (.func 68) #[] #[]] (fun _ v => v = .bool r) := by
 unfold slices_ContainsFuncstring_string at hF
 intro M1 hM0 w0 H w p0
 replace hG := GL.mono hM0 hG
 replace h0 := h0.mono hM0
 refine R_enter 9 Tryd.func67 rfl rfl (by simp) fun a0 f0 => RR (Y f0 1 fun _ f => eT (RR (Y f 2 fun _ f => ?_)))
 obtain ⟨x_1, hx_1, hF_1⟩ := bS hF
 refine Y18 f p0 (slices_IndexFuncstring_string_ok n _ hG A0 cap0 d0 h0 x_1 hx_1) fun w_1 p_1 _ f => Y f 2 fun _ f => eT (wp_ret (E_ret1 f rfl (by kernel_rfl : Vc.look _ 4 = some (.bool (decide ((0 : Int) ≤ x_1)))) ?_))
 obtain rfl := sI hF_1
 exact ⟨_, rfl, M1, (mR _), p_1, rfl⟩
def tree_alone_s1 (n : Nat) (d0 : TD0) (s_1 : Int × (List ((List UInt8) × Bool))) : Option (Lp (Int × (List ((List UInt8) × Bool))) (Sum (List ((List UInt8) × Bool)) (List ((List UInt8) × Bool)))) :=
    bif (decide (s_1.1 < ((d0.fKeys.length : Nat) : Int))) then
      ((getI d0.fKeys s_1.1).bind fun x_3 =>
      bif ((mget s_1.2 x_3).getD false) then
        (some (.br (.inl s_1.2)))
      else
        need (inR .i64 (s_1.1 + 1)) <|
        some (.nx (s_1.1 + 1, mput s_1.2 x_3 (true))))
    else
      some (.br (.inr s_1.2))
def tree_alone (n : Nat) (d0 : TD0) : Option Int :=
  ((bif (decide (d0.fKind = 0)) then
      (some (.nx ((d0.fBool), d0.fNum, d0.fText, d0.fList, d0.fKeys)))
    else
      bif (decide (d0.fKind = 1)) then
        (some (.nx ((false), d0.fNum, d0.fText, d0.fList, d0.fKeys)))
      else
        bif (decide (d0.fKind = 2)) then
          (some (.nx ((d0.fBool), (0 : Int), d0.fText, d0.fList, d0.fKeys)))
        else
          bif (decide (d0.fKind = 3)) then
            (some (.nx ((d0.fBool), d0.fNum, ([] : List UInt8), d0.fList, d0.fKeys)))
          else
            bif (decide (d0.fKind = 4)) then
              (some (.nx ((d0.fBool), d0.fNum, d0.fText, ([] : List TD0), d0.fKeys)))
            else
              bif (decide (d0.fKind = 5)) then
                (bif (!(decide (((d0.fKeys.length : Nat) : Int) = ((d0.fList.length : Nat) : Int)))) then
                  (((some ((2 : Int)) : Option Int)).map Lp.br)
                else
                  some (.nx ((d0.fBool), d0.fNum, d0.fText, ([] : List TD0), ([] : List (List UInt8)))))
              else
                ((some ((2 : Int)) : Option Int)).map Lp.br : Option (Lp (Bool × Int × List UInt8 × List TD0 × List (List UInt8)) Int))).bind fun j => joinF j fun y_1 =>
  ((((bif y_1.1 then
        (some ((true)))
      else
        bif (!(decide (y_1.2.1 = 0))) then
          (some ((true)))
        else
          bif (!(decide (y_1.2.2.1 = []))) then
            (some ((true)))
          else
            need (inR .i64 (((y_1.2.2.2.1.length : Nat) : Int) + ((y_1.2.2.2.2.length : Nat) : Int))) <|
            some ((decide ((0 : Int) < (((y_1.2.2.2.1.length : Nat) : Int) + ((y_1.2.2.2.2.length : Nat) : Int))))) : Option Bool)).bind fun y_2 =>
    bif y_2 then
      (((some ((2 : Int)) : Option Int)).map Lp.br)
    else
      ((bif (decide (d0.fNum < (-9007199254740992))) then
          (some ((true)))
        else
          some ((decide ((9007199254740992 : Int) < d0.fNum))) : Option Bool)).bind fun y_3 =>
      bif y_3 then
        (((some ((20 : Int)) : Option Int)).map Lp.br)
      else
        (runes_Valid n d0.fText).bind fun x_1 =>
        bif !x_1 then
          (((some ((10 : Int)) : Option Int)).map Lp.br)
        else
          (slices_ContainsFuncstring_string n d0.fKeys).bind fun x_2 =>
          bif x_2 then
            (((some ((10 : Int)) : Option Int)).map Lp.br)
          else
            some (.nx ()) : Option (Lp Unit Int))).bind fun j => joinF j fun y_4 =>
  (loopF (tree_alone_s1 n d0) n ((0 : Int), ([] : List ((List UInt8) × Bool)))).bind fun b_2 =>
  (match b_2 with 
  | .inl y_5 => some ((41 : Int)) 
  | .inr y_6 => some ((0 : Int)))
set_option maxRecDepth 20000 in
theorem tree_alone_ok (n : Nat) (M : Mem) (hG : GL M) (ad0 : Addr) (c0 : List Value) (d0 : TD0) (h0 : Rep M (emb_TD0 d0) c0) (q0 : ∀ j v, c0[j]? = some v → M.cell? (ad0.add j) = some v) (r : Int) (hF : tree_alone n d0 = some r) : Ok Tryd.prog M 47 [.pointer (some ad0)] (fun _ v => v = .int .i64 r) := by
 unfold tree_alone at hF
 intro M1 hM0 w0 H w p0
 replace hG := GL.mono hM0 hG
 replace h0 := Rep.mono hM0 _ _ h0
 replace q0 := fun j v h => hM0.cell (q0 j v h)
 obtain ⟨A_1, cap_1, A_2, cap_2, rfl, h_1, h_2⟩ := TD0.opn h0
 refine R_enter 109 Tryd.func47 rfl rfl (by simp) fun a0 f0 => RR (Y f0 1 fun _ f => eT (RR (Y f 2 fun _ f => Z (v := .agg #[.int .i8 d0.fKind, .bool d0.fBool, .int .i64 d0.fNum, S d0.fText, .slice A_1 d0.fList.length cap_1, .slice A_2 d0.fKeys.length cap_2]) f (Y33 (cs := [.int .i8 d0.fKind, .bool d0.fBool, .int .i64 d0.fNum, S d0.fText, .slice A_1 d0.fList.length cap_1, .slice A_2 d0.fKeys.length cap_2]) rfl (ad := ad0) (fun j v h => p0.cell (q0 j v h))) fun _ f => Y12 f p0 (.cells #[.int .i8 0, .bool false, .int .i64 0, S [], .slice none 0 0, .slice none 0 0] 26 (0, 0)) fun b_1 w_1 p_1 _ f => Y27 (vs := [.int .i8 d0.fKind, .bool d0.fBool, .int .i64 d0.fNum, S d0.fText, .slice A_1 d0.fList.length cap_1, .slice A_2 d0.fKeys.length cap_2]) (j := 0) f p_1 rfl rfl (by simp [Value.oneCell', S]) (by simp) (by decide) (cs' := #[.int .i8 d0.fKind, .bool d0.fBool, .int .i64 d0.fNum, S d0.fText, .slice A_1 d0.fList.length cap_1, .slice A_2 d0.fKeys.length cap_2]) (by kernel_rfl) fun w_2 p_2 _ f => eT (R_seq (RR (Y f 3 fun _ f => Y15 f p_2 q0 0 rfl fun _ f => ?_))))))
 refine eT ?_
 obtain ⟨j_1, hj_1, hF_1⟩ := bS hF
 refine R_mid (fun a_33 w_10 => ∃ y_1 : Bool × Int × List UInt8 × List TD0 × List (List UInt8), j_1 = .nx y_1 ∧ ∃ M_1 : Mem, M1.le M_1 ∧ ∃ (A_3 : Option Addr), ∃ (cap_3 : Nat), ∃ (A_4 : Option Addr), ∃ (cap_4 : Nat), Sli M_1 6 emb_TD0 A_3 cap_3 y_1.2.2.2.1 ∧ Sli M_1 1 Dat.str A_4 cap_4 y_1.2.2.2.2 ∧ Frm 109 [(0, .pointer (some ad0)), (3, .pointer (some (⟨b_1, 0, none⟩)))] a_33 ∧ Hp w0 M_1 ((Ent.obj b_1 (.cells #[.int .i8 d0.fKind, .bool y_1.1, .int .i64 y_1.2.1, S y_1.2.2.1, .slice A_3 y_1.2.2.2.1.length cap_3, .slice A_4 y_1.2.2.2.2.length cap_4] 26 (0, 0))) :: H) w_10) ?_ ?_
 ·refine wp_block (RR (Y f 2 fun _ f => eT (RcF f hj_1 (fun h_3 hF_2 => ?_) fun h_3 hF_3 => ?_)))
  ·have k_1 := dI.1 h_3
   refine wp_skip (B_n (T_n ?_))
   exact ⟨((d0.fBool), d0.fNum, d0.fText, d0.fList, d0.fKeys), (sI hF_2).symm, M1, (mR _), A_1, cap_1, A_2, cap_2, h_1, h_2, f.kp, p_2⟩
  ·have k_2 := iff_f dI h_3
   refine RR (Y f 2 fun _ f => eT (RcF f hF_3 (fun h_4 hF_4 => ?_) fun h_4 hF_5 => ?_))
   ·have k_3 := dI.1 h_4
    refine R_reg (Y f 1 fun _ f => Y26 f p_2 0 rfl rfl (b := b_1) (j := 1) (v := .bool false) rfl (by exact rfl) (by simp) (by simp) ((Ent.obj b_1 (.cells #[.int .i8 d0.fKind, .bool false, .int .i64 d0.fNum, S d0.fText, .slice A_1 d0.fList.length cap_1, .slice A_2 d0.fKeys.length cap_2] 26 (0, 0))) :: H) rfl fun w_3 p_3 _ f => W_end rfl (B_n (T_n ?_)))
    exact ⟨((false), d0.fNum, d0.fText, d0.fList, d0.fKeys), (sI hF_4).symm, M1, (mR _), A_1, cap_1, A_2, cap_2, h_1, h_2, f.kp, p_3⟩
   ·have k_4 := iff_f dI h_4
    refine RR (Y f 2 fun _ f => eT (RcF f hF_5 (fun h_5 hF_6 => ?_) fun h_5 hF_7 => ?_))
    ·have k_5 := dI.1 h_5
     refine R_reg (Y f 1 fun _ f => Y26 f p_2 0 rfl rfl (b := b_1) (j := 2) (v := .int .i64 0) rfl (by exact rfl) (by simp) (by simp) ((Ent.obj b_1 (.cells #[.int .i8 d0.fKind, .bool d0.fBool, .int .i64 0, S d0.fText, .slice A_1 d0.fList.length cap_1, .slice A_2 d0.fKeys.length cap_2] 26 (0, 0))) :: H) rfl fun w_4 p_4 _ f => W_end rfl (B_n (T_n ?_)))
     exact ⟨((d0.fBool), (0 : Int), d0.fText, d0.fList, d0.fKeys), (sI hF_6).symm, M1, (mR _), A_1, cap_1, A_2, cap_2, h_1, h_2, f.kp, p_4⟩
    ·have k_6 := iff_f dI h_5
     refine RR (Y f 2 fun _ f => eT (RcF f hF_7 (fun h_6 hF_8 => ?_) fun h_6 hF_9 => ?_))
     ·have k_7 := dI.1 h_6
      refine R_reg (Y f 1 fun _ f => Y26 f p_2 0 rfl rfl (b := b_1) (j := 3) (v := S []) rfl (by exact rfl) (by simp) (by simp) ((Ent.obj b_1 (.cells #[.int .i8 d0.fKind, .bool d0.fBool, .int .i64 d0.fNum, S [], .slice A_1 d0.fList.length cap_1, .slice A_2 d0.fKeys.length cap_2] 26 (0, 0))) :: H) rfl fun w_5 p_5 _ f => W_end rfl (B_n (T_n ?_)))
      exact ⟨((d0.fBool), d0.fNum, ([] : List UInt8), d0.fList, d0.fKeys), (sI hF_8).symm, M1, (mR _), A_1, cap_1, A_2, cap_2, h_1, h_2, f.kp, p_5⟩
     ·have k_8 := iff_f dI h_6
      refine RR (Y f 2 fun _ f => eT (RcF f hF_9 (fun h_7 hF_10 => ?_) fun h_7 hF_11 => ?_))
      ·have k_9 := dI.1 h_7
       refine R_reg (Y f 1 fun _ f => Y26 f p_2 0 rfl rfl (b := b_1) (j := 4) (v := .slice none 0 0) rfl (by exact rfl) (by simp) (by simp) ((Ent.obj b_1 (.cells #[.int .i8 d0.fKind, .bool d0.fBool, .int .i64 d0.fNum, S d0.fText, .slice none 0 0, .slice A_2 d0.fKeys.length cap_2] 26 (0, 0))) :: H) rfl fun w_6 p_6 _ f => W_end rfl (B_n (T_n ?_)))
       exact ⟨((d0.fBool), d0.fNum, d0.fText, ([] : List TD0), d0.fKeys), (sI hF_10).symm, M1, (mR _), none, 0, A_2, cap_2, Sli.nil, h_2, f.kp, p_6⟩
      ·have k_10 := iff_f dI h_7
       refine RR (Y f 2 fun _ f => eT (RcF f hF_11 (fun h_8 hF_12 => ?_) fun h_8 hF_16 => ?_))
       ·have k_11 := dI.1 h_8
        refine R_seq (R_seq (R_draw p_2 (by kernel_rfl) (by kernel_rfl) (Y5 default f 3 fun _ f => Y4 f q0 5 rfl fun _ f => Y5 default f 4 fun _ f => Y4 f q0 4 rfl fun _ f => Y5 default f 2 fun _ f => Q_end rfl ?_)))
        intro w_7 p_7
        refine T_n (RcF f hF_12 (fun h_9 hF_13 => ?_) fun h_9 hF_15 => ?_)
        ·have k_12 : ¬ (((d0.fKeys.length : Nat) : Int) = ((d0.fList.length : Nat) : Int)) := (not_iff dI).1 h_9
         refine RR (Y f 1 fun _ f => eT (wp_ret (T_r (B_r ?_))))
         have hF_14 := br_elim hF_13 hF_1
         refine T_r (T_r (E_ret1 f rfl (by kernel_rfl : Vc.look _ 2 = some (.int .i64 2)) ?_))
         obtain rfl := sI hF_14
         exact ⟨_, rfl, M1, (mR _), (p_7.dropN 1), rfl⟩
        ·have k_13 : ¬ (¬ (((d0.fKeys.length : Nat) : Int) = ((d0.fList.length : Nat) : Int))) := iff_f (not_iff dI) h_9
         refine wp_skip (T_n (R_reg (Y f 1 fun _ f => Y26 f p_7 0 rfl rfl (b := b_1) (j := 4) (v := .slice none 0 0) rfl (by exact rfl) (by simp) (by simp) ((Ent.obj b_1 (.cells #[.int .i8 d0.fKind, .bool d0.fBool, .int .i64 d0.fNum, S d0.fText, .slice none 0 0, .slice A_2 d0.fKeys.length cap_2] 26 (0, 0))) :: H) rfl fun w_8 p_8 _ f => Y f 1 fun _ f => Y26 f p_8 0 rfl rfl (b := b_1) (j := 5) (v := .slice none 0 0) rfl (by exact rfl) (by simp) (by simp) ((Ent.obj b_1 (.cells #[.int .i8 d0.fKind, .bool d0.fBool, .int .i64 d0.fNum, S d0.fText, .slice none 0 0, .slice none 0 0] 26 (0, 0))) :: H) rfl fun w_9 p_9 _ f => W_end rfl (B_n (T_n ?_)))))
         exact ⟨((d0.fBool), d0.fNum, d0.fText, ([] : List TD0), ([] : List (List UInt8))), (sI hF_15).symm, M1, (mR _), none, 0, none, 0, Sli.nil, Sli.nil, f.kp, p_9⟩
       ·have k_14 := iff_f dI h_8
        refine RR (Y f 1 fun _ f => eT (wp_ret (B_r ?_)))
        have hF_17 := br_elim hF_16 hF_1
        refine T_r (T_r (E_ret1 f rfl (by kernel_rfl : Vc.look _ 2 = some (.int .i64 2)) ?_))
        obtain rfl := sI hF_17
        exact ⟨_, rfl, M1, (mR _), (p_2.dropN 1), rfl⟩
 ·rintro a_33 w_10 ⟨y_1, rfl, M_1, hM_1, A_3, cap_3, A_4, cap_4, h_10, h_11, f, p_10⟩
  refine T_n (RR (W_newmap S Value.bool f p_10 (by kernel_rfl) (by kernel_rfl) rfl rfl rfl fun bm_1 w_11 p_11 _ f => Y f 1 fun _ f => eT (R_seq ?_)))
  obtain ⟨j_2, hj_2, hF_18⟩ := bS hF_1
  refine R_mid (fun a_78 w_16 => ∃ y_4 : Unit, j_2 = .nx y_4 ∧ ∃ M_4 : Mem, M_1.le M_4 ∧ Frm 109 [(0, .pointer (some ad0)), (4, .map (some bm_1))] a_78 ∧ Hp w0 M_4 ((Ent.obj bm_1 (mapO S Value.bool ([] : List ((List UInt8) × Bool)))) :: (Ent.obj b_1 (.cells #[.int .i8 d0.fKind, .bool y_1.1, .int .i64 y_1.2.1, S y_1.2.2.1, .slice A_3 y_1.2.2.2.1.length cap_3, .slice A_4 y_1.2.2.2.2.length cap_4] 26 (0, 0))) :: H) w_16) ?_ ?_
  ·refine wp_block (R_seq ?_)
   obtain ⟨j_3, hj_3, hF_19⟩ := bS hj_2
   refine R_mid (fun a_56 w_12 => ∃ y_2 : Bool, j_3 = y_2 ∧ ∃ M_2 : Mem, M_1.le M_2 ∧ Frm 109 [(0, .pointer (some ad0)), (4, .map (some bm_1)), (44, .bool y_2)] a_56 ∧ Hp w0 M_2 ((Ent.obj bm_1 (mapO S Value.bool ([] : List ((List UInt8) × Bool)))) :: (Ent.obj b_1 (.cells #[.int .i8 d0.fKind, .bool y_1.1, .int .i64 y_1.2.1, S y_1.2.2.1, .slice A_3 y_1.2.2.2.1.length cap_3, .slice A_4 y_1.2.2.2.2.length cap_4] 26 (0, 0))) :: H) w_12) ?_ ?_
   ·refine R_reg (Y f 1 fun _ f => Z f (Y32 (v := .bool y_1.1) rfl (ad := ⟨b_1, 1, none⟩) (p_11.ownCell 1 rfl 1)) fun _ f => Y f 1 fun _ f => ?_)
    rcases cE hj_3 with ⟨h_12, hF_20⟩ | ⟨h_12, hF_21⟩
    ·have f := f.st 47 (cB h_12)
     refine Y f 20 fun _ f => eT ?_
     exact ⟨(true), (sI hF_20).symm, M_1, (mR _), f.kp, p_11⟩
    ·have f := f.st 47 (cB h_12)
     refine Y f 1 fun _ f => Z f (Y32 (v := .int .i64 y_1.2.1) rfl (ad := ⟨b_1, 2, none⟩) (p_11.ownCell 1 rfl 2)) fun _ f => Y f 3 fun _ f => ?_
     rcases cE hF_21 with ⟨h_13, hF_22⟩ | ⟨h_13, hF_23⟩
     ·have k_17 : ¬ (y_1.2.1 = 0) := (not_iff dI).1 h_13
      have f := f.st 52 (cB h_13)
      refine Y f 15 fun _ f => eT ?_
      exact ⟨(true), (sI hF_22).symm, M_1, (mR _), f.kp, p_11⟩
     ·have k_18 : ¬ (¬ (y_1.2.1 = 0)) := iff_f (not_iff dI) h_13
      have f := f.st 52 (cB h_13)
      refine Y f 1 fun _ f => Z f (Y32 (v := S y_1.2.2.1) rfl (ad := ⟨b_1, 3, none⟩) (p_11.ownCell 1 rfl 3)) fun _ f => Z f (Y39 rfl (l := y_1.2.2.1) (m := [])) fun _ f => Y f 2 fun _ f => ?_
      rcases cE hF_23 with ⟨h_14, hF_24⟩ | ⟨h_14, hF_25⟩
      ·have k_19 : ¬ (y_1.2.2.1 = []) := (not_iff dI).1 h_14
       have f := f.st 57 (cB h_14)
       refine Y f 10 fun _ f => eT ?_
       exact ⟨(true), (sI hF_24).symm, M_1, (mR _), f.kp, p_11⟩
      ·have k_20 : ¬ (¬ (y_1.2.2.1 = [])) := iff_f (not_iff dI) h_14
       have f := f.st 57 (cB h_14)
       refine Y f 1 fun _ f => Z f (Y32 (v := .slice A_3 y_1.2.2.2.1.length cap_3) rfl (ad := ⟨b_1, 4, none⟩) (p_11.ownCell 1 rfl 4)) fun _ f => Y f 2 fun _ f => Z f (Y32 (v := .slice A_4 y_1.2.2.2.2.length cap_4) rfl (ad := ⟨b_1, 5, none⟩) (p_11.ownCell 1 rfl 5)) fun _ f => Y f 1 fun _ f => ?_
       obtain ⟨g_1, hF_26⟩ := nS hF_25
       refine Y f 1 fun _ f => ?_
       have f := f.st 64 (congrArg (Value.int .i64) (inR_wrap g_1))
       refine Y f 3 fun _ f => eT ?_
       exact ⟨(decide ((0 : Int) < (((y_1.2.2.2.1.length : Nat) : Int) + ((y_1.2.2.2.2.length : Nat) : Int)))), (sI hF_26).symm, M_1, (mR _), f.kp, p_11⟩
   ·rintro a_56 w_12 ⟨y_2, hq_2, M_2, hM_2, f, p_12⟩
    subst j_3
    refine T_n (RcF f hF_19 (fun h_15 hF_27 => ?_) fun h_15 hF_29 => ?_)
    ·refine RR (Y f 1 fun _ f => eT (wp_ret (B_r ?_)))
     have hF_28 := br_elim hF_27 hF_18
     refine T_r (T_r (E_ret1 f rfl (by kernel_rfl : Vc.look _ 2 = some (.int .i64 2)) ?_))
     obtain rfl := sI hF_28
     exact ⟨_, rfl, M_2, (hM_1.trans hM_2), (p_12.dropN 2), rfl⟩
    ·refine R_seq ?_
     obtain ⟨j_4, hj_4, hF_30⟩ := bS hF_29
     refine R_mid (fun a_65 w_13 => ∃ y_3 : Bool, j_4 = y_3 ∧ ∃ M_3 : Mem, M_2.le M_3 ∧ Frm 109 [(0, .pointer (some ad0)), (4, .map (some bm_1)), (67, .bool y_3)] a_65 ∧ Hp w0 M_3 ((Ent.obj bm_1 (mapO S Value.bool ([] : List ((List UInt8) × Bool)))) :: (Ent.obj b_1 (.cells #[.int .i8 d0.fKind, .bool y_1.1, .int .i64 y_1.2.1, S y_1.2.2.1, .slice A_3 y_1.2.2.2.1.length cap_3, .slice A_4 y_1.2.2.2.2.length cap_4] 26 (0, 0))) :: H) w_13) ?_ ?_
     ·refine R_reg (Y f 3 fun _ f => Y15 f p_12 (fzu (hM_1.trans hM_2) q0) 2 rfl fun _ f => Y f 2 fun _ f => ?_)
      rcases cE hj_4 with ⟨h_16, hF_31⟩ | ⟨h_16, hF_32⟩
      ·have k_23 := dI.1 h_16
       have f := f.st 73 (cB h_16)
       refine Y f 7 fun _ f => eT ?_
       exact ⟨(true), (sI hF_31).symm, M_2, (mR _), f.kp, p_12⟩
      ·have k_24 := iff_f dI h_16
       have f := f.st 73 (cB h_16)
       refine Y f 3 fun _ f => Y15 f p_12 (fzu (hM_1.trans hM_2) q0) 2 rfl fun _ f => Y f 3 fun _ f => eT ?_
       exact ⟨(decide ((9007199254740992 : Int) < d0.fNum)), (sI hF_32).symm, M_2, (mR _), f.kp, p_12⟩
     ·rintro a_65 w_13 ⟨y_3, hq_3, M_3, hM_3, f, p_13⟩
      subst j_4
      refine T_n (RcF f hF_30 (fun h_17 hF_33 => ?_) fun h_17 hF_35 => ?_)
      ·refine RR (Y f 1 fun _ f => eT (wp_ret (B_r ?_)))
       have hF_34 := br_elim hF_33 hF_18
       refine T_r (T_r (E_ret1 f rfl (by kernel_rfl : Vc.look _ 2 = some (.int .i64 20)) ?_))
       obtain rfl := sI hF_34
       exact ⟨_, rfl, M_3, ((hM_1.trans hM_2).trans hM_3), (p_13.dropN 2), rfl⟩
      ·refine RR (Y f 3 fun _ f => Y15 f p_13 (fzu ((hM_1.trans hM_2).trans hM_3) q0) 3 rfl fun _ f => ?_)
       obtain ⟨x_1, hx_1, hF_36⟩ := bS hF_35
       refine Y18 f p_13 (runes_Valid_ok n _ (GL.mono ((hM_1.trans hM_2).trans hM_3) hG) d0.fText x_1 hx_1) fun w_14 p_14 _ f => Y f 2 fun _ f => ?_
       rcases cE hF_36 with ⟨h_18, hF_37⟩ | ⟨h_18, hF_39⟩
       ·have k_27 : (x_1) = false := by simpa using h_18
        have f := f.st 87 (cB h_18)
        refine Y f 7 fun _ f => eT (Y8 f (RR (Y f 1 fun _ f => eT (wp_ret (B_r ?_)))))
        have hF_38 := br_elim hF_37 hF_18
        refine T_r (T_r (E_ret1 f rfl (by kernel_rfl : Vc.look _ 2 = some (.int .i64 10)) ?_))
        obtain rfl := sI hF_38
        exact ⟨_, rfl, M_3, ((hM_1.trans hM_2).trans hM_3), (p_14.dropN 2), rfl⟩
       ·have k_28 : (x_1) = true := by simpa using h_18
        have f := f.st 87 (cB h_18)
        refine Y f 3 fun _ f => Y15 f p_14 (fzu ((hM_1.trans hM_2).trans hM_3) q0) 5 rfl fun _ f => ?_
        obtain ⟨x_2, hx_2, hF_40⟩ := bS hF_39
        refine Y18 f p_14 (slices_ContainsFuncstring_string_ok n _ (GL.mono ((hM_1.trans hM_2).trans hM_3) hG) A_2 cap_2 d0.fKeys (h_2.mono ((hM_1.trans hM_2).trans hM_3)) x_2 hx_2) fun w_15 p_15 _ f => Y f 2 fun _ f => eT (RcF f hF_40 (fun h_19 hF_41 => ?_) fun h_19 hF_43 => ?_)
        ·refine RR (Y f 1 fun _ f => eT (wp_ret (B_r ?_)))
         have hF_42 := br_elim hF_41 hF_18
         refine T_r (T_r (E_ret1 f rfl (by kernel_rfl : Vc.look _ 2 = some (.int .i64 10)) ?_))
         obtain rfl := sI hF_42
         exact ⟨_, rfl, M_3, ((hM_1.trans hM_2).trans hM_3), (p_15.dropN 2), rfl⟩
        ·refine wp_skip (B_n (T_n ?_))
         exact ⟨(), (sI hF_43).symm, M_3, (hM_2.trans hM_3), f.kp, p_15⟩
  ·rintro a_78 w_16 ⟨y_4, rfl, M_4, hM_4, f, p_16⟩
   refine T_n (R_seq (RR (Y f 3 fun _ f => Y15 f p_16 (fzu (hM_1.trans hM_4) q0) 5 rfl fun _ f => Y f 2 fun _ f => eT (wp_block ?_))))
   obtain ⟨b_2, hL_1, hF_44⟩ := bS hF_18
   refine wp_mono (Q := fun e a w => (e = .ret ∧ (∃ y_5 : (List ((List UInt8) × Bool)), b_2 = .inl y_5 ∧ ∃ M_6 : Mem, M_4.le M_6 ∧ Frm 109 [(2, .int .i64 41)] a ∧ Hp w0 M_6 ((Ent.obj bm_1 (mapO S Value.bool y_5)) :: (Ent.obj b_1 (.cells #[.int .i8 d0.fKind, .bool y_1.1, .int .i64 y_1.2.1, S y_1.2.2.1, .slice A_3 y_1.2.2.2.1.length cap_3, .slice A_4 y_1.2.2.2.2.length cap_4] 26 (0, 0))) :: H) w)) ∨ (e = .exit 2 ∧ (∃ y_6 : (List ((List UInt8) × Bool)), b_2 = .inr y_6 ∧ ∃ M_7 : Mem, M_4.le M_7 ∧ Frm 109 [] a ∧ Hp w0 M_7 ((Ent.obj bm_1 (mapO S Value.bool y_6)) :: (Ent.obj b_1 (.cells #[.int .i8 d0.fKind, .bool y_1.1, .int .i64 y_1.2.1, S y_1.2.2.1, .slice A_3 y_1.2.2.2.1.length cap_3, .slice A_4 y_1.2.2.2.2.length cap_4] 26 (0, 0))) :: H) w))) (R_loop (n := 109) (w0 := w0) (M := M_4) (fun (x : Nat × (Int × (List ((List UInt8) × Bool)))) => match x with | (m_1, s_1) => [(4, .map (some bm_1)), (97, .slice A_2 d0.fKeys.length cap_2), (98, .int .i64 ((d0.fKeys.length : Nat) : Int)), (99, .int .i64 s_1.1)]) (fun (x : Nat × (Int × (List ((List UInt8) × Bool)))) => match x with | (m_1, s_1) => ((Ent.obj bm_1 (mapO S Value.bool s_1.2)) :: (Ent.obj b_1 (.cells #[.int .i8 d0.fKind, .bool y_1.1, .int .i64 y_1.2.1, S y_1.2.2.1, .slice A_3 y_1.2.2.2.1.length cap_3, .slice A_4 y_1.2.2.2.2.length cap_4] 26 (0, 0))) :: H)) (fun (x : Nat × (Int × (List ((List UInt8) × Bool)))) (MM : Mem) => match x with | (m_1, s_1) => loopF (tree_alone_s1 n d0) m_1 s_1 = some b_2) (fun (x : Nat × (Int × (List ((List UInt8) × Bool)))) => match x with | (m_1, s_1) => m_1) (n, ((0 : Int), ([] : List ((List UInt8) × Bool)))) (f.kp) p_16 hL_1 ?_) ?_
   ·rintro ⟨m_1, s_1⟩ M_5 _ w_17 hM_5 I_1 f p_17
    have I_1L := I_1
    obtain ⟨m_2, r_1, rfl, hs_1, hn_1⟩ := loop_step I_1L
    unfold tree_alone_s1 at hs_1
    refine RR (Y f 1 fun _ f => eT (R_seq (RcF f hs_1 (fun h_20 hF_45 => ?_) fun h_20 hF_50 => ?_)))
    ·have k_31 := dI.1 h_20
     refine wp_skip (T_n (R_seq (wp_block (RR ?_))))
     obtain ⟨x_3, hx_3, hF_46⟩ := bS hF_45
     obtain ⟨ad_1, c_1, e_1, -, hr_1, hc_1⟩ := Sli.at_ (h_2.mono ((hM_1.trans hM_4).trans hM_5)) hx_3
     obtain rfl : c_1 = [S x_3] := hr_1
     refine Z f (Y31 e_1 rfl (len := d0.fKeys.length) (cap := cap_2) (k := .i64) (i := s_1.1) (e := 9) (sz := 1) (getI_nn hx_3) (getI_lt hx_3)) fun _ f => Y15 f p_17 hc_1 0 rfl fun _ f => Y f 1 fun _ f => eT (R_seq (RR (Y f 2 fun _ f => Z (v := .bool ((mget s_1.2 x_3).getD false)) f (X_lookup1 (ek := S) (ev := Value.bool) (m := s_1.2) (k := x_3) (z := false) (kt := 9) (et := 4) rfl (by kernel_rfl) (by kernel_rfl) (by kernel_rfl) (strKey (by kernel_rfl)) (by kernel_rfl) (p_17.ownObj 0 rfl)) fun _ f => eT (RcF f hF_46 (fun h_21 hF_47 => ?_) fun h_21 hF_48 => ?_))))
     ·refine RR (Y f 1 fun _ f => eT (wp_ret (T_r (B_r (T_r (T_r ?_))))))
      obtain rfl := sI hF_47
      exact .inl ⟨rfl, s_1.2, (sI hn_1).symm, M_5, hM_5, f.kp, p_17⟩
     ·refine wp_skip (T_n (R_reg (Y f 2 fun _ f => W_mapput (ek := S) (ev := Value.bool) (m := s_1.2) (k := x_3) (v := (true)) (kt := 9) (et := 4) f p_17 (by kernel_rfl) (by kernel_rfl) rfl (.inl rfl) (by kernel_rfl) (by kernel_rfl) (by kernel_rfl) (by kernel_rfl) (strKey (by kernel_rfl)) fun w_18 p_18 _ f => W_end rfl (B_n (T_n (R_reg ?_))))))
      obtain ⟨g_2, hF_49⟩ := nS hF_48
      refine Y f 1 fun _ f => ?_
      have f := f.st 108 (congrArg (Value.int .i64) (inR_wrap g_2))
      refine Y f 1 fun _ f => eT ?_
      obtain rfl := sI hF_49
      exact ⟨⟨m_2, (s_1.1 + 1, mput s_1.2 x_3 (true))⟩, Nat.lt_succ_self _, M_5, hM_5, hn_1, f.kp, p_18⟩
    ·have k_34 := iff_f dI h_20
     refine wp_exit (T_x (T_x ?_))
     obtain rfl := sI hF_50
     exact .inr ⟨rfl, s_1.2, (sI hn_1).symm, M_5, hM_5, f.kp, p_17⟩
   ·rintro _ _ w_21 (⟨rfl, y_5, rfl, M_6, hM_6, f, p_19⟩ | ⟨rfl, y_6, rfl, M_7, hM_7, f, p_20⟩)
    ·refine B_r (T_r (E_ret1 f rfl (by kernel_rfl : Vc.look _ 2 = some (.int .i64 41)) ?_))
     obtain rfl := sI hF_44
     exact ⟨_, rfl, M_6, ((hM_1.trans hM_4).trans hM_6), (p_19.dropN 2), rfl⟩
    ·refine B_x (T_n (RR (Y f 1 fun _ f => eT (wp_ret (E_ret1 f rfl (by kernel_rfl : Vc.look _ 2 = some (.int .i64 0)) ?_)))))
     obtain rfl := sI hF_44
     exact ⟨_, rfl, M_7, ((hM_1.trans hM_4).trans hM_7), (p_20.dropN 2), rfl⟩
def tree_Check_s1 (n : Nat) (s_1 : Int) (x_2 : TD0) : Option (Lp Int (Int × Int)) :=
    (tree_alone n x_2).bind fun x_3 =>
    bif (!(decide (x_3 = 0))) then
      (some (.br (s_1, x_3)))
    else
      need (inR .i64 (s_1 + 1)) <|
      some (.nx (s_1 + 1))
def tree_Check (n : Nat) (d0 : TD0) : Option Int :=
  (tree_depth n d0 (24 : Int)).bind fun x_1 =>
  bif (decide ((24 : Int) < x_1)) then
    (some ((30 : Int)))
  else
    need ((walkV d0).length ≤ 9223372036854775806) <|
    (foldY (tree_Check_s1 n) (walkV d0) (0 : Int)).bind fun j_1 =>
    (match j_1 with 
    | .nx s_2 => bif (decide ((4096 : Int) < s_2)) then
        (some ((3 : Int)))
      else
        some ((0 : Int)) 
    | .br b_5 => some (b_5.2))
set_option maxRecDepth 20000 in
theorem tree_Check_ok (n : Nat) (M : Mem) (hG : GL M) (c0 : List Value) (d0 : TD0) (h0 : Rep M (emb_TD0 d0) c0) (r : Int) (hF : tree_Check n d0 = some r) : Ok Tryd.prog M 31 [.agg c0.toArray] (fun _ v => v = .int .i64 r) := by
 unfold tree_Check at hF
 intro M1 hM0 w0 H w p0
 replace hG := GL.mono hM0 hG
 replace h0 := Rep.mono hM0 _ _ h0
 obtain ⟨A_1, cap_1, A_2, cap_2, rfl, h_1, h_2⟩ := TD0.opn h0
 refine R_enterM 19 Tryd.func31 rfl rfl (by simp) fun a0 f0 => RR (Y13 (cs := #[.int .i8 d0.fKind, .bool d0.fBool, .int .i64 d0.fNum, S d0.fText, .slice A_1 d0.fList.length cap_1, .slice A_2 d0.fKeys.length cap_2]) (T := 26) f0 p0 fun b_1 M_1 w_1 hM_1 hc_1 p_1 _ f => ?_)
 have hc_2 := fz_box hc_1
 refine Y12 f p_1 (.cells #[.int .i64 0] 29 (0, 0)) fun b_2 w_2 p_2 _ f => eT (R_seq (RR ?_))
 obtain ⟨x_1, hx_1, hF_1⟩ := bS hF
 refine Y18 f p_2 (tree_depth_ok n _ (⟨b_1, 0, none⟩) [.int .i8 d0.fKind, .bool d0.fBool, .int .i64 d0.fNum, S d0.fText, .slice A_1 d0.fList.length cap_1, .slice A_2 d0.fKeys.length cap_2] d0 (TD0.shutx (x := d0) (h_1.mono hM_1) (h_2.mono hM_1)) (fz_at (hc_2) 0 rfl) (24 : Int) x_1 hx_1) fun w_3 p_3 _ f => Y f 1 fun _ f => eT (RcF f hF_1 (fun h_3 hF_2 => ?_) fun h_3 hF_3 => ?_)
 ·have k_1 := dI.1 h_3
  refine RR (Y26 f p_3 0 rfl rfl (b := b_2) (j := 0) (v := .int .i64 30) rfl (by exact rfl) (by simp) (by simp) ((Ent.obj b_2 (.cells #[.int .i64 30] 29 (0, 0))) :: H) rfl fun w_4 p_4 _ f => eT (wp_ret (T_r (E_M0 f (V_rv1 rfl (Y9 (v := .int .i64 30) (ad := ⟨b_2, 0, none⟩) f (p_4.ownCell 0 rfl 0)) ?_)))))
  obtain rfl := sI hF_2
  exact ⟨_, rfl, M_1, hM_1, (p_4.dropN 1), rfl⟩
 ·have k_2 := iff_f dI h_3
  refine wp_skip (T_n (RR (Y12 f p_3 (.cells #[.int .i64 0] 3 (0, 0)) fun b_3 w_5 p_5 _ f => Y26 f p_5 0 rfl rfl (b := b_3) (j := 0) (v := .int .i64 0) rfl (by exact rfl) (by simp) (by simp) ((Ent.obj b_3 (.cells #[.int .i64 0] 3 (0, 0))) :: (Ent.obj b_2 (.cells #[.int .i64 0] 29 (0, 0))) :: H) rfl fun w_6 p_6 _ f => eT (R_seq (RR (Z (v := .agg #[.int .i8 d0.fKind, .bool d0.fBool, .int .i64 d0.fNum, S d0.fText, .slice A_1 d0.fList.length cap_1, .slice A_2 d0.fKeys.length cap_2]) f (Y33 (cs := [.int .i8 d0.fKind, .bool d0.fBool, .int .i64 d0.fNum, S d0.fText, .slice A_1 d0.fList.length cap_1, .slice A_2 d0.fKeys.length cap_2]) rfl (ad := ⟨b_1, 0, none⟩) (fun j v h => p_6.cell (hc_2 j v h))) fun _ f => ?_))))))
  obtain ⟨g_1, hF_4⟩ := nS hF_3
  refine Y16 f p_6 (walk_ok d0 g_1 _ [.int .i8 d0.fKind, .bool d0.fBool, .int .i64 d0.fNum, S d0.fText, .slice A_1 d0.fList.length cap_1, .slice A_2 d0.fKeys.length cap_2] (TD0.shutx (x := d0) (h_1.mono hM_1) (h_2.mono hM_1))) fun _ M_2 w_7 hM_2 p_7 q_1 a_9 f => ?_
  obtain ⟨fv_1, cp_1, rfl, hit_1⟩ := q_1
  refine eT (wp_block ?_)
  have f : Frm 19 [(2, .pointer (some (⟨b_2, 0, none⟩))), (3, .pointer (some (⟨b_3, 0, none⟩))), (9, .func (.func fv_1) #[] cp_1.toArray)] a_9 := f.kp
  obtain ⟨j_1, hL_1, hF_5⟩ := bS hF_4
  refine R_range (σ := Int) (β := Int × Int) (vals := valsV) (Y := (tree_Check_s1 n)) (E0 := [Ent.obj b_3 (.cells #[.int .i64 0] 3 (0, 0)), Ent.obj b_2 (.cells #[.int .i64 0] 29 (0, 0))]) (H := H) (w0 := w0) (M := M_2) (f := fv_1) (caps := cp_1) f p_7 (by kernel_rfl) (by kernel_rfl) (by kernel_rfl) hit_1.1 (fun (s_1 : Int) M' E1 => E1 = [Ent.obj b_3 (.cells #[.int .i64 s_1] 3 (0, 0)), Ent.obj b_2 (.cells #[.int .i64 0] 29 (0, 0))]) (fun (y_1 : Int × Int) M' E1 => E1 = [Ent.obj b_3 (.cells #[.int .i64 y_1.1] 3 (0, 0)), Ent.obj b_2 (.cells #[.int .i64 y_1.2] 29 (0, 0))]) (fun (_ : Int × Int) => Jmp.ret) (0 : Int) j_1 rfl (fun s_ M_ M2_ E_ hM h => h) (fun s_ M_ M2_ E_ hM h => h) (fun M_ x_ vs_ h => by obtain ⟨c_, h, _⟩ := h; exact ⟨_, h⟩) (hit_1.2 _ _ _ _ _ hL_1) ?_ ?_ ?_
  ·rintro s_1 x_2 r_1 hs_1 l_1 w0 M_3 E_1 H w_8 _ v_1 hM_3 rfl ⟨cc_1, hv_1, hr_1⟩ p_8 f
   obtain rfl : v_1 = .agg cc_1.toArray := by simpa using hv_1
   unfold tree_Check_s1 at hs_1
   obtain ⟨A_3, cap_3, A_4, cap_4, rfl, h_4, h_5⟩ := TD0.opn hr_1
   refine RI_reg (then_out F_out) (by kernel_rfl) (Y12 f p_8 (.cells #[.int .i8 0, .bool false, .int .i64 0, S [], .slice none 0 0, .slice none 0 0] 26 (0, 0)) fun b_4 w_9 p_9 _ f => Y27 (vs := [.int .i8 x_2.fKind, .bool x_2.fBool, .int .i64 x_2.fNum, S x_2.fText, .slice A_3 x_2.fList.length cap_3, .slice A_4 x_2.fKeys.length cap_4]) (j := 0) f p_9 rfl rfl (by simp [Value.oneCell', S]) (by simp) (by decide) (cs' := #[.int .i8 x_2.fKind, .bool x_2.fBool, .int .i64 x_2.fNum, S x_2.fText, .slice A_3 x_2.fList.length cap_3, .slice A_4 x_2.fKeys.length cap_4]) (by kernel_rfl) fun w_10 p_10 _ f => eT (⟨M_3, [Ent.obj b_4 (.cells #[.int .i8 x_2.fKind, .bool x_2.fBool, .int .i64 x_2.fNum, S x_2.fText, .slice A_3 x_2.fList.length cap_3, .slice A_4 x_2.fKeys.length cap_4] 26 (0, 0)), Ent.obj b_3 (.cells #[.int .i64 s_1] 3 (0, 0)), Ent.obj b_2 (.cells #[.int .i64 0] 29 (0, 0))], (mR _), p_10, fun H w_11 p_11 => ?_⟩))
   refine RI_block (RI_seq (RI_seq (RI_reg (then_out (then_out (block_out (RB_out)))) (by kernel_rfl) ?_)))
   obtain ⟨M_4, hM_4, p_12, hc_3⟩ := p_11.fzOwn
   obtain ⟨x_3, hx_2, hF_6⟩ := bS hs_1
   refine Y18 f p_12 (tree_alone_ok n _ (GL.mono (((hM_1.trans hM_2).trans hM_3).trans hM_4) hG) (⟨b_4, 0, none⟩) [.int .i8 x_2.fKind, .bool x_2.fBool, .int .i64 x_2.fNum, S x_2.fText, .slice A_3 x_2.fList.length cap_3, .slice A_4 x_2.fKeys.length cap_4] x_2 (TD0.shutx (x := x_2) (h_4.mono hM_4) (h_5.mono hM_4)) (fz_at (hc_3) 0 rfl) x_3 hx_2) fun w_12 p_13 _ f => Y f 1 fun _ f => eT (RI_seq (RI_reg (then_out (then_out (block_out (RB_out)))) (by kernel_rfl) (Y f 2 fun _ f => eT (RI_cond f (b := !(decide (x_3 = 0))) (by kernel_rfl) (by kernel_rfl) (fun h_6 => ?_) fun h_6 => ?_))))
   ·have k_3 : ¬ (x_3 = 0) := (not_iff dI).1 h_6
    have hF_7 := cnd_t h_6 hF_6
    refine RI_seq (RI_reg (then_out (then_out (block_out (RB_out)))) (by kernel_rfl) (Y f 1 fun _ f => Y26 f p_13 1 rfl rfl (b := b_2) (j := 0) (v := .int .i64 x_3) rfl (by exact rfl) (by simp) (by simp) ((Ent.obj b_3 (.cells #[.int .i64 s_1] 3 (0, 0))) :: (Ent.obj b_2 (.cells #[.int .i64 x_3] 29 (0, 0))) :: H) rfl fun w_13 p_14 _ f => eT (RI_ret (T_r (B_r ?_)))))
    obtain rfl := sI hF_7
    exact RB_x rfl ⟨M_4, [Ent.obj b_3 (.cells #[.int .i64 s_1] 3 (0, 0)), Ent.obj b_2 (.cells #[.int .i64 x_3] 29 (0, 0))], hM_4, p_14, rfl⟩
   ·have k_4 : ¬ (¬ (x_3 = 0)) := iff_f (not_iff dI) h_6
    have hF_8 := cnd_f h_6 hF_6
    refine RI_skip (T_n (RI_reg (block_out (RB_out)) (by kernel_rfl) (Z f (Y32 (v := .int .i64 s_1) rfl (ad := ⟨b_3, 0, none⟩) (p_13.ownCell 0 rfl 0)) fun _ f => ?_)))
    obtain ⟨g_2, hF_9⟩ := nS hF_8
    refine Y f 1 fun _ f => ?_
    have f := f.st 16 (congrArg (Value.int .i64) (inR_wrap g_2))
    refine Y26 f p_13 0 rfl rfl (b := b_3) (j := 0) (v := .int .i64 (s_1 + 1)) rfl (by exact rfl) (by simp) (by simp) ((Ent.obj b_3 (.cells #[.int .i64 (s_1 + 1)] 3 (0, 0))) :: (Ent.obj b_2 (.cells #[.int .i64 0] 29 (0, 0))) :: H) rfl fun w_14 p_15 _ f => W_end rfl (B_n ?_)
    obtain rfl := sI hF_9
    exact RB_n ⟨M_4, [Ent.obj b_3 (.cells #[.int .i64 (s_1 + 1)] 3 (0, 0)), Ent.obj b_2 (.cells #[.int .i64 0] 29 (0, 0))], hM_4, p_15, rfl⟩
  ·rintro s_2 rfl l_2 D_1 rr_1 M_5 E_2 w_15 _ hM_5 rfl p_16 f
   replace p_16 : Hp w0 M_5 ((Ent.obj D_1 (.deferred (some []))) :: (Ent.obj b_3 (.cells #[.int .i64 s_2] 3 (0, 0))) :: (Ent.obj b_2 (.cells #[.int .i64 0] 29 (0, 0))) :: H) w_15 := p_16.drop
   replace hF_5 : (_ : Option _) = some _ := hF_5
   refine B_n (T_n (R_seq (RR (Z f (Y32 (v := .int .i64 s_2) rfl (ad := ⟨b_3, 0, none⟩) (p_16.ownCell 1 rfl 0)) fun _ f => Y f 1 fun _ f => eT (RcF f hF_5 (fun h_7 hF_10 => ?_) fun h_7 hF_11 => ?_)))))
   ·have k_5 := dI.1 h_7
    refine RR (Y26 f p_16 2 rfl rfl (b := b_2) (j := 0) (v := .int .i64 3) rfl (by exact rfl) (by simp) (by simp) ((Ent.obj D_1 (.deferred (some []))) :: (Ent.obj b_3 (.cells #[.int .i64 s_2] 3 (0, 0))) :: (Ent.obj b_2 (.cells #[.int .i64 3] 29 (0, 0))) :: H) rfl fun w_16 p_17 _ f => eT (wp_ret (T_r (E_M1 f p_17 fun w_17 p_18 => V_rv1 rfl (Y9 (v := .int .i64 3) (ad := ⟨b_2, 0, none⟩) f (p_18.ownCell 1 rfl 0)) ?_))))
    obtain rfl := sI hF_10
    exact ⟨_, rfl, M_5, ((hM_1.trans hM_2).trans hM_5), (p_18.dropN 2), rfl⟩
   ·have k_6 := iff_f dI h_7
    refine wp_skip (T_n (RR (Y26 f p_16 2 rfl rfl (b := b_2) (j := 0) (v := .int .i64 0) rfl (by exact rfl) (by simp) (by simp) ((Ent.obj D_1 (.deferred (some []))) :: (Ent.obj b_3 (.cells #[.int .i64 s_2] 3 (0, 0))) :: (Ent.obj b_2 (.cells #[.int .i64 0] 29 (0, 0))) :: H) rfl fun w_18 p_19 _ f => eT (wp_ret (E_M1 f p_19 fun w_19 p_20 => V_rv1 rfl (Y9 (v := .int .i64 0) (ad := ⟨b_2, 0, none⟩) f (p_20.ownCell 1 rfl 0)) ?_)))))
    obtain rfl := sI hF_11
    exact ⟨_, rfl, M_5, ((hM_1.trans hM_2).trans hM_5), (p_20.dropN 2), rfl⟩
  ·rintro b_5 rfl l_3 D_2 rr_2 M_6 E_3 w_20 _ hM_6 hx_3 p_21 f
   obtain rfl := hx_3
   replace p_21 : Hp w0 M_6 ((Ent.obj D_2 (.deferred (some []))) :: (Ent.obj b_3 (.cells #[.int .i64 b_5.1] 3 (0, 0))) :: (Ent.obj b_2 (.cells #[.int .i64 b_5.2] 29 (0, 0))) :: H) w_20 := p_21.drop
   refine B_r (T_r (E_M1 f p_21 fun w_21 p_22 => V_rv1 rfl (Y9 (v := .int .i64 b_5.2) (ad := ⟨b_2, 0, none⟩) f (p_22.ownCell 1 rfl 0)) ?_))
   obtain rfl := sI hF_5
   exact ⟨_, rfl, M_6, ((hM_1.trans hM_2).trans hM_6), (p_22.dropN 2), rfl⟩
end Go.Proofs.YtocefedhenhbfaaDoor
end

section
namespace Go.Proofs
open Go Go.Shelf
def Tryd.laysS_ren : Go.Shelf.Ren := ⟨fun | 6 => 69 | 14 => 92 | 15 => 93 | 20 => 113 | 21 => 114 | 22 => 115 | 23 => 116 | 24 => 117 | 25 => 118 | 26 => 119 | 27 => 120 | 28 => 121 | 29 => 122 | 46 => 130 | 47 => 131 | 48 => 132 | 49 => 133 | 50 => 134 | 57 => 140 | n => n, fun | 22 => 97 | 24 => 3 | 25 => 117 | 39 => 146 | 45 => 166 | 46 => 167 | 50 => 150 | 53 => 173 | 55 => 175 | 66 => 187 | 70 => 191 | 76 => 199 | 77 => 141 | n => n, fun | n => n⟩
theorem Tryd.laysS : Go.Proofs.SlLaysF.n6 Tryd.prog Tryd.laysS_ren := {
 mixed := by kernel_rfl
 f6 := ⟨ "slices.SortFunc[[]int,int]", by decide, Tryd.func69.trans (congrArg some (by kernel_rfl))⟩
 f14 := ⟨ "slices.pdqsortCmpFunc[int]", by decide, Tryd.func92.trans (congrArg some (by kernel_rfl))⟩
 f15 := Tryd.func93.trans (congrArg some (by kernel_rfl))
 f20 := ⟨ "slices.insertionSortCmpFunc[int]", by decide, Tryd.func113.trans (congrArg some (by kernel_rfl))⟩
 f21 := ⟨ "slices.heapSortCmpFunc[int]", by decide, Tryd.func114.trans (congrArg some (by kernel_rfl))⟩
 f22 := ⟨ "slices.breakPatternsCmpFunc[int]", by decide, Tryd.func115.trans (congrArg some (by kernel_rfl))⟩
 f23 := ⟨ "slices.choosePivotCmpFunc[int]", by decide, Tryd.func116.trans (congrArg some (by kernel_rfl))⟩
 f24 := ⟨ "slices.reverseRangeCmpFunc[int]", by decide, Tryd.func117.trans (congrArg some (by kernel_rfl))⟩
 f25 := ⟨ "slices.partialInsertionSortCmpFunc[int]", by decide, Tryd.func118.trans (congrArg some (by kernel_rfl))⟩
 f26 := ⟨ "slices.partitionEqualCmpFunc[int]", by decide, Tryd.func119.trans (congrArg some (by kernel_rfl))⟩
 f27 := ⟨ "slices.partitionCmpFunc[int]", by decide, Tryd.func120.trans (congrArg some (by kernel_rfl))⟩
 f28 := Tryd.func121.trans (congrArg some (by kernel_rfl))
 f29 := Tryd.func122.trans (congrArg some (by kernel_rfl))
 f46 := ⟨ "slices.siftDownCmpFunc[int]", by decide, Tryd.func130.trans (congrArg some (by kernel_rfl))⟩
 f47 := Tryd.func131.trans (congrArg some (by kernel_rfl))
 f48 := Tryd.func132.trans (congrArg some (by kernel_rfl))
 f49 := ⟨ "slices.medianAdjacentCmpFunc[int]", by decide, Tryd.func133.trans (congrArg some (by kernel_rfl))⟩
 f50 := ⟨ "slices.medianCmpFunc[int]", by decide, Tryd.func134.trans (congrArg some (by kernel_rfl))⟩
 f57 := ⟨ "slices.order2CmpFunc[int]", by decide, Tryd.func140.trans (congrArg some (by kernel_rfl))⟩
 t0 := Tryd.underlying0
 a0 := Tryd.isAgg0
 z0 := Tryd.sizeOf0
 v0 := Tryd.zeroValue0
 t3 := Tryd.underlying3
 a3 := Tryd.isAgg3
 z3 := Tryd.sizeOf3
 v3 := Tryd.zeroValue3
 t4 := Tryd.underlying4
 a4 := Tryd.isAgg4
 z4 := Tryd.sizeOf4
 v4 := Tryd.zeroValue4
 t5 := Tryd.underlying5
 a5 := Tryd.isAgg5
 z5 := Tryd.sizeOf5
 v5 := Tryd.zeroValue5
 t9 := Tryd.underlying9
 a9 := Tryd.isAgg9
 z9 := Tryd.sizeOf9
 v9 := Tryd.zeroValue9
 t22 := Tryd.underlying97
 a22 := Tryd.isAgg97
 z22 := Tryd.sizeOf97
 v22 := Tryd.zeroValue97
 a24 := Tryd.isAgg3
 z24 := Tryd.sizeOf3
 t25 := Tryd.underlying117
 a25 := Tryd.isAgg117
 z25 := Tryd.sizeOf117
 v25 := Tryd.zeroValue117
 t39 := Tryd.underlying146
 a39 := Tryd.isAgg146
 z39 := Tryd.sizeOf146
 v39 := Tryd.zeroValue146
 t45 := Tryd.underlying166
 a45 := Tryd.isAgg166
 z45 := Tryd.sizeOf166
 v45 := Tryd.zeroValue166
 t46 := Tryd.underlying167
 a46 := Tryd.isAgg167
 z46 := Tryd.sizeOf167
 v46 := Tryd.zeroValue167
 t50 := Tryd.underlying150
 a50 := Tryd.isAgg150
 z50 := Tryd.sizeOf150
 v50 := Tryd.zeroValue150
 t53 := Tryd.underlying173
 a53 := Tryd.isAgg173
 z53 := Tryd.sizeOf173
 v53 := Tryd.zeroValue173
 t55 := Tryd.underlying175
 a55 := Tryd.isAgg175
 z55 := Tryd.sizeOf175
 v55 := Tryd.zeroValue175
 t66 := Tryd.underlying187
 a66 := Tryd.isAgg187
 z66 := Tryd.sizeOf187
 v66 := Tryd.zeroValue187
 t70 := Tryd.underlying191
 a70 := Tryd.isAgg191
 z70 := Tryd.sizeOf191
 v70 := Tryd.zeroValue191
 t76 := Tryd.underlying199
 a76 := Tryd.isAgg199
 z76 := Tryd.sizeOf199
 v76 := Tryd.zeroValue199
 t77 := Tryd.underlying141
 a77 := Tryd.isAgg141
 z77 := Tryd.sizeOf141
 v77 := Tryd.zeroValue141 }
end Go.Proofs
end

section
namespace Go.Proofs.YtocefedhenhbfaaDoor
open Go Go.Vc Go.RowKit Go.Sort
def keyLe (keys : List (List UInt8)) (x y : Int) : Bool := !(decide (Lib.compareBytes (keys.getD y.toNat []) (keys.getD x.toNat []) < 0))
theorem keyLe_iff {keys : List (List UInt8)} {x y : Int} : keyLe keys x y = true ↔ Lib.compareBytes (keys.getD x.toNat []) (keys.getD y.toNat []) ≤ 0 := by
 have := cb_anti (keys.getD x.toNat []) (keys.getD y.toNat [])
 simp only [keyLe, Bool.not_eq_true', decide_eq_false_iff_not]
 omega
def ins (le : Int → Int → Bool) (x : Int) : List Int → List Int
  | [] => [x]
  | y :: r => bif le x y then x :: y :: r else y :: ins le x r
def isort (le : Int → Int → Bool) : List Int → List Int
  | [] => []
  | x :: r => ins le x (isort le r)
theorem ins_perm (le : Int → Int → Bool) (x : Int) : ∀ l, (ins le x l).Perm (x :: l)
 | [] => List.Perm.refl _
 | y :: r => by
  unfold ins
  cases le x y with
  | true => exact List.Perm.refl _
  | false => exact ((ins_perm le x r).cons y).trans (List.Perm.swap x y r)
theorem isort_perm (le : Int → Int → Bool) : ∀ l, (isort le l).Perm l
 | [] => List.Perm.refl _
 | x :: r => (ins_perm le x _).trans ((isort_perm le r).cons x)
theorem ins_sorted {le : Int → Int → Bool} (ht : ∀ a b c, le a b = true → le b c = true → le a c = true) (hn : ∀ a b, le a b = true ∨ le b a = true) (x : Int) : ∀ l, l.Pairwise (fun a b => le a b = true) → (ins le x l).Pairwise (fun a b => le a b = true)
 | [], _ => by simp [ins]
 | y :: r, h => by
  obtain ⟨h1, h2⟩ := List.pairwise_cons.1 h
  unfold ins
  cases hxy : le x y with
  | true => exact List.pairwise_cons.2 ⟨fun z hz => by
    rcases List.mem_cons.1 hz with rfl | hz
    ·exact hxy
    ·exact ht _ _ _ hxy (h1 z hz), h⟩
  | false =>
   refine List.pairwise_cons.2 ⟨fun z hz => ?_, ins_sorted ht hn x r h2⟩
   rcases List.mem_cons.1 ((ins_perm le x r).mem_iff.1 hz) with rfl | hz
   ·exact (hn z y).resolve_left (by simp [hxy])
   ·exact h1 z hz
theorem isort_sorted {le : Int → Int → Bool} (ht : ∀ a b c, le a b = true → le b c = true → le a c = true) (hn : ∀ a b, le a b = true ∨ le b a = true) : ∀ l, (isort le l).Pairwise (fun a b => le a b = true)
 | [] => List.Pairwise.nil
 | x :: r => ins_sorted ht hn x _ (isort_sorted ht hn r)
theorem keyLe_trans (keys : List (List UInt8)) (a b c : Int) (h1 : keyLe keys a b = true) (h2 : keyLe keys b c = true) : keyLe keys a c = true :=
 keyLe_iff.2 (cb_trans _ _ _ (keyLe_iff.1 h1) (keyLe_iff.1 h2)).1
theorem keyLe_total (keys : List (List UInt8)) (a b : Int) : keyLe keys a b = true ∨ keyLe keys b a = true := by
 rw [keyLe_iff, keyLe_iff]
 have := cb_anti (keys.getD a.toNat []) (keys.getD b.toNat [])
 omega
theorem sort_eq {keys : List (List UInt8)} {d : List Int} (hnd : keys.Nodup) (hin : ∀ i ∈ d, 0 ≤ i ∧ i < (keys.length : Int)) : d.mergeSort (keyLe keys) = isort (keyLe keys) d := by
 refine List.Perm.eq_of_pairwise (le := fun a b => keyLe keys a b = true) (fun a b ha hb h1 h2 => ?_) (List.pairwise_mergeSort (keyLe_trans keys) (fun a b => by simpa using keyLe_total keys a b) d) (isort_sorted (keyLe_trans keys) (keyLe_total keys) d) ((List.mergeSort_perm d _).trans (isort_perm _ d).symm)
 have ia := hin a ((List.mergeSort_perm d _).mem_iff.1 ha)
 have ib := hin b ((isort_perm _ d).mem_iff.1 hb)
 have e1 := keyLe_iff.1 h1
 have e2 := keyLe_iff.1 h2
 have e3 := cb_anti (keys.getD a.toNat []) (keys.getD b.toNat [])
 have e4 := cb_eq _ _ (by omega : Lib.compareBytes (keys.getD a.toNat []) (keys.getD b.toNat []) = 0)
 have la : a.toNat < keys.length := by omega
 have lb : b.toNat < keys.length := by omega
 have e5 : keys[a.toNat] = keys[b.toNat] := by simpa [la, lb] using e4
 have := (List.getElem_inj hnd).1 e5
 omega
def h_sortKeys (_ : Nat) (v : TD0) (d : List Int) : Option (List Int) :=
  need (v.fKeys.Nodup ∧ ∀ i ∈ d, 0 ≤ i ∧ i < (v.fKeys.length : Int)) (need (d.length < 4611686018427387904) (some (isort (keyLe v.fKeys) d)))
theorem finOf {n : Nat} : ∀ (d : List Int), (∀ i ∈ d, 0 ≤ i ∧ i < (n : Int)) → ∃ l : List (Fin n), l.map (fun x => (x.val : Int)) = d
 | [], _ => ⟨[], rfl⟩
 | i :: r, h => by
  obtain ⟨l, hl⟩ := finOf r fun j hj => h j (List.mem_cons_of_mem _ hj)
  have hi := h i List.mem_cons_self
  refine ⟨⟨i.toNat, by omega⟩ :: l, ?_⟩
  simp [hl]
  omega
theorem keys_swo {n : Nat} (k : Fin n → List UInt8) : SWO (ltOf fun x y : Fin n => Lib.compareBytes (k x) (k y)) := by
 refine ⟨fun x => by simp [ltOf, cb_self], fun x y z h1 h2 => ?_, fun x y z h1 h2 => ?_⟩
 ·simp only [ltOf, decide_eq_true_eq] at *
  exact (cb_trans _ _ _ (by omega) (by omega)).2 (.inl h1)
 ·simp only [ltOf, decide_eq_false_iff_not] at *
  have a1 := cb_anti (k x) (k y)
  have a2 := cb_anti (k y) (k z)
  have a3 := cb_anti (k x) (k z)
  have := (cb_trans (k z) (k y) (k x) (by omega) (by omega)).1
  omega
theorem sortKeys_ok (n : Nat) {M : Mem} {bA ad0 : Addr} {v : TD0} {c0 : List Value} (h0 : Rep M (emb_TD0 v) c0) (q0 : ∀ j u, c0[j]? = some u → M.cell? (ad0.add j) = some u)
  (hb : M.cell? bA = some (.pointer (some ad0))) (u : Value) (d : List Int) (cs : List Value) (hr : RepSeq M (d.map (Dat.int .i64)) cs) (r : List Int) (hF : h_sortKeys n v d = some r) :
  OkH Tryd.prog M [.row 3 1 u d.length cs] 69 [u, .func (.func 70) #[] #[.pointer (some bA)]] (fun M' E' z => ∃ cs', z = .tuple #[] ∧ E' = [.row 3 1 u r.length cs'] ∧ RepSeq M' (r.map (Dat.int .i64)) cs' ∧ r.length = d.length) := by
 unfold h_sortKeys at hF
 obtain ⟨⟨hnd, hin⟩, hF⟩ := need_some hF
 obtain ⟨hlen, hF⟩ := need_some hF
 obtain rfl := Option.some.inj hF
 rw [← sort_eq hnd hin]
 obtain rfl := repInts hr
 clear hF
 obtain ⟨zs, rfl⟩ := finOf d hin
 clear hr hin
 intro M2 hM w0 H w hp
 have hmap : (zs.mergeSort fun x y => !(ltOf (fun x y : Fin v.fKeys.length => Lib.compareBytes v.fKeys[x] v.fKeys[y])) y x).map (fun x => (x.val : Int)) = (zs.map (fun x => (x.val : Int))).mergeSort (keyLe v.fKeys) := by
  refine List.map_mergeSort fun a _ b _ => ?_
  simp [keyLe, ltOf]
 rw [← hmap]
 have hls : (zs.mergeSort fun x y => !(ltOf (fun x y : Fin v.fKeys.length => Lib.compareBytes v.fKeys[x] v.fKeys[y])) y x).length = zs.length := List.length_mergeSort _
 clear hmap
 by_cases hd : zs = []
 ·subst hd
  have key : ∀ p cap, u = .slice p 0 cap → Calls Tryd.prog 69 [u, .func (.func 70) #[] #[.pointer (some bA)]].toArray w fun e w' => e = .returned (.tuple #[]) ∧ w' = w := fun p cap e => by
   subst e
   exact AnyF.slices_SortFunc_none { Tryd.laysS with } p cap _ w
  have hv : ∃ p cap, u = .slice p 0 cap := by
   rcases hp.rowObj with ⟨h1, _⟩ | ⟨g, cap, cur, h1, _⟩
   ·exact ⟨_, _, h1⟩
   ·exact ⟨_, _, h1⟩
  obtain ⟨p, cap, hv⟩ := hv
  refine (key p cap hv).mono fun e w' ⟨he, hw⟩ => ⟨_, he, M2, _, Mem.le_refl _, ?_, [], rfl, rfl, ?_, by simp⟩
  ·subst hw
   simpa using hp
  ·simp [RepSeq]
 ·have hpos : 0 < v.fKeys.length := by
   cases zs with
   | nil => exact absurd rfl hd
   | cons x _ => exact Nat.lt_of_le_of_lt (Nat.zero_le _) x.isLt
  haveI : Inhabited (Fin v.fKeys.length) := ⟨⟨0, hpos⟩⟩
  rcases hp.rowObj with ⟨h1, h2, h3, h4⟩ | ⟨g, cap, cur, h1, h2, h3, h4, h5, h6, h7⟩
  ·simp at h2
   exact absurd h2 hd
  ·simp only [List.length_map, List.map_map] at h1 h2 h4 h5 h6
   subst h1
   obtain ⟨enc, henc⟩ : ∃ enc : Fin v.fKeys.length → Value, enc = fun x => .int .i64 (x.val : Int) := ⟨_, rfl⟩
   have he0 : (Value.int IntKind.i64 ∘ fun x : Fin v.fKeys.length => (x.val : Int)) = enc := by rw [henc]; rfl
   rw [he0] at h5
   obtain ⟨cf, hcf⟩ : ∃ cf : Fin v.fKeys.length → Fin v.fKeys.length → Int, cf = fun x y => Lib.compareBytes v.fKeys[x] v.fKeys[y] := ⟨_, rfl⟩
   have hO : SWO (ltOf cf) := by rw [hcf]; exact keys_swo fun x => v.fKeys[x]
   have hT : ∀ x y, (ltOf cf) x y = false → (ltOf cf) y x = false → x = y := fun x y g1 g2 => by
    rw [hcf] at g1 g2
    simp only [ltOf, decide_eq_false_iff_not] at g1 g2
    have a1 := cb_anti v.fKeys[x] v.fKeys[y]
    have := cb_eq _ _ (by omega : Lib.compareBytes v.fKeys[x] v.fKeys[y] = 0)
    exact Fin.ext ((List.getElem_inj hnd).1 this)
   have hcell : ∀ j, j < zs.length → cur[j]? = (zs.map enc)[j]? := fun j hj => by
    rw [← h5, List.getElem?_take_of_lt (by omega), Array.getElem?_toList]
   have hH : Holds enc w g 0 zs.toArray := fun j hj => by
    have hj' : j < zs.length := by simpa using hj
    refine ⟨?_, ?_⟩
    ·rw [Nat.zero_add, h7.ownCell 0 rfl, hcell j hj']
     simp [hj']
    ·rw [Nat.zero_add]
     exact h7.ownFrozen 0 rfl j (by omega)
   have hg : g < w.heap.size := lt_of_get (h7.own _ List.mem_cons_self).2
   have eg : ∀ args w, (callFunc 70 args).run Tryd.prog w = .ok (.enter 70 args) w := Go.Proofs.enters_of Tryd.func70 (by kernel_rfl) rfl
   have hget : ∀ x : Fin v.fKeys.length, getI v.fKeys (x.val : Int) = some v.fKeys[x] := fun x => by simp [getI]
   have hcmp : CmpLays1 Tryd.prog 70 #[.pointer (some bA)] enc cf g 0 zs.toArray.size w := by
    intro m os dk hs x y
    have hpW : Hp w0 M2 (.obj g (.cells (putCells enc 0 dk cur) 3 (0, 0)) :: H) (sortWorld enc w g 0 m dk os) := ((h7.sameHeap rfl rfl rfl rfl : Hp w0 M2 _ (Sort.ahead w m)).mapCells (putCells enc 0 dk)).grow_ os
    have hc := order1_calls hpW (Rep.mono hM _ _ h0) (fun j u h => hM.cell (q0 j u h)) (hM.cell hb) (x.val : Int) (y.val : Int) v.fKeys[x] v.fKeys[y] (hget x) (hget y)
    have ea : (#[enc x, enc y] ++ #[.pointer (some bA)] : Array Value) = [.int .i64 (x.val : Int), .int .i64 (y.val : Int), .pointer (some bA)].toArray := by rw [henc]; rfl
    rw [ea]
    exact hc.mono fun e w' ⟨he, q, hw⟩ => ⟨by rw [he, hcf], q, #[], by rw [hw, grow_empty]⟩
   have hcall : Calls Tryd.prog 69 #[.slice (some ⟨g, 0, none⟩) zs.length cap, .func (.func 70) #[] #[.pointer (some bA)]] w fun e w' =>
     e = .returned (.tuple #[]) ∧ ∃ n os, w' = sortWorld enc w g 0 n (zs.mergeSort fun x y => !(ltOf cf) y x).toArray os :=
    Any.slices_SortFunc_total Tryd.laysS enc (fun x => by rw [henc]; rfl) cf hO 70 #[.pointer (some bA)] g 0 cap zs.toArray w eg hcmp hH hg (by simpa using hlen) hT
   simp only [List.length_map]
   rw [hcf] at hcall
   refine hcall.mono fun e w' ⟨he, k, os, hw⟩ => ⟨_, he, M2, _, Mem.le_refl _, ?_, _, rfl, rfl, intsRep _, by simp⟩
   subst hw
   have h9 := ((h7.sameHeap rfl rfl rfl rfl : Hp w0 M2 _ (Sort.ahead w k)).mapCells (putCells enc 0 (zs.mergeSort fun x y => !(ltOf (fun x y : Fin v.fKeys.length => Lib.compareBytes v.fKeys[x] v.fKeys[y])) y x).toArray)).grow_ os
   have hcs : cap ≤ cur.size := by have := h4.1; omega
   have hlen' : zs.length ≤ cap := h2
   rw [hls]
   refine h9.objRow h2 h3 (by simpa [putCells] using h4) ?_ (by simp)
   rw [List.map_map, he0]
   generalize (zs.mergeSort fun x y => !(ltOf (fun x y : Fin v.fKeys.length => Lib.compareBytes v.fKeys[x] v.fKeys[y])) y x) = ys at hls ⊢
   apply List.ext_getElem?
   intro j
   by_cases hj : j < zs.length
   ·rw [List.getElem?_take_of_lt (by omega), Array.getElem?_toList]
    have hjc : j < cur.size := by omega
    have hjy : j < ys.length := by omega
    simp [putCells, hjc, hjy]
   ·rw [List.getElem?_eq_none (by simp; omega), List.getElem?_eq_none (by simp; omega)]
end Go.Proofs.YtocefedhenhbfaaDoor
end

section
namespace Go.Proofs.YtocefedhenhbfaaDoor
open Go Go.Vc Go.RowKit
def tree_order_s1 (n : Nat) (d0 : TD0) (s_1 : List Int × Int) : Option (Lp (List Int × Int) (List Int)) :=
    bif (decide (s_1.2 < (((List.replicate ((d0.fKeys.length : Nat) : Int).toNat (0 : Int)).length : Nat) : Int))) then
      ((getI s_1.1 s_1.2).bind fun x_1 =>
      need (inR .i64 (s_1.2 + 1)) <|
      some (.nx (s_1.1.set s_1.2.toNat s_1.2, s_1.2 + 1)))
    else
      some (.br s_1.1)
def tree_order (n : Nat) (d0 : TD0) : Option (List Int) :=
  need (0 ≤ ((d0.fKeys.length : Nat) : Int) ∧ ((d0.fKeys.length : Nat) : Int) * 8 ≤ 140737488355328 ∧ ((d0.fKeys.length : Nat) : Int) ≤ 140737488355328) <|
  (loopF (tree_order_s1 n d0) n (List.replicate ((d0.fKeys.length : Nat) : Int).toNat (0 : Int), (0 : Int))).bind fun y_1 =>
  (h_sortKeys n d0 y_1).bind fun x_2 =>
  some (x_2)
theorem tree_order_ok (n : Nat) (M : Mem) (hG : GL M) (ad0 : Addr) (c0 : List Value) (d0 : TD0) (h0 : Rep M (emb_TD0 d0) c0) (q0 : ∀ j v, c0[j]? = some v → M.cell? (ad0.add j) = some v) (r : List Int) (hF : tree_order n d0 = some r) : OkH Tryd.prog M [] 48 [.pointer (some ad0)] (fun M' E' v => ∃ (A0 : Option Addr) (k0 : Nat) (s0 : List Value), v = .slice A0 r.length k0 ∧ E' = [.row 3 1 (.slice A0 r.length k0) r.length s0] ∧ RepSeq M' (r.map (Dat.int .i64)) s0) := by
 unfold tree_order at hF
 intro M1 hM0 w0 H w p0
 replace hG := GL.mono hM0 hG
 replace h0 := Rep.mono hM0 _ _ h0
 replace q0 := fun j v h => hM0.cell (q0 j v h)
 obtain ⟨A_1, cap_1, A_2, cap_2, rfl, h_1, h_2⟩ := TD0.opn h0
 refine R_enter 25 Tryd.func48 rfl rfl (by simp) fun a0 f0 => RR (Y13 (cs := #[.pointer (some ad0)]) (T := 68) f0 p0 fun b_1 M_1 w_1 hM_1 hc_1 p_1 _ f => ?_)
 have hc_2 := fz_box hc_1
 refine Y f 1 fun _ f => eT (RR (Y15 f p_1 hc_2 0 rfl fun _ f => Y f 2 fun _ f => Y15 f p_1 (fzu hM_1 q0) 5 rfl fun _ f => Y f 1 fun _ f => ?_))
 obtain ⟨g_1, hF_1⟩ := nS hF
 refine Y24 (f := (Dat.int .i64)) (x := (0 : Int)) (z := .int .i64 0) (m := ((d0.fKeys.length : Nat) : Int)) (bytes := 8) (e := 3) f p_1 (by exact rfl) rfl rfl rfl rfl g_1 fun A_3 cap_3 cs_1 w_2 p_2 hr_1 _ f => Y f 1 fun _ f => eT (R_seq (RR (Y f 3 fun _ f => eT (wp_block ?_))))
 obtain ⟨b_2, hL_1, hF_2⟩ := bS hF_1
 refine wp_mono (Q := fun e a w => (e = .exit 0 ∧ (∃ y_1 : List Int, b_2 = y_1 ∧ ∃ M_3 : Mem, M_1.le M_3 ∧ ∃ (A_5 : Option Addr), ∃ (cap_6 : Nat), ∃ (cs_3 : List Value), RepSeq M_3 (y_1.map (Dat.int .i64)) cs_3 ∧ Frm 25 [(1, .pointer (some (⟨b_1, 0, none⟩))), (3, .slice A_5 y_1.length cap_6)] a ∧ Hp w0 M_3 ((Ent.row 3 1 (.slice A_5 y_1.length cap_6) y_1.length cs_3) :: H) w))) (R_loop (n := 25) (w0 := w0) (M := M_1) (fun (x : Nat × (List Int × Int) × (Option Addr) × Nat × (List Value)) => match x with | (m_1, s_1, A_4, cap_4, cs_2) => [(1, .pointer (some (⟨b_1, 0, none⟩))), (3, .slice A_4 s_1.1.length cap_4), (12, .int .i64 (((List.replicate ((d0.fKeys.length : Nat) : Int).toNat (0 : Int)).length : Nat) : Int)), (13, .int .i64 s_1.2)]) (fun (x : Nat × (List Int × Int) × (Option Addr) × Nat × (List Value)) => match x with | (m_1, s_1, A_4, cap_4, cs_2) => ((Ent.row 3 1 (.slice A_4 s_1.1.length cap_4) s_1.1.length cs_2) :: H)) (fun (x : Nat × (List Int × Int) × (Option Addr) × Nat × (List Value)) (MM : Mem) => match x with | (m_1, s_1, A_4, cap_4, cs_2) => loopF (tree_order_s1 n d0) m_1 s_1 = some b_2 ∧ RepSeq MM (s_1.1.map (Dat.int .i64)) cs_2) (fun (x : Nat × (List Int × Int) × (Option Addr) × Nat × (List Value)) => match x with | (m_1, s_1, A_4, cap_4, cs_2) => m_1) (n, (List.replicate ((d0.fKeys.length : Nat) : Int).toNat (0 : Int), (0 : Int)), A_3, cap_3, cs_1) (f.kp) p_2 ⟨hL_1, hr_1⟩ ?_) ?_
 ·rintro ⟨m_1, s_1, A_4, cap_4, cs_2⟩ M_2 _ w_3 hM_2 I_1 f p_3
  obtain ⟨I_1L, hr_2⟩ := I_1
  obtain ⟨m_2, r_1, rfl, hs_1, hn_1⟩ := loop_step I_1L
  unfold tree_order_s1 at hs_1
  refine RR (Y f 1 fun _ f => eT (R_seq (RcF f hs_1 (fun h_3 hF_3 => ?_) fun h_3 hF_6 => ?_)))
  ·have k_1 := dI.1 h_3
   refine wp_skip (T_n (R_seq (wp_block (RR (Y f 2 fun _ f => eT (R_reg (Y f 3 fun _ f => ?_)))))))
   obtain ⟨x_1, hx_1, hF_4⟩ := bS hF_3
   obtain ⟨b_3, cap_5, hv_1, hcap_1⟩ := p_3.rowAddr 0 rfl (getI_pos hx_1)
   have f := f.st 16 (hv_1)
   refine Z f (Y30 rfl (ad := ⟨b_3, 0, none⟩) (len := s_1.1.length) (cap := cap_5) (k := .i64) (i := s_1.2) (e := 3) (sz := 1) (getI_nn hx_1) (getI_lt hx_1)) fun _ f => ?_
   have f := f.st 16 (hv_1.symm)
   refine Y25 (it := s_1.2) (d := s_1.1) (f := (Dat.int .i64)) (xv := s_1.2) (v := .int .i64 s_1.2) f p_3 hv_1 rfl rfl (by exact rfl) (szd_int .i64) hx_1 hr_2 fun w_4 p_4 hr_3 _ f => ?_
   have p_5 : Hp w0 M_2 ((Ent.row 3 1 (.slice A_4 (s_1.1.set s_1.2.toNat s_1.2).length cap_4) (s_1.1.set s_1.2.toNat s_1.2).length (cs_2.set s_1.2.toNat (.int .i64 s_1.2))) :: H) w_4 := p_4.rowVal (by rw [List.length_set])
   have f := Frm.set f 3 (v := .slice A_4 s_1.1.length cap_4) (v' := .slice A_4 (s_1.1.set s_1.2.toNat s_1.2).length cap_4) (by kernel_rfl) (by rw [List.length_set])
   have f := Frm.set f 16 (v := .slice A_4 s_1.1.length cap_4) (v' := .slice A_4 (s_1.1.set s_1.2.toNat s_1.2).length cap_4) (by kernel_rfl) (by rw [List.length_set])
   refine W_end rfl (B_n (T_n (R_reg ?_)))
   obtain ⟨g_2, hF_5⟩ := nS hF_4
   refine Y f 1 fun _ f => ?_
   have f := f.st 20 (congrArg (Value.int .i64) (inR_wrap g_2))
   refine Y f 1 fun _ f => eT ?_
   obtain rfl := sI hF_5
   exact ⟨⟨m_2, (s_1.1.set s_1.2.toNat s_1.2, s_1.2 + 1), A_4, cap_4, cs_2.set s_1.2.toNat (.int .i64 s_1.2)⟩, Nat.lt_succ_self _, M_2, hM_2, ⟨hn_1, hr_3⟩, f.kp, p_5⟩
  ·have k_2 := iff_f dI h_3
   refine wp_exit (T_x (T_x ?_))
   obtain rfl := sI hF_6
   exact ⟨rfl, s_1.1, (sI hn_1).symm, M_2, hM_2, A_4, cap_4, cs_2, hr_2, f.kp, p_3⟩
 ·rintro _ _ w_6 ⟨rfl, y_1, hq_, M_3, hM_3, A_5, cap_6, cs_3, hr_4, f, p_6⟩
  subst b_2
  refine B_x (T_n (RR (Y f 2 fun _ f => ?_)))
  obtain ⟨x_2, hx_2, hF_7⟩ := bS hF_2
  refine Y17 (E := [Ent.row 3 1 (.slice A_5 y_1.length cap_6) y_1.length cs_3]) (H := (H)) f p_6 (sortKeys_ok n (c0 := [.int .i8 d0.fKind, .bool d0.fBool, .int .i64 d0.fNum, S d0.fText, .slice A_1 d0.fList.length cap_1, .slice A_2 d0.fKeys.length cap_2]) (TD0.shutx (x := d0) (h_1.mono (hM_1.trans hM_3)) (h_2.mono (hM_1.trans hM_3))) (fzu (hM_1.trans hM_3) q0) ((fzu hM_3 hc_2) 0 _ rfl) _ _ _ hr_4 _ hx_2) fun _ M_4 E_1 w_7 hM_4 p_7 q_1 _ f => ?_
  obtain ⟨cs_4, rfl, rfl, hr_5, hl_1⟩ := q_1
  have hv_2 : (.slice A_5 y_1.length cap_6 : Value) = .slice A_5 x_2.length cap_6 := by rw [hl_1]
  have p_8 : Hp w0 M_4 ((Ent.row 3 1 (.slice A_5 x_2.length cap_6) x_2.length cs_4) :: H) w_7 := by rw [← hv_2]; exact p_7
  have f := f.st 3 (hv_2)
  have f := f.st 21 (hv_2)
  refine eT (RR (Y f 2 fun _ f => eT (wp_ret (E_ret1 f rfl (by kernel_rfl : Vc.look _ 2 = some (.slice A_5 x_2.length cap_6)) ?_))))
  obtain rfl := sI hF_7
  exact ⟨_, rfl, M_4, _, ((hM_1.trans hM_3).trans hM_4), p_8, ⟨A_5, cap_6, cs_4, rfl, rfl, hr_5⟩⟩
def tree_sorted_s1 (n : Nat) (rec_tree_sorted : TD0 → Option TD0) (d0 : TD0) (x_1 : List Int) (s_1 : Int × List TD0 × List (List UInt8)) : Option (Lp (Int × List TD0 × List (List UInt8)) (List TD0 × List (List UInt8))) :=
    bif (decide (s_1.1 < ((x_1.length : Nat) : Int))) then
      ((getI x_1 s_1.1).bind fun x_2 =>
      (((getI d0.fKeys x_2).bind fun x_3 =>
        need ((s_1.2.2.length + 1) * 16 ≤ 140737488355328) <|
        some (s_1.2.2 ++ [x_3]) : Option (List (List UInt8)))).bind fun y_1 =>
      (((getI d0.fList x_2).bind fun x_5 =>
        (rec_tree_sorted x_5).bind fun x_6 =>
        need ((s_1.2.1.length + 1) * 80 ≤ 140737488355328) <|
        some (s_1.2.1 ++ [(⟨x_6.fKind, (x_6.fBool), x_6.fNum, x_6.fText, x_6.fList, x_6.fKeys⟩ : TD0)]) : Option (List TD0))).bind fun y_2 =>
      need (inR .i64 (s_1.1 + 1)) <|
      some (.nx (s_1.1 + 1, y_2, y_1)))
    else
      some (.br (s_1.2.1, s_1.2.2))
def tree_sorted_s2 (n : Nat) (rec_tree_sorted : TD0 → Option TD0) (d0 : TD0) (s_2 : Int × List TD0) : Option (Lp (Int × List TD0) (List TD0)) :=
    bif (decide (s_2.1 < ((d0.fList.length : Nat) : Int))) then
      ((((getI d0.fList s_2.1).bind fun x_9 =>
        (rec_tree_sorted x_9).bind fun x_10 =>
        need ((s_2.2.length + 1) * 80 ≤ 140737488355328) <|
        some (s_2.2 ++ [(⟨x_10.fKind, (x_10.fBool), x_10.fNum, x_10.fText, x_10.fList, x_10.fKeys⟩ : TD0)]) : Option (List TD0))).bind fun y_4 =>
      need (inR .i64 (s_2.1 + 1)) <|
      some (.nx (s_2.1 + 1, y_4)))
    else
      some (.br s_2.2)
def tree_sorted_b (n : Nat) (rec_tree_sorted : TD0 → Option TD0) (d0 : TD0) : Option TD0 :=
  bif (decide (d0.fKind = 5)) then
    ((tree_order n d0).bind fun x_1 =>
    (loopF (tree_sorted_s1 n rec_tree_sorted d0 x_1) n ((0 : Int), ([] : List TD0), ([] : List (List UInt8)))).bind fun y_3 =>
    some ((⟨d0.fKind, (d0.fBool), d0.fNum, d0.fText, y_3.1, y_3.2⟩ : TD0)))
  else
    (loopF (tree_sorted_s2 n rec_tree_sorted d0) n ((0 : Int), ([] : List TD0))).bind fun y_5 =>
    some ((⟨d0.fKind, (d0.fBool), d0.fNum, d0.fText, y_5, ([] : List (List UInt8))⟩ : TD0))
set_option maxRecDepth 20000 in
theorem tree_sorted_b_ok (n : Nat) (rec_tree_sorted : TD0 → Option TD0) (hrec_tree_sorted : ∀ (M : Mem) (hG : GL M) (ad0 : Addr) (c0 : List Value) (d0 : TD0) (h0 : Rep M (emb_TD0 d0) c0) (q0 : ∀ j v, c0[j]? = some v → M.cell? (ad0.add j) = some v) (r : TD0) (hF : rec_tree_sorted d0 = some r), Ok Tryd.prog M 32 [.pointer (some ad0)] (fun M' v => ∃ (c0 : List Value), v = .agg c0.toArray ∧ Rep M' (emb_TD0 r) c0)) (M : Mem) (hG : GL M) (ad0 : Addr) (c0 : List Value) (d0 : TD0) (h0 : Rep M (emb_TD0 d0) c0) (q0 : ∀ j v, c0[j]? = some v → M.cell? (ad0.add j) = some v) (r : TD0) (hF : tree_sorted_b n rec_tree_sorted d0 = some r) : Ok Tryd.prog M 32 [.pointer (some ad0)] (fun M' v => ∃ (c0 : List Value), v = .agg c0.toArray ∧ Rep M' (emb_TD0 r) c0) := by
 unfold tree_sorted_b at hF
 intro M1 hM0 w0 H w p0
 replace hG := GL.mono hM0 hG
 replace h0 := Rep.mono hM0 _ _ h0
 replace q0 := fun j v h => hM0.cell (q0 j v h)
 obtain ⟨A_1, cap_1, A_2, cap_2, rfl, h_1, h_2⟩ := TD0.opn h0
 refine R_enter 84 Tryd.func32 rfl rfl (by simp) fun a0 f0 => RR (Y12 f0 p0 (.cells #[.int .i8 0, .bool false, .int .i64 0, S [], .slice none 0 0, .slice none 0 0] 26 (0, 0)) fun b_1 w_1 p_1 _ f => eT (R_seq (R_mix (E := []) (Hr := ((Ent.obj b_1 (.cells #[.int .i8 0, .bool false, .int .i64 0, S [], .slice none 0 0, .slice none 0 0] 26 (0, 0))) :: H)) [(0, true), (1, true), (2, true), (3, true), (4, true), (5, true), (6, true), (7, true), (8, true), (9, true), (10, true), (11, true), (12, true), (13, true), (14, true), (15, true), (16, true), (17, false), (18, false)] p_1 (by kernel_rfl) (by kernel_rfl) rfl (by kernel_rfl) (Y0 default f 3 fun _ f => M_eq (v := .int .i8 d0.fKind) f (by kernel_rfl) (by kernel_rfl) rfl rfl (fun _ pq => Y32 (v := .int .i8 d0.fKind) rfl (ad := ad0.add 0) (pq.cell (q0 0 _ rfl))) fun _ f => Y0 default f 3 fun _ f => M_eq (v := .bool d0.fBool) f (by kernel_rfl) (by kernel_rfl) rfl rfl (fun _ pq => Y32 (v := .bool d0.fBool) rfl (ad := ad0.add 1) (pq.cell (q0 1 _ rfl))) fun _ f => Y0 default f 3 fun _ f => M_eq (v := .int .i64 d0.fNum) f (by kernel_rfl) (by kernel_rfl) rfl rfl (fun _ pq => Y32 (v := .int .i64 d0.fNum) rfl (ad := ad0.add 2) (pq.cell (q0 2 _ rfl))) fun _ f => ?_))))
 refine Y0 default f 3 fun _ f => M_eq (v := S d0.fText) f (by kernel_rfl) (by kernel_rfl) rfl rfl (fun _ pq => Y32 (v := S d0.fText) rfl (ad := ad0.add 3) (pq.cell (q0 3 _ rfl))) fun _ f => Y0 default f 1 fun _ f => M_fix (E := []) fun w_2 p_2 => Y12 f p_2 (.cells #[.int .i8 0, .bool false, .int .i64 0, S [], .slice none 0 0, .slice none 0 0] 26 (0, 0)) fun b_2 w_3 p_3 _ f => W_end rfl (M_go (M1 := M1) (E := [Ent.obj b_2 (.cells #[.int .i8 0, .bool false, .int .i64 0, S [], .slice none 0 0, .slice none 0 0] 26 (0, 0))]) (mR _) p_3 (M_fix (E := [Ent.obj b_2 (.cells #[.int .i8 0, .bool false, .int .i64 0, S [], .slice none 0 0, .slice none 0 0] 26 (0, 0))]) fun w_4 p_4 => Y27 (vs := [.int .i8 d0.fKind, .bool d0.fBool, .int .i64 d0.fNum, S d0.fText, .slice none 0 0, .slice none 0 0]) (j := 0) f p_4 rfl rfl (by simp [Value.oneCell', S]) (by simp) (by decide) (cs' := #[.int .i8 d0.fKind, .bool d0.fBool, .int .i64 d0.fNum, S d0.fText, .slice none 0 0, .slice none 0 0]) (by kernel_rfl) fun w_5 p_5 _ f => W_end rfl (M_go (M1 := M1) (E := [Ent.obj b_2 (.cells #[.int .i8 d0.fKind, .bool d0.fBool, .int .i64 d0.fNum, S d0.fText, .slice none 0 0, .slice none 0 0] 26 (0, 0))]) (mR _) p_5 ?_)))
 refine M_end rfl fun w_6 p_6 => T_n (R_seq (RR (Y f 3 fun _ f => Y15 f p_6 q0 0 rfl fun _ f => Y f 1 fun _ f => eT (RcF f hF (fun h_3 hF_1 => ?_) fun h_3 hF_15 => ?_))))
 ·have k_1 := dI.1 h_3
  refine R_seq (RR (Y f 1 fun _ f => ?_))
  obtain ⟨x_1, hx_1, hF_2⟩ := bS hF_1
  refine Y17 (E := []) (H := ((Ent.obj b_2 (.cells #[.int .i8 d0.fKind, .bool d0.fBool, .int .i64 d0.fNum, S d0.fText, .slice none 0 0, .slice none 0 0] 26 (0, 0))) :: (Ent.obj b_1 (.cells #[.int .i8 0, .bool false, .int .i64 0, S [], .slice none 0 0, .slice none 0 0] 26 (0, 0))) :: H)) f p_6 (tree_order_ok n _ hG ad0 [.int .i8 d0.fKind, .bool d0.fBool, .int .i64 d0.fNum, S d0.fText, .slice A_1 d0.fList.length cap_1, .slice A_2 d0.fKeys.length cap_2] d0 (TD0.shutx (x := d0) h_1 h_2) (fz_at (q0) 0 rfl) x_1 hx_1) fun _ M_1 E_1 w_7 hM_1 p_7 q_1 _ f => ?_
  obtain ⟨A_3, cap_3, cs_1, rfl, rfl, hr_1⟩ := q_1
  refine Y f 2 fun _ f => eT (wp_block ?_)
  obtain ⟨A_4, cap_4, hv_1⟩ : ∃ A cap, Value.slice none 0 0 = .slice A ([] : List TD0).length cap := ⟨none, 0, rfl⟩
  have p_8 : Hp w0 M_1 ((Ent.row 26 6 (.slice A_4 ([] : List TD0).length cap_4) ([] : List TD0).length []) :: (Ent.row 3 1 (.slice A_3 x_1.length cap_3) x_1.length cs_1) :: (Ent.obj b_2 (.cells #[.int .i8 d0.fKind, .bool d0.fBool, .int .i64 d0.fNum, S d0.fText, .slice A_4 ([] : List TD0).length cap_4, .slice none 0 0] 26 (0, 0))) :: (Ent.obj b_1 (.cells #[.int .i8 0, .bool false, .int .i64 0, S [], .slice none 0 0, .slice none 0 0] 26 (0, 0))) :: H) w_7 := by rw [← hv_1]; exact p_7.nilRow 26 6
  have hr_2 : RepSeq M_1 (([] : List TD0).map emb_TD0) [] := rfl
  obtain ⟨A_5, cap_5, hv_2⟩ : ∃ A cap, Value.slice none 0 0 = .slice A ([] : List (List UInt8)).length cap := ⟨none, 0, rfl⟩
  have p_9 : Hp w0 M_1 ((Ent.row 9 1 (.slice A_5 ([] : List (List UInt8)).length cap_5) ([] : List (List UInt8)).length []) :: (Ent.row 26 6 (.slice A_4 ([] : List TD0).length cap_4) ([] : List TD0).length []) :: (Ent.row 3 1 (.slice A_3 x_1.length cap_3) x_1.length cs_1) :: (Ent.obj b_2 (.cells #[.int .i8 d0.fKind, .bool d0.fBool, .int .i64 d0.fNum, S d0.fText, .slice A_4 ([] : List TD0).length cap_4, .slice A_5 ([] : List (List UInt8)).length cap_5] 26 (0, 0))) :: (Ent.obj b_1 (.cells #[.int .i8 0, .bool false, .int .i64 0, S [], .slice none 0 0, .slice none 0 0] 26 (0, 0))) :: H) w_7 := by rw [← hv_2]; exact p_8.nilRow 9 1
  have hr_3 : RepSeq M_1 (([] : List (List UInt8)).map Dat.str) [] := rfl
  have p_14 := p_9.pl [4, 4, 4, 3, 4]
  obtain ⟨b_3, hL_1, hF_3⟩ := bS hF_2
  refine wp_mono (Q := fun e a w => (e = .exit 0 ∧ (∃ y_3 : List TD0 × List (List UInt8), b_3 = y_3 ∧ ∃ M_7 : Mem, M_1.le M_7 ∧ ∃ (A_22 : Option Addr), ∃ (cap_23 : Nat), ∃ (cs_10 : List Value), ∃ (A_23 : Option Addr), ∃ (cap_24 : Nat), ∃ (cs_11 : List Value), RepSeq M_7 (y_3.1.map emb_TD0) cs_10 ∧ RepSeq M_7 (y_3.2.map Dat.str) cs_11 ∧ Frm 84 [(2, .pointer (some (⟨b_1, 0, none⟩))), (3, .pointer (some (⟨b_2, 0, none⟩)))] a ∧ Hp w0 M_7 ((Ent.row 26 6 (.slice A_22 y_3.1.length cap_23) y_3.1.length cs_10) :: (Ent.row 9 1 (.slice A_23 y_3.2.length cap_24) y_3.2.length cs_11) :: (Ent.row 3 1 (.slice A_3 x_1.length cap_3) x_1.length cs_1) :: (Ent.obj b_2 (.cells #[.int .i8 d0.fKind, .bool d0.fBool, .int .i64 d0.fNum, S d0.fText, .slice A_22 y_3.1.length cap_23, .slice A_23 y_3.2.length cap_24] 26 (0, 0))) :: (Ent.obj b_1 (.cells #[.int .i8 0, .bool false, .int .i64 0, S [], .slice none 0 0, .slice none 0 0] 26 (0, 0))) :: H) w))) (R_loop (n := 84) (w0 := w0) (M := M_1) (fun (x : Nat × (Int × List TD0 × List (List UInt8)) × (Option Addr) × Nat × (List Value) × (Option Addr) × Nat × (List Value)) => match x with | (m_1, s_1, A_6, cap_6, cs_2, A_7, cap_7, cs_3) => [(0, .pointer (some ad0)), (2, .pointer (some (⟨b_1, 0, none⟩))), (3, .pointer (some (⟨b_2, 0, none⟩))), (30, .slice A_3 x_1.length cap_3), (31, .int .i64 ((x_1.length : Nat) : Int)), (32, .int .i64 s_1.1)]) (fun (x : Nat × (Int × List TD0 × List (List UInt8)) × (Option Addr) × Nat × (List Value) × (Option Addr) × Nat × (List Value)) => match x with | (m_1, s_1, A_6, cap_6, cs_2, A_7, cap_7, cs_3) => ((Ent.row 26 6 (.slice A_6 s_1.2.1.length cap_6) s_1.2.1.length cs_2) :: (Ent.row 9 1 (.slice A_7 s_1.2.2.length cap_7) s_1.2.2.length cs_3) :: (Ent.row 3 1 (.slice A_3 x_1.length cap_3) x_1.length cs_1) :: (Ent.obj b_2 (.cells #[.int .i8 d0.fKind, .bool d0.fBool, .int .i64 d0.fNum, S d0.fText, .slice A_6 s_1.2.1.length cap_6, .slice A_7 s_1.2.2.length cap_7] 26 (0, 0))) :: (Ent.obj b_1 (.cells #[.int .i8 0, .bool false, .int .i64 0, S [], .slice none 0 0, .slice none 0 0] 26 (0, 0))) :: H)) (fun (x : Nat × (Int × List TD0 × List (List UInt8)) × (Option Addr) × Nat × (List Value) × (Option Addr) × Nat × (List Value)) (MM : Mem) => match x with | (m_1, s_1, A_6, cap_6, cs_2, A_7, cap_7, cs_3) => loopF (tree_sorted_s1 n rec_tree_sorted d0 x_1) m_1 s_1 = some b_3 ∧ RepSeq MM (s_1.2.1.map emb_TD0) cs_2 ∧ RepSeq MM (s_1.2.2.map Dat.str) cs_3) (fun (x : Nat × (Int × List TD0 × List (List UInt8)) × (Option Addr) × Nat × (List Value) × (Option Addr) × Nat × (List Value)) => match x with | (m_1, s_1, A_6, cap_6, cs_2, A_7, cap_7, cs_3) => m_1) (n, ((0 : Int), ([] : List TD0), ([] : List (List UInt8))), A_4, cap_4, [], A_5, cap_5, []) (f.kp) p_14 ⟨hL_1, hr_2, hr_3⟩ ?_) ?_
  ·rintro ⟨m_1, s_1, A_6, cap_6, cs_2, A_7, cap_7, cs_3⟩ M_2 _ w_8 hM_2 I_1 f p_15
   obtain ⟨I_1L, hr_4, hr_5⟩ := I_1
   obtain ⟨m_2, r_1, rfl, hs_1, hn_1⟩ := loop_step I_1L
   unfold tree_sorted_s1 at hs_1
   refine RR (Y f 1 fun _ f => eT (R_seq (RcF f hs_1 (fun h_4 hF_4 => ?_) fun h_4 hF_14 => ?_)))
   ·have k_2 := dI.1 h_4
    refine wp_skip (T_n (R_seq (wp_block (RR ?_))))
    obtain ⟨x_2, hx_2, hF_5⟩ := bS hF_4
    obtain ⟨b_4, cap_8, hv_3, hcap_1⟩ := p_15.rowAddr 2 rfl (getI_pos hx_2)
    have f := f.st 30 (hv_3)
    refine Z f (Y30 rfl (ad := ⟨b_4, 0, none⟩) (len := x_1.length) (cap := cap_8) (k := .i64) (i := s_1.1) (e := 3) (sz := 1) (getI_nn hx_2) (getI_lt hx_2)) fun _ f => ?_
    have f := f.st 30 (hv_3.symm)
    obtain ⟨c_1, -, hr_6, hc_1⟩ := RepSeq.get s_1.1.toNat (szd_all (szd_int .i64)) (RepSeq.mono hM_2 _ _ hr_1) (getI_map hx_2)
    obtain rfl : c_1 = [.int .i64 x_2] := hr_6
    refine Z f (Y32 (v := .int .i64 x_2) rfl (ad := (⟨b_4, 0, none⟩ : Addr).add (s_1.1.toNat * 1)) (by simpa [Addr.add] using (fun j v h => row_at (p_15.rowCell 2 rfl hv_3) hc_1 j v h) 0 _ rfl)) fun _ f => Y f 1 fun _ f => eT (R_seq ?_)
    obtain ⟨j_1, hj_1, hF_6⟩ := bS hF_5
    refine R_mid (fun a_46 w_17 => ∃ y_1 : List (List UInt8), j_1 = y_1 ∧ ∃ M_3 : Mem, M_2.le M_3 ∧ ∃ (A_10 : Option Addr), ∃ (cap_11 : Nat), ∃ (cs_6 : List Value), RepSeq M_3 (y_1.map Dat.str) cs_6 ∧ Frm 84 [(0, .pointer (some ad0)), (2, .pointer (some (⟨b_1, 0, none⟩))), (3, .pointer (some (⟨b_2, 0, none⟩))), (5, .int .i64 x_2), (30, .slice A_3 x_1.length cap_3), (31, .int .i64 ((x_1.length : Nat) : Int)), (32, .int .i64 s_1.1)] a_46 ∧ Hp w0 M_3 ((Ent.row 9 1 (.slice A_10 y_1.length cap_11) y_1.length cs_6) :: (Ent.row 26 6 (.slice A_6 s_1.2.1.length cap_6) s_1.2.1.length cs_2) :: (Ent.row 3 1 (.slice A_3 x_1.length cap_3) x_1.length cs_1) :: (Ent.obj b_2 (.cells #[.int .i8 d0.fKind, .bool d0.fBool, .int .i64 d0.fNum, S d0.fText, .slice A_6 s_1.2.1.length cap_6, .slice A_10 y_1.length cap_11] 26 (0, 0))) :: (Ent.obj b_1 (.cells #[.int .i8 0, .bool false, .int .i64 0, S [], .slice none 0 0, .slice none 0 0] 26 (0, 0))) :: H) w_17) ?_ ?_
    ·have p_25 := p_15.pl [4, 4, 4, 3, 4]
     obtain ⟨x_3, hx_3, hF_7⟩ := bS hj_1
     obtain ⟨g_1, hF_8⟩ := nS hF_7
     refine R_plan (ks := [11, 12]) (E := [Ent.row 9 1 (.slice A_7 s_1.2.2.length cap_7) s_1.2.2.length cs_3]) (Hr := ((Ent.row 26 6 (.slice A_6 s_1.2.1.length cap_6) s_1.2.1.length cs_2) :: (Ent.row 3 1 (.slice A_3 x_1.length cap_3) x_1.length cs_1) :: (Ent.obj b_2 (.cells #[.int .i8 d0.fKind, .bool d0.fBool, .int .i64 d0.fNum, S d0.fText, .slice A_6 s_1.2.1.length cap_6, .slice A_7 s_1.2.2.length cap_7] 26 (0, 0))) :: (Ent.obj b_1 (.cells #[.int .i8 0, .bool false, .int .i64 0, S [], .slice none 0 0, .slice none 0 0] 26 (0, 0))) :: H)) (.quiet 0 (.quiet 1 (.quiet 2 (.quiet 3 (.quiet 4 (.quiet 5 (.quiet 6 (.quiet 7 (.quiet 8 (.alt 9 (.alt 10 .done .none) .none)))))))))) p_25 (by kernel_rfl) (by kernel_rfl) (by kernel_rfl) (Y1 (v := .pointer (some (⟨b_2, 5, none⟩))) rfl f rfl rfl (fun _ _ => by kernel_rfl) fun _ f => Y1 (v := .slice A_7 s_1.2.2.length cap_7) rfl f rfl rfl (fun _ pq => Y32 (v := .slice A_7 s_1.2.2.length cap_7) rfl (ad := ⟨b_2, 5, none⟩) (pq.ownCell 2 rfl 5)) fun _ f => Y1 (v := .pointer (some ad0)) rfl f rfl rfl (fun _ _ => by kernel_rfl) fun _ f => Y1 (v := .pointer (some ad0)) rfl f rfl rfl (fun _ _ => by kernel_rfl) fun _ f => Y1 (v := .pointer (some (ad0.add 5))) rfl f rfl rfl (fun _ _ => by kernel_rfl) fun _ f => Y1 (v := .slice A_2 d0.fKeys.length cap_2) rfl f rfl rfl (fun _ pq => Y32 (v := .slice A_2 d0.fKeys.length cap_2) rfl (ad := ad0.add 5) (pq.cell ((fzu (hM_1.trans hM_2) q0) 5 _ rfl))) fun _ f => Y1 (v := .int .i64 x_2) rfl f rfl rfl (fun _ _ => by kernel_rfl) fun _ f => ?_)
     obtain ⟨ad_2, c_3, e_2, -, hr_9, hc_3⟩ := Sli.at_ (h_2.mono (hM_1.trans hM_2)) hx_3
     obtain rfl : c_3 = [S x_3] := hr_9
     refine Y1 (v := .pointer (some (ad_2.add (x_2.toNat * 1)))) rfl f rfl rfl (fun _ pq => Y31 e_2 rfl (len := d0.fKeys.length) (cap := cap_2) (k := .i64) (i := x_2) (e := 9) (sz := 1) (getI_nn hx_3) (getI_lt hx_3)) fun _ f => Y1 (v := S x_3) rfl f rfl rfl (fun _ pq => Y32 (v := S x_3) rfl (ad := ad_2.add (x_2.toNat * 1)) (pq.cell (hc_3 0 _ rfl))) fun _ f => N_alt rfl (fun w_11 p_26 => ?_) ?_
     ·refine V_allocS (k := 1) (c := 1) f p_26 (.cells #[S x_3] 9 (0, 0)) (by kernel_rfl) (fun _ => by kernel_rfl) fun b_6 w_12 p_27 _ f => W_end rfl (N_goN 2 (mR _) p_27 rfl (N_alt rfl (fun w_13 p_28 => ?_) ?_))
      ·have p_29 := p_28.pl [1]
       refine Y22 (z := S []) (f := Dat.str) (xs := s_1.2.2) (ys := [x_3]) (news := [S x_3]) (ad := ⟨b_6, 0, none⟩) (m := 1) (c := 1) f p_29 hr_5 (by exact ⟨_, _, rfl, rfl, rfl⟩) rfl rfl rfl rfl (own_cells (p_29.ownCell 1 rfl) 0 rfl) (by exact g_1) (by have hg_ := g_1; first | omega | (simp only [List.length_cons, List.length_nil] at *; omega)) fun A_9 cap_10 cs_5 w_14 p_30 hr_10 _ f => ?_
       have p_31 := p_30.pl [1]
       have p_32 := p_31.drop
       refine W_end rfl (N_goN 1 (mR _) p_32 rfl (N_tail fun w_15 p_33 => Y f 1 fun _ f => Y26 f p_33 3 rfl rfl (b := b_2) (j := 5) (v := .slice A_9 (s_1.2.2 ++ [x_3]).length cap_10) rfl (by exact rfl) (by simp) (by simp) ((Ent.row 9 1 (.slice A_9 (s_1.2.2 ++ [x_3]).length cap_10) (s_1.2.2 ++ [x_3]).length cs_5) :: (Ent.row 26 6 (.slice A_6 s_1.2.1.length cap_6) s_1.2.1.length cs_2) :: (Ent.row 3 1 (.slice A_3 x_1.length cap_3) x_1.length cs_1) :: (Ent.obj b_2 (.cells #[.int .i8 d0.fKind, .bool d0.fBool, .int .i64 d0.fNum, S d0.fText, .slice A_6 s_1.2.1.length cap_6, .slice A_9 (s_1.2.2 ++ [x_3]).length cap_10] 26 (0, 0))) :: (Ent.obj b_1 (.cells #[.int .i8 0, .bool false, .int .i64 0, S [], .slice none 0 0, .slice none 0 0] 26 (0, 0))) :: H) rfl fun w_16 p_34 _ f => W_end rfl (N_te (T_n ?_))))
       exact ⟨s_1.2.2 ++ [x_3], (sI hF_8).symm, M_2, (mR _), A_9, cap_10, cs_5, hr_10, f.kp, p_34⟩
      exact N_none
     exact N_none
    ·rintro a_46 w_17 ⟨y_1, hq_1, M_3, hM_3, A_10, cap_11, cs_6, hr_11, f, p_35⟩
     subst j_1
     refine T_n ?_
     obtain ⟨j_2, hj_2, hF_9⟩ := bS hF_6
     refine R_mid (fun a_69 w_29 => ∃ y_2 : List TD0, j_2 = y_2 ∧ ∃ M_6 : Mem, M_3.le M_6 ∧ ∃ (A_21 : Option Addr), ∃ (cap_22 : Nat), ∃ (cs_9 : List Value), RepSeq M_6 (y_2.map emb_TD0) cs_9 ∧ Frm 84 [(0, .pointer (some ad0)), (2, .pointer (some (⟨b_1, 0, none⟩))), (3, .pointer (some (⟨b_2, 0, none⟩))), (30, .slice A_3 x_1.length cap_3), (31, .int .i64 ((x_1.length : Nat) : Int)), (32, .int .i64 s_1.1)] a_69 ∧ Hp w0 M_6 ((Ent.row 26 6 (.slice A_21 y_2.length cap_22) y_2.length cs_9) :: (Ent.row 9 1 (.slice A_10 y_1.length cap_11) y_1.length cs_6) :: (Ent.row 3 1 (.slice A_3 x_1.length cap_3) x_1.length cs_1) :: (Ent.obj b_2 (.cells #[.int .i8 d0.fKind, .bool d0.fBool, .int .i64 d0.fNum, S d0.fText, .slice A_21 y_2.length cap_22, .slice A_10 y_1.length cap_11] 26 (0, 0))) :: (Ent.obj b_1 (.cells #[.int .i8 0, .bool false, .int .i64 0, S [], .slice none 0 0, .slice none 0 0] 26 (0, 0))) :: H) w_29) ?_ ?_
     ·have p_46 := p_35.pl [4, 4, 4, 3, 4]
      obtain ⟨x_5, hx_4, hF_10⟩ := bS hj_2
      obtain ⟨x_6, hx_5, hF_11⟩ := bS hF_10
      obtain ⟨g_2, hF_12⟩ := nS hF_11
      refine R_plan (ks := [11, 12]) (E := [Ent.row 26 6 (.slice A_6 s_1.2.1.length cap_6) s_1.2.1.length cs_2]) (Hr := ((Ent.row 9 1 (.slice A_10 y_1.length cap_11) y_1.length cs_6) :: (Ent.row 3 1 (.slice A_3 x_1.length cap_3) x_1.length cs_1) :: (Ent.obj b_2 (.cells #[.int .i8 d0.fKind, .bool d0.fBool, .int .i64 d0.fNum, S d0.fText, .slice A_6 s_1.2.1.length cap_6, .slice A_10 y_1.length cap_11] 26 (0, 0))) :: (Ent.obj b_1 (.cells #[.int .i8 0, .bool false, .int .i64 0, S [], .slice none 0 0, .slice none 0 0] 26 (0, 0))) :: H)) (.quiet 0 (.quiet 1 (.quiet 2 (.quiet 3 (.quiet 4 (.quiet 5 (.quiet 6 (.quiet 7 (.alt 8 (.alt 9 (.alt 10 .done .none) .none) .none))))))))) p_46 (by kernel_rfl) (by kernel_rfl) (by kernel_rfl) (Y1 (v := .pointer (some (⟨b_2, 4, none⟩))) rfl f rfl rfl (fun _ _ => by kernel_rfl) fun _ f => Y1 (v := .slice A_6 s_1.2.1.length cap_6) rfl f rfl rfl (fun _ pq => Y32 (v := .slice A_6 s_1.2.1.length cap_6) rfl (ad := ⟨b_2, 4, none⟩) (pq.ownCell 2 rfl 4)) fun _ f => Y1 (v := .pointer (some ad0)) rfl f rfl rfl (fun _ _ => by kernel_rfl) fun _ f => Y1 (v := .pointer (some ad0)) rfl f rfl rfl (fun _ _ => by kernel_rfl) fun _ f => Y1 (v := .pointer (some (ad0.add 4))) rfl f rfl rfl (fun _ _ => by kernel_rfl) fun _ f => Y1 (v := .slice A_1 d0.fList.length cap_1) rfl f rfl rfl (fun _ pq => Y32 (v := .slice A_1 d0.fList.length cap_1) rfl (ad := ad0.add 4) (pq.cell ((fzu ((hM_1.trans hM_2).trans hM_3) q0) 4 _ rfl))) fun _ f => Y1 (v := .int .i64 x_2) rfl f rfl rfl (fun _ _ => by kernel_rfl) fun _ f => ?_)
      obtain ⟨ad_4, c_6, e_4, -, hr_15, hc_5⟩ := Sli.at_ (h_1.mono ((hM_1.trans hM_2).trans hM_3)) hx_4
      obtain ⟨A_16, cap_17, A_17, cap_18, rfl, h_9, h_10⟩ := TD0.opn hr_15
      refine Y1 (v := .pointer (some (ad_4.add (x_2.toNat * 6)))) rfl f rfl rfl (fun _ pq => Y31 e_4 rfl (len := d0.fList.length) (cap := cap_1) (k := .i64) (i := x_2) (e := 26) (sz := 6) (getI_nn hx_4) (getI_lt hx_4)) fun _ f => N_alt rfl (fun w_21 p_47 => ?_) ?_
      ·refine Y16 f p_47 (hrec_tree_sorted _ (GL.mono ((hM_1.trans hM_2).trans hM_3) hG) (ad_4.add (x_2.toNat * 6)) [.int .i8 x_5.fKind, .bool x_5.fBool, .int .i64 x_5.fNum, S x_5.fText, .slice A_16 x_5.fList.length cap_17, .slice A_17 x_5.fKeys.length cap_18] x_5 (TD0.shutx (x := x_5) h_9 h_10) (fz_at (hc_5) 0 rfl) x_6 hx_5) fun _ M_5 w_22 hM_5 p_48 q_3 _ f => ?_
       obtain ⟨c_7, rfl, hr_16⟩ := q_3
       obtain ⟨A_18, cap_19, A_19, cap_20, rfl, h_11, h_12⟩ := TD0.opn hr_16
       refine W_end rfl (N_goN 1 hM_5 p_48 rfl (N_alt rfl (fun w_23 p_49 => ?_) ?_))
       ·refine V_allocS (k := 1) (c := 1) f p_49 (.cells #[.int .i8 x_6.fKind, .bool x_6.fBool, .int .i64 x_6.fNum, S x_6.fText, .slice A_18 x_6.fList.length cap_19, .slice A_19 x_6.fKeys.length cap_20] 26 (0, 0)) (by kernel_rfl) (fun _ => by kernel_rfl) fun b_8 w_24 p_50 _ f => W_end rfl (N_goN 2 hM_5 p_50 rfl (N_alt rfl (fun w_25 p_51 => ?_) ?_))
        ·have p_52 := p_51.pl [1]
         refine Y22 (z := .agg #[.int .i8 0, .bool false, .int .i64 0, S [], .slice none 0 0, .slice none 0 0]) (f := emb_TD0) (xs := s_1.2.1) (ys := [(⟨x_6.fKind, (x_6.fBool), x_6.fNum, x_6.fText, x_6.fList, x_6.fKeys⟩ : TD0)]) (news := [.int .i8 x_6.fKind, .bool x_6.fBool, .int .i64 x_6.fNum, S x_6.fText, .slice A_18 x_6.fList.length cap_19, .slice A_19 x_6.fKeys.length cap_20]) (ad := ⟨b_8, 0, none⟩) (m := 1) (c := 1) f p_52 (RepSeq.mono (hM_3.trans hM_5) _ _ hr_4) (by exact ⟨_, _, rfl, TD0.shut h_11 h_12, rfl⟩) rfl rfl rfl rfl (own_cells (p_52.ownCell 1 rfl) 0 rfl) (by exact g_2) (by have hg_ := g_2; first | omega | (simp only [List.length_cons, List.length_nil] at *; omega)) fun A_20 cap_21 cs_8 w_26 p_53 hr_17 _ f => ?_
         have p_54 := p_53.pl [1]
         have p_55 := p_54.drop
         refine W_end rfl (N_goN 1 hM_5 p_55 rfl (N_tail fun w_27 p_56 => Y f 1 fun _ f => Y26 f p_56 3 rfl rfl (b := b_2) (j := 4) (v := .slice A_20 (s_1.2.1 ++ [(⟨x_6.fKind, (x_6.fBool), x_6.fNum, x_6.fText, x_6.fList, x_6.fKeys⟩ : TD0)]).length cap_21) rfl (by exact rfl) (by simp) (by simp) ((Ent.row 26 6 (.slice A_20 (s_1.2.1 ++ [(⟨x_6.fKind, (x_6.fBool), x_6.fNum, x_6.fText, x_6.fList, x_6.fKeys⟩ : TD0)]).length cap_21) (s_1.2.1 ++ [(⟨x_6.fKind, (x_6.fBool), x_6.fNum, x_6.fText, x_6.fList, x_6.fKeys⟩ : TD0)]).length cs_8) :: (Ent.row 9 1 (.slice A_10 y_1.length cap_11) y_1.length cs_6) :: (Ent.row 3 1 (.slice A_3 x_1.length cap_3) x_1.length cs_1) :: (Ent.obj b_2 (.cells #[.int .i8 d0.fKind, .bool d0.fBool, .int .i64 d0.fNum, S d0.fText, .slice A_20 (s_1.2.1 ++ [(⟨x_6.fKind, (x_6.fBool), x_6.fNum, x_6.fText, x_6.fList, x_6.fKeys⟩ : TD0)]).length cap_21, .slice A_10 y_1.length cap_11] 26 (0, 0))) :: (Ent.obj b_1 (.cells #[.int .i8 0, .bool false, .int .i64 0, S [], .slice none 0 0, .slice none 0 0] 26 (0, 0))) :: H) rfl fun w_28 p_57 _ f => W_end rfl (N_te (T_n ?_))))
         exact ⟨s_1.2.1 ++ [(⟨x_6.fKind, (x_6.fBool), x_6.fNum, x_6.fText, x_6.fList, x_6.fKeys⟩ : TD0)], (sI hF_12).symm, M_5, hM_5, A_20, cap_21, cs_8, hr_17, f.kp, p_57⟩
        exact N_none
       exact N_none
      exact N_none
     ·rintro a_69 w_29 ⟨y_2, hq_2, M_6, hM_6, A_21, cap_22, cs_9, hr_18, f, p_58⟩
      subst j_2
      refine B_n (T_n (R_reg ?_))
      obtain ⟨g_3, hF_13⟩ := nS hF_9
      refine Y f 1 fun _ f => ?_
      have f := f.st 60 (congrArg (Value.int .i64) (inR_wrap g_3))
      refine Y f 1 fun _ f => eT ?_
      obtain rfl := sI hF_13
      exact ⟨⟨m_2, (s_1.1 + 1, y_2, y_1), A_21, cap_22, cs_9, A_10, cap_11, cs_6⟩, Nat.lt_succ_self _, M_6, ((hM_2.trans hM_3).trans hM_6), ⟨hn_1, hr_18, (RepSeq.mono hM_6 _ _ hr_11)⟩, f.kp, p_58⟩
   ·have k_3 := iff_f dI h_4
    refine wp_exit (T_x (T_x ?_))
    obtain rfl := sI hF_14
    exact ⟨rfl, (s_1.2.1, s_1.2.2), (sI hn_1).symm, M_2, hM_2, A_6, cap_6, cs_2, A_7, cap_7, cs_3, hr_4, hr_5, f.kp, p_15⟩
  ·rintro _ _ w_31 ⟨rfl, y_3, hq_, M_7, hM_7, A_22, cap_23, cs_10, A_23, cap_24, cs_11, hr_19, hr_20, f, p_59⟩
   subst b_3
   refine B_x (T_n (RR (Z (v := .agg #[.int .i8 d0.fKind, .bool d0.fBool, .int .i64 d0.fNum, S d0.fText, .slice A_22 y_3.1.length cap_23, .slice A_23 y_3.2.length cap_24]) f (Y33 (cs := [.int .i8 d0.fKind, .bool d0.fBool, .int .i64 d0.fNum, S d0.fText, .slice A_22 y_3.1.length cap_23, .slice A_23 y_3.2.length cap_24]) rfl (ad := ⟨b_2, 0, none⟩) (own_cells (p_59.ownCell 3 rfl) 0 rfl)) fun _ f => ?_)))
   obtain ⟨A_24, cap_25, M_8, hv_4, hM_8, p_60, h_13⟩ := p_59.rowSli (f := emb_TD0) (xs := y_3.1) szd_TD0 hr_19
   have f := Frm.set f 61 (v := .agg #[.int .i8 d0.fKind, .bool d0.fBool, .int .i64 d0.fNum, S d0.fText, .slice A_22 y_3.1.length cap_23, .slice A_23 y_3.2.length cap_24]) (v' := .agg #[.int .i8 d0.fKind, .bool d0.fBool, .int .i64 d0.fNum, S d0.fText, .slice A_24 y_3.1.length cap_25, .slice A_23 y_3.2.length cap_24]) (by kernel_rfl) (by rw [hv_4])
   have p_61 : Hp w0 M_8 ((Ent.row 9 1 (.slice A_23 y_3.2.length cap_24) y_3.2.length cs_11) :: (Ent.row 3 1 (.slice A_3 x_1.length cap_3) x_1.length cs_1) :: (Ent.obj b_2 (.cells #[.int .i8 d0.fKind, .bool d0.fBool, .int .i64 d0.fNum, S d0.fText, .slice A_24 y_3.1.length cap_25, .slice A_23 y_3.2.length cap_24] 26 (0, 0))) :: (Ent.obj b_1 (.cells #[.int .i8 0, .bool false, .int .i64 0, S [], .slice none 0 0, .slice none 0 0] 26 (0, 0))) :: H) w_31 := by rw [hv_4] at p_60; exact p_60
   obtain ⟨A_25, cap_26, M_9, hv_5, hM_9, p_62, h_14⟩ := p_61.rowSli (f := Dat.str) (xs := y_3.2) szd_str (RepSeq.mono hM_8 _ _ hr_20)
   have f := Frm.set f 61 (v := .agg #[.int .i8 d0.fKind, .bool d0.fBool, .int .i64 d0.fNum, S d0.fText, .slice A_24 y_3.1.length cap_25, .slice A_23 y_3.2.length cap_24]) (v' := .agg #[.int .i8 d0.fKind, .bool d0.fBool, .int .i64 d0.fNum, S d0.fText, .slice A_24 y_3.1.length cap_25, .slice A_25 y_3.2.length cap_26]) (by kernel_rfl) (by rw [hv_5])
   have p_63 : Hp w0 M_9 ((Ent.row 3 1 (.slice A_3 x_1.length cap_3) x_1.length cs_1) :: (Ent.obj b_2 (.cells #[.int .i8 d0.fKind, .bool d0.fBool, .int .i64 d0.fNum, S d0.fText, .slice A_24 y_3.1.length cap_25, .slice A_25 y_3.2.length cap_26] 26 (0, 0))) :: (Ent.obj b_1 (.cells #[.int .i8 0, .bool false, .int .i64 0, S [], .slice none 0 0, .slice none 0 0] 26 (0, 0))) :: H) w_31 := by rw [hv_5] at p_62; exact p_62
   have p_64 := p_63.pl [2]
   refine Y27 (vs := [.int .i8 d0.fKind, .bool d0.fBool, .int .i64 d0.fNum, S d0.fText, .slice A_24 y_3.1.length cap_25, .slice A_25 y_3.2.length cap_26]) (j := 0) f p_64 rfl rfl (by simp [Value.oneCell', S]) (by simp) (by decide) (cs' := #[.int .i8 d0.fKind, .bool d0.fBool, .int .i64 d0.fNum, S d0.fText, .slice A_24 y_3.1.length cap_25, .slice A_25 y_3.2.length cap_26]) (by kernel_rfl) fun w_32 p_65 _ f => eT (wp_ret (T_r (E_rv1 f rfl (Y10 (cs := [.int .i8 d0.fKind, .bool d0.fBool, .int .i64 d0.fNum, S d0.fText, .slice A_24 y_3.1.length cap_25, .slice A_25 y_3.2.length cap_26]) (ad := ⟨b_1, 0, none⟩) f (own_cells (p_65.ownCell 0 rfl) 0 rfl)) ?_)))
   obtain rfl := sI hF_3
   exact ⟨_, rfl, M_9, (((hM_1.trans hM_7).trans hM_8).trans hM_9), (p_65.dropN 3), ⟨[.int .i8 d0.fKind, .bool d0.fBool, .int .i64 d0.fNum, S d0.fText, .slice A_24 y_3.1.length cap_25, .slice A_25 y_3.2.length cap_26], rfl, (TD0.shut (h_13.mono hM_9) h_14)⟩⟩
 ·have k_4 := iff_f dI h_3
  refine wp_skip (T_n (R_seq (RR (Y f 3 fun _ f => Y15 f p_6 q0 4 rfl fun _ f => Y f 2 fun _ f => eT (wp_block ?_)))))
  obtain ⟨A_26, cap_27, hv_6⟩ : ∃ A cap, Value.slice none 0 0 = .slice A ([] : List TD0).length cap := ⟨none, 0, rfl⟩
  have p_66 : Hp w0 M1 ((Ent.row 26 6 (.slice A_26 ([] : List TD0).length cap_27) ([] : List TD0).length []) :: (Ent.obj b_2 (.cells #[.int .i8 d0.fKind, .bool d0.fBool, .int .i64 d0.fNum, S d0.fText, .slice A_26 ([] : List TD0).length cap_27, .slice none 0 0] 26 (0, 0))) :: (Ent.obj b_1 (.cells #[.int .i8 0, .bool false, .int .i64 0, S [], .slice none 0 0, .slice none 0 0] 26 (0, 0))) :: H) w_6 := by rw [← hv_6]; exact p_6.nilRow 26 6
  have hr_21 : RepSeq M1 (([] : List TD0).map emb_TD0) [] := rfl
  obtain ⟨b_9, hL_2, hF_16⟩ := bS hF_15
  refine wp_mono (Q := fun e a w => (e = .exit 2 ∧ (∃ y_5 : List TD0, b_9 = y_5 ∧ ∃ M_14 : Mem, M1.le M_14 ∧ ∃ (A_39 : Option Addr), ∃ (cap_40 : Nat), ∃ (cs_16 : List Value), RepSeq M_14 (y_5.map emb_TD0) cs_16 ∧ Frm 84 [(2, .pointer (some (⟨b_1, 0, none⟩))), (3, .pointer (some (⟨b_2, 0, none⟩)))] a ∧ Hp w0 M_14 ((Ent.row 26 6 (.slice A_39 y_5.length cap_40) y_5.length cs_16) :: (Ent.obj b_2 (.cells #[.int .i8 d0.fKind, .bool d0.fBool, .int .i64 d0.fNum, S d0.fText, .slice A_39 y_5.length cap_40, .slice none 0 0] 26 (0, 0))) :: (Ent.obj b_1 (.cells #[.int .i8 0, .bool false, .int .i64 0, S [], .slice none 0 0, .slice none 0 0] 26 (0, 0))) :: H) w))) (R_loop (n := 84) (w0 := w0) (M := M1) (fun (x : Nat × (Int × List TD0) × (Option Addr) × Nat × (List Value)) => match x with | (m_3, s_2, A_27, cap_28, cs_12) => [(0, .pointer (some ad0)), (2, .pointer (some (⟨b_1, 0, none⟩))), (3, .pointer (some (⟨b_2, 0, none⟩))), (66, .int .i64 ((d0.fList.length : Nat) : Int)), (67, .int .i64 s_2.1)]) (fun (x : Nat × (Int × List TD0) × (Option Addr) × Nat × (List Value)) => match x with | (m_3, s_2, A_27, cap_28, cs_12) => ((Ent.row 26 6 (.slice A_27 s_2.2.length cap_28) s_2.2.length cs_12) :: (Ent.obj b_2 (.cells #[.int .i8 d0.fKind, .bool d0.fBool, .int .i64 d0.fNum, S d0.fText, .slice A_27 s_2.2.length cap_28, .slice none 0 0] 26 (0, 0))) :: (Ent.obj b_1 (.cells #[.int .i8 0, .bool false, .int .i64 0, S [], .slice none 0 0, .slice none 0 0] 26 (0, 0))) :: H)) (fun (x : Nat × (Int × List TD0) × (Option Addr) × Nat × (List Value)) (MM : Mem) => match x with | (m_3, s_2, A_27, cap_28, cs_12) => loopF (tree_sorted_s2 n rec_tree_sorted d0) m_3 s_2 = some b_9 ∧ RepSeq MM (s_2.2.map emb_TD0) cs_12) (fun (x : Nat × (Int × List TD0) × (Option Addr) × Nat × (List Value)) => match x with | (m_3, s_2, A_27, cap_28, cs_12) => m_3) (n, ((0 : Int), ([] : List TD0)), A_26, cap_27, []) (f.kp) p_66 ⟨hL_2, hr_21⟩ ?_) ?_
  ·rintro ⟨m_3, s_2, A_27, cap_28, cs_12⟩ M_10 _ w_33 hM_10 I_2 f p_67
   obtain ⟨I_2L, hr_22⟩ := I_2
   obtain ⟨m_4, r_2, rfl, hs_2, hn_2⟩ := loop_step I_2L
   unfold tree_sorted_s2 at hs_2
   refine RR (Y f 1 fun _ f => eT (R_seq (RcF f hs_2 (fun h_15 hF_17 => ?_) fun h_15 hF_23 => ?_)))
   ·have k_5 := dI.1 h_15
    refine wp_skip (T_n (R_seq (wp_block (RR (Y f 2 fun _ f => eT ?_)))))
    obtain ⟨j_3, hj_3, hF_18⟩ := bS hF_17
    refine R_mid (fun a_104 w_45 => ∃ y_4 : List TD0, j_3 = y_4 ∧ ∃ M_13 : Mem, M_10.le M_13 ∧ ∃ (A_38 : Option Addr), ∃ (cap_39 : Nat), ∃ (cs_15 : List Value), RepSeq M_13 (y_4.map emb_TD0) cs_15 ∧ Frm 84 [(0, .pointer (some ad0)), (2, .pointer (some (⟨b_1, 0, none⟩))), (3, .pointer (some (⟨b_2, 0, none⟩))), (66, .int .i64 ((d0.fList.length : Nat) : Int)), (67, .int .i64 s_2.1)] a_104 ∧ Hp w0 M_13 ((Ent.row 26 6 (.slice A_38 y_4.length cap_39) y_4.length cs_15) :: (Ent.obj b_2 (.cells #[.int .i8 d0.fKind, .bool d0.fBool, .int .i64 d0.fNum, S d0.fText, .slice A_38 y_4.length cap_39, .slice none 0 0] 26 (0, 0))) :: (Ent.obj b_1 (.cells #[.int .i8 0, .bool false, .int .i64 0, S [], .slice none 0 0, .slice none 0 0] 26 (0, 0))) :: H) w_45) ?_ ?_
    ·obtain ⟨x_9, hx_6, hF_19⟩ := bS hj_3
     obtain ⟨x_10, hx_7, hF_20⟩ := bS hF_19
     obtain ⟨g_4, hF_21⟩ := nS hF_20
     refine R_plan (ks := [11, 12]) (E := [Ent.row 26 6 (.slice A_27 s_2.2.length cap_28) s_2.2.length cs_12]) (Hr := ((Ent.obj b_2 (.cells #[.int .i8 d0.fKind, .bool d0.fBool, .int .i64 d0.fNum, S d0.fText, .slice A_27 s_2.2.length cap_28, .slice none 0 0] 26 (0, 0))) :: (Ent.obj b_1 (.cells #[.int .i8 0, .bool false, .int .i64 0, S [], .slice none 0 0, .slice none 0 0] 26 (0, 0))) :: H)) (.quiet 0 (.quiet 1 (.quiet 2 (.quiet 3 (.quiet 4 (.quiet 5 (.quiet 6 (.quiet 7 (.alt 8 (.alt 9 (.alt 10 .done .none) .none) .none))))))))) p_67 (by kernel_rfl) (by kernel_rfl) (by kernel_rfl) (Y1 (v := .pointer (some (⟨b_2, 4, none⟩))) rfl f rfl rfl (fun _ _ => by kernel_rfl) fun _ f => Y1 (v := .slice A_27 s_2.2.length cap_28) rfl f rfl rfl (fun _ pq => Y32 (v := .slice A_27 s_2.2.length cap_28) rfl (ad := ⟨b_2, 4, none⟩) (pq.ownCell 0 rfl 4)) fun _ f => Y1 (v := .pointer (some ad0)) rfl f rfl rfl (fun _ _ => by kernel_rfl) fun _ f => Y1 (v := .pointer (some ad0)) rfl f rfl rfl (fun _ _ => by kernel_rfl) fun _ f => Y1 (v := .pointer (some (ad0.add 4))) rfl f rfl rfl (fun _ _ => by kernel_rfl) fun _ f => Y1 (v := .slice A_1 d0.fList.length cap_1) rfl f rfl rfl (fun _ pq => Y32 (v := .slice A_1 d0.fList.length cap_1) rfl (ad := ad0.add 4) (pq.cell ((fzu hM_10 q0) 4 _ rfl))) fun _ f => Y1 (v := .int .i64 s_2.1) rfl f rfl rfl (fun _ _ => by kernel_rfl) fun _ f => ?_)
     obtain ⟨ad_6, c_10, e_6, -, hr_26, hc_7⟩ := Sli.at_ (h_1.mono hM_10) hx_6
     obtain ⟨A_33, cap_34, A_34, cap_35, rfl, h_20, h_21⟩ := TD0.opn hr_26
     refine Y1 (v := .pointer (some (ad_6.add (s_2.1.toNat * 6)))) rfl f rfl rfl (fun _ pq => Y31 e_6 rfl (len := d0.fList.length) (cap := cap_1) (k := .i64) (i := s_2.1) (e := 26) (sz := 6) (getI_nn hx_6) (getI_lt hx_6)) fun _ f => N_alt rfl (fun w_37 p_74 => ?_) ?_
     ·refine Y16 f p_74 (hrec_tree_sorted _ (GL.mono hM_10 hG) (ad_6.add (s_2.1.toNat * 6)) [.int .i8 x_9.fKind, .bool x_9.fBool, .int .i64 x_9.fNum, S x_9.fText, .slice A_33 x_9.fList.length cap_34, .slice A_34 x_9.fKeys.length cap_35] x_9 (TD0.shutx (x := x_9) h_20 h_21) (fz_at (hc_7) 0 rfl) x_10 hx_7) fun _ M_12 w_38 hM_12 p_75 q_5 _ f => ?_
      obtain ⟨c_11, rfl, hr_27⟩ := q_5
      obtain ⟨A_35, cap_36, A_36, cap_37, rfl, h_22, h_23⟩ := TD0.opn hr_27
      refine W_end rfl (N_goN 1 hM_12 p_75 rfl (N_alt rfl (fun w_39 p_76 => ?_) ?_))
      ·refine V_allocS (k := 1) (c := 1) f p_76 (.cells #[.int .i8 x_10.fKind, .bool x_10.fBool, .int .i64 x_10.fNum, S x_10.fText, .slice A_35 x_10.fList.length cap_36, .slice A_36 x_10.fKeys.length cap_37] 26 (0, 0)) (by kernel_rfl) (fun _ => by kernel_rfl) fun b_11 w_40 p_77 _ f => W_end rfl (N_goN 2 hM_12 p_77 rfl (N_alt rfl (fun w_41 p_78 => ?_) ?_))
       ·have p_79 := p_78.pl [1]
        refine Y22 (z := .agg #[.int .i8 0, .bool false, .int .i64 0, S [], .slice none 0 0, .slice none 0 0]) (f := emb_TD0) (xs := s_2.2) (ys := [(⟨x_10.fKind, (x_10.fBool), x_10.fNum, x_10.fText, x_10.fList, x_10.fKeys⟩ : TD0)]) (news := [.int .i8 x_10.fKind, .bool x_10.fBool, .int .i64 x_10.fNum, S x_10.fText, .slice A_35 x_10.fList.length cap_36, .slice A_36 x_10.fKeys.length cap_37]) (ad := ⟨b_11, 0, none⟩) (m := 1) (c := 1) f p_79 (RepSeq.mono hM_12 _ _ hr_22) (by exact ⟨_, _, rfl, TD0.shut h_22 h_23, rfl⟩) rfl rfl rfl rfl (own_cells (p_79.ownCell 1 rfl) 0 rfl) (by exact g_4) (by have hg_ := g_4; first | omega | (simp only [List.length_cons, List.length_nil] at *; omega)) fun A_37 cap_38 cs_14 w_42 p_80 hr_28 _ f => ?_
        have p_81 := p_80.pl [1]
        have p_82 := p_81.drop
        refine W_end rfl (N_goN 1 hM_12 p_82 rfl (N_tail fun w_43 p_83 => Y f 1 fun _ f => Y26 f p_83 1 rfl rfl (b := b_2) (j := 4) (v := .slice A_37 (s_2.2 ++ [(⟨x_10.fKind, (x_10.fBool), x_10.fNum, x_10.fText, x_10.fList, x_10.fKeys⟩ : TD0)]).length cap_38) rfl (by exact rfl) (by simp) (by simp) ((Ent.row 26 6 (.slice A_37 (s_2.2 ++ [(⟨x_10.fKind, (x_10.fBool), x_10.fNum, x_10.fText, x_10.fList, x_10.fKeys⟩ : TD0)]).length cap_38) (s_2.2 ++ [(⟨x_10.fKind, (x_10.fBool), x_10.fNum, x_10.fText, x_10.fList, x_10.fKeys⟩ : TD0)]).length cs_14) :: (Ent.obj b_2 (.cells #[.int .i8 d0.fKind, .bool d0.fBool, .int .i64 d0.fNum, S d0.fText, .slice A_37 (s_2.2 ++ [(⟨x_10.fKind, (x_10.fBool), x_10.fNum, x_10.fText, x_10.fList, x_10.fKeys⟩ : TD0)]).length cap_38, .slice none 0 0] 26 (0, 0))) :: (Ent.obj b_1 (.cells #[.int .i8 0, .bool false, .int .i64 0, S [], .slice none 0 0, .slice none 0 0] 26 (0, 0))) :: H) rfl fun w_44 p_84 _ f => W_end rfl (N_te (T_n ?_))))
        exact ⟨s_2.2 ++ [(⟨x_10.fKind, (x_10.fBool), x_10.fNum, x_10.fText, x_10.fList, x_10.fKeys⟩ : TD0)], (sI hF_21).symm, M_12, hM_12, A_37, cap_38, cs_14, hr_28, f.kp, p_84⟩
       exact N_none
      exact N_none
     exact N_none
    ·rintro a_104 w_45 ⟨y_4, hq_3, M_13, hM_13, A_38, cap_39, cs_15, hr_29, f, p_85⟩
     subst j_3
     refine B_n (T_n (R_reg ?_))
     obtain ⟨g_5, hF_22⟩ := nS hF_18
     refine Y f 1 fun _ f => ?_
     have f := f.st 82 (congrArg (Value.int .i64) (inR_wrap g_5))
     refine Y f 1 fun _ f => eT ?_
     obtain rfl := sI hF_22
     exact ⟨⟨m_4, (s_2.1 + 1, y_4), A_38, cap_39, cs_15⟩, Nat.lt_succ_self _, M_13, (hM_10.trans hM_13), ⟨hn_2, hr_29⟩, f.kp, p_85⟩
   ·have k_6 := iff_f dI h_15
    refine wp_exit (T_x (T_x ?_))
    obtain rfl := sI hF_23
    exact ⟨rfl, s_2.2, (sI hn_2).symm, M_10, hM_10, A_27, cap_28, cs_12, hr_22, f.kp, p_67⟩
  ·rintro _ _ w_47 ⟨rfl, y_5, hq_, M_14, hM_14, A_39, cap_40, cs_16, hr_30, f, p_86⟩
   subst b_9
   refine B_x (T_n (RR (Z (v := .agg #[.int .i8 d0.fKind, .bool d0.fBool, .int .i64 d0.fNum, S d0.fText, .slice A_39 y_5.length cap_40, .slice none 0 0]) f (Y33 (cs := [.int .i8 d0.fKind, .bool d0.fBool, .int .i64 d0.fNum, S d0.fText, .slice A_39 y_5.length cap_40, .slice none 0 0]) rfl (ad := ⟨b_2, 0, none⟩) (own_cells (p_86.ownCell 1 rfl) 0 rfl)) fun _ f => ?_)))
   obtain ⟨A_40, cap_41, M_15, hv_7, hM_15, p_87, h_24⟩ := p_86.rowSli (f := emb_TD0) (xs := y_5) szd_TD0 hr_30
   have f := Frm.set f 83 (v := .agg #[.int .i8 d0.fKind, .bool d0.fBool, .int .i64 d0.fNum, S d0.fText, .slice A_39 y_5.length cap_40, .slice none 0 0]) (v' := .agg #[.int .i8 d0.fKind, .bool d0.fBool, .int .i64 d0.fNum, S d0.fText, .slice A_40 y_5.length cap_41, .slice none 0 0]) (by kernel_rfl) (by rw [hv_7])
   have p_88 : Hp w0 M_15 ((Ent.obj b_2 (.cells #[.int .i8 d0.fKind, .bool d0.fBool, .int .i64 d0.fNum, S d0.fText, .slice A_40 y_5.length cap_41, .slice none 0 0] 26 (0, 0))) :: (Ent.obj b_1 (.cells #[.int .i8 0, .bool false, .int .i64 0, S [], .slice none 0 0, .slice none 0 0] 26 (0, 0))) :: H) w_47 := by rw [hv_7] at p_87; exact p_87
   have p_89 := p_88.pl [1]
   refine Y27 (vs := [.int .i8 d0.fKind, .bool d0.fBool, .int .i64 d0.fNum, S d0.fText, .slice A_40 y_5.length cap_41, .slice none 0 0]) (j := 0) f p_89 rfl rfl (by simp [Value.oneCell', S]) (by simp) (by decide) (cs' := #[.int .i8 d0.fKind, .bool d0.fBool, .int .i64 d0.fNum, S d0.fText, .slice A_40 y_5.length cap_41, .slice none 0 0]) (by kernel_rfl) fun w_48 p_90 _ f => eT (wp_ret (E_rv1 f rfl (Y10 (cs := [.int .i8 d0.fKind, .bool d0.fBool, .int .i64 d0.fNum, S d0.fText, .slice A_40 y_5.length cap_41, .slice none 0 0]) (ad := ⟨b_1, 0, none⟩) f (own_cells (p_90.ownCell 0 rfl) 0 rfl)) ?_))
   obtain rfl := sI hF_16
   exact ⟨_, rfl, M_15, (hM_14.trans hM_15), (p_90.dropN 2), ⟨[.int .i8 d0.fKind, .bool d0.fBool, .int .i64 d0.fNum, S d0.fText, .slice A_40 y_5.length cap_41, .slice none 0 0], rfl, (TD0.shut h_24 Sli.nil)⟩⟩
def tree_sorted_k (n : Nat) : Nat → TD0 → Option TD0
  | 0 => fun _ => none
  | k + 1 => tree_sorted_b n (tree_sorted_k n k)
def tree_sorted (n : Nat) (d0 : TD0) : Option TD0 := tree_sorted_k n n d0
theorem tree_sorted_ok (n : Nat) (M : Mem) (hG : GL M) (ad0 : Addr) (c0 : List Value) (d0 : TD0) (h0 : Rep M (emb_TD0 d0) c0) (q0 : ∀ j v, c0[j]? = some v → M.cell? (ad0.add j) = some v) (r : TD0) (hF : tree_sorted n d0 = some r) : Ok Tryd.prog M 32 [.pointer (some ad0)] (fun M' v => ∃ (c0 : List Value), v = .agg c0.toArray ∧ Rep M' (emb_TD0 r) c0) := by
 have key : ∀ (k : Nat) (M : Mem) (hG : GL M) (ad0 : Addr) (c0 : List Value) (d0 : TD0) (h0 : Rep M (emb_TD0 d0) c0) (q0 : ∀ j v, c0[j]? = some v → M.cell? (ad0.add j) = some v) (r : TD0) (hF : tree_sorted_k n k d0 = some r), Ok Tryd.prog M 32 [.pointer (some ad0)] (fun M' v => ∃ (c0 : List Value), v = .agg c0.toArray ∧ Rep M' (emb_TD0 r) c0) := by
  intro k
  induction k with
  | zero => intro M hG ad0 c0 d0 h0 q0 r hF; simp [tree_sorted_k] at hF
  | succ k ih => intro M hG ad0 c0 d0 h0 q0 r hF; exact tree_sorted_b_ok n (tree_sorted_k n k) ih M hG ad0 c0 d0 h0 q0 r hF
 exact key n M hG ad0 c0 d0 h0 q0 r hF
def cmp_isNaN (n : Nat) (d0 : Int) : Option Bool :=
  some ((false))
theorem cmp_isNaN_ok (n : Nat) (M : Mem) (d0 : Int) (r : Bool) (hF : cmp_isNaN n d0 = some r) : Ok Tryd.prog M 150 [.int .i8 d0] (fun _ v => v = .bool r) := by
 unfold cmp_isNaN at hF
 intro M1 hM0 w0 H w p0
 refine R_enter 6 Tryd.func150 rfl rfl (by simp) fun a0 f0 => RR (Y f0 1 fun _ f => eT (RR (Y f 2 fun _ f => Y f 1 fun _ f => ?_)))
 have f := Frm.set f 5 (v := .bool (!(decide (d0 = d0)))) (v' := .bool false) (by kernel_rfl) (cB (congrArg (!·) (decide_eq_true rfl)))
 refine Y f 1 fun _ f => eT (wp_ret (E_ret1 f rfl (by kernel_rfl : Vc.look _ 2 = some (.bool false)) ?_))
 obtain rfl := sI hF
 exact ⟨_, rfl, M1, (mR _), p0, rfl⟩
def cmp_Compare (n : Nat) (d0 : Int) (d1 : Int) : Option Int :=
  (cmp_isNaN n d0).bind fun x_1 =>
  (cmp_isNaN n d1).bind fun x_2 =>
  bif x_1 then
    (bif x_2 then
      (some ((0 : Int)))
    else
      some ((-1 : Int)))
  else
    bif x_2 then
      (some ((1 : Int)))
    else
      bif (decide (d0 < d1)) then
        (some ((-1 : Int)))
      else
        bif (decide (d1 < d0)) then
          (some ((1 : Int)))
        else
          some ((0 : Int))
set_option maxRecDepth 20000 in
theorem cmp_Compare_ok (n : Nat) (M : Mem) (d0 : Int) (d1 : Int) (r : Int) (hF : cmp_Compare n d0 d1 = some r) : Ok Tryd.prog M 143 [.int .i8 d0, .int .i8 d1] (fun _ v => v = .int .i64 r) := by
 unfold cmp_Compare at hF
 intro M1 hM0 w0 H w p0
 refine R_enter 20 Tryd.func143 rfl rfl (by simp) fun a0 f0 => RR (Y f0 1 fun _ f => eT (RR (Y f 1 fun _ f => ?_)))
 obtain ⟨x_1, hx_1, hF_1⟩ := bS hF
 refine Y18 f p0 (cmp_isNaN_ok n _ d0 x_1 hx_1) fun w_1 p_1 _ f => Y f 1 fun _ f => eT (RR (Y f 1 fun _ f => ?_))
 obtain ⟨x_2, hx_2, hF_2⟩ := bS hF_1
 refine Y18 f p_1 (cmp_isNaN_ok n _ d1 x_2 hx_2) fun w_2 p_2 _ f => Y f 1 fun _ f => eT (R_seq (RR (Y f 1 fun _ f => eT (RcF f hF_2 (fun h_1 hF_3 => ?_) fun h_1 hF_6 => ?_))))
 ·refine R_seq (RR (Y f 1 fun _ f => eT (RcF f hF_3 (fun h_2 hF_4 => ?_) fun h_2 hF_5 => ?_)))
  ·refine RR (Y f 1 fun _ f => eT (wp_ret (T_r (T_r (E_ret1 f rfl (by kernel_rfl : Vc.look _ 4 = some (.int .i64 0)) ?_)))))
   obtain rfl := sI hF_4
   exact ⟨_, rfl, M1, (mR _), p_2, rfl⟩
  ·refine wp_skip (T_n (RR (Y f 1 fun _ f => eT (wp_ret (T_r (E_ret1 f rfl (by kernel_rfl : Vc.look _ 4 = some (.int .i64 (-1))) ?_))))))
   obtain rfl := sI hF_5
   exact ⟨_, rfl, M1, (mR _), p_2, rfl⟩
 ·refine wp_skip (T_n (R_seq (RR (Y f 1 fun _ f => eT (RcF f hF_6 (fun h_3 hF_7 => ?_) fun h_3 hF_8 => ?_)))))
  ·refine RR (Y f 1 fun _ f => eT (wp_ret (T_r (E_ret1 f rfl (by kernel_rfl : Vc.look _ 4 = some (.int .i64 1)) ?_))))
   obtain rfl := sI hF_7
   exact ⟨_, rfl, M1, (mR _), p_2, rfl⟩
  ·refine wp_skip (T_n (R_seq (RR (Y f 3 fun _ f => eT (RcF f hF_8 (fun h_4 hF_9 => ?_) fun h_4 hF_10 => ?_)))))
   ·have k_7 := dI.1 h_4
    refine RR (Y f 1 fun _ f => eT (wp_ret (T_r (E_ret1 f rfl (by kernel_rfl : Vc.look _ 4 = some (.int .i64 (-1))) ?_))))
    obtain rfl := sI hF_9
    exact ⟨_, rfl, M1, (mR _), p_2, rfl⟩
   ·have k_8 := iff_f dI h_4
    refine wp_skip (T_n (R_seq (RR (Y f 3 fun _ f => eT (RcF f hF_10 (fun h_5 hF_11 => ?_) fun h_5 hF_12 => ?_)))))
    ·have k_9 := dI.1 h_5
     refine RR (Y f 1 fun _ f => eT (wp_ret (T_r (E_ret1 f rfl (by kernel_rfl : Vc.look _ 4 = some (.int .i64 1)) ?_))))
     obtain rfl := sI hF_11
     exact ⟨_, rfl, M1, (mR _), p_2, rfl⟩
    ·have k_10 := iff_f dI h_5
     refine wp_skip (T_n (RR (Y f 1 fun _ f => eT (wp_ret (E_ret1 f rfl (by kernel_rfl : Vc.look _ 4 = some (.int .i64 0)) ?_)))))
     obtain rfl := sI hF_12
     exact ⟨_, rfl, M1, (mR _), p_2, rfl⟩
def tree_bit (n : Nat) (d0 : Bool) : Option Int :=
  bif d0 then
    (some ((1 : Int)))
  else
    some ((0 : Int))
theorem tree_bit_ok (n : Nat) (M : Mem) (hG : GL M) (d0 : Bool) (r : Int) (hF : tree_bit n d0 = some r) : Ok Tryd.prog M 144 [.bool d0] (fun _ v => v = .int .i64 r) := by
 unfold tree_bit at hF
 intro M1 hM0 w0 H w p0
 replace hG := GL.mono hM0 hG
 refine R_enter 4 Tryd.func144 rfl rfl (by simp) fun a0 f0 => RR (Y f0 1 fun _ f => eT (R_seq (RR (Y f 1 fun _ f => eT (RcF f hF (fun h_1 hF_1 => ?_) fun h_1 hF_2 => ?_)))))
 ·refine RR (Y f 1 fun _ f => eT (wp_ret (T_r (E_ret1 f rfl (by kernel_rfl : Vc.look _ 2 = some (.int .i64 1)) ?_))))
  obtain rfl := sI hF_1
  exact ⟨_, rfl, M1, (mR _), p0, rfl⟩
 ·refine wp_skip (T_n (RR (Y f 1 fun _ f => eT (wp_ret (E_ret1 f rfl (by kernel_rfl : Vc.look _ 2 = some (.int .i64 0)) ?_)))))
  obtain rfl := sI hF_2
  exact ⟨_, rfl, M1, (mR _), p0, rfl⟩
def cmp_isNaN_2 (n : Nat) (d0 : Int) : Option Bool :=
  some ((false))
theorem cmp_isNaN_2_ok (n : Nat) (M : Mem) (hG : GL M) (d0 : Int) (r : Bool) (hF : cmp_isNaN_2 n d0 = some r) : Ok Tryd.prog M 151 [.int .i64 d0] (fun _ v => v = .bool r) := by
 unfold cmp_isNaN_2 at hF
 intro M1 hM0 w0 H w p0
 replace hG := GL.mono hM0 hG
 refine R_enter 6 Tryd.func151 rfl rfl (by simp) fun a0 f0 => RR (Y f0 1 fun _ f => eT (RR (Y f 2 fun _ f => Y f 1 fun _ f => ?_)))
 have f := Frm.set f 5 (v := .bool (!(decide (d0 = d0)))) (v' := .bool false) (by kernel_rfl) (cB (congrArg (!·) (decide_eq_true rfl)))
 refine Y f 1 fun _ f => eT (wp_ret (E_ret1 f rfl (by kernel_rfl : Vc.look _ 2 = some (.bool false)) ?_))
 obtain rfl := sI hF
 exact ⟨_, rfl, M1, (mR _), p0, rfl⟩
def cmp_Compare_2 (n : Nat) (d0 : Int) (d1 : Int) : Option Int :=
  (cmp_isNaN_2 n d0).bind fun x_1 =>
  (cmp_isNaN_2 n d1).bind fun x_2 =>
  bif x_1 then
    (bif x_2 then
      (some ((0 : Int)))
    else
      some ((-1 : Int)))
  else
    bif x_2 then
      (some ((1 : Int)))
    else
      bif (decide (d0 < d1)) then
        (some ((-1 : Int)))
      else
        bif (decide (d1 < d0)) then
          (some ((1 : Int)))
        else
          some ((0 : Int))
set_option maxRecDepth 20000 in
theorem cmp_Compare_2_ok (n : Nat) (M : Mem) (hG : GL M) (d0 : Int) (d1 : Int) (r : Int) (hF : cmp_Compare_2 n d0 d1 = some r) : Ok Tryd.prog M 145 [.int .i64 d0, .int .i64 d1] (fun _ v => v = .int .i64 r) := by
 unfold cmp_Compare_2 at hF
 intro M1 hM0 w0 H w p0
 replace hG := GL.mono hM0 hG
 refine R_enter 20 Tryd.func145 rfl rfl (by simp) fun a0 f0 => RR (Y f0 1 fun _ f => eT (RR (Y f 1 fun _ f => ?_)))
 obtain ⟨x_1, hx_1, hF_1⟩ := bS hF
 refine Y18 f p0 (cmp_isNaN_2_ok n _ hG d0 x_1 hx_1) fun w_1 p_1 _ f => Y f 1 fun _ f => eT (RR (Y f 1 fun _ f => ?_))
 obtain ⟨x_2, hx_2, hF_2⟩ := bS hF_1
 refine Y18 f p_1 (cmp_isNaN_2_ok n _ hG d1 x_2 hx_2) fun w_2 p_2 _ f => Y f 1 fun _ f => eT (R_seq (RR (Y f 1 fun _ f => eT (RcF f hF_2 (fun h_1 hF_3 => ?_) fun h_1 hF_6 => ?_))))
 ·refine R_seq (RR (Y f 1 fun _ f => eT (RcF f hF_3 (fun h_2 hF_4 => ?_) fun h_2 hF_5 => ?_)))
  ·refine RR (Y f 1 fun _ f => eT (wp_ret (T_r (T_r (E_ret1 f rfl (by kernel_rfl : Vc.look _ 4 = some (.int .i64 0)) ?_)))))
   obtain rfl := sI hF_4
   exact ⟨_, rfl, M1, (mR _), p_2, rfl⟩
  ·refine wp_skip (T_n (RR (Y f 1 fun _ f => eT (wp_ret (T_r (E_ret1 f rfl (by kernel_rfl : Vc.look _ 4 = some (.int .i64 (-1))) ?_))))))
   obtain rfl := sI hF_5
   exact ⟨_, rfl, M1, (mR _), p_2, rfl⟩
 ·refine wp_skip (T_n (R_seq (RR (Y f 1 fun _ f => eT (RcF f hF_6 (fun h_3 hF_7 => ?_) fun h_3 hF_8 => ?_)))))
  ·refine RR (Y f 1 fun _ f => eT (wp_ret (T_r (E_ret1 f rfl (by kernel_rfl : Vc.look _ 4 = some (.int .i64 1)) ?_))))
   obtain rfl := sI hF_7
   exact ⟨_, rfl, M1, (mR _), p_2, rfl⟩
  ·refine wp_skip (T_n (R_seq (RR (Y f 3 fun _ f => eT (RcF f hF_8 (fun h_4 hF_9 => ?_) fun h_4 hF_10 => ?_)))))
   ·have k_7 := dI.1 h_4
    refine RR (Y f 1 fun _ f => eT (wp_ret (T_r (E_ret1 f rfl (by kernel_rfl : Vc.look _ 4 = some (.int .i64 (-1))) ?_))))
    obtain rfl := sI hF_9
    exact ⟨_, rfl, M1, (mR _), p_2, rfl⟩
   ·have k_8 := iff_f dI h_4
    refine wp_skip (T_n (R_seq (RR (Y f 3 fun _ f => eT (RcF f hF_10 (fun h_5 hF_11 => ?_) fun h_5 hF_12 => ?_)))))
    ·have k_9 := dI.1 h_5
     refine RR (Y f 1 fun _ f => eT (wp_ret (T_r (E_ret1 f rfl (by kernel_rfl : Vc.look _ 4 = some (.int .i64 1)) ?_))))
     obtain rfl := sI hF_11
     exact ⟨_, rfl, M1, (mR _), p_2, rfl⟩
    ·have k_10 := iff_f dI h_5
     refine wp_skip (T_n (RR (Y f 1 fun _ f => eT (wp_ret (E_ret1 f rfl (by kernel_rfl : Vc.look _ 4 = some (.int .i64 0)) ?_)))))
     obtain rfl := sI hF_12
     exact ⟨_, rfl, M1, (mR _), p_2, rfl⟩
def cmp_Or_s1 (n : Nat) (d0 : List Int) (s_1 : Int) : Option (Lp Int (Sum Int Unit)) :=
    bif (decide (s_1 < ((d0.length : Nat) : Int))) then
      ((getI d0 s_1).bind fun x_1 =>
      bif (!(decide (x_1 = 0))) then
        (some (.br (.inl x_1)))
      else
        need (inR .i64 (s_1 + 1)) <|
        some (.nx (s_1 + 1)))
    else
      some (.br (.inr ()))
def cmp_Or (n : Nat) (d0 : List Int) : Option Int :=
  (loopF (cmp_Or_s1 n d0) n (0 : Int)).bind fun b_1 =>
  (match b_1 with 
  | .inl y_1 => some (y_1) 
  | .inr y_2 => some ((0 : Int)))
theorem cmp_Or_ok (n : Nat) (M : Mem) (hG : GL M) (A0 : Option Addr) (cap0 : Nat) (d0 : List Int) (h0 : Sli M 1 (Dat.int .i64) A0 cap0 d0) (r : Int) (hF : cmp_Or n d0 = some r) : Ok Tryd.prog M 142 [.slice A0 d0.length cap0] (fun _ v => v = .int .i64 r) := by
 unfold cmp_Or at hF
 intro M1 hM0 w0 H w p0
 replace hG := GL.mono hM0 hG
 replace h0 := h0.mono hM0
 refine R_enter 18 Tryd.func142 rfl rfl (by simp) fun a0 f0 => RR (Y f0 1 fun _ f => eT (RR (Y f 1 fun _ f => eT (R_seq (RR (Y f 3 fun _ f => eT (wp_block ?_)))))))
 obtain ⟨b_1, hL_1, hF_1⟩ := bS hF
 refine wp_mono (Q := fun e a w => (e = .ret ∧ (∃ y_1 : Int, b_1 = .inl y_1 ∧ ∃ M_2 : Mem, M1.le M_2 ∧ Frm 18 [(2, .int .i64 y_1)] a ∧ Hp w0 M_2 (H) w)) ∨ (e = .exit 0 ∧ (∃ y_2 : Unit, b_1 = .inr y_2 ∧ ∃ M_3 : Mem, M1.le M_3 ∧ Frm 18 [(3, .int .i64 0)] a ∧ Hp w0 M_3 (H) w))) (R_loop (n := 18) (w0 := w0) (M := M1) (fun (x : Nat × Int) => match x with | (m_1, s_1) => [(3, .int .i64 0), (6, .slice A0 d0.length cap0), (7, .int .i64 ((d0.length : Nat) : Int)), (8, .int .i64 s_1)]) (fun (x : Nat × Int) => match x with | (m_1, s_1) => (H)) (fun (x : Nat × Int) (MM : Mem) => match x with | (m_1, s_1) => loopF (cmp_Or_s1 n d0) m_1 s_1 = some b_1) (fun (x : Nat × Int) => match x with | (m_1, s_1) => m_1) (n, (0 : Int)) (f.kp) p0 hL_1 ?_) ?_
 ·rintro ⟨m_1, s_1⟩ M_1 _ w_1 hM_1 I_1 f p_1
  have I_1L := I_1
  obtain ⟨m_2, r_1, rfl, hs_1, hn_1⟩ := loop_step I_1L
  unfold cmp_Or_s1 at hs_1
  refine RR (Y f 1 fun _ f => eT (R_seq (RcF f hs_1 (fun h_1 hF_2 => ?_) fun h_1 hF_7 => ?_)))
  ·have k_1 := dI.1 h_1
   refine wp_skip (T_n (R_seq (wp_block (RR ?_))))
   obtain ⟨x_1, hx_1, hF_3⟩ := bS hF_2
   obtain ⟨ad_1, c_1, e_1, -, hr_1, hc_1⟩ := Sli.at_ (h0.mono hM_1) hx_1
   obtain rfl : c_1 = [.int .i64 x_1] := hr_1
   refine Z f (Y31 e_1 rfl (len := d0.length) (cap := cap0) (k := .i64) (i := s_1) (e := 3) (sz := 1) (getI_nn hx_1) (getI_lt hx_1)) fun _ f => Y15 f p_1 hc_1 0 rfl fun _ f => Y f 1 fun _ f => eT (RR (Y f 3 fun _ f => eT (RcF f hF_3 (fun h_2 hF_4 => ?_) fun h_2 hF_5 => ?_)))
   ·have k_2 : ¬ (x_1 = 0) := (not_iff dI).1 h_2
    refine RR (Y f 2 fun _ f => eT (wp_ret (B_r (T_r (T_r ?_)))))
    obtain rfl := sI hF_4
    exact .inl ⟨rfl, x_1, (sI hn_1).symm, M_1, hM_1, f.kp, p_1⟩
   ·have k_3 : ¬ (¬ (x_1 = 0)) := iff_f (not_iff dI) h_2
    refine wp_skip (B_n (T_n (R_reg ?_)))
    obtain ⟨g_1, hF_6⟩ := nS hF_5
    refine Y f 1 fun _ f => ?_
    have f := f.st 16 (congrArg (Value.int .i64) (inR_wrap g_1))
    refine Y f 1 fun _ f => eT ?_
    obtain rfl := sI hF_6
    exact ⟨⟨m_2, s_1 + 1⟩, Nat.lt_succ_self _, M_1, hM_1, hn_1, f.kp, p_1⟩
  ·have k_4 := iff_f dI h_1
   refine wp_exit (T_x (T_x ?_))
   obtain rfl := sI hF_7
   exact .inr ⟨rfl, (), (sI hn_1).symm, M_1, hM_1, f.kp, p_1⟩
 ·rintro _ _ w_4 (⟨rfl, y_1, rfl, M_2, hM_2, f, p_2⟩ | ⟨rfl, y_2, rfl, M_3, hM_3, f, p_3⟩)
  ·refine B_r (T_r (E_ret1 f rfl (by kernel_rfl : Vc.look _ 2 = some (.int .i64 y_1)) ?_))
   obtain rfl := sI hF_1
   exact ⟨_, rfl, M_2, hM_2, p_2, rfl⟩
  ·refine B_x (T_n (RR (Y f 2 fun _ f => eT (wp_ret (E_ret1 f rfl (by kernel_rfl : Vc.look _ 2 = some (.int .i64 0)) ?_)))))
   obtain rfl := sI hF_1
   exact ⟨_, rfl, M_3, hM_3, p_3, rfl⟩
def tree_compare_s1 (n : Nat) (rec_tree_compare : TD0 → TD0 → Option Int) (d0 : TD0) (d1 : TD0) (s_1 : Int) : Option (Lp Int (Sum Int Unit)) :=
    bif (decide (s_1 < (min ((d0.fList.length : Nat) : Int) ((d1.fList.length : Nat) : Int)))) then
      (((bif (decide (d0.fKind = 5)) then
          ((getI d0.fKeys s_1).bind fun x_7 =>
          (getI d1.fKeys s_1).bind fun x_8 =>
          (h_Compare n x_7 x_8).bind fun x_9 =>
          bif (!(decide (x_9 = 0))) then
            (((some (.br (.inl x_9)) : Option (Lp Int (Sum Int Unit)))).map Lp.br)
          else
            some (.nx ()))
        else
          some (.nx ()) : Option (Lp Unit (Lp Int (Sum Int Unit))))).bind fun j => joinF j fun y_1 =>
      (getI d0.fList s_1).bind fun x_10 =>
      (getI d1.fList s_1).bind fun x_11 =>
      (rec_tree_compare x_10 x_11).bind fun x_12 =>
      bif (!(decide (x_12 = 0))) then
        (some (.br (.inl x_12)))
      else
        need (inR .i64 (s_1 + 1)) <|
        some (.nx (s_1 + 1)))
    else
      some (.br (.inr ()))
def tree_compare_b (n : Nat) (rec_tree_compare : TD0 → TD0 → Option Int) (d0 : TD0) (d1 : TD0) : Option Int :=
  (cmp_Compare n d0.fKind d1.fKind).bind fun x_1 =>
  (tree_bit n (d0.fBool)).bind fun x_2 =>
  (tree_bit n (d1.fBool)).bind fun x_3 =>
  need (inR .i64 (x_2 - x_3)) <|
  (cmp_Compare_2 n d0.fNum d1.fNum).bind fun x_4 =>
  (h_Compare n d0.fText d1.fText).bind fun x_5 =>
  (cmp_Or n [x_1, x_2 - x_3, x_4, x_5]).bind fun x_6 =>
  bif (!(decide (x_6 = 0))) then
    (some (x_6))
  else
    (loopF (tree_compare_s1 n rec_tree_compare d0 d1) n (0 : Int)).bind fun b_2 =>
    (match b_2 with 
    | .inl y_2 => some (y_2) 
    | .inr y_3 => (cmp_Compare_2 n ((d0.fList.length : Nat) : Int) ((d1.fList.length : Nat) : Int)).bind fun x_13 =>
      some (x_13))
set_option maxRecDepth 20000 in
theorem tree_compare_b_ok (n : Nat) (rec_tree_compare : TD0 → TD0 → Option Int) (hrec_tree_compare : ∀ (M : Mem) (hG : GL M) (ad0 : Addr) (c0 : List Value) (d0 : TD0) (h0 : Rep M (emb_TD0 d0) c0) (q0 : ∀ j v, c0[j]? = some v → M.cell? (ad0.add j) = some v) (ad1 : Addr) (c1 : List Value) (d1 : TD0) (h1 : Rep M (emb_TD0 d1) c1) (q1 : ∀ j v, c1[j]? = some v → M.cell? (ad1.add j) = some v) (r : Int) (hF : rec_tree_compare d0 d1 = some r), Ok Tryd.prog M 136 [.pointer (some ad0), .pointer (some ad1)] (fun _ v => v = .int .i64 r)) (M : Mem) (hG : GL M) (ad0 : Addr) (c0 : List Value) (d0 : TD0) (h0 : Rep M (emb_TD0 d0) c0) (q0 : ∀ j v, c0[j]? = some v → M.cell? (ad0.add j) = some v) (ad1 : Addr) (c1 : List Value) (d1 : TD0) (h1 : Rep M (emb_TD0 d1) c1) (q1 : ∀ j v, c1[j]? = some v → M.cell? (ad1.add j) = some v) (r : Int) (hF : tree_compare_b n rec_tree_compare d0 d1 = some r) : Ok Tryd.prog M 136 [.pointer (some ad0), .pointer (some ad1)] (fun _ v => v = .int .i64 r) := by
 unfold tree_compare_b at hF
 intro M1 hM0 w0 H w p0
 replace hG := GL.mono hM0 hG
 replace h0 := Rep.mono hM0 _ _ h0
 replace q0 := fun j v h => hM0.cell (q0 j v h)
 replace h1 := Rep.mono hM0 _ _ h1
 replace q1 := fun j v h => hM0.cell (q1 j v h)
 obtain ⟨A_1, cap_1, A_2, cap_2, rfl, h_1, h_2⟩ := TD0.opn h0
 obtain ⟨A_3, cap_3, A_4, cap_4, rfl, h_3, h_4⟩ := TD0.opn h1
 refine R_enter 117 Tryd.func136 rfl rfl (by simp) fun a0 f0 => RR (Y f0 1 fun _ f => eT (R_seq (R_seq (R_drawQ 38 p0 (by kernel_rfl) (by kernel_rfl) (Y5 default f 3 fun _ f => Y4 f q0 0 rfl fun _ f => Y5 default f 3 fun _ f => Y4 f q1 0 rfl fun _ f => ?_)))))
 obtain ⟨x_1, hx_1, hF_1⟩ := bS hF
 refine Y3 f (cmp_Compare_ok n _ d0.fKind d1.fKind x_1 hx_1) fun _ f => Y5 default f 3 fun _ f => Y4 f q0 1 rfl fun _ f => ?_
 obtain ⟨x_2, hx_2, hF_2⟩ := bS hF_1
 refine Y3 f (tree_bit_ok n _ hG (d0.fBool) x_2 hx_2) fun _ f => Y5 default f 3 fun _ f => Y4 f q1 1 rfl fun _ f => ?_
 obtain ⟨x_3, hx_3, hF_3⟩ := bS hF_2
 refine Y3 f (tree_bit_ok n _ hG (d1.fBool) x_3 hx_3) fun _ f => ?_
 obtain ⟨g_1, hF_4⟩ := nS hF_3
 refine Y2 (v := .int .i64 (IntKind.wrap .i64 (x_2 - x_3))) f (fun _ pq => by kernel_rfl) fun _ f => ?_
 have f := f.st 28 (congrArg (Value.int .i64) (inR_wrap g_1))
 refine Y5 default f 3 fun _ f => Y4 f q0 2 rfl fun _ f => Y5 default f 3 fun _ f => Y4 f q1 2 rfl fun _ f => ?_
 obtain ⟨x_4, hx_4, hF_5⟩ := bS hF_4
 refine Y3 f (cmp_Compare_2_ok n _ hG d0.fNum d1.fNum x_4 hx_4) fun _ f => Y5 default f 3 fun _ f => Y4 f q0 3 rfl fun _ f => Y5 default f 3 fun _ f => Y4 f q1 3 rfl fun _ f => ?_
 obtain ⟨x_5, hx_5, hF_6⟩ := bS hF_5
 refine Y3 f (h_Compare_ok n _ d0.fText d1.fText x_5 hx_5) fun _ f => Q_end rfl ?_
 intro w_1 p_1
 refine V_allocS (k := 4) (c := 4) f p_1 (.cells #[.int .i64 x_1, .int .i64 (x_2 - x_3), .int .i64 x_4, .int .i64 x_5] 3 (0, 0)) (by kernel_rfl) (fun _ => by kernel_rfl) fun b_1 w_7 p_7 _ f => ?_
 have hr_1 : RepSeq M1 ([x_1, x_2 - x_3, x_4, x_5].map (Dat.int .i64)) [.int .i64 x_1, .int .i64 (x_2 - x_3), .int .i64 x_4, .int .i64 x_5] := ⟨_, _, rfl, rfl, ⟨_, _, rfl, rfl, ⟨_, _, rfl, rfl, ⟨_, _, rfl, rfl, rfl⟩⟩⟩⟩
 have p_8 : Hp w0 M1 ((Ent.row 3 1 (.slice (some ⟨b_1, 0, none⟩) 4 4) [x_1, x_2 - x_3, x_4, x_5].length [.int .i64 x_1, .int .i64 (x_2 - x_3), .int .i64 x_4, .int .i64 x_5]) :: H) w_7 := p_7.objRow (n := 4) (cap := 4) (size := 1) (by decide) (by decide) (blk_eq (by decide) rfl) rfl rfl
 obtain ⟨M_1, A_5, cap_5, hM_1, hv_1, p_9, h_5, hb_1⟩ := p_8.lend (f := (Dat.int .i64)) (xs := [x_1, x_2 - x_3, x_4, x_5]) (szd_int .i64) hr_1
 have f := f.st 47 (hv_1)
 obtain ⟨x_6, hx_6, hF_7⟩ := bS hF_6
 refine Y18 f p_9 (cmp_Or_ok n _ (GL.mono hM_1 hG) A_5 cap_5 [x_1, x_2 - x_3, x_4, x_5] h_5 x_6 hx_6) fun w_8 p_10 _ f => ?_
 obtain ⟨M_2, hM_2, p_11⟩ := hb_1 _ _ _ (mR _) p_10
 have f := f.st 47 (hv_1.symm)
 refine Y f 1 fun _ f => eT (RR (Y f 2 fun _ f => eT (RcF f hF_7 (fun h_6 hF_8 => ?_) fun h_6 hF_9 => ?_)))
 ·have k_1 : ¬ (x_6 = 0) := (not_iff dI).1 h_6
  refine RR (Y f 2 fun _ f => eT (wp_ret (T_r (E_ret1 f rfl (by kernel_rfl : Vc.look _ 4 = some (.int .i64 x_6)) ?_))))
  obtain rfl := sI hF_8
  exact ⟨_, rfl, M_2, hM_2, (p_11.dropN 1), rfl⟩
 ·have k_2 : ¬ (¬ (x_6 = 0)) := iff_f (not_iff dI) h_6
  refine wp_skip (T_n (R_seq (R_seq (R_draw p_11 (by kernel_rfl) (by kernel_rfl) (Y5 default f 3 fun _ f => Y4 f (fzu hM_2 q0) 4 rfl fun _ f => Y5 default f 4 fun _ f => Y4 f (fzu hM_2 q1) 4 rfl fun _ f => Y5 default f 1 fun _ f => Y2 (v := .int .i64 (min ((d0.fList.length : Nat) : Int) ((d1.fList.length : Nat) : Int))) f (fun _ pq => X_min (k := .i64) (a := ((d0.fList.length : Nat) : Int)) (b := ((d1.fList.length : Nat) : Int)) rfl (by kernel_rfl) (by kernel_rfl)) fun _ f => Y5 default f 1 fun _ f => Q_end rfl ?_)))))
  intro w_9 p_12
  refine T_n (wp_block ?_)
  obtain ⟨b_2, hL_1, hF_10⟩ := bS hF_9
  refine wp_mono (Q := fun e a w => (e = .ret ∧ (∃ y_2 : Int, b_2 = .inl y_2 ∧ ∃ M_5 : Mem, M_2.le M_5 ∧ Frm 117 [(4, .int .i64 y_2)] a ∧ Hp w0 M_5 ((Ent.row 3 1 (.slice (some ⟨b_1, 0, none⟩) 4 4) [x_1, x_2 - x_3, x_4, x_5].length [.int .i64 x_1, .int .i64 (x_2 - x_3), .int .i64 x_4, .int .i64 x_5]) :: H) w)) ∨ (e = .exit 0 ∧ (∃ y_3 : Unit, b_2 = .inr y_3 ∧ ∃ M_6 : Mem, M_2.le M_6 ∧ Frm 117 [(0, .pointer (some ad0)), (1, .pointer (some ad1))] a ∧ Hp w0 M_6 ((Ent.row 3 1 (.slice (some ⟨b_1, 0, none⟩) 4 4) [x_1, x_2 - x_3, x_4, x_5].length [.int .i64 x_1, .int .i64 (x_2 - x_3), .int .i64 x_4, .int .i64 x_5]) :: H) w))) (R_loop (n := 117) (w0 := w0) (M := M_2) (fun (x : Nat × Int) => match x with | (m_1, s_1) => [(0, .pointer (some ad0)), (1, .pointer (some ad1)), (62, .int .i64 (min ((d0.fList.length : Nat) : Int) ((d1.fList.length : Nat) : Int))), (63, .int .i64 s_1)]) (fun (x : Nat × Int) => match x with | (m_1, s_1) => ((Ent.row 3 1 (.slice (some ⟨b_1, 0, none⟩) 4 4) [x_1, x_2 - x_3, x_4, x_5].length [.int .i64 x_1, .int .i64 (x_2 - x_3), .int .i64 x_4, .int .i64 x_5]) :: H)) (fun (x : Nat × Int) (MM : Mem) => match x with | (m_1, s_1) => loopF (tree_compare_s1 n rec_tree_compare d0 d1) m_1 s_1 = some b_2) (fun (x : Nat × Int) => match x with | (m_1, s_1) => m_1) (n, (0 : Int)) (f.kp) p_12 hL_1 ?_) ?_
  ·rintro ⟨m_1, s_1⟩ M_3 _ w_10 hM_3 I_1 f p_13
   have I_1L := I_1
   obtain ⟨m_2, r_1, rfl, hs_1, hn_1⟩ := loop_step I_1L
   unfold tree_compare_s1 at hs_1
   refine RR (Y f 1 fun _ f => eT (R_seq (RcF f hs_1 (fun h_7 hF_11 => ?_) fun h_7 hF_27 => ?_)))
   ·have k_3 := dI.1 h_7
    refine wp_skip (T_n (R_seq (wp_block (RR (Y f 2 fun _ f => eT (R_seq (RR (Y f 3 fun _ f => Y15 f p_13 (fzu (hM_2.trans hM_3) q0) 0 rfl fun _ f => Y f 1 fun _ f => eT ?_))))))))
    obtain ⟨j_1, hj_1, hF_12⟩ := bS hF_11
    refine R_mid (fun a_56 w_13 => ∃ y_1 : Unit, j_1 = .nx y_1 ∧ ∃ M_4 : Mem, M_3.le M_4 ∧ Frm 117 [(0, .pointer (some ad0)), (1, .pointer (some ad1)), (6, .int .i64 s_1), (62, .int .i64 (min ((d0.fList.length : Nat) : Int) ((d1.fList.length : Nat) : Int))), (63, .int .i64 s_1)] a_56 ∧ Hp w0 M_4 ((Ent.row 3 1 (.slice (some ⟨b_1, 0, none⟩) 4 4) [x_1, x_2 - x_3, x_4, x_5].length [.int .i64 x_1, .int .i64 (x_2 - x_3), .int .i64 x_4, .int .i64 x_5]) :: H) w_13) ?_ ?_
    ·refine RcF f hj_1 (fun h_8 hF_13 => ?_) fun h_8 hF_20 => ?_
     ·have k_4 := dI.1 h_8
      refine R_seq (R_draw p_13 (by kernel_rfl) (by kernel_rfl) (Y5 default f 3 fun _ f => Y4 f (fzu (hM_2.trans hM_3) q0) 5 rfl fun _ f => Y5 default f 1 fun _ f => ?_))
      obtain ⟨x_7, hx_7, hF_14⟩ := bS hF_13
      obtain ⟨ad_1, c_1, e_1, -, hr_2, hc_1⟩ := Sli.at_ (h_2.mono (hM_2.trans hM_3)) hx_7
      obtain rfl : c_1 = [S x_7] := hr_2
      refine Y2 (v := .pointer (some (ad_1.add (s_1.toNat * 1)))) f (fun _ pq => Y31 e_1 rfl (len := d0.fKeys.length) (cap := cap_2) (k := .i64) (i := s_1) (e := 9) (sz := 1) (getI_nn hx_7) (getI_lt hx_7)) fun _ f => Y4 f hc_1 0 rfl fun _ f => Y5 default f 3 fun _ f => Y4 f (fzu (hM_2.trans hM_3) q1) 5 rfl fun _ f => Y5 default f 1 fun _ f => ?_
      obtain ⟨x_8, hx_8, hF_15⟩ := bS hF_14
      obtain ⟨ad_2, c_2, e_2, -, hr_3, hc_2⟩ := Sli.at_ (h_4.mono (hM_2.trans hM_3)) hx_8
      obtain rfl : c_2 = [S x_8] := hr_3
      refine Y2 (v := .pointer (some (ad_2.add (s_1.toNat * 1)))) f (fun _ pq => Y31 e_2 rfl (len := d1.fKeys.length) (cap := cap_4) (k := .i64) (i := s_1) (e := 9) (sz := 1) (getI_nn hx_8) (getI_lt hx_8)) fun _ f => Y4 f hc_2 0 rfl fun _ f => ?_
      obtain ⟨x_9, hx_9, hF_16⟩ := bS hF_15
      refine Y3 f (h_Compare_ok n _ x_7 x_8 x_9 hx_9) fun _ f => Y5 default f 1 fun _ f => Q_end rfl ?_
      intro w_12 p_15
      refine T_n (RR (Y f 2 fun _ f => eT (RcF f hF_16 (fun h_9 hF_17 => ?_) fun h_9 hF_19 => ?_)))
      ·have k_5 : ¬ (x_9 = 0) := (not_iff dI).1 h_9
       refine RR (Y f 2 fun _ f => eT (wp_ret ?_))
       have hF_18 := br_elim hF_17 hF_12
       refine T_r (T_r (B_r (T_r (T_r ?_))))
       obtain rfl := sI hF_18
       exact .inl ⟨rfl, x_9, (sI hn_1).symm, M_3, hM_3, f.kp, p_15⟩
      ·have k_6 : ¬ (¬ (x_9 = 0)) := iff_f (not_iff dI) h_9
       refine wp_skip (T_n ?_)
       exact ⟨(), (sI hF_19).symm, M_3, (mR _), f.kp, p_15⟩
     ·have k_7 := iff_f dI h_8
      refine wp_skip (T_n ?_)
      exact ⟨(), (sI hF_20).symm, M_3, (mR _), f.kp, p_13⟩
    ·rintro a_56 w_13 ⟨y_1, rfl, M_4, hM_4, f, p_16⟩
     refine T_n (R_seq (R_draw p_16 (by kernel_rfl) (by kernel_rfl) (Y5 default f 3 fun _ f => Y4 f (fzu ((hM_2.trans hM_3).trans hM_4) q0) 4 rfl fun _ f => Y5 default f 1 fun _ f => ?_)))
     obtain ⟨x_10, hx_10, hF_21⟩ := bS hF_12
     obtain ⟨ad_3, c_3, e_3, -, hr_4, hc_3⟩ := Sli.at_ (h_1.mono ((hM_2.trans hM_3).trans hM_4)) hx_10
     obtain ⟨A_6, cap_6, A_7, cap_7, rfl, h_10, h_11⟩ := TD0.opn hr_4
     refine Y2 (v := .pointer (some (ad_3.add (s_1.toNat * 6)))) f (fun _ pq => Y31 e_3 rfl (len := d0.fList.length) (cap := cap_1) (k := .i64) (i := s_1) (e := 26) (sz := 6) (getI_nn hx_10) (getI_lt hx_10)) fun _ f => Y5 default f 3 fun _ f => Y4 f (fzu ((hM_2.trans hM_3).trans hM_4) q1) 4 rfl fun _ f => Y5 default f 1 fun _ f => ?_
     obtain ⟨x_11, hx_11, hF_22⟩ := bS hF_21
     obtain ⟨ad_4, c_4, e_4, -, hr_5, hc_4⟩ := Sli.at_ (h_3.mono ((hM_2.trans hM_3).trans hM_4)) hx_11
     obtain ⟨A_8, cap_8, A_9, cap_9, rfl, h_12, h_13⟩ := TD0.opn hr_5
     refine Y2 (v := .pointer (some (ad_4.add (s_1.toNat * 6)))) f (fun _ pq => Y31 e_4 rfl (len := d1.fList.length) (cap := cap_3) (k := .i64) (i := s_1) (e := 26) (sz := 6) (getI_nn hx_11) (getI_lt hx_11)) fun _ f => ?_
     obtain ⟨x_12, hx_12, hF_23⟩ := bS hF_22
     refine Y3 f (hrec_tree_compare _ (GL.mono ((hM_2.trans hM_3).trans hM_4) hG) (ad_3.add (s_1.toNat * 6)) [.int .i8 x_10.fKind, .bool x_10.fBool, .int .i64 x_10.fNum, S x_10.fText, .slice A_6 x_10.fList.length cap_6, .slice A_7 x_10.fKeys.length cap_7] x_10 (TD0.shutx (x := x_10) h_10 h_11) (fz_at (hc_3) 0 rfl) (ad_4.add (s_1.toNat * 6)) [.int .i8 x_11.fKind, .bool x_11.fBool, .int .i64 x_11.fNum, S x_11.fText, .slice A_8 x_11.fList.length cap_8, .slice A_9 x_11.fKeys.length cap_9] x_11 (TD0.shutx (x := x_11) h_12 h_13) (fz_at (hc_4) 0 rfl) x_12 hx_12) fun _ f => Y5 default f 1 fun _ f => Q_end rfl ?_
     intro w_15 p_18
     refine T_n (RR (Y f 2 fun _ f => eT (RcF f hF_23 (fun h_14 hF_24 => ?_) fun h_14 hF_25 => ?_)))
     ·have k_8 : ¬ (x_12 = 0) := (not_iff dI).1 h_14
      refine RR (Y f 2 fun _ f => eT (wp_ret (B_r (T_r (T_r ?_)))))
      obtain rfl := sI hF_24
      exact .inl ⟨rfl, x_12, (sI hn_1).symm, M_4, (hM_3.trans hM_4), f.kp, p_18⟩
     ·have k_9 : ¬ (¬ (x_12 = 0)) := iff_f (not_iff dI) h_14
      refine wp_skip (B_n (T_n (R_reg ?_)))
      obtain ⟨g_2, hF_26⟩ := nS hF_25
      refine Y f 1 fun _ f => ?_
      have f := f.st 105 (congrArg (Value.int .i64) (inR_wrap g_2))
      refine Y f 1 fun _ f => eT ?_
      obtain rfl := sI hF_26
      exact ⟨⟨m_2, s_1 + 1⟩, Nat.lt_succ_self _, M_4, (hM_3.trans hM_4), hn_1, f.kp, p_18⟩
   ·have k_10 := iff_f dI h_7
    refine wp_exit (T_x (T_x ?_))
    obtain rfl := sI hF_27
    exact .inr ⟨rfl, (), (sI hn_1).symm, M_3, hM_3, f.kp, p_13⟩
  ·rintro _ _ w_18 (⟨rfl, y_2, rfl, M_5, hM_5, f, p_19⟩ | ⟨rfl, y_3, rfl, M_6, hM_6, f, p_20⟩)
   ·refine B_r (T_r (E_ret1 f rfl (by kernel_rfl : Vc.look _ 4 = some (.int .i64 y_2)) ?_))
    obtain rfl := sI hF_10
    exact ⟨_, rfl, M_5, (hM_2.trans hM_5), (p_19.dropN 1), rfl⟩
   ·refine B_x (T_n (R_seq (R_draw p_20 (by kernel_rfl) (by kernel_rfl) (Y5 default f 3 fun _ f => Y4 f (fzu (hM_2.trans hM_6) q0) 4 rfl fun _ f => Y5 default f 4 fun _ f => Y4 f (fzu (hM_2.trans hM_6) q1) 4 rfl fun _ f => Y5 default f 1 fun _ f => ?_))))
    obtain ⟨x_13, hx_13, hF_28⟩ := bS hF_10
    refine Y3 f (cmp_Compare_2_ok n _ (GL.mono (hM_2.trans hM_6) hG) ((d0.fList.length : Nat) : Int) ((d1.fList.length : Nat) : Int) x_13 hx_13) fun _ f => Y5 default f 1 fun _ f => Q_end rfl ?_
    intro w_20 p_22
    refine T_n (wp_ret (E_ret1 f rfl (by kernel_rfl : Vc.look _ 4 = some (.int .i64 x_13)) ?_))
    obtain rfl := sI hF_28
    exact ⟨_, rfl, M_6, (hM_2.trans hM_6), (p_22.dropN 1), rfl⟩
def tree_compare_k (n : Nat) : Nat → TD0 → TD0 → Option Int
  | 0 => fun _ _ => none
  | k + 1 => tree_compare_b n (tree_compare_k n k)
def tree_compare (n : Nat) (d0 : TD0) (d1 : TD0) : Option Int := tree_compare_k n n d0 d1
theorem tree_compare_ok (n : Nat) (M : Mem) (hG : GL M) (ad0 : Addr) (c0 : List Value) (d0 : TD0) (h0 : Rep M (emb_TD0 d0) c0) (q0 : ∀ j v, c0[j]? = some v → M.cell? (ad0.add j) = some v) (ad1 : Addr) (c1 : List Value) (d1 : TD0) (h1 : Rep M (emb_TD0 d1) c1) (q1 : ∀ j v, c1[j]? = some v → M.cell? (ad1.add j) = some v) (r : Int) (hF : tree_compare n d0 d1 = some r) : Ok Tryd.prog M 136 [.pointer (some ad0), .pointer (some ad1)] (fun _ v => v = .int .i64 r) := by
 have key : ∀ (k : Nat) (M : Mem) (hG : GL M) (ad0 : Addr) (c0 : List Value) (d0 : TD0) (h0 : Rep M (emb_TD0 d0) c0) (q0 : ∀ j v, c0[j]? = some v → M.cell? (ad0.add j) = some v) (ad1 : Addr) (c1 : List Value) (d1 : TD0) (h1 : Rep M (emb_TD0 d1) c1) (q1 : ∀ j v, c1[j]? = some v → M.cell? (ad1.add j) = some v) (r : Int) (hF : tree_compare_k n k d0 d1 = some r), Ok Tryd.prog M 136 [.pointer (some ad0), .pointer (some ad1)] (fun _ v => v = .int .i64 r) := by
  intro k
  induction k with
  | zero => intro M hG ad0 c0 d0 h0 q0 ad1 c1 d1 h1 q1 r hF; simp [tree_compare_k] at hF
  | succ k ih => intro M hG ad0 c0 d0 h0 q0 ad1 c1 d1 h1 q1 r hF; exact tree_compare_b_ok n (tree_compare_k n k) ih M hG ad0 c0 d0 h0 q0 ad1 c1 d1 h1 q1 r hF
 exact key n M hG ad0 c0 d0 h0 q0 ad1 c1 d1 h1 q1 r hF
def tree_compare_2_s1 (n : Nat) (d0_0 : Int) (d0_4 : List TD0) (d0_5 : List (List UInt8)) (d1_4 : List TD0) (d1_5 : List (List UInt8)) (s_1 : Int) : Option (Lp Int (Sum Int Unit)) :=
    bif (decide (s_1 < (min ((d0_4.length : Nat) : Int) ((d1_4.length : Nat) : Int)))) then
      (((bif (decide (d0_0 = 5)) then
          ((getI d0_5 s_1).bind fun x_7 =>
          (getI d1_5 s_1).bind fun x_8 =>
          (h_Compare n x_7 x_8).bind fun x_9 =>
          bif (!(decide (x_9 = 0))) then
            (((some (.br (.inl x_9)) : Option (Lp Int (Sum Int Unit)))).map Lp.br)
          else
            some (.nx ()))
        else
          some (.nx ()) : Option (Lp Unit (Lp Int (Sum Int Unit))))).bind fun j => joinF j fun y_1 =>
      (getI d0_4 s_1).bind fun x_10 =>
      (getI d1_4 s_1).bind fun x_11 =>
      (tree_compare n x_10 x_11).bind fun x_12 =>
      bif (!(decide (x_12 = 0))) then
        (some (.br (.inl x_12)))
      else
        need (inR .i64 (s_1 + 1)) <|
        some (.nx (s_1 + 1)))
    else
      some (.br (.inr ()))
def tree_compare_2 (n : Nat) (d0_0 : Int) (d0_1 : Bool) (d0_2 : Int) (d0_3 : List UInt8) (d0_4 : List TD0) (d0_5 : List (List UInt8)) (d1_0 : Int) (d1_1 : Bool) (d1_2 : Int) (d1_3 : List UInt8) (d1_4 : List TD0) (d1_5 : List (List UInt8)) : Option (Int × Int × Bool × Int × List UInt8 × List TD0 × List (List UInt8) × Int × Bool × Int × List UInt8 × List TD0 × List (List UInt8)) :=
  (cmp_Compare n d0_0 d1_0).bind fun x_1 =>
  (tree_bit n (d0_1)).bind fun x_2 =>
  (tree_bit n (d1_1)).bind fun x_3 =>
  need (inR .i64 (x_2 - x_3)) <|
  (cmp_Compare_2 n d0_2 d1_2).bind fun x_4 =>
  (h_Compare n d0_3 d1_3).bind fun x_5 =>
  (cmp_Or n [x_1, x_2 - x_3, x_4, x_5]).bind fun x_6 =>
  bif (!(decide (x_6 = 0))) then
    (some ((x_6, d0_0, (d0_1), d0_2, d0_3, d0_4, d0_5, d1_0, (d1_1), d1_2, d1_3, d1_4, d1_5)))
  else
    (loopF (tree_compare_2_s1 n d0_0 d0_4 d0_5 d1_4 d1_5) n (0 : Int)).bind fun b_2 =>
    (match b_2 with 
    | .inl y_2 => some ((y_2, d0_0, (d0_1), d0_2, d0_3, d0_4, d0_5, d1_0, (d1_1), d1_2, d1_3, d1_4, d1_5)) 
    | .inr y_3 => (cmp_Compare_2 n ((d0_4.length : Nat) : Int) ((d1_4.length : Nat) : Int)).bind fun x_13 =>
      some ((x_13, d0_0, (d0_1), d0_2, d0_3, d0_4, d0_5, d1_0, (d1_1), d1_2, d1_3, d1_4, d1_5)))
set_option maxRecDepth 20000 in
theorem tree_compare_2_ok (n : Nat) (M : Mem) (hG : GL M) (b0 : Nat) (d0_0 : Int) (d0_1 : Bool) (d0_2 : Int) (d0_3 : List UInt8) (d0_4 : List TD0) (A_1 : Option Addr) (cap_1 : Nat) (h_1 : Sli M 6 emb_TD0 A_1 cap_1 d0_4) (d0_5 : List (List UInt8)) (A_2 : Option Addr) (cap_2 : Nat) (h_2 : Sli M 1 Dat.str A_2 cap_2 d0_5) (b1 : Nat) (d1_0 : Int) (d1_1 : Bool) (d1_2 : Int) (d1_3 : List UInt8) (d1_4 : List TD0) (A_3 : Option Addr) (cap_3 : Nat) (h_3 : Sli M 6 emb_TD0 A_3 cap_3 d1_4) (d1_5 : List (List UInt8)) (A_4 : Option Addr) (cap_4 : Nat) (h_4 : Sli M 1 Dat.str A_4 cap_4 d1_5) (r : Int × Int × Bool × Int × List UInt8 × List TD0 × List (List UInt8) × Int × Bool × Int × List UInt8 × List TD0 × List (List UInt8)) (hF : tree_compare_2 n d0_0 d0_1 d0_2 d0_3 d0_4 d0_5 d1_0 d1_1 d1_2 d1_3 d1_4 d1_5 = some r) : OkH Tryd.prog M [Ent.obj b0 (.cells #[.int .i8 d0_0, .bool d0_1, .int .i64 d0_2, S d0_3, .slice A_1 d0_4.length cap_1, .slice A_2 d0_5.length cap_2] 26 (0, 0)), Ent.obj b1 (.cells #[.int .i8 d1_0, .bool d1_1, .int .i64 d1_2, S d1_3, .slice A_3 d1_4.length cap_3, .slice A_4 d1_5.length cap_4] 26 (0, 0))] 136 [.pointer (some (⟨b0, 0, none⟩)), .pointer (some (⟨b1, 0, none⟩))] (fun M' E' v => ∃ (A_10 : Option Addr) (cap_10 : Nat) (A_11 : Option Addr) (cap_11 : Nat) (A_12 : Option Addr) (cap_12 : Nat) (A_13 : Option Addr) (cap_13 : Nat), v = .int .i64 r.1 ∧ E' = [Ent.obj b0 (.cells #[.int .i8 r.2.1, .bool r.2.2.1, .int .i64 r.2.2.2.1, S r.2.2.2.2.1, .slice A_10 r.2.2.2.2.2.1.length cap_10, .slice A_11 r.2.2.2.2.2.2.1.length cap_11] 26 (0, 0)), Ent.obj b1 (.cells #[.int .i8 r.2.2.2.2.2.2.2.1, .bool r.2.2.2.2.2.2.2.2.1, .int .i64 r.2.2.2.2.2.2.2.2.2.1, S r.2.2.2.2.2.2.2.2.2.2.1, .slice A_12 r.2.2.2.2.2.2.2.2.2.2.2.1.length cap_12, .slice A_13 r.2.2.2.2.2.2.2.2.2.2.2.2.length cap_13] 26 (0, 0))] ∧ Sli M' 6 emb_TD0 A_10 cap_10 r.2.2.2.2.2.1 ∧ Sli M' 1 Dat.str A_11 cap_11 r.2.2.2.2.2.2.1 ∧ Sli M' 6 emb_TD0 A_12 cap_12 r.2.2.2.2.2.2.2.2.2.2.2.1 ∧ Sli M' 1 Dat.str A_13 cap_13 r.2.2.2.2.2.2.2.2.2.2.2.2) := by
 unfold tree_compare_2 at hF
 intro M1 hM0 w0 H w p0
 replace hG := GL.mono hM0 hG
 replace h_1 := h_1.mono hM0
 replace h_2 := h_2.mono hM0
 replace h_3 := h_3.mono hM0
 replace h_4 := h_4.mono hM0
 refine R_enter 117 Tryd.func136 rfl rfl (by simp) fun a0 f0 => RR (Y f0 1 fun _ f => eT (R_seq (R_seq (R_drawQ 38 p0 (by kernel_rfl) (by kernel_rfl) (Y5 default f 3 fun _ f => Y2 (v := .int .i8 d0_0) f (fun _ pq => Y32 (v := .int .i8 d0_0) rfl (ad := ⟨b0, 0, none⟩) (pq.ownCell 0 rfl 0)) fun _ f => Y5 default f 3 fun _ f => Y2 (v := .int .i8 d1_0) f (fun _ pq => Y32 (v := .int .i8 d1_0) rfl (ad := ⟨b1, 0, none⟩) (pq.ownCell 1 rfl 0)) fun _ f => ?_)))))
 obtain ⟨x_1, hx_1, hF_1⟩ := bS hF
 refine Y3 f (cmp_Compare_ok n _ d0_0 d1_0 x_1 hx_1) fun _ f => Y5 default f 3 fun _ f => Y2 (v := .bool d0_1) f (fun _ pq => Y32 (v := .bool d0_1) rfl (ad := ⟨b0, 1, none⟩) (pq.ownCell 0 rfl 1)) fun _ f => ?_
 obtain ⟨x_2, hx_2, hF_2⟩ := bS hF_1
 refine Y3 f (tree_bit_ok n _ hG (d0_1) x_2 hx_2) fun _ f => Y5 default f 3 fun _ f => Y2 (v := .bool d1_1) f (fun _ pq => Y32 (v := .bool d1_1) rfl (ad := ⟨b1, 1, none⟩) (pq.ownCell 1 rfl 1)) fun _ f => ?_
 obtain ⟨x_3, hx_3, hF_3⟩ := bS hF_2
 refine Y3 f (tree_bit_ok n _ hG (d1_1) x_3 hx_3) fun _ f => ?_
 obtain ⟨g_1, hF_4⟩ := nS hF_3
 refine Y2 (v := .int .i64 (IntKind.wrap .i64 (x_2 - x_3))) f (fun _ pq => by kernel_rfl) fun _ f => ?_
 have f := f.st 28 (congrArg (Value.int .i64) (inR_wrap g_1))
 refine Y5 default f 3 fun _ f => Y2 (v := .int .i64 d0_2) f (fun _ pq => Y32 (v := .int .i64 d0_2) rfl (ad := ⟨b0, 2, none⟩) (pq.ownCell 0 rfl 2)) fun _ f => Y5 default f 3 fun _ f => Y2 (v := .int .i64 d1_2) f (fun _ pq => Y32 (v := .int .i64 d1_2) rfl (ad := ⟨b1, 2, none⟩) (pq.ownCell 1 rfl 2)) fun _ f => ?_
 obtain ⟨x_4, hx_4, hF_5⟩ := bS hF_4
 refine Y3 f (cmp_Compare_2_ok n _ hG d0_2 d1_2 x_4 hx_4) fun _ f => Y5 default f 3 fun _ f => Y2 (v := S d0_3) f (fun _ pq => Y32 (v := S d0_3) rfl (ad := ⟨b0, 3, none⟩) (pq.ownCell 0 rfl 3)) fun _ f => Y5 default f 3 fun _ f => Y2 (v := S d1_3) f (fun _ pq => Y32 (v := S d1_3) rfl (ad := ⟨b1, 3, none⟩) (pq.ownCell 1 rfl 3)) fun _ f => ?_
 obtain ⟨x_5, hx_5, hF_6⟩ := bS hF_5
 refine Y3 f (h_Compare_ok n _ d0_3 d1_3 x_5 hx_5) fun _ f => Q_end rfl ?_
 intro w_1 p_1
 refine V_allocS (k := 4) (c := 4) f p_1 (.cells #[.int .i64 x_1, .int .i64 (x_2 - x_3), .int .i64 x_4, .int .i64 x_5] 3 (0, 0)) (by kernel_rfl) (fun _ => by kernel_rfl) fun b_1 w_7 p_7 _ f => ?_
 have hr_1 : RepSeq M1 ([x_1, x_2 - x_3, x_4, x_5].map (Dat.int .i64)) [.int .i64 x_1, .int .i64 (x_2 - x_3), .int .i64 x_4, .int .i64 x_5] := ⟨_, _, rfl, rfl, ⟨_, _, rfl, rfl, ⟨_, _, rfl, rfl, ⟨_, _, rfl, rfl, rfl⟩⟩⟩⟩
 have p_8 : Hp w0 M1 ((Ent.row 3 1 (.slice (some ⟨b_1, 0, none⟩) 4 4) [x_1, x_2 - x_3, x_4, x_5].length [.int .i64 x_1, .int .i64 (x_2 - x_3), .int .i64 x_4, .int .i64 x_5]) :: (Ent.obj b0 (.cells #[.int .i8 d0_0, .bool d0_1, .int .i64 d0_2, S d0_3, .slice A_1 d0_4.length cap_1, .slice A_2 d0_5.length cap_2] 26 (0, 0))) :: (Ent.obj b1 (.cells #[.int .i8 d1_0, .bool d1_1, .int .i64 d1_2, S d1_3, .slice A_3 d1_4.length cap_3, .slice A_4 d1_5.length cap_4] 26 (0, 0))) :: H) w_7 := p_7.objRow (n := 4) (cap := 4) (size := 1) (by decide) (by decide) (blk_eq (by decide) rfl) rfl rfl
 obtain ⟨M_1, A_5, cap_5, hM_1, hv_1, p_9, h_5, hb_1⟩ := p_8.lend (f := (Dat.int .i64)) (xs := [x_1, x_2 - x_3, x_4, x_5]) (szd_int .i64) hr_1
 have f := f.st 47 (hv_1)
 obtain ⟨x_6, hx_6, hF_7⟩ := bS hF_6
 refine Y18 f p_9 (cmp_Or_ok n _ (GL.mono hM_1 hG) A_5 cap_5 [x_1, x_2 - x_3, x_4, x_5] h_5 x_6 hx_6) fun w_8 p_10 _ f => ?_
 obtain ⟨M_2, hM_2, p_11⟩ := hb_1 _ _ _ (mR _) p_10
 have f := f.st 47 (hv_1.symm)
 refine Y f 1 fun _ f => eT (RR (Y f 2 fun _ f => eT (RcF f hF_7 (fun h_6 hF_8 => ?_) fun h_6 hF_9 => ?_)))
 ·have k_1 : ¬ (x_6 = 0) := (not_iff dI).1 h_6
  refine RR (Y f 2 fun _ f => eT (wp_ret (T_r (E_ret1 f rfl (by kernel_rfl : Vc.look _ 4 = some (.int .i64 x_6)) ?_))))
  obtain rfl := sI hF_8
  exact ⟨_, rfl, M_2, _, hM_2, (p_11.dropN 1), ⟨A_1, cap_1, A_2, cap_2, A_3, cap_3, A_4, cap_4, rfl, rfl, (h_1.mono hM_2), (h_2.mono hM_2), (h_3.mono hM_2), (h_4.mono hM_2)⟩⟩
 ·have k_2 : ¬ (¬ (x_6 = 0)) := iff_f (not_iff dI) h_6
  refine wp_skip (T_n (R_seq (R_seq (R_draw p_11 (by kernel_rfl) (by kernel_rfl) (Y5 default f 3 fun _ f => Y2 (v := .slice A_1 d0_4.length cap_1) f (fun _ pq => Y32 (v := .slice A_1 d0_4.length cap_1) rfl (ad := ⟨b0, 4, none⟩) (pq.ownCell 1 rfl 4)) fun _ f => Y5 default f 4 fun _ f => Y2 (v := .slice A_3 d1_4.length cap_3) f (fun _ pq => Y32 (v := .slice A_3 d1_4.length cap_3) rfl (ad := ⟨b1, 4, none⟩) (pq.ownCell 2 rfl 4)) fun _ f => Y5 default f 1 fun _ f => Y2 (v := .int .i64 (min ((d0_4.length : Nat) : Int) ((d1_4.length : Nat) : Int))) f (fun _ pq => X_min (k := .i64) (a := ((d0_4.length : Nat) : Int)) (b := ((d1_4.length : Nat) : Int)) rfl (by kernel_rfl) (by kernel_rfl)) fun _ f => Y5 default f 1 fun _ f => Q_end rfl ?_)))))
  intro w_9 p_12
  refine T_n (wp_block ?_)
  obtain ⟨b_2, hL_1, hF_10⟩ := bS hF_9
  refine wp_mono (Q := fun e a w => (e = .ret ∧ (∃ y_2 : Int, b_2 = .inl y_2 ∧ ∃ M_5 : Mem, M_2.le M_5 ∧ Frm 117 [(4, .int .i64 y_2)] a ∧ Hp w0 M_5 ((Ent.row 3 1 (.slice (some ⟨b_1, 0, none⟩) 4 4) [x_1, x_2 - x_3, x_4, x_5].length [.int .i64 x_1, .int .i64 (x_2 - x_3), .int .i64 x_4, .int .i64 x_5]) :: (Ent.obj b0 (.cells #[.int .i8 d0_0, .bool d0_1, .int .i64 d0_2, S d0_3, .slice A_1 d0_4.length cap_1, .slice A_2 d0_5.length cap_2] 26 (0, 0))) :: (Ent.obj b1 (.cells #[.int .i8 d1_0, .bool d1_1, .int .i64 d1_2, S d1_3, .slice A_3 d1_4.length cap_3, .slice A_4 d1_5.length cap_4] 26 (0, 0))) :: H) w)) ∨ (e = .exit 0 ∧ (∃ y_3 : Unit, b_2 = .inr y_3 ∧ ∃ M_6 : Mem, M_2.le M_6 ∧ Frm 117 [(0, .pointer (some (⟨b0, 0, none⟩))), (1, .pointer (some (⟨b1, 0, none⟩)))] a ∧ Hp w0 M_6 ((Ent.row 3 1 (.slice (some ⟨b_1, 0, none⟩) 4 4) [x_1, x_2 - x_3, x_4, x_5].length [.int .i64 x_1, .int .i64 (x_2 - x_3), .int .i64 x_4, .int .i64 x_5]) :: (Ent.obj b0 (.cells #[.int .i8 d0_0, .bool d0_1, .int .i64 d0_2, S d0_3, .slice A_1 d0_4.length cap_1, .slice A_2 d0_5.length cap_2] 26 (0, 0))) :: (Ent.obj b1 (.cells #[.int .i8 d1_0, .bool d1_1, .int .i64 d1_2, S d1_3, .slice A_3 d1_4.length cap_3, .slice A_4 d1_5.length cap_4] 26 (0, 0))) :: H) w))) (R_loop (n := 117) (w0 := w0) (M := M_2) (fun (x : Nat × Int) => match x with | (m_1, s_1) => [(0, .pointer (some (⟨b0, 0, none⟩))), (1, .pointer (some (⟨b1, 0, none⟩))), (62, .int .i64 (min ((d0_4.length : Nat) : Int) ((d1_4.length : Nat) : Int))), (63, .int .i64 s_1)]) (fun (x : Nat × Int) => match x with | (m_1, s_1) => ((Ent.row 3 1 (.slice (some ⟨b_1, 0, none⟩) 4 4) [x_1, x_2 - x_3, x_4, x_5].length [.int .i64 x_1, .int .i64 (x_2 - x_3), .int .i64 x_4, .int .i64 x_5]) :: (Ent.obj b0 (.cells #[.int .i8 d0_0, .bool d0_1, .int .i64 d0_2, S d0_3, .slice A_1 d0_4.length cap_1, .slice A_2 d0_5.length cap_2] 26 (0, 0))) :: (Ent.obj b1 (.cells #[.int .i8 d1_0, .bool d1_1, .int .i64 d1_2, S d1_3, .slice A_3 d1_4.length cap_3, .slice A_4 d1_5.length cap_4] 26 (0, 0))) :: H)) (fun (x : Nat × Int) (MM : Mem) => match x with | (m_1, s_1) => loopF (tree_compare_2_s1 n d0_0 d0_4 d0_5 d1_4 d1_5) m_1 s_1 = some b_2) (fun (x : Nat × Int) => match x with | (m_1, s_1) => m_1) (n, (0 : Int)) (f.kp) p_12 hL_1 ?_) ?_
  ·rintro ⟨m_1, s_1⟩ M_3 _ w_10 hM_3 I_1 f p_13
   have I_1L := I_1
   obtain ⟨m_2, r_1, rfl, hs_1, hn_1⟩ := loop_step I_1L
   unfold tree_compare_2_s1 at hs_1
   refine RR (Y f 1 fun _ f => eT (R_seq (RcF f hs_1 (fun h_7 hF_11 => ?_) fun h_7 hF_27 => ?_)))
   ·have k_3 := dI.1 h_7
    refine wp_skip (T_n (R_seq (wp_block (RR (Y f 2 fun _ f => eT (R_seq (RR (Y f 3 fun _ f => Z f (Y32 (v := .int .i8 d0_0) rfl (ad := ⟨b0, 0, none⟩) (p_13.ownCell 1 rfl 0)) fun _ f => Y f 1 fun _ f => eT ?_))))))))
    obtain ⟨j_1, hj_1, hF_12⟩ := bS hF_11
    refine R_mid (fun a_56 w_13 => ∃ y_1 : Unit, j_1 = .nx y_1 ∧ ∃ M_4 : Mem, M_3.le M_4 ∧ Frm 117 [(0, .pointer (some (⟨b0, 0, none⟩))), (1, .pointer (some (⟨b1, 0, none⟩))), (6, .int .i64 s_1), (62, .int .i64 (min ((d0_4.length : Nat) : Int) ((d1_4.length : Nat) : Int))), (63, .int .i64 s_1)] a_56 ∧ Hp w0 M_4 ((Ent.row 3 1 (.slice (some ⟨b_1, 0, none⟩) 4 4) [x_1, x_2 - x_3, x_4, x_5].length [.int .i64 x_1, .int .i64 (x_2 - x_3), .int .i64 x_4, .int .i64 x_5]) :: (Ent.obj b0 (.cells #[.int .i8 d0_0, .bool d0_1, .int .i64 d0_2, S d0_3, .slice A_1 d0_4.length cap_1, .slice A_2 d0_5.length cap_2] 26 (0, 0))) :: (Ent.obj b1 (.cells #[.int .i8 d1_0, .bool d1_1, .int .i64 d1_2, S d1_3, .slice A_3 d1_4.length cap_3, .slice A_4 d1_5.length cap_4] 26 (0, 0))) :: H) w_13) ?_ ?_
    ·refine RcF f hj_1 (fun h_8 hF_13 => ?_) fun h_8 hF_20 => ?_
     ·have k_4 := dI.1 h_8
      refine R_seq (R_draw p_13 (by kernel_rfl) (by kernel_rfl) (Y5 default f 3 fun _ f => Y2 (v := .slice A_2 d0_5.length cap_2) f (fun _ pq => Y32 (v := .slice A_2 d0_5.length cap_2) rfl (ad := ⟨b0, 5, none⟩) (pq.ownCell 1 rfl 5)) fun _ f => Y5 default f 1 fun _ f => ?_))
      obtain ⟨x_7, hx_7, hF_14⟩ := bS hF_13
      obtain ⟨ad_1, c_1, e_1, -, hr_2, hc_1⟩ := Sli.at_ (h_2.mono (hM_2.trans hM_3)) hx_7
      obtain rfl : c_1 = [S x_7] := hr_2
      refine Y2 (v := .pointer (some (ad_1.add (s_1.toNat * 1)))) f (fun _ pq => Y31 e_1 rfl (len := d0_5.length) (cap := cap_2) (k := .i64) (i := s_1) (e := 9) (sz := 1) (getI_nn hx_7) (getI_lt hx_7)) fun _ f => Y4 f hc_1 0 rfl fun _ f => Y5 default f 3 fun _ f => Y2 (v := .slice A_4 d1_5.length cap_4) f (fun _ pq => Y32 (v := .slice A_4 d1_5.length cap_4) rfl (ad := ⟨b1, 5, none⟩) (pq.ownCell 2 rfl 5)) fun _ f => Y5 default f 1 fun _ f => ?_
      obtain ⟨x_8, hx_8, hF_15⟩ := bS hF_14
      obtain ⟨ad_2, c_2, e_2, -, hr_3, hc_2⟩ := Sli.at_ (h_4.mono (hM_2.trans hM_3)) hx_8
      obtain rfl : c_2 = [S x_8] := hr_3
      refine Y2 (v := .pointer (some (ad_2.add (s_1.toNat * 1)))) f (fun _ pq => Y31 e_2 rfl (len := d1_5.length) (cap := cap_4) (k := .i64) (i := s_1) (e := 9) (sz := 1) (getI_nn hx_8) (getI_lt hx_8)) fun _ f => Y4 f hc_2 0 rfl fun _ f => ?_
      obtain ⟨x_9, hx_9, hF_16⟩ := bS hF_15
      refine Y3 f (h_Compare_ok n _ x_7 x_8 x_9 hx_9) fun _ f => Y5 default f 1 fun _ f => Q_end rfl ?_
      intro w_12 p_15
      refine T_n (RR (Y f 2 fun _ f => eT (RcF f hF_16 (fun h_9 hF_17 => ?_) fun h_9 hF_19 => ?_)))
      ·have k_5 : ¬ (x_9 = 0) := (not_iff dI).1 h_9
       refine RR (Y f 2 fun _ f => eT (wp_ret ?_))
       have hF_18 := br_elim hF_17 hF_12
       refine T_r (T_r (B_r (T_r (T_r ?_))))
       obtain rfl := sI hF_18
       exact .inl ⟨rfl, x_9, (sI hn_1).symm, M_3, hM_3, f.kp, p_15⟩
      ·have k_6 : ¬ (¬ (x_9 = 0)) := iff_f (not_iff dI) h_9
       refine wp_skip (T_n ?_)
       exact ⟨(), (sI hF_19).symm, M_3, (mR _), f.kp, p_15⟩
     ·have k_7 := iff_f dI h_8
      refine wp_skip (T_n ?_)
      exact ⟨(), (sI hF_20).symm, M_3, (mR _), f.kp, p_13⟩
    ·rintro a_56 w_13 ⟨y_1, rfl, M_4, hM_4, f, p_16⟩
     refine T_n (R_seq (R_draw p_16 (by kernel_rfl) (by kernel_rfl) (Y5 default f 3 fun _ f => Y2 (v := .slice A_1 d0_4.length cap_1) f (fun _ pq => Y32 (v := .slice A_1 d0_4.length cap_1) rfl (ad := ⟨b0, 4, none⟩) (pq.ownCell 1 rfl 4)) fun _ f => Y5 default f 1 fun _ f => ?_)))
     obtain ⟨x_10, hx_10, hF_21⟩ := bS hF_12
     obtain ⟨ad_3, c_3, e_3, -, hr_4, hc_3⟩ := Sli.at_ (h_1.mono ((hM_2.trans hM_3).trans hM_4)) hx_10
     obtain ⟨A_6, cap_6, A_7, cap_7, rfl, h_10, h_11⟩ := TD0.opn hr_4
     refine Y2 (v := .pointer (some (ad_3.add (s_1.toNat * 6)))) f (fun _ pq => Y31 e_3 rfl (len := d0_4.length) (cap := cap_1) (k := .i64) (i := s_1) (e := 26) (sz := 6) (getI_nn hx_10) (getI_lt hx_10)) fun _ f => Y5 default f 3 fun _ f => Y2 (v := .slice A_3 d1_4.length cap_3) f (fun _ pq => Y32 (v := .slice A_3 d1_4.length cap_3) rfl (ad := ⟨b1, 4, none⟩) (pq.ownCell 2 rfl 4)) fun _ f => Y5 default f 1 fun _ f => ?_
     obtain ⟨x_11, hx_11, hF_22⟩ := bS hF_21
     obtain ⟨ad_4, c_4, e_4, -, hr_5, hc_4⟩ := Sli.at_ (h_3.mono ((hM_2.trans hM_3).trans hM_4)) hx_11
     obtain ⟨A_8, cap_8, A_9, cap_9, rfl, h_12, h_13⟩ := TD0.opn hr_5
     refine Y2 (v := .pointer (some (ad_4.add (s_1.toNat * 6)))) f (fun _ pq => Y31 e_4 rfl (len := d1_4.length) (cap := cap_3) (k := .i64) (i := s_1) (e := 26) (sz := 6) (getI_nn hx_11) (getI_lt hx_11)) fun _ f => ?_
     obtain ⟨x_12, hx_12, hF_23⟩ := bS hF_22
     refine Y3 f (tree_compare_ok n _ (GL.mono ((hM_2.trans hM_3).trans hM_4) hG) (ad_3.add (s_1.toNat * 6)) [.int .i8 x_10.fKind, .bool x_10.fBool, .int .i64 x_10.fNum, S x_10.fText, .slice A_6 x_10.fList.length cap_6, .slice A_7 x_10.fKeys.length cap_7] x_10 (TD0.shutx (x := x_10) h_10 h_11) (fz_at (hc_3) 0 rfl) (ad_4.add (s_1.toNat * 6)) [.int .i8 x_11.fKind, .bool x_11.fBool, .int .i64 x_11.fNum, S x_11.fText, .slice A_8 x_11.fList.length cap_8, .slice A_9 x_11.fKeys.length cap_9] x_11 (TD0.shutx (x := x_11) h_12 h_13) (fz_at (hc_4) 0 rfl) x_12 hx_12) fun _ f => Y5 default f 1 fun _ f => Q_end rfl ?_
     intro w_15 p_18
     refine T_n (RR (Y f 2 fun _ f => eT (RcF f hF_23 (fun h_14 hF_24 => ?_) fun h_14 hF_25 => ?_)))
     ·have k_8 : ¬ (x_12 = 0) := (not_iff dI).1 h_14
      refine RR (Y f 2 fun _ f => eT (wp_ret (B_r (T_r (T_r ?_)))))
      obtain rfl := sI hF_24
      exact .inl ⟨rfl, x_12, (sI hn_1).symm, M_4, (hM_3.trans hM_4), f.kp, p_18⟩
     ·have k_9 : ¬ (¬ (x_12 = 0)) := iff_f (not_iff dI) h_14
      refine wp_skip (B_n (T_n (R_reg ?_)))
      obtain ⟨g_2, hF_26⟩ := nS hF_25
      refine Y f 1 fun _ f => ?_
      have f := f.st 105 (congrArg (Value.int .i64) (inR_wrap g_2))
      refine Y f 1 fun _ f => eT ?_
      obtain rfl := sI hF_26
      exact ⟨⟨m_2, s_1 + 1⟩, Nat.lt_succ_self _, M_4, (hM_3.trans hM_4), hn_1, f.kp, p_18⟩
   ·have k_10 := iff_f dI h_7
    refine wp_exit (T_x (T_x ?_))
    obtain rfl := sI hF_27
    exact .inr ⟨rfl, (), (sI hn_1).symm, M_3, hM_3, f.kp, p_13⟩
  ·rintro _ _ w_18 (⟨rfl, y_2, rfl, M_5, hM_5, f, p_19⟩ | ⟨rfl, y_3, rfl, M_6, hM_6, f, p_20⟩)
   ·refine B_r (T_r (E_ret1 f rfl (by kernel_rfl : Vc.look _ 4 = some (.int .i64 y_2)) ?_))
    obtain rfl := sI hF_10
    exact ⟨_, rfl, M_5, _, (hM_2.trans hM_5), (p_19.dropN 1), ⟨A_1, cap_1, A_2, cap_2, A_3, cap_3, A_4, cap_4, rfl, rfl, (h_1.mono (hM_2.trans hM_5)), (h_2.mono (hM_2.trans hM_5)), (h_3.mono (hM_2.trans hM_5)), (h_4.mono (hM_2.trans hM_5))⟩⟩
   ·refine B_x (T_n (R_seq (R_draw p_20 (by kernel_rfl) (by kernel_rfl) (Y5 default f 3 fun _ f => Y2 (v := .slice A_1 d0_4.length cap_1) f (fun _ pq => Y32 (v := .slice A_1 d0_4.length cap_1) rfl (ad := ⟨b0, 4, none⟩) (pq.ownCell 1 rfl 4)) fun _ f => Y5 default f 4 fun _ f => Y2 (v := .slice A_3 d1_4.length cap_3) f (fun _ pq => Y32 (v := .slice A_3 d1_4.length cap_3) rfl (ad := ⟨b1, 4, none⟩) (pq.ownCell 2 rfl 4)) fun _ f => Y5 default f 1 fun _ f => ?_))))
    obtain ⟨x_13, hx_13, hF_28⟩ := bS hF_10
    refine Y3 f (cmp_Compare_2_ok n _ (GL.mono (hM_2.trans hM_6) hG) ((d0_4.length : Nat) : Int) ((d1_4.length : Nat) : Int) x_13 hx_13) fun _ f => Y5 default f 1 fun _ f => Q_end rfl ?_
    intro w_20 p_22
    refine T_n (wp_ret (E_ret1 f rfl (by kernel_rfl : Vc.look _ 4 = some (.int .i64 x_13)) ?_))
    obtain rfl := sI hF_28
    exact ⟨_, rfl, M_6, _, (hM_2.trans hM_6), (p_22.dropN 1), ⟨A_1, cap_1, A_2, cap_2, A_3, cap_3, A_4, cap_4, rfl, rfl, (h_1.mono (hM_2.trans hM_6)), (h_2.mono (hM_2.trans hM_6)), (h_3.mono (hM_2.trans hM_6)), (h_4.mono (hM_2.trans hM_6))⟩⟩
def tree_both (n : Nat) (d0 : TD0) (d1 : TD0) : Option (Int × Bool) :=
  (((tree_Check n d0).bind fun x_1 =>
    bif (!(decide (x_1 = 0))) then
      (some ((true)))
    else
      (tree_Check n d1).bind fun x_2 =>
      some ((!(decide (x_2 = 0)))) : Option Bool)).bind fun y_1 =>
  bif y_1 then
    (some (((0 : Int), (false))))
  else
    (tree_sorted n d0).bind fun x_3 =>
    (tree_sorted n d1).bind fun x_4 =>
    (tree_compare_2 n x_3.fKind (x_3.fBool) x_3.fNum x_3.fText x_3.fList x_3.fKeys x_4.fKind (x_4.fBool) x_4.fNum x_4.fText x_4.fList x_4.fKeys).bind fun x_5 =>
    some ((x_5.1, (true)))
theorem tree_both_ok (n : Nat) (M : Mem) (hG : GL M) (c0 : List Value) (d0 : TD0) (h0 : Rep M (emb_TD0 d0) c0) (c1 : List Value) (d1 : TD0) (h1 : Rep M (emb_TD0 d1) c1) (r : Int × Bool) (hF : tree_both n d0 d1 = some r) : Ok Tryd.prog M 126 [.agg c0.toArray, .agg c1.toArray] (fun _ v => v = .tuple #[.int .i64 r.1, .bool r.2]) := by
 unfold tree_both at hF
 intro M1 hM0 w0 H w p0
 replace hG := GL.mono hM0 hG
 replace h0 := Rep.mono hM0 _ _ h0
 replace h1 := Rep.mono hM0 _ _ h1
 obtain ⟨A_1, cap_1, A_2, cap_2, rfl, h_1, h_2⟩ := TD0.opn h0
 obtain ⟨A_3, cap_3, A_4, cap_4, rfl, h_3, h_4⟩ := TD0.opn h1
 refine R_enter 19 Tryd.func126 rfl rfl (by simp) fun a0 f0 => RR (Y13 (cs := #[.int .i8 d0.fKind, .bool d0.fBool, .int .i64 d0.fNum, S d0.fText, .slice A_1 d0.fList.length cap_1, .slice A_2 d0.fKeys.length cap_2]) (T := 26) f0 p0 fun b_1 M_1 w_1 hM_1 hc_1 p_1 _ f => ?_)
 have hc_2 := fz_box hc_1
 refine Y13 (cs := #[.int .i8 d1.fKind, .bool d1.fBool, .int .i64 d1.fNum, S d1.fText, .slice A_3 d1.fList.length cap_3, .slice A_4 d1.fKeys.length cap_4]) (T := 26) f p_1 fun b_2 M_2 w_2 hM_2 hc_3 p_2 _ f => ?_
 have hc_4 := fz_box hc_3
 refine Y f 2 fun _ f => eT (R_seq (R_seq ?_))
 obtain ⟨j_1, hj_1, hF_1⟩ := bS hF
 refine R_mid (fun a_11 w_5 => ∃ y_1 : Bool, j_1 = y_1 ∧ ∃ M_3 : Mem, M_2.le M_3 ∧ Frm 19 [(2, .pointer (some (⟨b_1, 0, none⟩))), (3, .pointer (some (⟨b_2, 0, none⟩))), (15, .bool y_1)] a_11 ∧ Hp w0 M_3 (H) w_5) ?_ ?_
 ·refine R_reg (Z (v := .agg #[.int .i8 d0.fKind, .bool d0.fBool, .int .i64 d0.fNum, S d0.fText, .slice A_1 d0.fList.length cap_1, .slice A_2 d0.fKeys.length cap_2]) f (Y33 (cs := [.int .i8 d0.fKind, .bool d0.fBool, .int .i64 d0.fNum, S d0.fText, .slice A_1 d0.fList.length cap_1, .slice A_2 d0.fKeys.length cap_2]) rfl (ad := ⟨b_1, 0, none⟩) (fun j v h => p_2.cell ((fzu hM_2 hc_2) j v h))) fun _ f => ?_)
  obtain ⟨x_1, hx_1, hF_2⟩ := bS hj_1
  refine Y18 f p_2 (tree_Check_ok n _ (GL.mono (hM_1.trans hM_2) hG) _ d0 (TD0.shutx (x := d0) (h_1.mono (hM_1.trans hM_2)) (h_2.mono (hM_1.trans hM_2))) x_1 hx_1) fun w_3 p_3 _ f => Y f 2 fun _ f => ?_
  rcases cE hF_2 with ⟨h_5, hF_3⟩ | ⟨h_5, hF_4⟩
  ·have k_1 : ¬ (x_1 = 0) := (not_iff dI).1 h_5
   have f := f.st 11 (cB h_5)
   refine Y f 4 fun _ f => eT ?_
   exact ⟨(true), (sI hF_3).symm, M_2, (mR _), f.kp, p_3⟩
  ·have k_2 : ¬ (¬ (x_1 = 0)) := iff_f (not_iff dI) h_5
   have f := f.st 11 (cB h_5)
   refine Z (v := .agg #[.int .i8 d1.fKind, .bool d1.fBool, .int .i64 d1.fNum, S d1.fText, .slice A_3 d1.fList.length cap_3, .slice A_4 d1.fKeys.length cap_4]) f (Y33 (cs := [.int .i8 d1.fKind, .bool d1.fBool, .int .i64 d1.fNum, S d1.fText, .slice A_3 d1.fList.length cap_3, .slice A_4 d1.fKeys.length cap_4]) rfl (ad := ⟨b_2, 0, none⟩) (fun j v h => p_3.cell (hc_4 j v h))) fun _ f => ?_
   obtain ⟨x_2, hx_2, hF_5⟩ := bS hF_4
   refine Y18 f p_3 (tree_Check_ok n _ (GL.mono (hM_1.trans hM_2) hG) _ d1 (TD0.shutx (x := d1) (h_3.mono (hM_1.trans hM_2)) (h_4.mono (hM_1.trans hM_2))) x_2 hx_2) fun w_4 p_4 _ f => Y f 2 fun _ f => eT ?_
   exact ⟨(!(decide (x_2 = 0))), (sI hF_5).symm, M_2, (mR _), f.kp, p_4⟩
 ·rintro a_11 w_5 ⟨y_1, hq_1, M_3, hM_3, f, p_5⟩
  subst j_1
  refine T_n (RcF f hF_1 (fun h_6 hF_6 => ?_) fun h_6 hF_7 => ?_)
  ·refine RR (Y f 2 fun _ f => eT (wp_ret (T_r (E_ret2 f rfl (by kernel_rfl : Vc.look _ 4 = some (.int .i64 0)) (by kernel_rfl : Vc.look _ 5 = some (.bool false)) ?_))))
   obtain rfl := sI hF_6
   exact ⟨_, rfl, M_3, ((hM_1.trans hM_2).trans hM_3), p_5, rfl⟩
  ·refine wp_skip (T_n (RR ?_))
   obtain ⟨x_3, hx_3, hF_8⟩ := bS hF_7
   refine Y16 f p_5 (tree_sorted_ok n _ (GL.mono ((hM_1.trans hM_2).trans hM_3) hG) (⟨b_1, 0, none⟩) [.int .i8 d0.fKind, .bool d0.fBool, .int .i64 d0.fNum, S d0.fText, .slice A_1 d0.fList.length cap_1, .slice A_2 d0.fKeys.length cap_2] d0 (TD0.shutx (x := d0) (h_1.mono ((hM_1.trans hM_2).trans hM_3)) (h_2.mono ((hM_1.trans hM_2).trans hM_3))) (fz_at ((fzu (hM_2.trans hM_3) hc_2)) 0 rfl) x_3 hx_3) fun _ M_4 w_6 hM_4 p_6 q_1 _ f => ?_
   obtain ⟨c_1, rfl, hr_1⟩ := q_1
   obtain ⟨A_5, cap_5, A_6, cap_6, rfl, h_7, h_8⟩ := TD0.opn hr_1
   obtain ⟨x_4, hx_4, hF_9⟩ := bS hF_8
   refine Y16 f p_6 (tree_sorted_ok n _ (GL.mono (((hM_1.trans hM_2).trans hM_3).trans hM_4) hG) (⟨b_2, 0, none⟩) [.int .i8 d1.fKind, .bool d1.fBool, .int .i64 d1.fNum, S d1.fText, .slice A_3 d1.fList.length cap_3, .slice A_4 d1.fKeys.length cap_4] d1 (TD0.shutx (x := d1) (h_3.mono (((hM_1.trans hM_2).trans hM_3).trans hM_4)) (h_4.mono (((hM_1.trans hM_2).trans hM_3).trans hM_4))) (fz_at ((fzu (hM_3.trans hM_4) hc_4)) 0 rfl) x_4 hx_4) fun _ M_5 w_7 hM_5 p_7 q_2 _ f => ?_
   obtain ⟨c_2, rfl, hr_2⟩ := q_2
   obtain ⟨A_7, cap_7, A_8, cap_8, rfl, h_9, h_10⟩ := TD0.opn hr_2
   refine Y12 f p_7 (.cells #[.int .i8 0, .bool false, .int .i64 0, S [], .slice none 0 0, .slice none 0 0] 26 (0, 0)) fun b_3 w_8 p_8 _ f => Y12 f p_8 (.cells #[.int .i8 0, .bool false, .int .i64 0, S [], .slice none 0 0, .slice none 0 0] 26 (0, 0)) fun b_4 w_9 p_9 _ f => ?_
   have p_10 := p_9.pl [1]
   refine Y27 (vs := [.int .i8 x_3.fKind, .bool x_3.fBool, .int .i64 x_3.fNum, S x_3.fText, .slice A_5 x_3.fList.length cap_5, .slice A_6 x_3.fKeys.length cap_6]) (j := 0) f p_10 rfl rfl (by simp [Value.oneCell', S]) (by simp) (by decide) (cs' := #[.int .i8 x_3.fKind, .bool x_3.fBool, .int .i64 x_3.fNum, S x_3.fText, .slice A_5 x_3.fList.length cap_5, .slice A_6 x_3.fKeys.length cap_6]) (by kernel_rfl) fun w_10 p_11 _ f => ?_
   have p_12 := p_11.pl [1]
   refine Y27 (vs := [.int .i8 x_4.fKind, .bool x_4.fBool, .int .i64 x_4.fNum, S x_4.fText, .slice A_7 x_4.fList.length cap_7, .slice A_8 x_4.fKeys.length cap_8]) (j := 0) f p_12 rfl rfl (by simp [Value.oneCell', S]) (by simp) (by decide) (cs' := #[.int .i8 x_4.fKind, .bool x_4.fBool, .int .i64 x_4.fNum, S x_4.fText, .slice A_7 x_4.fList.length cap_7, .slice A_8 x_4.fKeys.length cap_8]) (by kernel_rfl) fun w_11 p_13 _ f => eT (RR ?_)
   obtain ⟨x_5, hx_5, hF_10⟩ := bS hF_9
   have p_15 := p_13.pl [1]
   refine Y17 (E := [Ent.obj b_3 (.cells #[.int .i8 x_3.fKind, .bool x_3.fBool, .int .i64 x_3.fNum, S x_3.fText, .slice A_5 x_3.fList.length cap_5, .slice A_6 x_3.fKeys.length cap_6] 26 (0, 0)), Ent.obj b_4 (.cells #[.int .i8 x_4.fKind, .bool x_4.fBool, .int .i64 x_4.fNum, S x_4.fText, .slice A_7 x_4.fList.length cap_7, .slice A_8 x_4.fKeys.length cap_8] 26 (0, 0))]) (H := (H)) f p_15 (tree_compare_2_ok n _ (GL.mono ((((hM_1.trans hM_2).trans hM_3).trans hM_4).trans hM_5) hG) b_3 x_3.fKind (x_3.fBool) x_3.fNum x_3.fText x_3.fList A_5 cap_5 (h_7.mono hM_5) x_3.fKeys A_6 cap_6 (h_8.mono hM_5) b_4 x_4.fKind (x_4.fBool) x_4.fNum x_4.fText x_4.fList A_7 cap_7 h_9 x_4.fKeys A_8 cap_8 h_10 x_5 hx_5) fun _ M_6 E_1 w_12 hM_6 p_14 q_3 _ f => ?_
   obtain ⟨A_9, cap_9, A_10, cap_10, A_11, cap_11, A_12, cap_12, rfl, rfl, h_11, h_12, h_13, h_14⟩ := q_3
   refine Y f 2 fun _ f => eT (wp_ret (E_ret2 f rfl (by kernel_rfl : Vc.look _ 4 = some (.int .i64 x_5.1)) (by kernel_rfl : Vc.look _ 5 = some (.bool true)) ?_))
   obtain rfl := sI hF_10
   exact ⟨_, rfl, M_6, (((((hM_1.trans hM_2).trans hM_3).trans hM_4).trans hM_5).trans hM_6), (p_14.dropN 2), rfl⟩
def tree_Equal (n : Nat) (d0 : TD0) (d1 : TD0) : Option Bool :=
  (tree_both n d0 d1).bind fun x_1 =>
  bif x_1.2 then
    (some ((decide (x_1.1 = 0))))
  else
    some ((false))
theorem tree_Equal_ok (n : Nat) (M : Mem) (hG : GL M) (c0 : List Value) (d0 : TD0) (h0 : Rep M (emb_TD0 d0) c0) (c1 : List Value) (d1 : TD0) (h1 : Rep M (emb_TD0 d1) c1) (r : Bool) (hF : tree_Equal n d0 d1 = some r) : Ok Tryd.prog M 106 [.agg c0.toArray, .agg c1.toArray] (fun _ v => v = .bool r) := by
 unfold tree_Equal at hF
 intro M1 hM0 w0 H w p0
 replace hG := GL.mono hM0 hG
 replace h0 := Rep.mono hM0 _ _ h0
 replace h1 := Rep.mono hM0 _ _ h1
 obtain ⟨A_1, cap_1, A_2, cap_2, rfl, h_1, h_2⟩ := TD0.opn h0
 obtain ⟨A_3, cap_3, A_4, cap_4, rfl, h_3, h_4⟩ := TD0.opn h1
 refine R_enter 18 Tryd.func106 rfl rfl (by simp) fun a0 f0 => RR (Y13 (cs := #[.int .i8 d0.fKind, .bool d0.fBool, .int .i64 d0.fNum, S d0.fText, .slice A_1 d0.fList.length cap_1, .slice A_2 d0.fKeys.length cap_2]) (T := 26) f0 p0 fun b_1 M_1 w_1 hM_1 hc_1 p_1 _ f => ?_)
 have hc_2 := fz_box hc_1
 refine Y13 (cs := #[.int .i8 d1.fKind, .bool d1.fBool, .int .i64 d1.fNum, S d1.fText, .slice A_3 d1.fList.length cap_3, .slice A_4 d1.fKeys.length cap_4]) (T := 26) f p_1 fun b_2 M_2 w_2 hM_2 hc_3 p_2 _ f => ?_
 have hc_4 := fz_box hc_3
 refine Y f 1 fun _ f => eT (RR (Z (v := .agg #[.int .i8 d0.fKind, .bool d0.fBool, .int .i64 d0.fNum, S d0.fText, .slice A_1 d0.fList.length cap_1, .slice A_2 d0.fKeys.length cap_2]) f (Y33 (cs := [.int .i8 d0.fKind, .bool d0.fBool, .int .i64 d0.fNum, S d0.fText, .slice A_1 d0.fList.length cap_1, .slice A_2 d0.fKeys.length cap_2]) rfl (ad := ⟨b_1, 0, none⟩) (fun j v h => p_2.cell ((fzu hM_2 hc_2) j v h))) fun _ f => Z (v := .agg #[.int .i8 d1.fKind, .bool d1.fBool, .int .i64 d1.fNum, S d1.fText, .slice A_3 d1.fList.length cap_3, .slice A_4 d1.fKeys.length cap_4]) f (Y33 (cs := [.int .i8 d1.fKind, .bool d1.fBool, .int .i64 d1.fNum, S d1.fText, .slice A_3 d1.fList.length cap_3, .slice A_4 d1.fKeys.length cap_4]) rfl (ad := ⟨b_2, 0, none⟩) (fun j v h => p_2.cell (hc_4 j v h))) fun _ f => ?_))
 obtain ⟨x_1, hx_1, hF_1⟩ := bS hF
 refine Y18 f p_2 (tree_both_ok n _ (GL.mono (hM_1.trans hM_2) hG) _ d0 (TD0.shutx (x := d0) (h_1.mono (hM_1.trans hM_2)) (h_2.mono (hM_1.trans hM_2))) _ d1 (TD0.shutx (x := d1) (h_3.mono (hM_1.trans hM_2)) (h_4.mono (hM_1.trans hM_2))) x_1 hx_1) fun w_3 p_3 _ f => Y f 5 fun _ f => eT (RR (Y f 2 fun _ f => ?_))
 rcases cE hF_1 with ⟨h_5, hF_2⟩ | ⟨h_5, hF_3⟩
 ·have f := f.st 14 (cB h_5)
  refine Y f 4 fun _ f => eT (wp_ret (E_ret1 f rfl (by kernel_rfl : Vc.look _ 4 = some (.bool (decide (x_1.1 = 0)))) ?_))
  obtain rfl := sI hF_2
  exact ⟨_, rfl, M_2, (hM_1.trans hM_2), p_3, rfl⟩
 ·have f := f.st 14 (cB h_5)
  refine Y f 4 fun _ f => eT (wp_ret (E_ret1 f rfl (by kernel_rfl : Vc.look _ 4 = some (.bool false)) ?_))
  obtain rfl := sI hF_3
  exact ⟨_, rfl, M_2, (hM_1.trans hM_2), p_3, rfl⟩
end Go.Proofs.YtocefedhenhbfaaDoor
end

section
namespace Go.Proofs.YtocefedhenhbfaaDoor
open Go Go.Vc Go.RowKit
end Go.Proofs.YtocefedhenhbfaaDoor
end
