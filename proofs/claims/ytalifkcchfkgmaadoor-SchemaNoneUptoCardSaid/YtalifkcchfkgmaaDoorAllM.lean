/-
  Chapter 9: the types' properties, as maps that are known: looking up. Own work.
-/
import Derived.Test.YtalifkcchfkgmaaDoorVkG
import Derived.Test.YtalifkcchfkgmaaDoorTy
import Derived.Test.YtalifkcchfkgmaaDoorRows
namespace Go.Proofs.YtalifkcchfkgmaaDoor
open Go Go.Vc Go.RowKit
def kDisk : List UInt8 := [68, 105, 115, 107]
def kNet : List UInt8 := [78, 101, 116]
def kNode : List UInt8 := [78, 111, 100, 101]
def kRule : List UInt8 := [82, 117, 108, 101]
def dDisk : List (List UInt8 × T_api_Spec) := [([83, 105, 122, 101], ⟨[83, 105, 122, 101], 2, false⟩), ([84, 97, 103, 115], ⟨[84, 97, 103, 115], 4, false⟩), ([75, 105, 110, 100], ⟨[75, 105, 110, 100], 3, true⟩)]
def dNet : List (List UInt8 × T_api_Spec) := [([76, 97, 98, 101, 108], ⟨[76, 97, 98, 101, 108], 3, false⟩), ([82, 97, 110, 103, 101], ⟨[82, 97, 110, 103, 101], 3, true⟩)]
def dNode : List (List UInt8 × T_api_Spec) := [([67, 111, 117, 110, 116], ⟨[67, 111, 117, 110, 116], 2, false⟩), ([68, 105, 115, 107], ⟨[68, 105, 115, 107], 3, false⟩), ([73, 109, 97, 103, 101], ⟨[73, 109, 97, 103, 101], 3, true⟩), ([78, 101, 116], ⟨[78, 101, 116], 3, true⟩)]
def dRule : List (List UInt8 × T_api_Spec) := [([78, 111, 100, 101], ⟨[78, 111, 100, 101], 3, false⟩), ([80, 111, 114, 116], ⟨[80, 111, 114, 116], 2, true⟩)]
/-- a type's properties, as they are laid -/
def propsD (kind : List UInt8) : List (List UInt8 × T_api_Spec) := bif decide (kDisk = kind) then dDisk else bif decide (kNet = kind) then dNet else bif decide (kNode = kind) then dNode else bif decide (kRule = kind) then dRule else []
def kindIn (kind : List UInt8) : Bool := decide (kDisk = kind) || (decide (kNet = kind) || (decide (kNode = kind) || decide (kRule = kind)))
def specE (x : T_api_Spec) : Value := .agg #[S x.fName, .int .i8 x.fKind, .bool x.fReplace]
def mapE (o : Option Nat) : Value := .map o
def allB (b1 b2 b3 b4 : Nat) : List (List UInt8 × Option Nat) := [(kDisk, some b1), (kNet, some b2), (kNode, some b3), (kRule, some b4)]
def blkOf (b1 b2 b3 b4 : Nat) (kind : List UInt8) : Option Nat := bif decide (kDisk = kind) then some b1 else bif decide (kNet = kind) then some b2 else bif decide (kNode = kind) then some b3 else bif decide (kRule = kind) then some b4 else none
structure AllAt (M : Mem) (b0 b1 b2 b3 b4 : Nat) : Prop where
  h0 : M b0 = some (mapO S mapE (allB b1 b2 b3 b4))
  h1 : M b1 = some (mapO S specE dDisk)
  h2 : M b2 = some (mapO S specE dNet)
  h3 : M b3 = some (mapO S specE dNode)
  h4 : M b4 = some (mapO S specE dRule)
theorem AllAt.mono {M M' : Mem} {b0 b1 b2 b3 b4 : Nat} (hM : M.le M') (h : AllAt M b0 b1 b2 b3 b4) : AllAt M' b0 b1 b2 b3 b4 := ⟨hM _ _ h.h0, hM _ _ h.h1, hM _ _ h.h2, hM _ _ h.h3, hM _ _ h.h4⟩
theorem mget_allB (b1 b2 b3 b4 : Nat) (kind : List UInt8) : (mget (allB b1 b2 b3 b4) kind).getD none = blkOf b1 b2 b3 b4 kind ∧ (mget (allB b1 b2 b3 b4) kind).isSome = kindIn kind := by
  unfold allB blkOf kindIn mget mget mget mget mget
  dsimp only
  by_cases h1 : kDisk = kind
  · rw [if_pos h1, decide_eq_true h1]; exact ⟨rfl, rfl⟩
  rw [if_neg h1, decide_eq_false h1, cond_false, Bool.false_or]
  by_cases h2 : kNet = kind
  · rw [if_pos h2, decide_eq_true h2]; exact ⟨rfl, rfl⟩
  rw [if_neg h2, decide_eq_false h2, cond_false, Bool.false_or]
  by_cases h3 : kNode = kind
  · rw [if_pos h3, decide_eq_true h3]; exact ⟨rfl, rfl⟩
  rw [if_neg h3, decide_eq_false h3, cond_false, Bool.false_or]
  by_cases h4 : kRule = kind
  · rw [if_pos h4, decide_eq_true h4]; exact ⟨rfl, rfl⟩
  rw [if_neg h4, decide_eq_false h4]
  exact ⟨rfl, rfl⟩
section
variable {P : Program} {ρ : Operand → Value} {o : Oper} {w0 w : World} {M : Mem} {H : List Ent} {b0 b1 b2 b3 b4 : Nat}
theorem X_all2 {t kt et : TypeId} {x ix : Operand} {k : List UInt8} (hA : AllAt M b0 b1 b2 b3 b4) (hp : Hp w0 M H w) (ho : o.op = .lookup t x ix true) (hx : ρ x = .map (some b0)) (hk : ρ ix = S k) (ht : P.underlying t = some (.map kt et)) (K : KeyLaw P kt S) (hz : (P.info? et).bind (·.zero) = some (.map none)) :
    (execOp ρ o).run P w = .ok (.value (.tuple #[.map (blkOf b1 b2 b3 b4 k), .bool (kindIn k)])) w := by
  have := X_lookup2 (ek := S) (ev := mapE) (m := allB b1 b2 b3 b4) (k := k) (z := none) ho hx hk ht K hz (hp.mem _ _ hA.h0)
  rw [(mget_allB b1 b2 b3 b4 k).1, (mget_allB b1 b2 b3 b4 k).2] at this
  exact this
theorem X_all1 {t kt et : TypeId} {x ix : Operand} {k : List UInt8} (hA : AllAt M b0 b1 b2 b3 b4) (hp : Hp w0 M H w) (ho : o.op = .lookup t x ix false) (hx : ρ x = .map (some b0)) (hk : ρ ix = S k) (ht : P.underlying t = some (.map kt et)) (K : KeyLaw P kt S) (hz : (P.info? et).bind (·.zero) = some (.map none)) :
    (execOp ρ o).run P w = .ok (.value (.map (blkOf b1 b2 b3 b4 k))) w := by
  have := X_lookup1 (ek := S) (ev := mapE) (m := allB b1 b2 b3 b4) (k := k) (z := none) ho hx hk ht K hz (hp.mem _ _ hA.h0)
  rw [(mget_allB b1 b2 b3 b4 k).1] at this
  exact this
/-- what stands at a type's map -/
theorem blk_at (hA : AllAt M b0 b1 b2 b3 b4) (kind : List UInt8) : (∃ b, blkOf b1 b2 b3 b4 kind = some b ∧ M b = some (mapO S specE (propsD kind))) ∨ (blkOf b1 b2 b3 b4 kind = none ∧ propsD kind = [] ∧ kindIn kind = false) := by
  unfold blkOf propsD kindIn
  by_cases h1 : kDisk = kind
  · rw [decide_eq_true h1]; exact .inl ⟨b1, rfl, hA.h1⟩
  rw [decide_eq_false h1, cond_false, cond_false, Bool.false_or]
  by_cases h2 : kNet = kind
  · rw [decide_eq_true h2]; exact .inl ⟨b2, rfl, hA.h2⟩
  rw [decide_eq_false h2, cond_false, cond_false, Bool.false_or]
  by_cases h3 : kNode = kind
  · rw [decide_eq_true h3]; exact .inl ⟨b3, rfl, hA.h3⟩
  rw [decide_eq_false h3, cond_false, cond_false, Bool.false_or]
  by_cases h4 : kRule = kind
  · rw [decide_eq_true h4]; exact .inl ⟨b4, rfl, hA.h4⟩
  rw [decide_eq_false h4]
  exact .inr ⟨rfl, rfl, rfl⟩
theorem kmap_of (hA : AllAt M b0 b1 b2 b3 b4) (kind : List UInt8) : KMapAt M (blkOf b1 b2 b3 b4 kind) S specE (propsD kind) := by
  rcases blk_at hA kind with h | ⟨h1, h2, _⟩
  · exact .inl h
  · exact .inr ⟨h1, h2⟩
/-- a property -/
def specAt (kind prop : List UInt8) : Option T_api_Spec := mget (propsD kind) prop
theorem X_prop2 {t kt et : TypeId} {x ix : Operand} {k kind : List UInt8} {z : T_api_Spec} (hA : AllAt M b0 b1 b2 b3 b4) (hp : Hp w0 M H w) (ho : o.op = .lookup t x ix true) (hx : ρ x = .map (blkOf b1 b2 b3 b4 kind)) (hk : ρ ix = S k) (ht : P.underlying t = some (.map kt et)) (K : KeyLaw P kt S) (hz : (P.info? et).bind (·.zero) = some (specE z)) :
    (execOp ρ o).run P w = .ok (.value (.tuple #[specE ((specAt kind k).getD z), .bool (specAt kind k).isSome])) w := by
  rcases blk_at hA kind with ⟨b, h1, h2⟩ | ⟨h1, h2, _⟩
  · rw [h1] at hx
    exact X_lookup2 (ek := S) (ev := specE) (m := propsD kind) (k := k) (z := z) ho hx hk ht K hz (hp.mem _ _ h2)
  · rw [h1] at hx
    have := X_lookup_nil (ok := true) (enc := S) (k := k) ho hx hk ht K hz (w := w)
    rw [this]
    unfold specAt
    rw [h2]
    rfl
theorem X_prop1 {t kt et : TypeId} {x ix : Operand} {k kind : List UInt8} {z : T_api_Spec} (hA : AllAt M b0 b1 b2 b3 b4) (hp : Hp w0 M H w) (ho : o.op = .lookup t x ix false) (hx : ρ x = .map (blkOf b1 b2 b3 b4 kind)) (hk : ρ ix = S k) (ht : P.underlying t = some (.map kt et)) (K : KeyLaw P kt S) (hz : (P.info? et).bind (·.zero) = some (specE z)) :
    (execOp ρ o).run P w = .ok (.value (specE ((specAt kind k).getD z))) w := by
  rcases blk_at hA kind with ⟨b, h1, h2⟩ | ⟨h1, h2, _⟩
  · rw [h1] at hx
    exact X_lookup1 (ek := S) (ev := specE) (m := propsD kind) (k := k) (z := z) ho hx hk ht K hz (hp.mem _ _ h2)
  · rw [h1] at hx
    have := X_lookup_nil (ok := false) (enc := S) (k := k) ho hx hk ht K hz (w := w)
    rw [this]
    unfold specAt
    rw [h2]
    rfl
end
end Go.Proofs.YtalifkcchfkgmaaDoor
