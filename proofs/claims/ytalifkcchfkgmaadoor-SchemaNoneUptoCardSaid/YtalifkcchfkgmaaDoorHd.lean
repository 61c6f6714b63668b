/-
  Contracts of library functions, out of the shelf's, in the generator's form. Own work.
-/
import Derived.Test.YtalifkcchfkgmaaDoorVkB
import Derived.Test.YtalifkcchfkgmaaDoorShelf
import Derived.Test.YtalifkcchfkgmaaDoorLay
import Derived.Shelf.Unicode.ValidAny
namespace Go.Proofs.YtalifkcchfkgmaaDoor
open Go Go.Vc Go.RowKit
def GL (M : Mem) : Prop := Tabs 0 1 M ∧ IntVar 2 M
theorem GL.mono {M M' : Mem} (hM : M.le M') (h : GL M) : GL M' := ⟨h.1.mono hM, h.2.mono hM⟩

def h_ValidString (_ : Nat) (d0 : List UInt8) : Option Bool := need ((d0.length : Int) ≤ 9223372036854775807) (some (Lib.validD d0))
theorem h_ValidString_ok (n : Nat) (M : Mem) (hG : GL M) (d0 : List UInt8) (r : Bool) (hF : h_ValidString n d0 = some r) : Ok Tryd.prog M 101 [S d0] (fun _ v => v = .bool r) := by
  unfold h_ValidString at hF
  obtain ⟨g, hF⟩ := need_some hF
  obtain rfl := Option.some.inj hF
  refine Ok.ofBelow fun M2 w0 H w hM hp => ?_
  exact Any.utf8_ValidString Tryd.lays196 (mkS d0) w (by have : (mkS d0).size = d0.length := rfl; omega) ((hG.1.mono hM).at hp)

def h_Compare (_ : Nat) (d0 d1 : List UInt8) : Option Int := some (Lib.compareBytes d0 d1)
theorem h_Compare_ok (n : Nat) (M : Mem) (d0 d1 : List UInt8) (r : Int) (hF : h_Compare n d0 d1 = some r) : Ok Tryd.prog M 107 [S d0, S d1] (fun _ v => v = .int .i64 r) := by
  obtain rfl := Option.some.inj hF
  exact Ok.ofPure fun w => Tryd.strings_Compare (mkS d0) (mkS d1) w
end Go.Proofs.YtalifkcchfkgmaaDoor
