/-
  Contracts of library functions, out of the shelf's, in the generator's form. Own work.
-/
import Derived.Test.YtdmjgmleilgbpaaDoorVkB
import Derived.Test.YtdmjgmleilgbpaaDoorShelf
import Derived.Test.YtdmjgmleilgbpaaDoorLay
import Derived.Shelf.Unicode.ValidAny
namespace Go.Proofs.YtdmjgmleilgbpaaDoor
open Go Go.Vc Go.RowKit
def GL (M : Mem) : Prop := Tabs 0 1 M ∧ IntVar 2 M
theorem GL.mono {M M' : Mem} (hM : M.le M') (h : GL M) : GL M' := ⟨h.1.mono hM, h.2.mono hM⟩

def h_ValidString (_ : Nat) (d0 : List UInt8) : Option Bool := need ((d0.length : Int) ≤ 9223372036854775807) (some (Lib.validD d0))
theorem h_ValidString_ok (n : Nat) (M : Mem) (hG : GL M) (d0 : List UInt8) (r : Bool) (hF : h_ValidString n d0 = some r) : Ok Tryd.prog M 42 [S d0] (fun _ v => v = .bool r) := by
  unfold h_ValidString at hF
  obtain ⟨g, hF⟩ := need_some hF
  obtain rfl := Option.some.inj hF
  refine Ok.ofBelow fun M2 w0 H w hM hp => ?_
  exact Any.utf8_ValidString Tryd.lays196 (mkS d0) w (by have : (mkS d0).size = d0.length := rfl; omega) ((hG.1.mono hM).at hp)

def h_HasPrefix (_ : Nat) (d0 d1 : List UInt8) : Option Bool := some (Lib.hasPrefix d0 d1)
theorem h_HasPrefix_ok (n : Nat) (M : Mem) (hG : GL M) (d0 d1 : List UInt8) (r : Bool) (hF : h_HasPrefix n d0 d1 = some r) : Ok Tryd.prog M 24 [S d0, S d1] (fun _ v => v = .bool r) := by
  have _ := hG
  obtain rfl := Option.some.inj hF
  exact Ok.ofPure fun w => Tryd.strings_HasPrefix (mkS d0) (mkS d1) w

def h_CutPrefix (_ : Nat) (d0 d1 : List UInt8) : Option (List UInt8 × Bool) := some (Lib.trimPrefix d0 d1, Lib.hasPrefix d0 d1)
theorem h_CutPrefix_ok (n : Nat) (M : Mem) (hG : GL M) (d0 d1 : List UInt8) (r : List UInt8 × Bool) (hF : h_CutPrefix n d0 d1 = some r) : Ok Tryd.prog M 33 [S d0, S d1] (fun _ v => v = .tuple #[S r.1, .bool r.2]) := by
  have _ := hG
  obtain rfl := Option.some.inj hF
  exact Ok.ofPure fun w => Tryd.strings_CutPrefix (mkS d0) (mkS d1) w

def h_Cut (_ : Nat) (d0 d1 : List UInt8) : Option (List UInt8 × List UInt8 × Bool) := need (d0.length < 4294967281) (some (Lib.cut d0 d1))
theorem h_Cut_ok (n : Nat) (M : Mem) (hG : GL M) (d0 d1 : List UInt8) (r : List UInt8 × List UInt8 × Bool) (hF : h_Cut n d0 d1 = some r) : Ok Tryd.prog M 45 [S d0, S d1] (fun _ v => v = .tuple #[S r.1, S r.2.1, .bool r.2.2]) := by
  unfold h_Cut at hF
  obtain ⟨g, hF⟩ := need_some hF
  obtain rfl := Option.some.inj hF
  obtain ⟨m, hm⟩ := hG.2
  exact Ok.ofDrew fun M2 w0 H w hM hp => Tryd.strings_Cut (mkS d0) (mkS d1) m w g (hp.cell (hM.cell hm))
end Go.Proofs.YtdmjgmleilgbpaaDoor
