/-
  No cell of these rows narrows 'for every input' (looked for: loops, veiled, ifaces, maps, wideKeys, modest, calm, conditions, laid).
  DERIVED. THE GIVEN ROWS OF THIS SEAT. 6 by the template 'for every input the law returns true; each argument reads behind the call as it read before'; 0 by the template 'total and deterministic' (their statements: YtoonlehffohpaaaTotals.lean).
  GIVEN WITH THE SEED: the statements are not yours to turn. If you find one false, say at which input.
  Laid BY PROGRAM, IN A SANDBOX (cutbox-rows.mjs): the forced cells as the released guide's own fill.sh prints them over the translation f49978d46878d830… (all of the seat's roots in one cut). By AI agents, Wed Nov 11 2026. No macro, syntax, notation, axiom, sorry.
-/
import Derived.Test.YtoonlehffohpaaaChecked
import GoSem.Claim
import GoSem.ClaimJoined
import GoSem.ClaimMapViews
import Derived.JoinedTies
import Derived.KernelRfl
namespace Go.Proofs.Ytoonlehffohpaaa
/- THE CELL 'sum', in the pinned program and in every row, IS THE sha256 OF THE DUMP (.gsa) THAT YtoonlehffohpaaaProg.lean LOADS. Nothing in Lean hashes anything: it is a label: what it is worth is what the hold of that sum in a sandbox is worth. -/
noncomputable def Try.pinned : Pinned := { name := "ytoonlehffohpaaa", sum := "f49978d46878d8309a9f609bbf2721862662a0fcc3b360f18368bdacc9385ea6", checked := Try.checked }
namespace Rows
def none {H : Type} : Left H := { results := [], args := [] }

/-- 'hoardinglaw21.ReadyLess': WHATEVER THE INPUT: true; the input reads as it did. -/
def readyLessSpec : ChangeSpec := { name := "readyLess", fn := fun _ => fun
  | [d1, d2, d3, d4, d5, d6] => { results := [.lit (.bool true)], args := [d1, d2, d3, d4, d5, d6] }
  | _ => none }
def readyLessRow : OpenClaim := { program := "ytoonlehffohpaaa", sum := "f49978d46878d8309a9f609bbf2721862662a0fcc3b360f18368bdacc9385ea6", func := "hoarding/hoardinglaw21.ReadyLess", spec := "readyLess", unfollowed := true, recurses := true, apart := false }
def ReadyLessSaid : Prop := readyLessRow.holds Try.pinned (OpenSpec.ofChange readyLessSpec)

/-- ITS FALSE NEIGHBOUR: 'it returns false'. Refute it at one input. -/
def readyLessWrong : ChangeSpec := { name := "readyLess", fn := fun _ => fun
  | [d1, d2, d3, d4, d5, d6] => { results := [.lit (.bool false)], args := [d1, d2, d3, d4, d5, d6] }
  | _ => none }
def ReadyLessWrongFalsely : Prop := readyLessRow.holds Try.pinned (OpenSpec.ofChange readyLessWrong)

/-- 'hoardinglaw21.ReadySettles': WHATEVER THE INPUT: true; the input reads as it did. -/
def readySettlesSpec : ChangeSpec := { name := "readySettles", fn := fun _ => fun
  | [d1, d2, d3] => { results := [.lit (.bool true)], args := [d1, d2, d3] }
  | _ => none }
def readySettlesRow : OpenClaim := { program := "ytoonlehffohpaaa", sum := "f49978d46878d8309a9f609bbf2721862662a0fcc3b360f18368bdacc9385ea6", func := "hoarding/hoardinglaw21.ReadySettles", spec := "readySettles", unfollowed := true, recurses := true, apart := false }
def ReadySettlesSaid : Prop := readySettlesRow.holds Try.pinned (OpenSpec.ofChange readySettlesSpec)

/-- ITS FALSE NEIGHBOUR: 'it returns false'. Refute it at one input. -/
def readySettlesWrong : ChangeSpec := { name := "readySettles", fn := fun _ => fun
  | [d1, d2, d3] => { results := [.lit (.bool false)], args := [d1, d2, d3] }
  | _ => none }
def ReadySettlesWrongFalsely : Prop := readySettlesRow.holds Try.pinned (OpenSpec.ofChange readySettlesWrong)

/-- 'hoardinglaw21.ReadyBack': WHATEVER THE INPUT: true; the input reads as it did. -/
def readyBackSpec : ChangeSpec := { name := "readyBack", fn := fun _ => fun
  | [d1, d2] => { results := [.lit (.bool true)], args := [d1, d2] }
  | _ => none }
def readyBackRow : OpenClaim := { program := "ytoonlehffohpaaa", sum := "f49978d46878d8309a9f609bbf2721862662a0fcc3b360f18368bdacc9385ea6", func := "hoarding/hoardinglaw21.ReadyBack", spec := "readyBack", unfollowed := true, recurses := true, apart := false }
def ReadyBackSaid : Prop := readyBackRow.holds Try.pinned (OpenSpec.ofChange readyBackSpec)

/-- ITS FALSE NEIGHBOUR: 'it returns false'. Refute it at one input. -/
def readyBackWrong : ChangeSpec := { name := "readyBack", fn := fun _ => fun
  | [d1, d2] => { results := [.lit (.bool false)], args := [d1, d2] }
  | _ => none }
def ReadyBackWrongFalsely : Prop := readyBackRow.holds Try.pinned (OpenSpec.ofChange readyBackWrong)

/-- 'hoardinglaw21.ReadyTells': WHATEVER THE INPUT: true; the input reads as it did. -/
def readyTellsSpec : ChangeSpec := { name := "readyTells", fn := fun _ => fun
  | [d1, d2, d3, d4] => { results := [.lit (.bool true)], args := [d1, d2, d3, d4] }
  | _ => none }
def readyTellsRow : OpenClaim := { program := "ytoonlehffohpaaa", sum := "f49978d46878d8309a9f609bbf2721862662a0fcc3b360f18368bdacc9385ea6", func := "hoarding/hoardinglaw21.ReadyTells", spec := "readyTells", unfollowed := true, recurses := true, apart := false }
def ReadyTellsSaid : Prop := readyTellsRow.holds Try.pinned (OpenSpec.ofChange readyTellsSpec)

/-- ITS FALSE NEIGHBOUR: 'it returns false'. Refute it at one input. -/
def readyTellsWrong : ChangeSpec := { name := "readyTells", fn := fun _ => fun
  | [d1, d2, d3, d4] => { results := [.lit (.bool false)], args := [d1, d2, d3, d4] }
  | _ => none }
def ReadyTellsWrongFalsely : Prop := readyTellsRow.holds Try.pinned (OpenSpec.ofChange readyTellsWrong)

/-- 'hoardinglaw21.ReadyAll': WHATEVER THE INPUT: true; the input reads as it did. -/
def readyAllSpec : ChangeSpec := { name := "readyAll", fn := fun _ => fun
  | [d1, d2, d3] => { results := [.lit (.bool true)], args := [d1, d2, d3] }
  | _ => none }
def readyAllRow : OpenClaim := { program := "ytoonlehffohpaaa", sum := "f49978d46878d8309a9f609bbf2721862662a0fcc3b360f18368bdacc9385ea6", func := "hoarding/hoardinglaw21.ReadyAll", spec := "readyAll", unfollowed := true, recurses := true, apart := false }
def ReadyAllSaid : Prop := readyAllRow.holds Try.pinned (OpenSpec.ofChange readyAllSpec)

/-- ITS FALSE NEIGHBOUR: 'it returns false'. Refute it at one input. -/
def readyAllWrong : ChangeSpec := { name := "readyAll", fn := fun _ => fun
  | [d1, d2, d3] => { results := [.lit (.bool false)], args := [d1, d2, d3] }
  | _ => none }
def ReadyAllWrongFalsely : Prop := readyAllRow.holds Try.pinned (OpenSpec.ofChange readyAllWrong)

/-- 'hoardinglaw21.ReadyGoes': WHATEVER THE INPUT: true; the input reads as it did. -/
def readyGoesSpec : ChangeSpec := { name := "readyGoes", fn := fun _ => fun
  | [d1, d2, d3] => { results := [.lit (.bool true)], args := [d1, d2, d3] }
  | _ => none }
def readyGoesRow : OpenClaim := { program := "ytoonlehffohpaaa", sum := "f49978d46878d8309a9f609bbf2721862662a0fcc3b360f18368bdacc9385ea6", func := "hoarding/hoardinglaw21.ReadyGoes", spec := "readyGoes", unfollowed := true, recurses := true, apart := false }
def ReadyGoesSaid : Prop := readyGoesRow.holds Try.pinned (OpenSpec.ofChange readyGoesSpec)

/-- ITS FALSE NEIGHBOUR: 'it returns false'. Refute it at one input. -/
def readyGoesWrong : ChangeSpec := { name := "readyGoes", fn := fun _ => fun
  | [d1, d2, d3] => { results := [.lit (.bool false)], args := [d1, d2, d3] }
  | _ => none }
def ReadyGoesWrongFalsely : Prop := readyGoesRow.holds Try.pinned (OpenSpec.ofChange readyGoesWrong)

/- THE SECOND FORM. 'bulk': how many values and letters a reading holds, each counted each time it is reached (what is shared counts as often as it is met; a slice's spare places count too). A statement '..UptoSaid' is the law's where the arguments, and the package variables that the reading takes, are together of bulk at most 1048576: NARROWER than '..Said'. Prove '..Said' where nothing that the law and all that it calls make is longer than what came in: it says more and counts as full. Else prove '..UptoSaid'. A law counts once. -/
mutual
def uptoBulk {H : Type} : DataW H → Nat
  | .lit (.string bytes) => bytes.length + 1
  | .lit _ => 1
  | .nil => 1
  | .ptr d => uptoBulk d + 1
  | .slice elems spare => uptoBulkAll elems + uptoBulkAll spare + 1
  | .agg parts => uptoBulkAll parts + 1
  | .iface _ d => uptoBulk d + 1
  | .map entries => uptoBulkEntries entries + 1
  | .held _ => 1
def uptoBulkAll {H : Type} : List (DataW H) → Nat
  | [] => 0
  | d :: r => uptoBulk d + uptoBulkAll r
def uptoBulkEntries {H : Type} : List (Lit × DataW H) → Nat
  | [] => 0
  | x :: r => uptoBulkEntry x + uptoBulkEntries r
def uptoBulkEntry {H : Type} : Lit × DataW H → Nat
  | (.string bytes, d) => bytes.length + uptoBulk d + 1
  | (_, d) => uptoBulk d + 1
 end
def uptoSmall : (H : Type) → List (DataW H) → Bool := fun _ ds => decide (uptoBulkAll ds ≤ 1048576)
def OpenSpec.upto (s : _root_.Go.ChangeSpec) : _root_.Go.OpenSpec := { _root_.Go.OpenSpec.ofChange s with cond := some uptoSmall }

/-- 'hoardinglaw21.ReadyLess', WHERE WHAT IT READS IS OF BULK AT MOST 1048576: true; the input reads as it did. -/
def readyLessUptoRow : OpenClaim := { program := "ytoonlehffohpaaa", sum := "f49978d46878d8309a9f609bbf2721862662a0fcc3b360f18368bdacc9385ea6", func := "hoarding/hoardinglaw21.ReadyLess", spec := "readyLess", unfollowed := true, recurses := true, apart := false, narrowed := true }
def ReadyLessUptoSaid : Prop := readyLessUptoRow.holds Try.pinned (OpenSpec.upto readyLessSpec)

/-- 'hoardinglaw21.ReadySettles', WHERE WHAT IT READS IS OF BULK AT MOST 1048576: true; the input reads as it did. -/
def readySettlesUptoRow : OpenClaim := { program := "ytoonlehffohpaaa", sum := "f49978d46878d8309a9f609bbf2721862662a0fcc3b360f18368bdacc9385ea6", func := "hoarding/hoardinglaw21.ReadySettles", spec := "readySettles", unfollowed := true, recurses := true, apart := false, narrowed := true }
def ReadySettlesUptoSaid : Prop := readySettlesUptoRow.holds Try.pinned (OpenSpec.upto readySettlesSpec)

/-- 'hoardinglaw21.ReadyBack', WHERE WHAT IT READS IS OF BULK AT MOST 1048576: true; the input reads as it did. -/
def readyBackUptoRow : OpenClaim := { program := "ytoonlehffohpaaa", sum := "f49978d46878d8309a9f609bbf2721862662a0fcc3b360f18368bdacc9385ea6", func := "hoarding/hoardinglaw21.ReadyBack", spec := "readyBack", unfollowed := true, recurses := true, apart := false, narrowed := true }
def ReadyBackUptoSaid : Prop := readyBackUptoRow.holds Try.pinned (OpenSpec.upto readyBackSpec)

/-- 'hoardinglaw21.ReadyTells', WHERE WHAT IT READS IS OF BULK AT MOST 1048576: true; the input reads as it did. -/
def readyTellsUptoRow : OpenClaim := { program := "ytoonlehffohpaaa", sum := "f49978d46878d8309a9f609bbf2721862662a0fcc3b360f18368bdacc9385ea6", func := "hoarding/hoardinglaw21.ReadyTells", spec := "readyTells", unfollowed := true, recurses := true, apart := false, narrowed := true }
def ReadyTellsUptoSaid : Prop := readyTellsUptoRow.holds Try.pinned (OpenSpec.upto readyTellsSpec)

/-- 'hoardinglaw21.ReadyAll', WHERE WHAT IT READS IS OF BULK AT MOST 1048576: true; the input reads as it did. -/
def readyAllUptoRow : OpenClaim := { program := "ytoonlehffohpaaa", sum := "f49978d46878d8309a9f609bbf2721862662a0fcc3b360f18368bdacc9385ea6", func := "hoarding/hoardinglaw21.ReadyAll", spec := "readyAll", unfollowed := true, recurses := true, apart := false, narrowed := true }
def ReadyAllUptoSaid : Prop := readyAllUptoRow.holds Try.pinned (OpenSpec.upto readyAllSpec)

/-- 'hoardinglaw21.ReadyGoes', WHERE WHAT IT READS IS OF BULK AT MOST 1048576: true; the input reads as it did. -/
def readyGoesUptoRow : OpenClaim := { program := "ytoonlehffohpaaa", sum := "f49978d46878d8309a9f609bbf2721862662a0fcc3b360f18368bdacc9385ea6", func := "hoarding/hoardinglaw21.ReadyGoes", spec := "readyGoes", unfollowed := true, recurses := true, apart := false, narrowed := true }
def ReadyGoesUptoSaid : Prop := readyGoesUptoRow.holds Try.pinned (OpenSpec.upto readyGoesSpec)

end Rows
end Go.Proofs.Ytoonlehffohpaaa
