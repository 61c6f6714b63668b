/-
  NARROWER THAN 'FOR EVERY INPUT', by the rows' own cells (each row's printed sentence says how): CleanupRight: loops · CleanupEnds: loops · CleanupParts: loops.
  DERIVED. THE GIVEN ROWS OF THIS SEAT. 3 by the template 'for every input the law returns true; each argument reads behind the call as it read before'; 0 by the template 'total and deterministic' (their statements: YtkmbfmdhoeibhaaGreatTotals.lean).
  GIVEN WITH THE SEED: the statements are not yours to turn. If you find one false, say at which input.
  Laid BY PROGRAM, IN A SANDBOX (cutbox-rows.mjs): the forced cells as the released guide's own fill.sh prints them over the translation 1cbf5e013733cd0a… (all of the seat's roots in one cut). By AI agents, Wed Nov 11 2026. No macro, syntax, notation, axiom, sorry.
-/
import Derived.Test.YtkmbfmdhoeibhaaGreatChecked
import GoSem.Claim
import GoSem.ClaimJoined
import GoSem.ClaimMapViews
import Derived.JoinedTies
import Derived.KernelRfl
namespace Go.Proofs.YtkmbfmdhoeibhaaGreat
/- THE CELL 'sum', in the pinned program and in every row, IS THE sha256 OF THE DUMP (.gsa) THAT YtkmbfmdhoeibhaaGreatProg.lean LOADS. Nothing in Lean hashes anything: it is a label: what it is worth is what the hold of that sum in a sandbox is worth. -/
noncomputable def Tryz.pinned : Pinned := { name := "ytkmbfmdhoeibhaagreat", sum := "1cbf5e013733cd0a12f858a0f610577140169372d5de0aa516a58059fdcd1fa8", checked := Tryz.checked }
namespace Rows
def none {H : Type} : Left H := { results := [], args := [] }

/-- 'hoardinglaw27.CleanupRight': WHATEVER THE INPUT: true; the input reads as it did. -/
def cleanupRightSpec : ChangeSpec := { name := "cleanupRight", fn := fun _ => fun
  | [d1, d2, d3, d4, d5, d6] => { results := [.lit (.bool true)], args := [d1, d2, d3, d4, d5, d6] }
  | _ => none }
def cleanupRightRow : OpenClaim := { program := "ytkmbfmdhoeibhaagreat", sum := "1cbf5e013733cd0a12f858a0f610577140169372d5de0aa516a58059fdcd1fa8", func := "hoarding/hoardinglaw27.CleanupRight", spec := "cleanupRight", unfollowed := true, recurses := true, loops := true, plainKeys := false, apart := false }
def CleanupRightSaid : Prop := cleanupRightRow.holds Tryz.pinned (OpenSpec.ofChange cleanupRightSpec)

/-- ITS FALSE NEIGHBOUR: 'it returns false'. Refute it at one input. -/
def cleanupRightWrong : ChangeSpec := { name := "cleanupRight", fn := fun _ => fun
  | [d1, d2, d3, d4, d5, d6] => { results := [.lit (.bool false)], args := [d1, d2, d3, d4, d5, d6] }
  | _ => none }
def CleanupRightWrongFalsely : Prop := cleanupRightRow.holds Tryz.pinned (OpenSpec.ofChange cleanupRightWrong)

/-- 'hoardinglaw27.CleanupEnds': WHATEVER THE INPUT: true; the input reads as it did. -/
def cleanupEndsSpec : ChangeSpec := { name := "cleanupEnds", fn := fun _ => fun
  | [d1, d2, d3, d4, d5, d6] => { results := [.lit (.bool true)], args := [d1, d2, d3, d4, d5, d6] }
  | _ => none }
def cleanupEndsRow : OpenClaim := { program := "ytkmbfmdhoeibhaagreat", sum := "1cbf5e013733cd0a12f858a0f610577140169372d5de0aa516a58059fdcd1fa8", func := "hoarding/hoardinglaw27.CleanupEnds", spec := "cleanupEnds", unfollowed := true, recurses := true, loops := true, plainKeys := false, apart := false }
def CleanupEndsSaid : Prop := cleanupEndsRow.holds Tryz.pinned (OpenSpec.ofChange cleanupEndsSpec)

/-- ITS FALSE NEIGHBOUR: 'it returns false'. Refute it at one input. -/
def cleanupEndsWrong : ChangeSpec := { name := "cleanupEnds", fn := fun _ => fun
  | [d1, d2, d3, d4, d5, d6] => { results := [.lit (.bool false)], args := [d1, d2, d3, d4, d5, d6] }
  | _ => none }
def CleanupEndsWrongFalsely : Prop := cleanupEndsRow.holds Tryz.pinned (OpenSpec.ofChange cleanupEndsWrong)

/-- 'hoardinglaw27.CleanupParts': WHATEVER THE INPUT: true; the input reads as it did. -/
def cleanupPartsSpec : ChangeSpec := { name := "cleanupParts", fn := fun _ => fun
  | [d1, d2, d3, d4, d5] => { results := [.lit (.bool true)], args := [d1, d2, d3, d4, d5] }
  | _ => none }
def cleanupPartsRow : OpenClaim := { program := "ytkmbfmdhoeibhaagreat", sum := "1cbf5e013733cd0a12f858a0f610577140169372d5de0aa516a58059fdcd1fa8", func := "hoarding/hoardinglaw27.CleanupParts", spec := "cleanupParts", unfollowed := true, recurses := true, loops := true, plainKeys := false, apart := false }
def CleanupPartsSaid : Prop := cleanupPartsRow.holds Tryz.pinned (OpenSpec.ofChange cleanupPartsSpec)

/-- ITS FALSE NEIGHBOUR: 'it returns false'. Refute it at one input. -/
def cleanupPartsWrong : ChangeSpec := { name := "cleanupParts", fn := fun _ => fun
  | [d1, d2, d3, d4, d5] => { results := [.lit (.bool false)], args := [d1, d2, d3, d4, d5] }
  | _ => none }
def CleanupPartsWrongFalsely : Prop := cleanupPartsRow.holds Tryz.pinned (OpenSpec.ofChange cleanupPartsWrong)

/- THE SECOND FORM. 'bulk': how many values and letters a reading holds, each counted each time it is reached (what is shared counts as often as it is met; a slice's spare places count too). A statement '..UptoSaid' is the law's where the arguments, and the package variables that the reading takes, are together of bulk at most 1048576: NARROWER than '..Said'. Prove '..Said' where nothing that the law and all that it calls make is longer than what came in: it says more and counts as full. Else prove '..UptoSaid'. A law counts once. -/
mutual
def uptoBulk {H : Type} : DataW H → Nat
  | .lit (.string bytes) => bytes.length + 1
  | .lit _ => 1
  | .nil => 1
  | .ptr d => uptoBulk d + 1
  | .slice elems spare => uptoBulkAll elems + uptoBulkAll spare + 1
  | .agg parts => uptoBulkAll parts + 1
  | .iface _ d => uptoBulk d + 1
  | .map entries => uptoBulkEntries entries + 1
  | .held _ => 1
def uptoBulkAll {H : Type} : List (DataW H) → Nat
  | [] => 0
  | d :: r => uptoBulk d + uptoBulkAll r
def uptoBulkEntries {H : Type} : List (Lit × DataW H) → Nat
  | [] => 0
  | x :: r => uptoBulkEntry x + uptoBulkEntries r
def uptoBulkEntry {H : Type} : Lit × DataW H → Nat
  | (.string bytes, d) => bytes.length + uptoBulk d + 1
  | (_, d) => uptoBulk d + 1
 end
def uptoSmall : (H : Type) → List (DataW H) → Bool := fun _ ds => decide (uptoBulkAll ds ≤ 1048576)
def OpenSpec.upto (s : _root_.Go.ChangeSpec) : _root_.Go.OpenSpec := { _root_.Go.OpenSpec.ofChange s with cond := some uptoSmall }

/-- 'hoardinglaw27.CleanupRight', WHERE WHAT IT READS IS OF BULK AT MOST 1048576: true; the input reads as it did. -/
def cleanupRightUptoRow : OpenClaim := { program := "ytkmbfmdhoeibhaagreat", sum := "1cbf5e013733cd0a12f858a0f610577140169372d5de0aa516a58059fdcd1fa8", func := "hoarding/hoardinglaw27.CleanupRight", spec := "cleanupRight", unfollowed := true, recurses := true, loops := true, plainKeys := false, apart := false, narrowed := true }
def CleanupRightUptoSaid : Prop := cleanupRightUptoRow.holds Tryz.pinned (OpenSpec.upto cleanupRightSpec)

/-- 'hoardinglaw27.CleanupEnds', WHERE WHAT IT READS IS OF BULK AT MOST 1048576: true; the input reads as it did. -/
def cleanupEndsUptoRow : OpenClaim := { program := "ytkmbfmdhoeibhaagreat", sum := "1cbf5e013733cd0a12f858a0f610577140169372d5de0aa516a58059fdcd1fa8", func := "hoarding/hoardinglaw27.CleanupEnds", spec := "cleanupEnds", unfollowed := true, recurses := true, loops := true, plainKeys := false, apart := false, narrowed := true }
def CleanupEndsUptoSaid : Prop := cleanupEndsUptoRow.holds Tryz.pinned (OpenSpec.upto cleanupEndsSpec)

/-- 'hoardinglaw27.CleanupParts', WHERE WHAT IT READS IS OF BULK AT MOST 1048576: true; the input reads as it did. -/
def cleanupPartsUptoRow : OpenClaim := { program := "ytkmbfmdhoeibhaagreat", sum := "1cbf5e013733cd0a12f858a0f610577140169372d5de0aa516a58059fdcd1fa8", func := "hoarding/hoardinglaw27.CleanupParts", spec := "cleanupParts", unfollowed := true, recurses := true, loops := true, plainKeys := false, apart := false, narrowed := true }
def CleanupPartsUptoSaid : Prop := cleanupPartsUptoRow.holds Tryz.pinned (OpenSpec.upto cleanupPartsSpec)

end Rows
end Go.Proofs.YtkmbfmdhoeibhaaGreat
