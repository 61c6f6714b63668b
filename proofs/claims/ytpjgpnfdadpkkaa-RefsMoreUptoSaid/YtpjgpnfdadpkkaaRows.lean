/-
  NARROWER THAN 'FOR EVERY INPUT', by the rows' own cells (each row's printed sentence says how): RefsMore: loops · RefsThere: loops.
  DERIVED. THE GIVEN ROWS OF THIS SEAT. 2 by the template 'for every input the law returns true; each argument reads behind the call as it read before'; 0 by the template 'total and deterministic' (their statements: YtpjgpnfdadpkkaaTotals.lean).
  GIVEN WITH THE SEED: the statements are not yours to turn. If you find one false, say at which input.
  Laid BY PROGRAM, IN A SANDBOX (cutbox-rows.mjs): the forced cells as the released guide's own fill.sh prints them over the translation d147870ba77cfc48… (all of the seat's roots in one cut). By AI agents, Wed Nov 11 2026. No macro, syntax, notation, axiom, sorry.
-/
import Derived.Test.YtpjgpnfdadpkkaaChecked
import GoSem.Claim
import GoSem.ClaimJoined
import GoSem.ClaimMapViews
import Derived.JoinedTies
import Derived.KernelRfl
namespace Go.Proofs.Ytpjgpnfdadpkkaa
/- THE CELL 'sum', in the pinned program and in every row, IS THE sha256 OF THE DUMP (.gsa) THAT YtpjgpnfdadpkkaaProg.lean LOADS. Nothing in Lean hashes anything: it is a label: what it is worth is what the hold of that sum in a sandbox is worth. -/
noncomputable def Try.pinned : Pinned := { name := "ytpjgpnfdadpkkaa", sum := "d147870ba77cfc485d5ffa9e4aa646f8d757b26321cdc8ba8ddf7a444de79d3b", checked := Try.checked }
namespace Rows
def none {H : Type} : Left H := { results := [], args := [] }

/-- 'hoardinglaw16.RefsMore': WHATEVER THE INPUT: true; the input reads as it did. -/
def refsMoreSpec : ChangeSpec := { name := "refsMore", fn := fun _ => fun
  | [d1, d2] => { results := [.lit (.bool true)], args := [d1, d2] }
  | _ => none }
def refsMoreRow : OpenClaim := { program := "ytpjgpnfdadpkkaa", sum := "d147870ba77cfc485d5ffa9e4aa646f8d757b26321cdc8ba8ddf7a444de79d3b", func := "hoarding/hoardinglaw16.RefsMore", spec := "refsMore", inPlace := ["internal/abi.NoEscape", "internal/bytealg.MakeNoZero"], unfollowed := true, recurses := true, loops := true, apart := false }
def RefsMoreSaid : Prop := refsMoreRow.holds Try.pinned (OpenSpec.ofChange refsMoreSpec)

/-- ITS FALSE NEIGHBOUR: 'it returns false'. Refute it at one input. -/
def refsMoreWrong : ChangeSpec := { name := "refsMore", fn := fun _ => fun
  | [d1, d2] => { results := [.lit (.bool false)], args := [d1, d2] }
  | _ => none }
def RefsMoreWrongFalsely : Prop := refsMoreRow.holds Try.pinned (OpenSpec.ofChange refsMoreWrong)

/-- 'hoardinglaw16.RefsThere': WHATEVER THE INPUT: true; the input reads as it did. -/
def refsThereSpec : ChangeSpec := { name := "refsThere", fn := fun _ => fun
  | [d] => { results := [.lit (.bool true)], args := [d] }
  | _ => none }
def refsThereRow : OpenClaim := { program := "ytpjgpnfdadpkkaa", sum := "d147870ba77cfc485d5ffa9e4aa646f8d757b26321cdc8ba8ddf7a444de79d3b", func := "hoarding/hoardinglaw16.RefsThere", spec := "refsThere", inPlace := ["internal/abi.NoEscape", "internal/bytealg.MakeNoZero"], unfollowed := true, recurses := true, loops := true, apart := false }
def RefsThereSaid : Prop := refsThereRow.holds Try.pinned (OpenSpec.ofChange refsThereSpec)

/-- ITS FALSE NEIGHBOUR: 'it returns false'. Refute it at one input. -/
def refsThereWrong : ChangeSpec := { name := "refsThere", fn := fun _ => fun
  | [d] => { results := [.lit (.bool false)], args := [d] }
  | _ => none }
def RefsThereWrongFalsely : Prop := refsThereRow.holds Try.pinned (OpenSpec.ofChange refsThereWrong)

/- THE SECOND FORM. 'bulk': how many values and letters a reading holds, each counted each time it is reached (what is shared counts as often as it is met; a slice's spare places count too). A statement '..UptoSaid' is the law's where the arguments, and the package variables that the reading takes, are together of bulk at most 1048576: NARROWER than '..Said'. Prove '..Said' where nothing that the law and all that it calls make is longer than what came in: it says more and counts as full. Else prove '..UptoSaid'. A law counts once. -/
mutual
def uptoBulk {H : Type} : DataW H → Nat
  | .lit (.string bytes) => bytes.length + 1
  | .lit _ => 1
  | .nil => 1
  | .ptr d => uptoBulk d + 1
  | .slice elems spare => uptoBulkAll elems + uptoBulkAll spare + 1
  | .agg parts => uptoBulkAll parts + 1
  | .iface _ d => uptoBulk d + 1
  | .map entries => uptoBulkEntries entries + 1
  | .held _ => 1
def uptoBulkAll {H : Type} : List (DataW H) → Nat
  | [] => 0
  | d :: r => uptoBulk d + uptoBulkAll r
def uptoBulkEntries {H : Type} : List (Lit × DataW H) → Nat
  | [] => 0
  | x :: r => uptoBulkEntry x + uptoBulkEntries r
def uptoBulkEntry {H : Type} : Lit × DataW H → Nat
  | (.string bytes, d) => bytes.length + uptoBulk d + 1
  | (_, d) => uptoBulk d + 1
 end
def uptoSmall : (H : Type) → List (DataW H) → Bool := fun _ ds => decide (uptoBulkAll ds ≤ 1048576)
def OpenSpec.upto (s : _root_.Go.ChangeSpec) : _root_.Go.OpenSpec := { _root_.Go.OpenSpec.ofChange s with cond := some uptoSmall }

/-- 'hoardinglaw16.RefsMore', WHERE WHAT IT READS IS OF BULK AT MOST 1048576: true; the input reads as it did. -/
def refsMoreUptoRow : OpenClaim := { program := "ytpjgpnfdadpkkaa", sum := "d147870ba77cfc485d5ffa9e4aa646f8d757b26321cdc8ba8ddf7a444de79d3b", func := "hoarding/hoardinglaw16.RefsMore", spec := "refsMore", inPlace := ["internal/abi.NoEscape", "internal/bytealg.MakeNoZero"], unfollowed := true, recurses := true, loops := true, apart := false, narrowed := true }
def RefsMoreUptoSaid : Prop := refsMoreUptoRow.holds Try.pinned (OpenSpec.upto refsMoreSpec)

/-- 'hoardinglaw16.RefsThere', WHERE WHAT IT READS IS OF BULK AT MOST 1048576: true; the input reads as it did. -/
def refsThereUptoRow : OpenClaim := { program := "ytpjgpnfdadpkkaa", sum := "d147870ba77cfc485d5ffa9e4aa646f8d757b26321cdc8ba8ddf7a444de79d3b", func := "hoarding/hoardinglaw16.RefsThere", spec := "refsThere", inPlace := ["internal/abi.NoEscape", "internal/bytealg.MakeNoZero"], unfollowed := true, recurses := true, loops := true, apart := false, narrowed := true }
def RefsThereUptoSaid : Prop := refsThereUptoRow.holds Try.pinned (OpenSpec.upto refsThereSpec)

end Rows
end Go.Proofs.Ytpjgpnfdadpkkaa
