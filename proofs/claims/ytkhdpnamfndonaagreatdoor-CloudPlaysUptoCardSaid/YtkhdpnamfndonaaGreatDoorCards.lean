/-
  DERIVED. GIVEN WITH THE SEED: THE CARDS: each row of YtkhdpnamfndonaaGreatDoorRows.lean that lists a variable, with what it lists TIED to the program's text (the seventh form; the later family's looks); each row that meets fmt, with fmt's text TOLD by the authors' own Lean function (tested against real Go, not proved from fmt's source: count such statements apart). THE CARD IS WHAT COUNTS. Prove the row's statement (the work); the ties are given (YtkhdpnamfndonaaGreatDoorTie.lean); close each card by the builder's one call (the guide's Derived/Test/ToyasCard.lean, 'card_holds'). Laid BY PROGRAM, IN A SANDBOX (cutbox-door.mjs). By AI agents, Wed Nov 11 2026. No macro, syntax, notation, axiom, sorry.
-/
import Derived.Test.YtkhdpnamfndonaaGreatDoorRows
import GoSem.ClaimSeven
namespace Go.Proofs.YtkhdpnamfndonaaGreatDoor
namespace Rows

/-- THE TIED CARD OF 'hoardinglaw11.CloudPlays'. -/
def cloudPlaysCard : Claim7 := { stood := { row := cloudPlaysRow, standIns := [], harness := (true, "55131706d56c33166d3da6890156afecf5b65b04893bf92674bf86bb1db7743d"), looks := false }, kinds := [], alts := [], laidByText := true, laidKinds := [.data, .pinned], laidTests := true, laidLooks := .later }
def CloudPlaysCardSaid : Prop := Claim7.holds Tryz.pinned (.plain (OpenSpec.ofChange cloudPlaysSpec)) cloudPlaysCard

/-- THE SECOND FORM's CARD OF 'hoardinglaw11.CloudPlays'. -/
def cloudPlaysUptoCard : Claim7 := { stood := { row := cloudPlaysUptoRow, standIns := [], harness := (true, "55131706d56c33166d3da6890156afecf5b65b04893bf92674bf86bb1db7743d"), looks := false }, kinds := [], alts := [], laidByText := true, laidKinds := [.data, .pinned], laidTests := true, laidLooks := .later }
def CloudPlaysUptoCardSaid : Prop := Claim7.holds Tryz.pinned (.plain (OpenSpec.upto cloudPlaysSpec)) cloudPlaysUptoCard
end Rows
end Go.Proofs.YtkhdpnamfndonaaGreatDoor
