/-
  DERIVED. GIVEN WITH THE SEED: THE CARDS: each row of YtocefedhenhbfabGreatDoorRows.lean that lists a variable, with what it lists TIED to the program's text (the seventh form; the later family's looks); each row that meets fmt, with fmt's text TOLD by the authors' own Lean function (tested against real Go, not proved from fmt's source: count such statements apart). THE CARD IS WHAT COUNTS. Prove the row's statement (the work); the ties are given (YtocefedhenhbfabGreatDoorTie.lean); close each card by the builder's one call (the guide's Derived/Test/ToyasCard.lean, 'card_holds'). Laid BY PROGRAM, IN A SANDBOX (cutbox-door.mjs). By AI agents, Wed Nov 11 2026. No macro, syntax, notation, axiom, sorry.
-/
import Derived.Test.YtocefedhenhbfabGreatDoorRows
import GoSem.ClaimSeven
namespace Go.Proofs.YtocefedhenhbfabGreatDoor
namespace Rows

/-- THE TIED CARD OF 'hoardinglaw11.CloudAnswers'. -/
def cloudAnswersCard : Claim7 := { stood := { row := cloudAnswersRow, standIns := [], harness := (true, "3ea9f8dbe5026f989bdf8393279e86700227c46dbe0deb7e9712f68c589d23ff"), looks := false }, kinds := [], alts := [], laidByText := true, laidKinds := [.data, .pinned], laidTests := true, laidLooks := .later }
def CloudAnswersCardSaid : Prop := Claim7.holds Tryz.pinned (.plain (OpenSpec.ofChange cloudAnswersSpec)) cloudAnswersCard

/-- THE TIED CARD OF 'hoardinglaw11.CloudPlays'. -/
def cloudPlaysCard : Claim7 := { stood := { row := cloudPlaysRow, standIns := [], harness := (true, "3ea9f8dbe5026f989bdf8393279e86700227c46dbe0deb7e9712f68c589d23ff"), looks := false }, kinds := [], alts := [], laidByText := true, laidKinds := [.data, .pinned], laidTests := true, laidLooks := .later }
def CloudPlaysCardSaid : Prop := Claim7.holds Tryz.pinned (.plain (OpenSpec.ofChange cloudPlaysSpec)) cloudPlaysCard

/-- THE TIED CARD OF 'hoardinglaw11.CloudNil'. -/
def cloudNilCard : Claim7 := { stood := { row := cloudNilRow, standIns := [], harness := (true, "3ea9f8dbe5026f989bdf8393279e86700227c46dbe0deb7e9712f68c589d23ff"), looks := false }, kinds := [], alts := [], laidByText := true, laidKinds := [.data, .pinned], laidTests := true, laidLooks := .later }
def CloudNilCardSaid : Prop := Claim7.holds Tryz.pinned (.plain (OpenSpec.ofChange cloudNilSpec)) cloudNilCard

/-- THE SECOND FORM's CARD OF 'hoardinglaw11.CloudAnswers'. -/
def cloudAnswersUptoCard : Claim7 := { stood := { row := cloudAnswersUptoRow, standIns := [], harness := (true, "3ea9f8dbe5026f989bdf8393279e86700227c46dbe0deb7e9712f68c589d23ff"), looks := false }, kinds := [], alts := [], laidByText := true, laidKinds := [.data, .pinned], laidTests := true, laidLooks := .later }
def CloudAnswersUptoCardSaid : Prop := Claim7.holds Tryz.pinned (.plain (OpenSpec.upto cloudAnswersSpec)) cloudAnswersUptoCard

/-- THE SECOND FORM's CARD OF 'hoardinglaw11.CloudPlays'. -/
def cloudPlaysUptoCard : Claim7 := { stood := { row := cloudPlaysUptoRow, standIns := [], harness := (true, "3ea9f8dbe5026f989bdf8393279e86700227c46dbe0deb7e9712f68c589d23ff"), looks := false }, kinds := [], alts := [], laidByText := true, laidKinds := [.data, .pinned], laidTests := true, laidLooks := .later }
def CloudPlaysUptoCardSaid : Prop := Claim7.holds Tryz.pinned (.plain (OpenSpec.upto cloudPlaysSpec)) cloudPlaysUptoCard

/-- THE SECOND FORM's CARD OF 'hoardinglaw11.CloudNil'. -/
def cloudNilUptoCard : Claim7 := { stood := { row := cloudNilUptoRow, standIns := [], harness := (true, "3ea9f8dbe5026f989bdf8393279e86700227c46dbe0deb7e9712f68c589d23ff"), looks := false }, kinds := [], alts := [], laidByText := true, laidKinds := [.data, .pinned], laidTests := true, laidLooks := .later }
def CloudNilUptoCardSaid : Prop := Claim7.holds Tryz.pinned (.plain (OpenSpec.upto cloudNilSpec)) cloudNilUptoCard
end Rows
end Go.Proofs.YtocefedhenhbfabGreatDoor
