/-
  DERIVED. GIVEN WITH THE SEED: THE CARDS: each row of YtocefedhenhbfaaGreatDoorRows.lean that lists a variable, with what it lists TIED to the program's text (the seventh form; the later family's looks); each row that meets fmt, with fmt's text TOLD by the authors' own Lean function (tested against real Go, not proved from fmt's source: count such statements apart). THE CARD IS WHAT COUNTS. Prove the row's statement (the work); the ties are given (YtocefedhenhbfaaGreatDoorTie.lean); close each card by the builder's one call (the guide's Derived/Test/ToyasCard.lean, 'card_holds'). Laid BY PROGRAM, IN A SANDBOX (cutbox-door.mjs). By AI agents, Wed Nov 11 2026. No macro, syntax, notation, axiom, sorry.
-/
import Derived.Test.YtocefedhenhbfaaGreatDoorRows
import GoSem.ClaimSeven
namespace Go.Proofs.YtocefedhenhbfaaGreatDoor
namespace Rows

/-- THE TIED CARD OF 'hoardinglaw05.PrintTells'. -/
def printTellsCard : Claim7 := { stood := { row := printTellsRow, standIns := [], harness := (true, "132046109f884347683a4f9444ef9303ddf26d27f4fd0ae11824b2e8e74fb173"), looks := false }, kinds := [], alts := [], laidByText := true, laidKinds := [.data, .pinned], laidTests := true, laidLooks := .later }
def PrintTellsCardSaid : Prop := Claim7.holds Tryz.pinned (.plain (OpenSpec.ofChange printTellsSpec)) printTellsCard

/-- THE TIED CARD OF 'hoardinglaw11.CloudBad'. -/
def cloudBadCard : Claim7 := { stood := { row := cloudBadRow, standIns := [], harness := (true, "132046109f884347683a4f9444ef9303ddf26d27f4fd0ae11824b2e8e74fb173"), looks := false }, kinds := [], alts := [], laidByText := true, laidKinds := [.data, .pinned], laidTests := true, laidLooks := .later }
def CloudBadCardSaid : Prop := Claim7.holds Tryz.pinned (.plain (OpenSpec.ofChange cloudBadSpec)) cloudBadCard

/-- THE TIED CARD OF 'hoardinglaw11.CloudTurned'. -/
def cloudTurnedCard : Claim7 := { stood := { row := cloudTurnedRow, standIns := [], harness := (true, "132046109f884347683a4f9444ef9303ddf26d27f4fd0ae11824b2e8e74fb173"), looks := false }, kinds := [], alts := [], laidByText := true, laidKinds := [.data, .pinned], laidTests := true, laidLooks := .later }
def CloudTurnedCardSaid : Prop := Claim7.holds Tryz.pinned (.plain (OpenSpec.ofChange cloudTurnedSpec)) cloudTurnedCard

/-- THE TIED CARD OF 'hoardinglaw11.CloudOnce'. -/
def cloudOnceCard : Claim7 := { stood := { row := cloudOnceRow, standIns := [], harness := (true, "132046109f884347683a4f9444ef9303ddf26d27f4fd0ae11824b2e8e74fb173"), looks := false }, kinds := [], alts := [], laidByText := true, laidKinds := [.data, .pinned], laidTests := true, laidLooks := .later }
def CloudOnceCardSaid : Prop := Claim7.holds Tryz.pinned (.plain (OpenSpec.ofChange cloudOnceSpec)) cloudOnceCard

/-- THE SECOND FORM's CARD OF 'hoardinglaw05.PrintTells'. -/
def printTellsUptoCard : Claim7 := { stood := { row := printTellsUptoRow, standIns := [], harness := (true, "132046109f884347683a4f9444ef9303ddf26d27f4fd0ae11824b2e8e74fb173"), looks := false }, kinds := [], alts := [], laidByText := true, laidKinds := [.data, .pinned], laidTests := true, laidLooks := .later }
def PrintTellsUptoCardSaid : Prop := Claim7.holds Tryz.pinned (.plain (OpenSpec.upto printTellsSpec)) printTellsUptoCard

/-- THE SECOND FORM's CARD OF 'hoardinglaw11.CloudBad'. -/
def cloudBadUptoCard : Claim7 := { stood := { row := cloudBadUptoRow, standIns := [], harness := (true, "132046109f884347683a4f9444ef9303ddf26d27f4fd0ae11824b2e8e74fb173"), looks := false }, kinds := [], alts := [], laidByText := true, laidKinds := [.data, .pinned], laidTests := true, laidLooks := .later }
def CloudBadUptoCardSaid : Prop := Claim7.holds Tryz.pinned (.plain (OpenSpec.upto cloudBadSpec)) cloudBadUptoCard

/-- THE SECOND FORM's CARD OF 'hoardinglaw11.CloudTurned'. -/
def cloudTurnedUptoCard : Claim7 := { stood := { row := cloudTurnedUptoRow, standIns := [], harness := (true, "132046109f884347683a4f9444ef9303ddf26d27f4fd0ae11824b2e8e74fb173"), looks := false }, kinds := [], alts := [], laidByText := true, laidKinds := [.data, .pinned], laidTests := true, laidLooks := .later }
def CloudTurnedUptoCardSaid : Prop := Claim7.holds Tryz.pinned (.plain (OpenSpec.upto cloudTurnedSpec)) cloudTurnedUptoCard

/-- THE SECOND FORM's CARD OF 'hoardinglaw11.CloudOnce'. -/
def cloudOnceUptoCard : Claim7 := { stood := { row := cloudOnceUptoRow, standIns := [], harness := (true, "132046109f884347683a4f9444ef9303ddf26d27f4fd0ae11824b2e8e74fb173"), looks := false }, kinds := [], alts := [], laidByText := true, laidKinds := [.data, .pinned], laidTests := true, laidLooks := .later }
def CloudOnceUptoCardSaid : Prop := Claim7.holds Tryz.pinned (.plain (OpenSpec.upto cloudOnceSpec)) cloudOnceUptoCard
end Rows
end Go.Proofs.YtocefedhenhbfaaGreatDoor
