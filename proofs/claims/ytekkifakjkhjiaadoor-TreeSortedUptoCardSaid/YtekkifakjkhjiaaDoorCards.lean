/-
  DERIVED. GIVEN WITH THE SEED: THE CARDS: each row of YtekkifakjkhjiaaDoorRows.lean that lists a variable, with what it lists TIED to the program's text (the seventh form; the later family's looks); each row that meets fmt, with fmt's text TOLD by the authors' own Lean function (tested against real Go, not proved from fmt's source: count such statements apart). THE CARD IS WHAT COUNTS. Prove the row's statement (the work); the ties are given (YtekkifakjkhjiaaDoorTie.lean); close each card by the builder's one call (the guide's Derived/Test/ToyasCard.lean, 'card_holds'). Laid BY PROGRAM, IN A SANDBOX (cutbox-door.mjs). By AI agents, Wed Nov 11 2026. No macro, syntax, notation, axiom, sorry.
-/
import Derived.Test.YtekkifakjkhjiaaDoorRows
import GoSem.ClaimSeven
namespace Go.Proofs.YtekkifakjkhjiaaDoor
namespace Rows

/-- THE TIED CARD OF 'hoardinglaw03.TreeWalk'. -/
def treeWalkCard : Claim7 := { stood := { row := treeWalkRow, standIns := [], harness := (true, "87b52c38ee0f378b2f67ae19f72cf212f2f3c8f3e75e59b5c4f85132997f136f"), looks := false }, kinds := [], alts := [], laidByText := true, laidKinds := [.data, .pinned], laidTests := true, laidLooks := .later }
def TreeWalkCardSaid : Prop := Claim7.holds Tryd.pinned (.plain (OpenSpec.ofChange treeWalkSpec)) treeWalkCard

/-- THE TIED CARD OF 'hoardinglaw03.TreeOrder'. -/
def treeOrderCard : Claim7 := { stood := { row := treeOrderRow, standIns := [], harness := (true, "87b52c38ee0f378b2f67ae19f72cf212f2f3c8f3e75e59b5c4f85132997f136f"), looks := false }, kinds := [], alts := [], laidByText := true, laidKinds := [.data, .pinned], laidTests := true, laidLooks := .later }
def TreeOrderCardSaid : Prop := Claim7.holds Tryd.pinned (.plain (OpenSpec.ofChange treeOrderSpec)) treeOrderCard

/-- THE TIED CARD OF 'hoardinglaw03.TreeWrap'. -/
def treeWrapCard : Claim7 := { stood := { row := treeWrapRow, standIns := [], harness := (true, "87b52c38ee0f378b2f67ae19f72cf212f2f3c8f3e75e59b5c4f85132997f136f"), looks := false }, kinds := [], alts := [], laidByText := true, laidKinds := [.data, .pinned], laidTests := true, laidLooks := .later }
def TreeWrapCardSaid : Prop := Claim7.holds Tryd.pinned (.plain (OpenSpec.ofChange treeWrapSpec)) treeWrapCard

/-- THE TIED CARD OF 'hoardinglaw03.TreeSorted'. -/
def treeSortedCard : Claim7 := { stood := { row := treeSortedRow, standIns := [], harness := (true, "87b52c38ee0f378b2f67ae19f72cf212f2f3c8f3e75e59b5c4f85132997f136f"), looks := false }, kinds := [], alts := [], laidByText := true, laidKinds := [.data, .pinned], laidTests := true, laidLooks := .later }
def TreeSortedCardSaid : Prop := Claim7.holds Tryd.pinned (.plain (OpenSpec.ofChange treeSortedSpec)) treeSortedCard

/-- THE TIED CARD OF 'hoardinglaw03.TreeGet'. -/
def treeGetCard : Claim7 := { stood := { row := treeGetRow, standIns := [], harness := (true, "87b52c38ee0f378b2f67ae19f72cf212f2f3c8f3e75e59b5c4f85132997f136f"), looks := false }, kinds := [], alts := [], laidByText := true, laidKinds := [.data, .pinned], laidTests := true, laidLooks := .later }
def TreeGetCardSaid : Prop := Claim7.holds Tryd.pinned (.plain (OpenSpec.ofChange treeGetSpec)) treeGetCard

/-- THE TIED CARD OF 'hoardinglaw03.TreeTells'. -/
def treeTellsCard : Claim7 := { stood := { row := treeTellsRow, standIns := [], harness := (true, "87b52c38ee0f378b2f67ae19f72cf212f2f3c8f3e75e59b5c4f85132997f136f"), looks := false }, kinds := [], alts := [], laidByText := true, laidKinds := [.data, .pinned], laidTests := true, laidLooks := .later }
def TreeTellsCardSaid : Prop := Claim7.holds Tryd.pinned (.plain (OpenSpec.ofChange treeTellsSpec)) treeTellsCard

/-- THE TIED CARD OF 'hoardinglaw05.PrintParts'. -/
def printPartsCard : Claim7 := { stood := { row := printPartsRow, standIns := [], harness := (true, "87b52c38ee0f378b2f67ae19f72cf212f2f3c8f3e75e59b5c4f85132997f136f"), looks := false }, kinds := [], alts := [], laidByText := true, laidKinds := [.data, .pinned], laidTests := true, laidLooks := .later }
def PrintPartsCardSaid : Prop := Claim7.holds Tryd.pinned (.plain (OpenSpec.ofChange printPartsSpec)) printPartsCard

/-- THE TIED CARD OF 'hoardinglaw05.PrintSame'. -/
def printSameCard : Claim7 := { stood := { row := printSameRow, standIns := [], harness := (true, "87b52c38ee0f378b2f67ae19f72cf212f2f3c8f3e75e59b5c4f85132997f136f"), looks := false }, kinds := [], alts := [], laidByText := true, laidKinds := [.data, .pinned], laidTests := true, laidLooks := .later }
def PrintSameCardSaid : Prop := Claim7.holds Tryd.pinned (.plain (OpenSpec.ofChange printSameSpec)) printSameCard

/-- THE TIED CARD OF 'hoardinglaw05.PrintLines'. -/
def printLinesCard : Claim7 := { stood := { row := printLinesRow, standIns := [], harness := (true, "87b52c38ee0f378b2f67ae19f72cf212f2f3c8f3e75e59b5c4f85132997f136f"), looks := false }, kinds := [], alts := [], laidByText := true, laidKinds := [.data, .pinned], laidTests := true, laidLooks := .later }
def PrintLinesCardSaid : Prop := Claim7.holds Tryd.pinned (.plain (OpenSpec.ofChange printLinesSpec)) printLinesCard

/-- THE TIED CARD OF 'hoardinglaw05.PrintObject'. -/
def printObjectCard : Claim7 := { stood := { row := printObjectRow, standIns := [], harness := (true, "87b52c38ee0f378b2f67ae19f72cf212f2f3c8f3e75e59b5c4f85132997f136f"), looks := false }, kinds := [], alts := [], laidByText := true, laidKinds := [.data, .pinned], laidTests := true, laidLooks := .later }
def PrintObjectCardSaid : Prop := Claim7.holds Tryd.pinned (.plain (OpenSpec.ofChange printObjectSpec)) printObjectCard

/-- THE SECOND FORM's CARD OF 'hoardinglaw03.TreeWalk'. -/
def treeWalkUptoCard : Claim7 := { stood := { row := treeWalkUptoRow, standIns := [], harness := (true, "87b52c38ee0f378b2f67ae19f72cf212f2f3c8f3e75e59b5c4f85132997f136f"), looks := false }, kinds := [], alts := [], laidByText := true, laidKinds := [.data, .pinned], laidTests := true, laidLooks := .later }
def TreeWalkUptoCardSaid : Prop := Claim7.holds Tryd.pinned (.plain (OpenSpec.upto treeWalkSpec)) treeWalkUptoCard

/-- THE SECOND FORM's CARD OF 'hoardinglaw03.TreeOrder'. -/
def treeOrderUptoCard : Claim7 := { stood := { row := treeOrderUptoRow, standIns := [], harness := (true, "87b52c38ee0f378b2f67ae19f72cf212f2f3c8f3e75e59b5c4f85132997f136f"), looks := false }, kinds := [], alts := [], laidByText := true, laidKinds := [.data, .pinned], laidTests := true, laidLooks := .later }
def TreeOrderUptoCardSaid : Prop := Claim7.holds Tryd.pinned (.plain (OpenSpec.upto treeOrderSpec)) treeOrderUptoCard

/-- THE SECOND FORM's CARD OF 'hoardinglaw03.TreeWrap'. -/
def treeWrapUptoCard : Claim7 := { stood := { row := treeWrapUptoRow, standIns := [], harness := (true, "87b52c38ee0f378b2f67ae19f72cf212f2f3c8f3e75e59b5c4f85132997f136f"), looks := false }, kinds := [], alts := [], laidByText := true, laidKinds := [.data, .pinned], laidTests := true, laidLooks := .later }
def TreeWrapUptoCardSaid : Prop := Claim7.holds Tryd.pinned (.plain (OpenSpec.upto treeWrapSpec)) treeWrapUptoCard

/-- THE SECOND FORM's CARD OF 'hoardinglaw03.TreeSorted'. -/
def treeSortedUptoCard : Claim7 := { stood := { row := treeSortedUptoRow, standIns := [], harness := (true, "87b52c38ee0f378b2f67ae19f72cf212f2f3c8f3e75e59b5c4f85132997f136f"), looks := false }, kinds := [], alts := [], laidByText := true, laidKinds := [.data, .pinned], laidTests := true, laidLooks := .later }
def TreeSortedUptoCardSaid : Prop := Claim7.holds Tryd.pinned (.plain (OpenSpec.upto treeSortedSpec)) treeSortedUptoCard

/-- THE SECOND FORM's CARD OF 'hoardinglaw03.TreeGet'. -/
def treeGetUptoCard : Claim7 := { stood := { row := treeGetUptoRow, standIns := [], harness := (true, "87b52c38ee0f378b2f67ae19f72cf212f2f3c8f3e75e59b5c4f85132997f136f"), looks := false }, kinds := [], alts := [], laidByText := true, laidKinds := [.data, .pinned], laidTests := true, laidLooks := .later }
def TreeGetUptoCardSaid : Prop := Claim7.holds Tryd.pinned (.plain (OpenSpec.upto treeGetSpec)) treeGetUptoCard

/-- THE SECOND FORM's CARD OF 'hoardinglaw03.TreeTells'. -/
def treeTellsUptoCard : Claim7 := { stood := { row := treeTellsUptoRow, standIns := [], harness := (true, "87b52c38ee0f378b2f67ae19f72cf212f2f3c8f3e75e59b5c4f85132997f136f"), looks := false }, kinds := [], alts := [], laidByText := true, laidKinds := [.data, .pinned], laidTests := true, laidLooks := .later }
def TreeTellsUptoCardSaid : Prop := Claim7.holds Tryd.pinned (.plain (OpenSpec.upto treeTellsSpec)) treeTellsUptoCard

/-- THE SECOND FORM's CARD OF 'hoardinglaw05.PrintParts'. -/
def printPartsUptoCard : Claim7 := { stood := { row := printPartsUptoRow, standIns := [], harness := (true, "87b52c38ee0f378b2f67ae19f72cf212f2f3c8f3e75e59b5c4f85132997f136f"), looks := false }, kinds := [], alts := [], laidByText := true, laidKinds := [.data, .pinned], laidTests := true, laidLooks := .later }
def PrintPartsUptoCardSaid : Prop := Claim7.holds Tryd.pinned (.plain (OpenSpec.upto printPartsSpec)) printPartsUptoCard

/-- THE SECOND FORM's CARD OF 'hoardinglaw05.PrintSame'. -/
def printSameUptoCard : Claim7 := { stood := { row := printSameUptoRow, standIns := [], harness := (true, "87b52c38ee0f378b2f67ae19f72cf212f2f3c8f3e75e59b5c4f85132997f136f"), looks := false }, kinds := [], alts := [], laidByText := true, laidKinds := [.data, .pinned], laidTests := true, laidLooks := .later }
def PrintSameUptoCardSaid : Prop := Claim7.holds Tryd.pinned (.plain (OpenSpec.upto printSameSpec)) printSameUptoCard

/-- THE SECOND FORM's CARD OF 'hoardinglaw05.PrintLines'. -/
def printLinesUptoCard : Claim7 := { stood := { row := printLinesUptoRow, standIns := [], harness := (true, "87b52c38ee0f378b2f67ae19f72cf212f2f3c8f3e75e59b5c4f85132997f136f"), looks := false }, kinds := [], alts := [], laidByText := true, laidKinds := [.data, .pinned], laidTests := true, laidLooks := .later }
def PrintLinesUptoCardSaid : Prop := Claim7.holds Tryd.pinned (.plain (OpenSpec.upto printLinesSpec)) printLinesUptoCard

/-- THE SECOND FORM's CARD OF 'hoardinglaw05.PrintObject'. -/
def printObjectUptoCard : Claim7 := { stood := { row := printObjectUptoRow, standIns := [], harness := (true, "87b52c38ee0f378b2f67ae19f72cf212f2f3c8f3e75e59b5c4f85132997f136f"), looks := false }, kinds := [], alts := [], laidByText := true, laidKinds := [.data, .pinned], laidTests := true, laidLooks := .later }
def PrintObjectUptoCardSaid : Prop := Claim7.holds Tryd.pinned (.plain (OpenSpec.upto printObjectSpec)) printObjectUptoCard
end Rows
end Go.Proofs.YtekkifakjkhjiaaDoor
