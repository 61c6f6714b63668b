/-
  DERIVED. GIVEN WITH THE SEED: THE CARDS: each row of YtfaedhhjamaniaaDoorRows.lean that lists a variable, with what it lists TIED to the program's text (the seventh form; the later family's looks); each row that meets fmt, with fmt's text TOLD by the authors' own Lean function (tested against real Go, not proved from fmt's source: count such statements apart). THE CARD IS WHAT COUNTS. Prove the row's statement (the work); the ties are given (YtfaedhhjamaniaaDoorTie.lean); close each card by the builder's one call (the guide's Derived/Test/ToyasCard.lean, 'card_holds'). Laid BY PROGRAM, IN A SANDBOX (cutbox-door.mjs). By AI agents, Wed Nov 11 2026. No macro, syntax, notation, axiom, sorry.
-/
import Derived.Test.YtfaedhhjamaniaaDoorRows
import GoSem.ClaimSeven
namespace Go.Proofs.YtfaedhhjamaniaaDoor
namespace Rows

/-- THE TIED CARD OF 'hoardinglaw05.PrintParts'. -/
def printPartsCard : Claim7 := { stood := { row := printPartsRow, standIns := [], harness := (true, "60eb942f3b9041e47a4f528453aa7cd8810308685b8171ff84d2519f8728b561"), looks := false }, kinds := [], alts := [], laidByText := true, laidKinds := [.data, .pinned], laidTests := true, laidLooks := .later }
def PrintPartsCardSaid : Prop := Claim7.holds Tryd.pinned (.plain (OpenSpec.ofChange printPartsSpec)) printPartsCard

/-- THE TIED CARD OF 'hoardinglaw05.PrintSame'. -/
def printSameCard : Claim7 := { stood := { row := printSameRow, standIns := [], harness := (true, "60eb942f3b9041e47a4f528453aa7cd8810308685b8171ff84d2519f8728b561"), looks := false }, kinds := [], alts := [], laidByText := true, laidKinds := [.data, .pinned], laidTests := true, laidLooks := .later }
def PrintSameCardSaid : Prop := Claim7.holds Tryd.pinned (.plain (OpenSpec.ofChange printSameSpec)) printSameCard

/-- THE TIED CARD OF 'hoardinglaw05.PrintLines'. -/
def printLinesCard : Claim7 := { stood := { row := printLinesRow, standIns := [], harness := (true, "60eb942f3b9041e47a4f528453aa7cd8810308685b8171ff84d2519f8728b561"), looks := false }, kinds := [], alts := [], laidByText := true, laidKinds := [.data, .pinned], laidTests := true, laidLooks := .later }
def PrintLinesCardSaid : Prop := Claim7.holds Tryd.pinned (.plain (OpenSpec.ofChange printLinesSpec)) printLinesCard

/-- THE TIED CARD OF 'hoardinglaw05.PrintObject'. -/
def printObjectCard : Claim7 := { stood := { row := printObjectRow, standIns := [], harness := (true, "60eb942f3b9041e47a4f528453aa7cd8810308685b8171ff84d2519f8728b561"), looks := false }, kinds := [], alts := [], laidByText := true, laidKinds := [.data, .pinned], laidTests := true, laidLooks := .later }
def PrintObjectCardSaid : Prop := Claim7.holds Tryd.pinned (.plain (OpenSpec.ofChange printObjectSpec)) printObjectCard

/-- THE SECOND FORM's CARD OF 'hoardinglaw05.PrintParts'. -/
def printPartsUptoCard : Claim7 := { stood := { row := printPartsUptoRow, standIns := [], harness := (true, "60eb942f3b9041e47a4f528453aa7cd8810308685b8171ff84d2519f8728b561"), looks := false }, kinds := [], alts := [], laidByText := true, laidKinds := [.data, .pinned], laidTests := true, laidLooks := .later }
def PrintPartsUptoCardSaid : Prop := Claim7.holds Tryd.pinned (.plain (OpenSpec.upto printPartsSpec)) printPartsUptoCard

/-- THE SECOND FORM's CARD OF 'hoardinglaw05.PrintSame'. -/
def printSameUptoCard : Claim7 := { stood := { row := printSameUptoRow, standIns := [], harness := (true, "60eb942f3b9041e47a4f528453aa7cd8810308685b8171ff84d2519f8728b561"), looks := false }, kinds := [], alts := [], laidByText := true, laidKinds := [.data, .pinned], laidTests := true, laidLooks := .later }
def PrintSameUptoCardSaid : Prop := Claim7.holds Tryd.pinned (.plain (OpenSpec.upto printSameSpec)) printSameUptoCard

/-- THE SECOND FORM's CARD OF 'hoardinglaw05.PrintLines'. -/
def printLinesUptoCard : Claim7 := { stood := { row := printLinesUptoRow, standIns := [], harness := (true, "60eb942f3b9041e47a4f528453aa7cd8810308685b8171ff84d2519f8728b561"), looks := false }, kinds := [], alts := [], laidByText := true, laidKinds := [.data, .pinned], laidTests := true, laidLooks := .later }
def PrintLinesUptoCardSaid : Prop := Claim7.holds Tryd.pinned (.plain (OpenSpec.upto printLinesSpec)) printLinesUptoCard

/-- THE SECOND FORM's CARD OF 'hoardinglaw05.PrintObject'. -/
def printObjectUptoCard : Claim7 := { stood := { row := printObjectUptoRow, standIns := [], harness := (true, "60eb942f3b9041e47a4f528453aa7cd8810308685b8171ff84d2519f8728b561"), looks := false }, kinds := [], alts := [], laidByText := true, laidKinds := [.data, .pinned], laidTests := true, laidLooks := .later }
def PrintObjectUptoCardSaid : Prop := Claim7.holds Tryd.pinned (.plain (OpenSpec.upto printObjectSpec)) printObjectUptoCard
end Rows
end Go.Proofs.YtfaedhhjamaniaaDoor
