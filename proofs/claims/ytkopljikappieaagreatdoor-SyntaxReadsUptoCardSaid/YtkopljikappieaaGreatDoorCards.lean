/-
  DERIVED. GIVEN WITH THE SEED: THE CARDS: each row of YtkopljikappieaaGreatDoorRows.lean that lists a variable, with what it lists TIED to the program's text (the seventh form; the later family's looks); each row that meets fmt, with fmt's text TOLD by the authors' own Lean function (tested against real Go, not proved from fmt's source: count such statements apart). THE CARD IS WHAT COUNTS. Prove the row's statement (the work); the ties are given (YtkopljikappieaaGreatDoorTie.lean); close each card by the builder's one call (the guide's Derived/Test/ToyasCard.lean, 'card_holds'). Laid BY PROGRAM, IN A SANDBOX (cutbox-door.mjs). By AI agents, Wed Nov 11 2026. No macro, syntax, notation, axiom, sorry.
-/
import Derived.Test.YtkopljikappieaaGreatDoorRows
import GoSem.ClaimSeven
namespace Go.Proofs.YtkopljikappieaaGreatDoor
namespace Rows

/-- THE TIED CARD OF 'hoardinglaw13.SyntaxExprs'. -/
def syntaxExprsCard : Claim7 := { stood := { row := syntaxExprsRow, standIns := [], harness := (true, "93743039be43b987b3304385d4d7ae9426b5a6d2abe3e1fb4b5ec2510708d5ad"), looks := true }, kinds := [], alts := [], laidByText := true, laidKinds := [.data, .pinned], laidTests := true, laidLooks := .later }
def SyntaxExprsCardSaid : Prop := Claim7.holds Tryz.pinned (.plain (OpenSpec.ofChange syntaxExprsSpec)) syntaxExprsCard

/-- THE TIED CARD OF 'hoardinglaw13.SyntaxReads'. -/
def syntaxReadsCard : Claim7 := { stood := { row := syntaxReadsRow, standIns := [], harness := (true, "93743039be43b987b3304385d4d7ae9426b5a6d2abe3e1fb4b5ec2510708d5ad"), looks := true }, kinds := [], alts := [], laidByText := true, laidKinds := [.data, .pinned], laidTests := true, laidLooks := .later }
def SyntaxReadsCardSaid : Prop := Claim7.holds Tryz.pinned (.plain (OpenSpec.ofChange syntaxReadsSpec)) syntaxReadsCard

/-- THE TIED CARD OF 'hoardinglaw13.SyntaxRises'. -/
def syntaxRisesCard : Claim7 := { stood := { row := syntaxRisesRow, standIns := [], harness := (true, "93743039be43b987b3304385d4d7ae9426b5a6d2abe3e1fb4b5ec2510708d5ad"), looks := true }, kinds := [], alts := [], laidByText := true, laidKinds := [.data, .pinned], laidTests := true, laidLooks := .later }
def SyntaxRisesCardSaid : Prop := Claim7.holds Tryz.pinned (.plain (OpenSpec.ofChange syntaxRisesSpec)) syntaxRisesCard

/-- THE SECOND FORM's CARD OF 'hoardinglaw13.SyntaxExprs'. -/
def syntaxExprsUptoCard : Claim7 := { stood := { row := syntaxExprsUptoRow, standIns := [], harness := (true, "93743039be43b987b3304385d4d7ae9426b5a6d2abe3e1fb4b5ec2510708d5ad"), looks := true }, kinds := [], alts := [], laidByText := true, laidKinds := [.data, .pinned], laidTests := true, laidLooks := .later }
def SyntaxExprsUptoCardSaid : Prop := Claim7.holds Tryz.pinned (.plain (OpenSpec.upto syntaxExprsSpec)) syntaxExprsUptoCard

/-- THE SECOND FORM's CARD OF 'hoardinglaw13.SyntaxReads'. -/
def syntaxReadsUptoCard : Claim7 := { stood := { row := syntaxReadsUptoRow, standIns := [], harness := (true, "93743039be43b987b3304385d4d7ae9426b5a6d2abe3e1fb4b5ec2510708d5ad"), looks := true }, kinds := [], alts := [], laidByText := true, laidKinds := [.data, .pinned], laidTests := true, laidLooks := .later }
def SyntaxReadsUptoCardSaid : Prop := Claim7.holds Tryz.pinned (.plain (OpenSpec.upto syntaxReadsSpec)) syntaxReadsUptoCard

/-- THE SECOND FORM's CARD OF 'hoardinglaw13.SyntaxRises'. -/
def syntaxRisesUptoCard : Claim7 := { stood := { row := syntaxRisesUptoRow, standIns := [], harness := (true, "93743039be43b987b3304385d4d7ae9426b5a6d2abe3e1fb4b5ec2510708d5ad"), looks := true }, kinds := [], alts := [], laidByText := true, laidKinds := [.data, .pinned], laidTests := true, laidLooks := .later }
def SyntaxRisesUptoCardSaid : Prop := Claim7.holds Tryz.pinned (.plain (OpenSpec.upto syntaxRisesSpec)) syntaxRisesUptoCard
end Rows
end Go.Proofs.YtkopljikappieaaGreatDoor
