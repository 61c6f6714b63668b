/-
  DERIVED. GIVEN WITH THE SEED: THE CARDS: each row of YtalifkcchfkgmaaDoorRows.lean that lists a variable, with what it lists TIED to the program's text (the seventh form; the later family's looks); each row that meets fmt, with fmt's text TOLD by the authors' own Lean function (tested against real Go, not proved from fmt's source: count such statements apart). THE CARD IS WHAT COUNTS. Prove the row's statement (the work); the ties are given (YtalifkcchfkgmaaDoorTie.lean); close each card by the builder's one call (the guide's Derived/Test/ToyasCard.lean, 'card_holds'). Laid BY PROGRAM, IN A SANDBOX (cutbox-door.mjs). By AI agents, Wed Nov 11 2026. No macro, syntax, notation, axiom, sorry.
-/
import Derived.Test.YtalifkcchfkgmaaDoorRows
import GoSem.ClaimSeven
namespace Go.Proofs.YtalifkcchfkgmaaDoor
namespace Rows

/-- THE TIED CARD OF 'hoardinglaw14.ParamsAgain'. -/
def paramsAgainCard : Claim7 := { stood := { row := paramsAgainRow, standIns := [], harness := (true, "639cfa94cfabd381b82ba6d79f7a43a317af6d793224353af9b541bd7b69b881"), looks := false }, kinds := [], alts := [], laidByText := true, laidKinds := [.data, .pinned], laidTests := true, laidLooks := .later }
def ParamsAgainCardSaid : Prop := Claim7.holds Tryd.pinned (.plain (OpenSpec.ofChange paramsAgainSpec)) paramsAgainCard

/-- THE TIED CARD OF 'hoardinglaw14.ParamsMore'. -/
def paramsMoreCard : Claim7 := { stood := { row := paramsMoreRow, standIns := [], harness := (true, "639cfa94cfabd381b82ba6d79f7a43a317af6d793224353af9b541bd7b69b881"), looks := false }, kinds := [], alts := [], laidByText := true, laidKinds := [.data, .pinned], laidTests := true, laidLooks := .later }
def ParamsMoreCardSaid : Prop := Claim7.holds Tryd.pinned (.plain (OpenSpec.ofChange paramsMoreSpec)) paramsMoreCard

/-- THE TIED CARD OF 'hoardinglaw09.SchemaAttrs'. -/
def schemaAttrsCard : Claim7 := { stood := { row := schemaAttrsRow, standIns := [], harness := (true, "639cfa94cfabd381b82ba6d79f7a43a317af6d793224353af9b541bd7b69b881"), looks := false }, kinds := [], alts := [], laidByText := true, laidKinds := [.data, .pinned], laidTests := true, laidLooks := .later }
def SchemaAttrsCardSaid : Prop := Claim7.holds Tryd.pinned (.plain (OpenSpec.ofChange schemaAttrsSpec)) schemaAttrsCard

/-- THE TIED CARD OF 'hoardinglaw09.SchemaKnown'. -/
def schemaKnownCard : Claim7 := { stood := { row := schemaKnownRow, standIns := [], harness := (true, "639cfa94cfabd381b82ba6d79f7a43a317af6d793224353af9b541bd7b69b881"), looks := false }, kinds := [], alts := [], laidByText := true, laidKinds := [.data, .pinned], laidTests := true, laidLooks := .later }
def SchemaKnownCardSaid : Prop := Claim7.holds Tryd.pinned (.plain (OpenSpec.ofChange schemaKnownSpec)) schemaKnownCard

/-- THE TIED CARD OF 'hoardinglaw09.SchemaParts'. -/
def schemaPartsCard : Claim7 := { stood := { row := schemaPartsRow, standIns := [], harness := (true, "639cfa94cfabd381b82ba6d79f7a43a317af6d793224353af9b541bd7b69b881"), looks := false }, kinds := [], alts := [], laidByText := true, laidKinds := [.data, .pinned], laidTests := true, laidLooks := .later }
def SchemaPartsCardSaid : Prop := Claim7.holds Tryd.pinned (.plain (OpenSpec.ofChange schemaPartsSpec)) schemaPartsCard

/-- THE TIED CARD OF 'hoardinglaw09.SchemaNone'. -/
def schemaNoneCard : Claim7 := { stood := { row := schemaNoneRow, standIns := [], harness := (true, "639cfa94cfabd381b82ba6d79f7a43a317af6d793224353af9b541bd7b69b881"), looks := false }, kinds := [], alts := [], laidByText := true, laidKinds := [.data, .pinned], laidTests := true, laidLooks := .later }
def SchemaNoneCardSaid : Prop := Claim7.holds Tryd.pinned (.plain (OpenSpec.ofChange schemaNoneSpec)) schemaNoneCard

/-- THE SECOND FORM's CARD OF 'hoardinglaw14.ParamsAgain'. -/
def paramsAgainUptoCard : Claim7 := { stood := { row := paramsAgainUptoRow, standIns := [], harness := (true, "639cfa94cfabd381b82ba6d79f7a43a317af6d793224353af9b541bd7b69b881"), looks := false }, kinds := [], alts := [], laidByText := true, laidKinds := [.data, .pinned], laidTests := true, laidLooks := .later }
def ParamsAgainUptoCardSaid : Prop := Claim7.holds Tryd.pinned (.plain (OpenSpec.upto paramsAgainSpec)) paramsAgainUptoCard

/-- THE SECOND FORM's CARD OF 'hoardinglaw14.ParamsMore'. -/
def paramsMoreUptoCard : Claim7 := { stood := { row := paramsMoreUptoRow, standIns := [], harness := (true, "639cfa94cfabd381b82ba6d79f7a43a317af6d793224353af9b541bd7b69b881"), looks := false }, kinds := [], alts := [], laidByText := true, laidKinds := [.data, .pinned], laidTests := true, laidLooks := .later }
def ParamsMoreUptoCardSaid : Prop := Claim7.holds Tryd.pinned (.plain (OpenSpec.upto paramsMoreSpec)) paramsMoreUptoCard

/-- THE SECOND FORM's CARD OF 'hoardinglaw09.SchemaAttrs'. -/
def schemaAttrsUptoCard : Claim7 := { stood := { row := schemaAttrsUptoRow, standIns := [], harness := (true, "639cfa94cfabd381b82ba6d79f7a43a317af6d793224353af9b541bd7b69b881"), looks := false }, kinds := [], alts := [], laidByText := true, laidKinds := [.data, .pinned], laidTests := true, laidLooks := .later }
def SchemaAttrsUptoCardSaid : Prop := Claim7.holds Tryd.pinned (.plain (OpenSpec.upto schemaAttrsSpec)) schemaAttrsUptoCard

/-- THE SECOND FORM's CARD OF 'hoardinglaw09.SchemaKnown'. -/
def schemaKnownUptoCard : Claim7 := { stood := { row := schemaKnownUptoRow, standIns := [], harness := (true, "639cfa94cfabd381b82ba6d79f7a43a317af6d793224353af9b541bd7b69b881"), looks := false }, kinds := [], alts := [], laidByText := true, laidKinds := [.data, .pinned], laidTests := true, laidLooks := .later }
def SchemaKnownUptoCardSaid : Prop := Claim7.holds Tryd.pinned (.plain (OpenSpec.upto schemaKnownSpec)) schemaKnownUptoCard

/-- THE SECOND FORM's CARD OF 'hoardinglaw09.SchemaParts'. -/
def schemaPartsUptoCard : Claim7 := { stood := { row := schemaPartsUptoRow, standIns := [], harness := (true, "639cfa94cfabd381b82ba6d79f7a43a317af6d793224353af9b541bd7b69b881"), looks := false }, kinds := [], alts := [], laidByText := true, laidKinds := [.data, .pinned], laidTests := true, laidLooks := .later }
def SchemaPartsUptoCardSaid : Prop := Claim7.holds Tryd.pinned (.plain (OpenSpec.upto schemaPartsSpec)) schemaPartsUptoCard

/-- THE SECOND FORM's CARD OF 'hoardinglaw09.SchemaNone'. -/
def schemaNoneUptoCard : Claim7 := { stood := { row := schemaNoneUptoRow, standIns := [], harness := (true, "639cfa94cfabd381b82ba6d79f7a43a317af6d793224353af9b541bd7b69b881"), looks := false }, kinds := [], alts := [], laidByText := true, laidKinds := [.data, .pinned], laidTests := true, laidLooks := .later }
def SchemaNoneUptoCardSaid : Prop := Claim7.holds Tryd.pinned (.plain (OpenSpec.upto schemaNoneSpec)) schemaNoneUptoCard
end Rows
end Go.Proofs.YtalifkcchfkgmaaDoor
