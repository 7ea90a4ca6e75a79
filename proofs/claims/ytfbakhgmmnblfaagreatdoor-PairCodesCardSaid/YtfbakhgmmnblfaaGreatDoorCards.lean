/-
  DERIVED. GIVEN WITH THE SEED: THE CARDS: each row of YtfbakhgmmnblfaaGreatDoorRows.lean that lists a variable, with what it lists TIED to the program's text (the seventh form; the later family's looks); each row that meets fmt, with fmt's text TOLD by the authors' own Lean function (tested against real Go, not proved from fmt's source: count such statements apart). THE CARD IS WHAT COUNTS. Prove the row's statement (the work); the ties are given (YtfbakhgmmnblfaaGreatDoorTie.lean); close each card by the builder's one call (the guide's Derived/Test/ToyasCard.lean, 'card_holds'). Laid BY PROGRAM, IN A SANDBOX (cutbox-door.mjs). By AI agents, Wed Nov 11 2026. No macro, syntax, notation, axiom, sorry.
-/
import Derived.Test.YtfbakhgmmnblfaaGreatDoorRows
import GoSem.ClaimSeven
namespace Go.Proofs.YtfbakhgmmnblfaaGreatDoor
namespace Rows

/-- THE TIED CARD OF 'cayleylaw08.PairCodes'. -/
def pairCodesCard : Claim7 := { stood := { row := pairCodesRow, standIns := [], harness := (true, "d322271ed4fccee729fbffaf7ca3a647d688901f7ea3f9437d76fe8ee68b198e"), looks := true }, kinds := [], alts := [], laidByText := true, laidKinds := [.data, .data, .data], laidTests := true, laidLooks := .later }
def PairCodesCardSaid : Prop := Claim7.holds Tryz.pinned (.plain (OpenSpec.ofChange pairCodesSpec)) pairCodesCard

/-- THE TIED CARD OF 'cayleylaw08.PairComposes'. -/
def pairComposesCard : Claim7 := { stood := { row := pairComposesRow, standIns := [], harness := (true, "d322271ed4fccee729fbffaf7ca3a647d688901f7ea3f9437d76fe8ee68b198e"), looks := true }, kinds := [], alts := [], laidByText := true, laidKinds := [.data, .data, .data], laidTests := true, laidLooks := .later }
def PairComposesCardSaid : Prop := Claim7.holds Tryz.pinned (.plain (OpenSpec.ofChange pairComposesSpec)) pairComposesCard

/-- THE TIED CARD OF 'cayleylaw08.PairFunctions'. -/
def pairFunctionsCard : Claim7 := { stood := { row := pairFunctionsRow, standIns := [], harness := (true, "d322271ed4fccee729fbffaf7ca3a647d688901f7ea3f9437d76fe8ee68b198e"), looks := true }, kinds := [], alts := [], laidByText := true, laidKinds := [.data, .data, .data], laidTests := true, laidLooks := .later }
def PairFunctionsCardSaid : Prop := Claim7.holds Tryz.pinned (.plain (OpenSpec.ofChange pairFunctionsSpec)) pairFunctionsCard

/-- THE TIED CARD OF 'cayleylaw08.PairImages'. -/
def pairImagesCard : Claim7 := { stood := { row := pairImagesRow, standIns := [], harness := (true, "d322271ed4fccee729fbffaf7ca3a647d688901f7ea3f9437d76fe8ee68b198e"), looks := true }, kinds := [], alts := [], laidByText := true, laidKinds := [.data, .data, .data], laidTests := true, laidLooks := .later }
def PairImagesCardSaid : Prop := Claim7.holds Tryz.pinned (.plain (OpenSpec.ofChange pairImagesSpec)) pairImagesCard

/-- THE TIED CARD OF 'cayleylaw08.PairNormals'. -/
def pairNormalsCard : Claim7 := { stood := { row := pairNormalsRow, standIns := [], harness := (true, "d322271ed4fccee729fbffaf7ca3a647d688901f7ea3f9437d76fe8ee68b198e"), looks := true }, kinds := [], alts := [], laidByText := true, laidKinds := [.data, .data, .data], laidTests := true, laidLooks := .later }
def PairNormalsCardSaid : Prop := Claim7.holds Tryz.pinned (.plain (OpenSpec.ofChange pairNormalsSpec)) pairNormalsCard

/-- THE TIED CARD OF 'cayleylaw08.PairRestricts'. -/
def pairRestrictsCard : Claim7 := { stood := { row := pairRestrictsRow, standIns := [], harness := (true, "d322271ed4fccee729fbffaf7ca3a647d688901f7ea3f9437d76fe8ee68b198e"), looks := true }, kinds := [], alts := [], laidByText := true, laidKinds := [.data, .data, .data], laidTests := true, laidLooks := .later }
def PairRestrictsCardSaid : Prop := Claim7.holds Tryz.pinned (.plain (OpenSpec.ofChange pairRestrictsSpec)) pairRestrictsCard

/-- THE TIED CARD OF 'cayleylaw08.PairCombines'. -/
def pairCombinesCard : Claim7 := { stood := { row := pairCombinesRow, standIns := [], harness := (true, "d322271ed4fccee729fbffaf7ca3a647d688901f7ea3f9437d76fe8ee68b198e"), looks := true }, kinds := [], alts := [], laidByText := true, laidKinds := [.data, .data, .data], laidTests := true, laidLooks := .later }
def PairCombinesCardSaid : Prop := Claim7.holds Tryz.pinned (.plain (OpenSpec.ofChange pairCombinesSpec)) pairCombinesCard

/-- THE TIED CARD OF 'cayleylaw08.PairProjects'. -/
def pairProjectsCard : Claim7 := { stood := { row := pairProjectsRow, standIns := [], harness := (true, "d322271ed4fccee729fbffaf7ca3a647d688901f7ea3f9437d76fe8ee68b198e"), looks := true }, kinds := [], alts := [], laidByText := true, laidKinds := [.data, .data, .data], laidTests := true, laidLooks := .later }
def PairProjectsCardSaid : Prop := Claim7.holds Tryz.pinned (.plain (OpenSpec.ofChange pairProjectsSpec)) pairProjectsCard

/-- THE TIED CARD OF 'cayleylaw08.PairAlgebra'. -/
def pairAlgebraCard : Claim7 := { stood := { row := pairAlgebraRow, standIns := [], harness := (true, "d322271ed4fccee729fbffaf7ca3a647d688901f7ea3f9437d76fe8ee68b198e"), looks := true }, kinds := [], alts := [], laidByText := true, laidKinds := [.data, .data, .data], laidTests := true, laidLooks := .later }
def PairAlgebraCardSaid : Prop := Claim7.holds Tryz.pinned (.plain (OpenSpec.ofChange pairAlgebraSpec)) pairAlgebraCard

/-- THE TIED CARD OF 'cayleylaw08.PairStays'. -/
def pairStaysCard : Claim7 := { stood := { row := pairStaysRow, standIns := [], harness := (true, "d322271ed4fccee729fbffaf7ca3a647d688901f7ea3f9437d76fe8ee68b198e"), looks := true }, kinds := [], alts := [], laidByText := true, laidKinds := [.data, .data, .data], laidTests := true, laidLooks := .later }
def PairStaysCardSaid : Prop := Claim7.holds Tryz.pinned (.plain (OpenSpec.ofChange pairStaysSpec)) pairStaysCard

/-- THE SECOND FORM's CARD OF 'cayleylaw08.PairCodes'. -/
def pairCodesUptoCard : Claim7 := { stood := { row := pairCodesUptoRow, standIns := [], harness := (true, "d322271ed4fccee729fbffaf7ca3a647d688901f7ea3f9437d76fe8ee68b198e"), looks := true }, kinds := [], alts := [], laidByText := true, laidKinds := [.data, .data, .data], laidTests := true, laidLooks := .later }
def PairCodesUptoCardSaid : Prop := Claim7.holds Tryz.pinned (.plain (OpenSpec.upto pairCodesSpec)) pairCodesUptoCard

/-- THE SECOND FORM's CARD OF 'cayleylaw08.PairComposes'. -/
def pairComposesUptoCard : Claim7 := { stood := { row := pairComposesUptoRow, standIns := [], harness := (true, "d322271ed4fccee729fbffaf7ca3a647d688901f7ea3f9437d76fe8ee68b198e"), looks := true }, kinds := [], alts := [], laidByText := true, laidKinds := [.data, .data, .data], laidTests := true, laidLooks := .later }
def PairComposesUptoCardSaid : Prop := Claim7.holds Tryz.pinned (.plain (OpenSpec.upto pairComposesSpec)) pairComposesUptoCard

/-- THE SECOND FORM's CARD OF 'cayleylaw08.PairFunctions'. -/
def pairFunctionsUptoCard : Claim7 := { stood := { row := pairFunctionsUptoRow, standIns := [], harness := (true, "d322271ed4fccee729fbffaf7ca3a647d688901f7ea3f9437d76fe8ee68b198e"), looks := true }, kinds := [], alts := [], laidByText := true, laidKinds := [.data, .data, .data], laidTests := true, laidLooks := .later }
def PairFunctionsUptoCardSaid : Prop := Claim7.holds Tryz.pinned (.plain (OpenSpec.upto pairFunctionsSpec)) pairFunctionsUptoCard

/-- THE SECOND FORM's CARD OF 'cayleylaw08.PairImages'. -/
def pairImagesUptoCard : Claim7 := { stood := { row := pairImagesUptoRow, standIns := [], harness := (true, "d322271ed4fccee729fbffaf7ca3a647d688901f7ea3f9437d76fe8ee68b198e"), looks := true }, kinds := [], alts := [], laidByText := true, laidKinds := [.data, .data, .data], laidTests := true, laidLooks := .later }
def PairImagesUptoCardSaid : Prop := Claim7.holds Tryz.pinned (.plain (OpenSpec.upto pairImagesSpec)) pairImagesUptoCard

/-- THE SECOND FORM's CARD OF 'cayleylaw08.PairNormals'. -/
def pairNormalsUptoCard : Claim7 := { stood := { row := pairNormalsUptoRow, standIns := [], harness := (true, "d322271ed4fccee729fbffaf7ca3a647d688901f7ea3f9437d76fe8ee68b198e"), looks := true }, kinds := [], alts := [], laidByText := true, laidKinds := [.data, .data, .data], laidTests := true, laidLooks := .later }
def PairNormalsUptoCardSaid : Prop := Claim7.holds Tryz.pinned (.plain (OpenSpec.upto pairNormalsSpec)) pairNormalsUptoCard

/-- THE SECOND FORM's CARD OF 'cayleylaw08.PairRestricts'. -/
def pairRestrictsUptoCard : Claim7 := { stood := { row := pairRestrictsUptoRow, standIns := [], harness := (true, "d322271ed4fccee729fbffaf7ca3a647d688901f7ea3f9437d76fe8ee68b198e"), looks := true }, kinds := [], alts := [], laidByText := true, laidKinds := [.data, .data, .data], laidTests := true, laidLooks := .later }
def PairRestrictsUptoCardSaid : Prop := Claim7.holds Tryz.pinned (.plain (OpenSpec.upto pairRestrictsSpec)) pairRestrictsUptoCard

/-- THE SECOND FORM's CARD OF 'cayleylaw08.PairCombines'. -/
def pairCombinesUptoCard : Claim7 := { stood := { row := pairCombinesUptoRow, standIns := [], harness := (true, "d322271ed4fccee729fbffaf7ca3a647d688901f7ea3f9437d76fe8ee68b198e"), looks := true }, kinds := [], alts := [], laidByText := true, laidKinds := [.data, .data, .data], laidTests := true, laidLooks := .later }
def PairCombinesUptoCardSaid : Prop := Claim7.holds Tryz.pinned (.plain (OpenSpec.upto pairCombinesSpec)) pairCombinesUptoCard

/-- THE SECOND FORM's CARD OF 'cayleylaw08.PairProjects'. -/
def pairProjectsUptoCard : Claim7 := { stood := { row := pairProjectsUptoRow, standIns := [], harness := (true, "d322271ed4fccee729fbffaf7ca3a647d688901f7ea3f9437d76fe8ee68b198e"), looks := true }, kinds := [], alts := [], laidByText := true, laidKinds := [.data, .data, .data], laidTests := true, laidLooks := .later }
def PairProjectsUptoCardSaid : Prop := Claim7.holds Tryz.pinned (.plain (OpenSpec.upto pairProjectsSpec)) pairProjectsUptoCard

/-- THE SECOND FORM's CARD OF 'cayleylaw08.PairAlgebra'. -/
def pairAlgebraUptoCard : Claim7 := { stood := { row := pairAlgebraUptoRow, standIns := [], harness := (true, "d322271ed4fccee729fbffaf7ca3a647d688901f7ea3f9437d76fe8ee68b198e"), looks := true }, kinds := [], alts := [], laidByText := true, laidKinds := [.data, .data, .data], laidTests := true, laidLooks := .later }
def PairAlgebraUptoCardSaid : Prop := Claim7.holds Tryz.pinned (.plain (OpenSpec.upto pairAlgebraSpec)) pairAlgebraUptoCard

/-- THE SECOND FORM's CARD OF 'cayleylaw08.PairStays'. -/
def pairStaysUptoCard : Claim7 := { stood := { row := pairStaysUptoRow, standIns := [], harness := (true, "d322271ed4fccee729fbffaf7ca3a647d688901f7ea3f9437d76fe8ee68b198e"), looks := true }, kinds := [], alts := [], laidByText := true, laidKinds := [.data, .data, .data], laidTests := true, laidLooks := .later }
def PairStaysUptoCardSaid : Prop := Claim7.holds Tryz.pinned (.plain (OpenSpec.upto pairStaysSpec)) pairStaysUptoCard
end Rows
end Go.Proofs.YtfbakhgmmnblfaaGreatDoor
