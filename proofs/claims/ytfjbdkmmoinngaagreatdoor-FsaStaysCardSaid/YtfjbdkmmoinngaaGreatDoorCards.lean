/-
  DERIVED. GIVEN WITH THE SEED: THE CARDS: each row of YtfjbdkmmoinngaaGreatDoorRows.lean that lists a variable, with what it lists TIED to the program's text (the seventh form; the later family's looks); each row that meets fmt, with fmt's text TOLD by the authors' own Lean function (tested against real Go, not proved from fmt's source: count such statements apart). THE CARD IS WHAT COUNTS. Prove the row's statement (the work); the ties are given (YtfjbdkmmoinngaaGreatDoorTie.lean); close each card by the builder's one call (the guide's Derived/Test/ToyasCard.lean, 'card_holds'). Laid BY PROGRAM, IN A SANDBOX (cutbox-door.mjs). By AI agents, Wed Nov 11 2026. No macro, syntax, notation, axiom, sorry.
-/
import Derived.Test.YtfjbdkmmoinngaaGreatDoorRows
import GoSem.ClaimSeven
namespace Go.Proofs.YtfjbdkmmoinngaaGreatDoor
namespace Rows

/-- THE TIED CARD OF 'cayleylaw06.FsaBasics'. -/
def fsaBasicsCard : Claim7 := { stood := { row := fsaBasicsRow, standIns := [], harness := (true, "d97bba9321627cc7a12cd98a96640fab296f9aec59078067c092fcbccff9b302"), looks := false }, kinds := [], alts := [], laidByText := true, laidKinds := [.data, .data, .data], laidTests := true, laidLooks := .later }
def FsaBasicsCardSaid : Prop := Claim7.holds Tryz.pinned (.plain (OpenSpec.ofChange fsaBasicsSpec)) fsaBasicsCard

/-- THE TIED CARD OF 'cayleylaw06.FsaFinds'. -/
def fsaFindsCard : Claim7 := { stood := { row := fsaFindsRow, standIns := [], harness := (true, "d97bba9321627cc7a12cd98a96640fab296f9aec59078067c092fcbccff9b302"), looks := false }, kinds := [], alts := [], laidByText := true, laidKinds := [.data, .data, .data], laidTests := true, laidLooks := .later }
def FsaFindsCardSaid : Prop := Claim7.holds Tryz.pinned (.plain (OpenSpec.ofChange fsaFindsSpec)) fsaFindsCard

/-- THE TIED CARD OF 'cayleylaw06.FsaCanon'. -/
def fsaCanonCard : Claim7 := { stood := { row := fsaCanonRow, standIns := [], harness := (true, "d97bba9321627cc7a12cd98a96640fab296f9aec59078067c092fcbccff9b302"), looks := false }, kinds := [], alts := [], laidByText := true, laidKinds := [.data, .data, .data], laidTests := true, laidLooks := .later }
def FsaCanonCardSaid : Prop := Claim7.holds Tryz.pinned (.plain (OpenSpec.ofChange fsaCanonSpec)) fsaCanonCard

/-- THE TIED CARD OF 'cayleylaw06.FsaWitness'. -/
def fsaWitnessCard : Claim7 := { stood := { row := fsaWitnessRow, standIns := [], harness := (true, "d97bba9321627cc7a12cd98a96640fab296f9aec59078067c092fcbccff9b302"), looks := false }, kinds := [], alts := [], laidByText := true, laidKinds := [.data, .data, .data], laidTests := true, laidLooks := .later }
def FsaWitnessCardSaid : Prop := Claim7.holds Tryz.pinned (.plain (OpenSpec.ofChange fsaWitnessSpec)) fsaWitnessCard

/-- THE TIED CARD OF 'cayleylaw06.FsaMakes'. -/
def fsaMakesCard : Claim7 := { stood := { row := fsaMakesRow, standIns := [], harness := (true, "d97bba9321627cc7a12cd98a96640fab296f9aec59078067c092fcbccff9b302"), looks := false }, kinds := [], alts := [], laidByText := true, laidKinds := [.data, .data, .data], laidTests := true, laidLooks := .later }
def FsaMakesCardSaid : Prop := Claim7.holds Tryz.pinned (.plain (OpenSpec.ofChange fsaMakesSpec)) fsaMakesCard

/-- THE TIED CARD OF 'cayleylaw06.FsaAccepted'. -/
def fsaAcceptedCard : Claim7 := { stood := { row := fsaAcceptedRow, standIns := [], harness := (true, "d97bba9321627cc7a12cd98a96640fab296f9aec59078067c092fcbccff9b302"), looks := false }, kinds := [], alts := [], laidByText := true, laidKinds := [.data, .data, .data], laidTests := true, laidLooks := .later }
def FsaAcceptedCardSaid : Prop := Claim7.holds Tryz.pinned (.plain (OpenSpec.ofChange fsaAcceptedSpec)) fsaAcceptedCard

/-- THE TIED CARD OF 'cayleylaw06.FsaLaws'. -/
def fsaLawsCard : Claim7 := { stood := { row := fsaLawsRow, standIns := [], harness := (true, "d97bba9321627cc7a12cd98a96640fab296f9aec59078067c092fcbccff9b302"), looks := false }, kinds := [], alts := [], laidByText := true, laidKinds := [.data, .data, .data], laidTests := true, laidLooks := .later }
def FsaLawsCardSaid : Prop := Claim7.holds Tryz.pinned (.plain (OpenSpec.ofChange fsaLawsSpec)) fsaLawsCard

/-- THE TIED CARD OF 'cayleylaw06.FsaStays'. -/
def fsaStaysCard : Claim7 := { stood := { row := fsaStaysRow, standIns := [], harness := (true, "d97bba9321627cc7a12cd98a96640fab296f9aec59078067c092fcbccff9b302"), looks := false }, kinds := [], alts := [], laidByText := true, laidKinds := [.data, .data, .data], laidTests := true, laidLooks := .later }
def FsaStaysCardSaid : Prop := Claim7.holds Tryz.pinned (.plain (OpenSpec.ofChange fsaStaysSpec)) fsaStaysCard

/-- THE SECOND FORM's CARD OF 'cayleylaw06.FsaBasics'. -/
def fsaBasicsUptoCard : Claim7 := { stood := { row := fsaBasicsUptoRow, standIns := [], harness := (true, "d97bba9321627cc7a12cd98a96640fab296f9aec59078067c092fcbccff9b302"), looks := false }, kinds := [], alts := [], laidByText := true, laidKinds := [.data, .data, .data], laidTests := true, laidLooks := .later }
def FsaBasicsUptoCardSaid : Prop := Claim7.holds Tryz.pinned (.plain (OpenSpec.upto fsaBasicsSpec)) fsaBasicsUptoCard

/-- THE SECOND FORM's CARD OF 'cayleylaw06.FsaFinds'. -/
def fsaFindsUptoCard : Claim7 := { stood := { row := fsaFindsUptoRow, standIns := [], harness := (true, "d97bba9321627cc7a12cd98a96640fab296f9aec59078067c092fcbccff9b302"), looks := false }, kinds := [], alts := [], laidByText := true, laidKinds := [.data, .data, .data], laidTests := true, laidLooks := .later }
def FsaFindsUptoCardSaid : Prop := Claim7.holds Tryz.pinned (.plain (OpenSpec.upto fsaFindsSpec)) fsaFindsUptoCard

/-- THE SECOND FORM's CARD OF 'cayleylaw06.FsaCanon'. -/
def fsaCanonUptoCard : Claim7 := { stood := { row := fsaCanonUptoRow, standIns := [], harness := (true, "d97bba9321627cc7a12cd98a96640fab296f9aec59078067c092fcbccff9b302"), looks := false }, kinds := [], alts := [], laidByText := true, laidKinds := [.data, .data, .data], laidTests := true, laidLooks := .later }
def FsaCanonUptoCardSaid : Prop := Claim7.holds Tryz.pinned (.plain (OpenSpec.upto fsaCanonSpec)) fsaCanonUptoCard

/-- THE SECOND FORM's CARD OF 'cayleylaw06.FsaWitness'. -/
def fsaWitnessUptoCard : Claim7 := { stood := { row := fsaWitnessUptoRow, standIns := [], harness := (true, "d97bba9321627cc7a12cd98a96640fab296f9aec59078067c092fcbccff9b302"), looks := false }, kinds := [], alts := [], laidByText := true, laidKinds := [.data, .data, .data], laidTests := true, laidLooks := .later }
def FsaWitnessUptoCardSaid : Prop := Claim7.holds Tryz.pinned (.plain (OpenSpec.upto fsaWitnessSpec)) fsaWitnessUptoCard

/-- THE SECOND FORM's CARD OF 'cayleylaw06.FsaMakes'. -/
def fsaMakesUptoCard : Claim7 := { stood := { row := fsaMakesUptoRow, standIns := [], harness := (true, "d97bba9321627cc7a12cd98a96640fab296f9aec59078067c092fcbccff9b302"), looks := false }, kinds := [], alts := [], laidByText := true, laidKinds := [.data, .data, .data], laidTests := true, laidLooks := .later }
def FsaMakesUptoCardSaid : Prop := Claim7.holds Tryz.pinned (.plain (OpenSpec.upto fsaMakesSpec)) fsaMakesUptoCard

/-- THE SECOND FORM's CARD OF 'cayleylaw06.FsaAccepted'. -/
def fsaAcceptedUptoCard : Claim7 := { stood := { row := fsaAcceptedUptoRow, standIns := [], harness := (true, "d97bba9321627cc7a12cd98a96640fab296f9aec59078067c092fcbccff9b302"), looks := false }, kinds := [], alts := [], laidByText := true, laidKinds := [.data, .data, .data], laidTests := true, laidLooks := .later }
def FsaAcceptedUptoCardSaid : Prop := Claim7.holds Tryz.pinned (.plain (OpenSpec.upto fsaAcceptedSpec)) fsaAcceptedUptoCard

/-- THE SECOND FORM's CARD OF 'cayleylaw06.FsaLaws'. -/
def fsaLawsUptoCard : Claim7 := { stood := { row := fsaLawsUptoRow, standIns := [], harness := (true, "d97bba9321627cc7a12cd98a96640fab296f9aec59078067c092fcbccff9b302"), looks := false }, kinds := [], alts := [], laidByText := true, laidKinds := [.data, .data, .data], laidTests := true, laidLooks := .later }
def FsaLawsUptoCardSaid : Prop := Claim7.holds Tryz.pinned (.plain (OpenSpec.upto fsaLawsSpec)) fsaLawsUptoCard

/-- THE SECOND FORM's CARD OF 'cayleylaw06.FsaStays'. -/
def fsaStaysUptoCard : Claim7 := { stood := { row := fsaStaysUptoRow, standIns := [], harness := (true, "d97bba9321627cc7a12cd98a96640fab296f9aec59078067c092fcbccff9b302"), looks := false }, kinds := [], alts := [], laidByText := true, laidKinds := [.data, .data, .data], laidTests := true, laidLooks := .later }
def FsaStaysUptoCardSaid : Prop := Claim7.holds Tryz.pinned (.plain (OpenSpec.upto fsaStaysSpec)) fsaStaysUptoCard
end Rows
end Go.Proofs.YtfjbdkmmoinngaaGreatDoor
