/-
  DERIVED. GIVEN WITH THE SEED: THE CARDS: each row of YtphlmegkommlnaaGreatDoorRows.lean that lists a variable, with what it lists TIED to the program's text (the seventh form; the later family's looks); each row that meets fmt, with fmt's text TOLD by the authors' own Lean function (tested against real Go, not proved from fmt's source: count such statements apart). THE CARD IS WHAT COUNTS. Prove the row's statement (the work); the ties are given (YtphlmegkommlnaaGreatDoorTie.lean); close each card by the builder's one call (the guide's Derived/Test/ToyasCard.lean, 'card_holds'). Laid BY PROGRAM, IN A SANDBOX (cutbox-door.mjs). By AI agents, Wed Nov 11 2026. No macro, syntax, notation, axiom, sorry.
-/
import Derived.Test.YtphlmegkommlnaaGreatDoorRows
import GoSem.ClaimSeven
namespace Go.Proofs.YtphlmegkommlnaaGreatDoor
namespace Rows

/-- THE TIED CARD OF 'skewbacklaw15.PlaneSeparatesAsSpecified'. -/
def planeSeparatesAsSpecifiedCard : Claim7 := { stood := { row := planeSeparatesAsSpecifiedRow, standIns := [], harness := (true, "af7a03bd2c7ac196ce4e3bd4e884afe91d5d9462e962db29bbf1e0f2b31f9681"), looks := false }, kinds := [], alts := [], laidByText := true, laidKinds := [.data], laidTests := true, laidLooks := .later }
def PlaneSeparatesAsSpecifiedCardSaid : Prop := Claim7.holds Tryz.pinned (.plain (OpenSpec.ofChange planeSeparatesAsSpecifiedSpec)) planeSeparatesAsSpecifiedCard

/-- THE TIED CARD OF 'skewbacklaw15.PlaneChecksMatchSpec'. -/
def planeChecksMatchSpecCard : Claim7 := { stood := { row := planeChecksMatchSpecRow, standIns := [], harness := (true, "af7a03bd2c7ac196ce4e3bd4e884afe91d5d9462e962db29bbf1e0f2b31f9681"), looks := false }, kinds := [], alts := [], laidByText := true, laidKinds := [.data], laidTests := true, laidLooks := .later }
def PlaneChecksMatchSpecCardSaid : Prop := Claim7.holds Tryz.pinned (.plain (OpenSpec.ofChange planeChecksMatchSpecSpec)) planeChecksMatchSpecCard

/-- THE TIED CARD OF 'skewbacklaw15.PlaneOrPoint'. -/
def planeOrPointCard : Claim7 := { stood := { row := planeOrPointRow, standIns := [], harness := (true, "af7a03bd2c7ac196ce4e3bd4e884afe91d5d9462e962db29bbf1e0f2b31f9681"), looks := false }, kinds := [], alts := [], laidByText := true, laidKinds := [.data], laidTests := true, laidLooks := .later }
def PlaneOrPointCardSaid : Prop := Claim7.holds Tryz.pinned (.plain (OpenSpec.ofChange planeOrPointSpec)) planeOrPointCard

/-- THE TIED CARD OF 'skewbacklaw15.PlaneNoPointOnBothSides'. -/
def planeNoPointOnBothSidesCard : Claim7 := { stood := { row := planeNoPointOnBothSidesRow, standIns := [], harness := (true, "af7a03bd2c7ac196ce4e3bd4e884afe91d5d9462e962db29bbf1e0f2b31f9681"), looks := false }, kinds := [], alts := [], laidByText := true, laidKinds := [.data], laidTests := true, laidLooks := .later }
def PlaneNoPointOnBothSidesCardSaid : Prop := Claim7.holds Tryz.pinned (.plain (OpenSpec.ofChange planeNoPointOnBothSidesSpec)) planeNoPointOnBothSidesCard

/-- THE TIED CARD OF 'skewbacklaw15.PlaneIsSymmetric'. -/
def planeIsSymmetricCard : Claim7 := { stood := { row := planeIsSymmetricRow, standIns := [], harness := (true, "af7a03bd2c7ac196ce4e3bd4e884afe91d5d9462e962db29bbf1e0f2b31f9681"), looks := false }, kinds := [], alts := [], laidByText := true, laidKinds := [.data], laidTests := true, laidLooks := .later }
def PlaneIsSymmetricCardSaid : Prop := Claim7.holds Tryz.pinned (.plain (OpenSpec.ofChange planeIsSymmetricSpec)) planeIsSymmetricCard

/-- THE TIED CARD OF 'skewbacklaw15.PlaneOfBoxes'. -/
def planeOfBoxesCard : Claim7 := { stood := { row := planeOfBoxesRow, standIns := [], harness := (true, "af7a03bd2c7ac196ce4e3bd4e884afe91d5d9462e962db29bbf1e0f2b31f9681"), looks := false }, kinds := [], alts := [], laidByText := true, laidKinds := [.data], laidTests := true, laidLooks := .later }
def PlaneOfBoxesCardSaid : Prop := Claim7.holds Tryz.pinned (.plain (OpenSpec.ofChange planeOfBoxesSpec)) planeOfBoxesCard

/-- THE SECOND FORM's CARD OF 'skewbacklaw15.PlaneSeparatesAsSpecified'. -/
def planeSeparatesAsSpecifiedUptoCard : Claim7 := { stood := { row := planeSeparatesAsSpecifiedUptoRow, standIns := [], harness := (true, "af7a03bd2c7ac196ce4e3bd4e884afe91d5d9462e962db29bbf1e0f2b31f9681"), looks := false }, kinds := [], alts := [], laidByText := true, laidKinds := [.data], laidTests := true, laidLooks := .later }
def PlaneSeparatesAsSpecifiedUptoCardSaid : Prop := Claim7.holds Tryz.pinned (.plain (OpenSpec.upto planeSeparatesAsSpecifiedSpec)) planeSeparatesAsSpecifiedUptoCard

/-- THE SECOND FORM's CARD OF 'skewbacklaw15.PlaneChecksMatchSpec'. -/
def planeChecksMatchSpecUptoCard : Claim7 := { stood := { row := planeChecksMatchSpecUptoRow, standIns := [], harness := (true, "af7a03bd2c7ac196ce4e3bd4e884afe91d5d9462e962db29bbf1e0f2b31f9681"), looks := false }, kinds := [], alts := [], laidByText := true, laidKinds := [.data], laidTests := true, laidLooks := .later }
def PlaneChecksMatchSpecUptoCardSaid : Prop := Claim7.holds Tryz.pinned (.plain (OpenSpec.upto planeChecksMatchSpecSpec)) planeChecksMatchSpecUptoCard

/-- THE SECOND FORM's CARD OF 'skewbacklaw15.PlaneOrPoint'. -/
def planeOrPointUptoCard : Claim7 := { stood := { row := planeOrPointUptoRow, standIns := [], harness := (true, "af7a03bd2c7ac196ce4e3bd4e884afe91d5d9462e962db29bbf1e0f2b31f9681"), looks := false }, kinds := [], alts := [], laidByText := true, laidKinds := [.data], laidTests := true, laidLooks := .later }
def PlaneOrPointUptoCardSaid : Prop := Claim7.holds Tryz.pinned (.plain (OpenSpec.upto planeOrPointSpec)) planeOrPointUptoCard

/-- THE SECOND FORM's CARD OF 'skewbacklaw15.PlaneNoPointOnBothSides'. -/
def planeNoPointOnBothSidesUptoCard : Claim7 := { stood := { row := planeNoPointOnBothSidesUptoRow, standIns := [], harness := (true, "af7a03bd2c7ac196ce4e3bd4e884afe91d5d9462e962db29bbf1e0f2b31f9681"), looks := false }, kinds := [], alts := [], laidByText := true, laidKinds := [.data], laidTests := true, laidLooks := .later }
def PlaneNoPointOnBothSidesUptoCardSaid : Prop := Claim7.holds Tryz.pinned (.plain (OpenSpec.upto planeNoPointOnBothSidesSpec)) planeNoPointOnBothSidesUptoCard

/-- THE SECOND FORM's CARD OF 'skewbacklaw15.PlaneIsSymmetric'. -/
def planeIsSymmetricUptoCard : Claim7 := { stood := { row := planeIsSymmetricUptoRow, standIns := [], harness := (true, "af7a03bd2c7ac196ce4e3bd4e884afe91d5d9462e962db29bbf1e0f2b31f9681"), looks := false }, kinds := [], alts := [], laidByText := true, laidKinds := [.data], laidTests := true, laidLooks := .later }
def PlaneIsSymmetricUptoCardSaid : Prop := Claim7.holds Tryz.pinned (.plain (OpenSpec.upto planeIsSymmetricSpec)) planeIsSymmetricUptoCard

/-- THE SECOND FORM's CARD OF 'skewbacklaw15.PlaneOfBoxes'. -/
def planeOfBoxesUptoCard : Claim7 := { stood := { row := planeOfBoxesUptoRow, standIns := [], harness := (true, "af7a03bd2c7ac196ce4e3bd4e884afe91d5d9462e962db29bbf1e0f2b31f9681"), looks := false }, kinds := [], alts := [], laidByText := true, laidKinds := [.data], laidTests := true, laidLooks := .later }
def PlaneOfBoxesUptoCardSaid : Prop := Claim7.holds Tryz.pinned (.plain (OpenSpec.upto planeOfBoxesSpec)) planeOfBoxesUptoCard
end Rows
end Go.Proofs.YtphlmegkommlnaaGreatDoor
