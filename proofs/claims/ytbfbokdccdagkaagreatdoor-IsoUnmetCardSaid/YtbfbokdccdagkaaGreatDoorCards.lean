/-
  DERIVED. GIVEN WITH THE SEED: THE CARDS: each row of YtbfbokdccdagkaaGreatDoorRows.lean that lists a variable, with what it lists TIED to the program's text (the seventh form; the later family's looks); each row that meets fmt, with fmt's text TOLD by the authors' own Lean function (tested against real Go, not proved from fmt's source: count such statements apart). THE CARD IS WHAT COUNTS. Prove the row's statement (the work); the ties are given (YtbfbokdccdagkaaGreatDoorTie.lean); close each card by the builder's one call (the guide's Derived/Test/ToyasCard.lean, 'card_holds'). Laid BY PROGRAM, IN A SANDBOX (cutbox-door.mjs). By AI agents, Wed Nov 11 2026. No macro, syntax, notation, axiom, sorry.
-/
import Derived.Test.YtbfbokdccdagkaaGreatDoorRows
import GoSem.ClaimSeven
namespace Go.Proofs.YtbfbokdccdagkaaGreatDoor
namespace Rows

/-- THE TIED CARD OF 'tesseralaw14.IsoClasses'. -/
def isoClassesCard : Claim7 := { stood := { row := isoClassesRow, standIns := [], harness := (true, "9dd9d23f6112ece13f026b68372e7a98d2219e5e09cd0eb6544cc544a62a66c6"), looks := true }, kinds := [], alts := [], laidByText := true, laidKinds := [.data, .data, .data], laidTests := true, laidLooks := .later }
def IsoClassesCardSaid : Prop := Claim7.holds Tryz.pinned (.plain (OpenSpec.ofChange isoClassesSpec)) isoClassesCard

/-- THE TIED CARD OF 'tesseralaw14.IsoApart'. -/
def isoApartCard : Claim7 := { stood := { row := isoApartRow, standIns := [], harness := (true, "9dd9d23f6112ece13f026b68372e7a98d2219e5e09cd0eb6544cc544a62a66c6"), looks := true }, kinds := [], alts := [], laidByText := true, laidKinds := [.data, .data, .pinned], laidTests := true, laidLooks := .later }
def IsoApartCardSaid : Prop := Claim7.holds Tryz.pinned (.plain (OpenSpec.ofChange isoApartSpec)) isoApartCard

/-- THE TIED CARD OF 'tesseralaw14.IsoChecks'. -/
def isoChecksCard : Claim7 := { stood := { row := isoChecksRow, standIns := [], harness := (true, "9dd9d23f6112ece13f026b68372e7a98d2219e5e09cd0eb6544cc544a62a66c6"), looks := true }, kinds := [], alts := [], laidByText := true, laidKinds := [.data, .data, .pinned], laidTests := true, laidLooks := .later }
def IsoChecksCardSaid : Prop := Claim7.holds Tryz.pinned (.plain (OpenSpec.ofChange isoChecksSpec)) isoChecksCard

/-- THE TIED CARD OF 'tesseralaw14.IsoFinds'. -/
def isoFindsCard : Claim7 := { stood := { row := isoFindsRow, standIns := [], harness := (true, "9dd9d23f6112ece13f026b68372e7a98d2219e5e09cd0eb6544cc544a62a66c6"), looks := true }, kinds := [], alts := [], laidByText := true, laidKinds := [.data, .data, .data, .data, .data, .pinned], laidTests := true, laidLooks := .later }
def IsoFindsCardSaid : Prop := Claim7.holds Tryz.pinned (.plain (OpenSpec.ofChange isoFindsSpec)) isoFindsCard

/-- THE TIED CARD OF 'tesseralaw14.IsoRenamed'. -/
def isoRenamedCard : Claim7 := { stood := { row := isoRenamedRow, standIns := [], harness := (true, "9dd9d23f6112ece13f026b68372e7a98d2219e5e09cd0eb6544cc544a62a66c6"), looks := true }, kinds := [], alts := [], laidByText := true, laidKinds := [.data, .data, .data, .data, .data, .pinned], laidTests := true, laidLooks := .later }
def IsoRenamedCardSaid : Prop := Claim7.holds Tryz.pinned (.plain (OpenSpec.ofChange isoRenamedSpec)) isoRenamedCard

/-- THE TIED CARD OF 'tesseralaw14.IsoLeast'. -/
def isoLeastCard : Claim7 := { stood := { row := isoLeastRow, standIns := [], harness := (true, "9dd9d23f6112ece13f026b68372e7a98d2219e5e09cd0eb6544cc544a62a66c6"), looks := true }, kinds := [], alts := [], laidByText := true, laidKinds := [.data, .data, .data, .data, .data, .pinned], laidTests := true, laidLooks := .later }
def IsoLeastCardSaid : Prop := Claim7.holds Tryz.pinned (.plain (OpenSpec.ofChange isoLeastSpec)) isoLeastCard

/-- THE TIED CARD OF 'tesseralaw14.IsoRelates'. -/
def isoRelatesCard : Claim7 := { stood := { row := isoRelatesRow, standIns := [], harness := (true, "9dd9d23f6112ece13f026b68372e7a98d2219e5e09cd0eb6544cc544a62a66c6"), looks := true }, kinds := [], alts := [], laidByText := true, laidKinds := [.data, .data, .data, .data, .data, .pinned], laidTests := true, laidLooks := .later }
def IsoRelatesCardSaid : Prop := Claim7.holds Tryz.pinned (.plain (OpenSpec.ofChange isoRelatesSpec)) isoRelatesCard

/-- THE TIED CARD OF 'tesseralaw14.IsoUnmet'. -/
def isoUnmetCard : Claim7 := { stood := { row := isoUnmetRow, standIns := [], harness := (true, "9dd9d23f6112ece13f026b68372e7a98d2219e5e09cd0eb6544cc544a62a66c6"), looks := true }, kinds := [], alts := [], laidByText := true, laidKinds := [.data, .data, .data, .data, .data, .pinned], laidTests := true, laidLooks := .later }
def IsoUnmetCardSaid : Prop := Claim7.holds Tryz.pinned (.plain (OpenSpec.ofChange isoUnmetSpec)) isoUnmetCard

/-- THE SECOND FORM's CARD OF 'tesseralaw14.IsoClasses'. -/
def isoClassesUptoCard : Claim7 := { stood := { row := isoClassesUptoRow, standIns := [], harness := (true, "9dd9d23f6112ece13f026b68372e7a98d2219e5e09cd0eb6544cc544a62a66c6"), looks := true }, kinds := [], alts := [], laidByText := true, laidKinds := [.data, .data, .data], laidTests := true, laidLooks := .later }
def IsoClassesUptoCardSaid : Prop := Claim7.holds Tryz.pinned (.plain (OpenSpec.upto isoClassesSpec)) isoClassesUptoCard

/-- THE SECOND FORM's CARD OF 'tesseralaw14.IsoApart'. -/
def isoApartUptoCard : Claim7 := { stood := { row := isoApartUptoRow, standIns := [], harness := (true, "9dd9d23f6112ece13f026b68372e7a98d2219e5e09cd0eb6544cc544a62a66c6"), looks := true }, kinds := [], alts := [], laidByText := true, laidKinds := [.data, .data, .pinned], laidTests := true, laidLooks := .later }
def IsoApartUptoCardSaid : Prop := Claim7.holds Tryz.pinned (.plain (OpenSpec.upto isoApartSpec)) isoApartUptoCard

/-- THE SECOND FORM's CARD OF 'tesseralaw14.IsoChecks'. -/
def isoChecksUptoCard : Claim7 := { stood := { row := isoChecksUptoRow, standIns := [], harness := (true, "9dd9d23f6112ece13f026b68372e7a98d2219e5e09cd0eb6544cc544a62a66c6"), looks := true }, kinds := [], alts := [], laidByText := true, laidKinds := [.data, .data, .pinned], laidTests := true, laidLooks := .later }
def IsoChecksUptoCardSaid : Prop := Claim7.holds Tryz.pinned (.plain (OpenSpec.upto isoChecksSpec)) isoChecksUptoCard

/-- THE SECOND FORM's CARD OF 'tesseralaw14.IsoFinds'. -/
def isoFindsUptoCard : Claim7 := { stood := { row := isoFindsUptoRow, standIns := [], harness := (true, "9dd9d23f6112ece13f026b68372e7a98d2219e5e09cd0eb6544cc544a62a66c6"), looks := true }, kinds := [], alts := [], laidByText := true, laidKinds := [.data, .data, .data, .data, .data, .pinned], laidTests := true, laidLooks := .later }
def IsoFindsUptoCardSaid : Prop := Claim7.holds Tryz.pinned (.plain (OpenSpec.upto isoFindsSpec)) isoFindsUptoCard

/-- THE SECOND FORM's CARD OF 'tesseralaw14.IsoRenamed'. -/
def isoRenamedUptoCard : Claim7 := { stood := { row := isoRenamedUptoRow, standIns := [], harness := (true, "9dd9d23f6112ece13f026b68372e7a98d2219e5e09cd0eb6544cc544a62a66c6"), looks := true }, kinds := [], alts := [], laidByText := true, laidKinds := [.data, .data, .data, .data, .data, .pinned], laidTests := true, laidLooks := .later }
def IsoRenamedUptoCardSaid : Prop := Claim7.holds Tryz.pinned (.plain (OpenSpec.upto isoRenamedSpec)) isoRenamedUptoCard

/-- THE SECOND FORM's CARD OF 'tesseralaw14.IsoLeast'. -/
def isoLeastUptoCard : Claim7 := { stood := { row := isoLeastUptoRow, standIns := [], harness := (true, "9dd9d23f6112ece13f026b68372e7a98d2219e5e09cd0eb6544cc544a62a66c6"), looks := true }, kinds := [], alts := [], laidByText := true, laidKinds := [.data, .data, .data, .data, .data, .pinned], laidTests := true, laidLooks := .later }
def IsoLeastUptoCardSaid : Prop := Claim7.holds Tryz.pinned (.plain (OpenSpec.upto isoLeastSpec)) isoLeastUptoCard

/-- THE SECOND FORM's CARD OF 'tesseralaw14.IsoRelates'. -/
def isoRelatesUptoCard : Claim7 := { stood := { row := isoRelatesUptoRow, standIns := [], harness := (true, "9dd9d23f6112ece13f026b68372e7a98d2219e5e09cd0eb6544cc544a62a66c6"), looks := true }, kinds := [], alts := [], laidByText := true, laidKinds := [.data, .data, .data, .data, .data, .pinned], laidTests := true, laidLooks := .later }
def IsoRelatesUptoCardSaid : Prop := Claim7.holds Tryz.pinned (.plain (OpenSpec.upto isoRelatesSpec)) isoRelatesUptoCard

/-- THE SECOND FORM's CARD OF 'tesseralaw14.IsoUnmet'. -/
def isoUnmetUptoCard : Claim7 := { stood := { row := isoUnmetUptoRow, standIns := [], harness := (true, "9dd9d23f6112ece13f026b68372e7a98d2219e5e09cd0eb6544cc544a62a66c6"), looks := true }, kinds := [], alts := [], laidByText := true, laidKinds := [.data, .data, .data, .data, .data, .pinned], laidTests := true, laidLooks := .later }
def IsoUnmetUptoCardSaid : Prop := Claim7.holds Tryz.pinned (.plain (OpenSpec.upto isoUnmetSpec)) isoUnmetUptoCard
end Rows
end Go.Proofs.YtbfbokdccdagkaaGreatDoor
