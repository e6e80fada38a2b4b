/-
  DERIVED. GIVEN WITH THE SEED: THE CARDS: each row of YtpffclpheldabaaGreatDoorRows.lean that lists a variable, with what it lists TIED to the program's text (the seventh form; the later family's looks); each row that meets fmt, with fmt's text TOLD by the authors' own Lean function (tested against real Go, not proved from fmt's source: count such statements apart). THE CARD IS WHAT COUNTS. Prove the row's statement (the work); the ties are given (YtpffclpheldabaaGreatDoorTie.lean); close each card by the builder's one call (the guide's Derived/Test/ToyasCard.lean, 'card_holds'). Laid BY PROGRAM, IN A SANDBOX (cutbox-door.mjs). By AI agents, Wed Nov 11 2026. No macro, syntax, notation, axiom, sorry.
-/
import Derived.Test.YtpffclpheldabaaGreatDoorRows
import GoSem.ClaimSeven
namespace Go.Proofs.YtpffclpheldabaaGreatDoor
namespace Rows

/-- THE TIED CARD OF 'tesseralaw07.TermValid'. -/
def termValidCard : Claim7 := { stood := { row := termValidRow, standIns := [], harness := (true, "5d61e073f94687b4c398d4de3921d2c655d64ba868f274a4e84565d529f797b1"), looks := true }, kinds := [], alts := [], laidByText := true, laidKinds := [.data, .data, .pinned], laidTests := true, laidLooks := .later }
def TermValidCardSaid : Prop := Claim7.holds Tryz.pinned (.plain (OpenSpec.ofChange termValidSpec)) termValidCard

/-- THE TIED CARD OF 'tesseralaw07.TermTexts'. -/
def termTextsCard : Claim7 := { stood := { row := termTextsRow, standIns := [], harness := (true, "5d61e073f94687b4c398d4de3921d2c655d64ba868f274a4e84565d529f797b1"), looks := true }, kinds := [], alts := [], laidByText := true, laidKinds := [.data, .data, .pinned], laidTests := true, laidLooks := .later }
def TermTextsCardSaid : Prop := Claim7.holds Tryz.pinned (.plain (OpenSpec.ofChange termTextsSpec)) termTextsCard

/-- THE TIED CARD OF 'tesseralaw07.TermNexts'. -/
def termNextsCard : Claim7 := { stood := { row := termNextsRow, standIns := [], harness := (true, "5d61e073f94687b4c398d4de3921d2c655d64ba868f274a4e84565d529f797b1"), looks := true }, kinds := [], alts := [], laidByText := true, laidKinds := [.data, .data, .pinned], laidTests := true, laidLooks := .later }
def TermNextsCardSaid : Prop := Claim7.holds Tryz.pinned (.plain (OpenSpec.ofChange termNextsSpec)) termNextsCard

/-- THE TIED CARD OF 'tesseralaw07.TermSetLaws'. -/
def termSetLawsCard : Claim7 := { stood := { row := termSetLawsRow, standIns := [], harness := (true, "5d61e073f94687b4c398d4de3921d2c655d64ba868f274a4e84565d529f797b1"), looks := true }, kinds := [], alts := [], laidByText := true, laidKinds := [.data, .data, .pinned], laidTests := true, laidLooks := .later }
def TermSetLawsCardSaid : Prop := Claim7.holds Tryz.pinned (.plain (OpenSpec.ofChange termSetLawsSpec)) termSetLawsCard

/-- THE SECOND FORM's CARD OF 'tesseralaw07.TermValid'. -/
def termValidUptoCard : Claim7 := { stood := { row := termValidUptoRow, standIns := [], harness := (true, "5d61e073f94687b4c398d4de3921d2c655d64ba868f274a4e84565d529f797b1"), looks := true }, kinds := [], alts := [], laidByText := true, laidKinds := [.data, .data, .pinned], laidTests := true, laidLooks := .later }
def TermValidUptoCardSaid : Prop := Claim7.holds Tryz.pinned (.plain (OpenSpec.upto termValidSpec)) termValidUptoCard

/-- THE SECOND FORM's CARD OF 'tesseralaw07.TermTexts'. -/
def termTextsUptoCard : Claim7 := { stood := { row := termTextsUptoRow, standIns := [], harness := (true, "5d61e073f94687b4c398d4de3921d2c655d64ba868f274a4e84565d529f797b1"), looks := true }, kinds := [], alts := [], laidByText := true, laidKinds := [.data, .data, .pinned], laidTests := true, laidLooks := .later }
def TermTextsUptoCardSaid : Prop := Claim7.holds Tryz.pinned (.plain (OpenSpec.upto termTextsSpec)) termTextsUptoCard

/-- THE SECOND FORM's CARD OF 'tesseralaw07.TermNexts'. -/
def termNextsUptoCard : Claim7 := { stood := { row := termNextsUptoRow, standIns := [], harness := (true, "5d61e073f94687b4c398d4de3921d2c655d64ba868f274a4e84565d529f797b1"), looks := true }, kinds := [], alts := [], laidByText := true, laidKinds := [.data, .data, .pinned], laidTests := true, laidLooks := .later }
def TermNextsUptoCardSaid : Prop := Claim7.holds Tryz.pinned (.plain (OpenSpec.upto termNextsSpec)) termNextsUptoCard

/-- THE SECOND FORM's CARD OF 'tesseralaw07.TermSetLaws'. -/
def termSetLawsUptoCard : Claim7 := { stood := { row := termSetLawsUptoRow, standIns := [], harness := (true, "5d61e073f94687b4c398d4de3921d2c655d64ba868f274a4e84565d529f797b1"), looks := true }, kinds := [], alts := [], laidByText := true, laidKinds := [.data, .data, .pinned], laidTests := true, laidLooks := .later }
def TermSetLawsUptoCardSaid : Prop := Claim7.holds Tryz.pinned (.plain (OpenSpec.upto termSetLawsSpec)) termSetLawsUptoCard
end Rows
end Go.Proofs.YtpffclpheldabaaGreatDoor
