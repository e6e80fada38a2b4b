/-
  DERIVED. GIVEN WITH THE SEED: THE CARDS: each row of YtillkgjdbnjnoaaGreatDoorRows.lean that lists a variable, with what it lists TIED to the program's text (the seventh form; the later family's looks); each row that meets fmt, with fmt's text TOLD by the authors' own Lean function (tested against real Go, not proved from fmt's source: count such statements apart). THE CARD IS WHAT COUNTS. Prove the row's statement (the work); the ties are given (YtillkgjdbnjnoaaGreatDoorTie.lean); close each card by the builder's one call (the guide's Derived/Test/ToyasCard.lean, 'card_holds'). Laid BY PROGRAM, IN A SANDBOX (cutbox-door.mjs). By AI agents, Wed Nov 11 2026. No macro, syntax, notation, axiom, sorry.
-/
import Derived.Test.YtillkgjdbnjnoaaGreatDoorRows
import GoSem.ClaimSeven
namespace Go.Proofs.YtillkgjdbnjnoaaGreatDoor
namespace Rows

/-- THE TIED CARD OF 'tesseralaw07.TermSetLaws'. -/
def termSetLawsCard : Claim7 := { stood := { row := termSetLawsRow, standIns := [], harness := (true, "500d8e23d8211d7c0308a68f9975c0a581e18d3c786a9c6253c422693cd0d080"), looks := true }, kinds := [], alts := [], laidByText := true, laidKinds := [.data, .data, .pinned], laidTests := true, laidLooks := .later }
def TermSetLawsCardSaid : Prop := Claim7.holds Tryz.pinned (.plain (OpenSpec.ofChange termSetLawsSpec)) termSetLawsCard

/-- THE SECOND FORM's CARD OF 'tesseralaw07.TermSetLaws'. -/
def termSetLawsUptoCard : Claim7 := { stood := { row := termSetLawsUptoRow, standIns := [], harness := (true, "500d8e23d8211d7c0308a68f9975c0a581e18d3c786a9c6253c422693cd0d080"), looks := true }, kinds := [], alts := [], laidByText := true, laidKinds := [.data, .data, .pinned], laidTests := true, laidLooks := .later }
def TermSetLawsUptoCardSaid : Prop := Claim7.holds Tryz.pinned (.plain (OpenSpec.upto termSetLawsSpec)) termSetLawsUptoCard
end Rows
end Go.Proofs.YtillkgjdbnjnoaaGreatDoor
