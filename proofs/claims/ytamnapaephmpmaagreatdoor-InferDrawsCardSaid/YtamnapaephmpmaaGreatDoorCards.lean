/-
  DERIVED. GIVEN WITH THE SEED: THE CARDS: each row of YtamnapaephmpmaaGreatDoorRows.lean that lists a variable, with what it lists TIED to the program's text (the seventh form; the later family's looks); each row that meets fmt, with fmt's text TOLD by the authors' own Lean function (tested against real Go, not proved from fmt's source: count such statements apart). THE CARD IS WHAT COUNTS. Prove the row's statement (the work); the ties are given (YtamnapaephmpmaaGreatDoorTie.lean); close each card by the builder's one call (the guide's Derived/Test/ToyasCard.lean, 'card_holds'). Laid BY PROGRAM, IN A SANDBOX (cutbox-door.mjs). By AI agents, Wed Nov 11 2026. No macro, syntax, notation, axiom, sorry.
-/
import Derived.Test.YtamnapaephmpmaaGreatDoorRows
import GoSem.ClaimSeven
namespace Go.Proofs.YtamnapaephmpmaaGreatDoor
namespace Rows

/-- THE TIED CARD OF 'tesseralaw25.InferDraws'. -/
def inferDrawsCard : Claim7 := { stood := { row := inferDrawsRow, standIns := [], harness := (true, "d3d23325b817a347ee5eda52ff6ed6c9fc11c6a5f8baa0d3e17f78f64ebdec4f"), looks := false }, kinds := [], alts := [], laidByText := true, laidKinds := [.data, .data, .pinned], laidTests := true, laidLooks := .later }
def InferDrawsCardSaid : Prop := Claim7.holds Tryz.pinned (.plain (OpenSpec.ofChange inferDrawsSpec)) inferDrawsCard

/-- THE SECOND FORM's CARD OF 'tesseralaw25.InferDraws'. -/
def inferDrawsUptoCard : Claim7 := { stood := { row := inferDrawsUptoRow, standIns := [], harness := (true, "d3d23325b817a347ee5eda52ff6ed6c9fc11c6a5f8baa0d3e17f78f64ebdec4f"), looks := false }, kinds := [], alts := [], laidByText := true, laidKinds := [.data, .data, .pinned], laidTests := true, laidLooks := .later }
def InferDrawsUptoCardSaid : Prop := Claim7.holds Tryz.pinned (.plain (OpenSpec.upto inferDrawsSpec)) inferDrawsUptoCard
end Rows
end Go.Proofs.YtamnapaephmpmaaGreatDoor
