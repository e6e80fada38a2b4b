/-
  DERIVED. GIVEN WITH THE SEED: THE CARDS: each row of YtgjnlngljmfefaaDoorRows.lean that lists a variable, with what it lists TIED to the program's text (the seventh form; the later family's looks); each row that meets fmt, with fmt's text TOLD by the authors' own Lean function (tested against real Go, not proved from fmt's source: count such statements apart). THE CARD IS WHAT COUNTS. Prove the row's statement (the work); the ties are given (YtgjnlngljmfefaaDoorTie.lean); close each card by the builder's one call (the guide's Derived/Test/ToyasCard.lean, 'card_holds'). Laid BY PROGRAM, IN A SANDBOX (cutbox-door.mjs). By AI agents, Wed Nov 11 2026. No macro, syntax, notation, axiom, sorry.
-/
import Derived.Test.YtgjnlngljmfefaaDoorRows
import GoSem.ClaimSeven
namespace Go.Proofs.YtgjnlngljmfefaaDoor
namespace Rows

/-- THE TIED CARD OF 'tesseralaw03.SumsHashes'. -/
def sumsHashesCard : Claim7 := { stood := { row := sumsHashesRow, standIns := [], harness := (true, "f234f6be63b0aa7d3d1858c1b43caa899fa969583ab4bdbecbc9b62e0d37585c"), looks := false }, kinds := [], alts := [], laidByText := true, laidKinds := [.data, .data], laidTests := true, laidLooks := .later }
def SumsHashesCardSaid : Prop := Claim7.holds Tryd.pinned (.plain (OpenSpec.ofChange sumsHashesSpec)) sumsHashesCard

/-- THE SECOND FORM's CARD OF 'tesseralaw03.SumsHashes'. -/
def sumsHashesUptoCard : Claim7 := { stood := { row := sumsHashesUptoRow, standIns := [], harness := (true, "f234f6be63b0aa7d3d1858c1b43caa899fa969583ab4bdbecbc9b62e0d37585c"), looks := false }, kinds := [], alts := [], laidByText := true, laidKinds := [.data, .data], laidTests := true, laidLooks := .later }
def SumsHashesUptoCardSaid : Prop := Claim7.holds Tryd.pinned (.plain (OpenSpec.upto sumsHashesSpec)) sumsHashesUptoCard
end Rows
end Go.Proofs.YtgjnlngljmfefaaDoor
