/-
  DERIVED. GIVEN WITH THE SEED: THE CARDS: each row of YtpnphbjoalbejaaDoorRows.lean that lists a variable, with what it lists TIED to the program's text (the seventh form; the later family's looks); each row that meets fmt, with fmt's text TOLD by the authors' own Lean function (tested against real Go, not proved from fmt's source: count such statements apart). THE CARD IS WHAT COUNTS. Prove the row's statement (the work); the ties are given (YtpnphbjoalbejaaDoorTie.lean); close each card by the builder's one call (the guide's Derived/Test/ToyasCard.lean, 'card_holds'). Laid BY PROGRAM, IN A SANDBOX (cutbox-door.mjs). By AI agents, Wed Nov 11 2026. No macro, syntax, notation, axiom, sorry.
-/
import Derived.Test.YtpnphbjoalbejaaDoorRows
import GoSem.ClaimSeven
namespace Go.Proofs.YtpnphbjoalbejaaDoor
namespace Rows

/-- THE TIED CARD OF 'tesseralaw11.TurtleFresh'. -/
def turtleFreshCard : Claim7 := { stood := { row := turtleFreshRow, standIns := [], harness := (true, "750aad6a0a9684b2b81ddd9b1559e4287ff454728832a05299b7b89fca066f0c"), looks := false }, kinds := [], alts := [], laidByText := true, laidKinds := [.data, .data, .data], laidTests := true, laidLooks := .later }
def TurtleFreshCardSaid : Prop := Claim7.holds Tryd.pinned (.plain (OpenSpec.ofChange turtleFreshSpec)) turtleFreshCard

/-- THE SECOND FORM's CARD OF 'tesseralaw11.TurtleFresh'. -/
def turtleFreshUptoCard : Claim7 := { stood := { row := turtleFreshUptoRow, standIns := [], harness := (true, "750aad6a0a9684b2b81ddd9b1559e4287ff454728832a05299b7b89fca066f0c"), looks := false }, kinds := [], alts := [], laidByText := true, laidKinds := [.data, .data, .data], laidTests := true, laidLooks := .later }
def TurtleFreshUptoCardSaid : Prop := Claim7.holds Tryd.pinned (.plain (OpenSpec.upto turtleFreshSpec)) turtleFreshUptoCard
end Rows
end Go.Proofs.YtpnphbjoalbejaaDoor
