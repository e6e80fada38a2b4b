/-
  DERIVED. GIVEN WITH THE SEED: THE CARDS: each row of YtjbbkimodgffiaaGreatDoorRows.lean that lists a variable, with what it lists TIED to the program's text (the seventh form; the later family's looks); each row that meets fmt, with fmt's text TOLD by the authors' own Lean function (tested against real Go, not proved from fmt's source: count such statements apart). THE CARD IS WHAT COUNTS. Prove the row's statement (the work); the ties are given (YtjbbkimodgffiaaGreatDoorTie.lean); close each card by the builder's one call (the guide's Derived/Test/ToyasCard.lean, 'card_holds'). Laid BY PROGRAM, IN A SANDBOX (cutbox-door.mjs). By AI agents, Wed Nov 11 2026. No macro, syntax, notation, axiom, sorry.
-/
import Derived.Test.YtjbbkimodgffiaaGreatDoorRows
import GoSem.ClaimSeven
namespace Go.Proofs.YtjbbkimodgffiaaGreatDoor
namespace Rows

/-- THE TIED CARD OF 'tesseralaw25.InferHolds'. -/
def inferHoldsCard : Claim7 := { stood := { row := inferHoldsRow, standIns := [], harness := (true, "2d2f2a8c17ddd8a863e6c6a8964c72e994cd539e9d9db5835db83fda7cb38920"), looks := false }, kinds := [], alts := [], laidByText := true, laidKinds := [.data, .data, .pinned], laidTests := true, laidLooks := .later }
def InferHoldsCardSaid : Prop := Claim7.holds Tryz.pinned (.plain (OpenSpec.ofChange inferHoldsSpec)) inferHoldsCard

/-- THE TIED CARD OF 'tesseralaw25.InferWhy'. -/
def inferWhyCard : Claim7 := { stood := { row := inferWhyRow, standIns := [], harness := (true, "2d2f2a8c17ddd8a863e6c6a8964c72e994cd539e9d9db5835db83fda7cb38920"), looks := false }, kinds := [], alts := [], laidByText := true, laidKinds := [.data, .data, .pinned], laidTests := true, laidLooks := .later }
def InferWhyCardSaid : Prop := Claim7.holds Tryz.pinned (.plain (OpenSpec.ofChange inferWhySpec)) inferWhyCard

/-- THE TIED CARD OF 'tesseralaw25.InferCloses'. -/
def inferClosesCard : Claim7 := { stood := { row := inferClosesRow, standIns := [], harness := (true, "2d2f2a8c17ddd8a863e6c6a8964c72e994cd539e9d9db5835db83fda7cb38920"), looks := false }, kinds := [], alts := [], laidByText := true, laidKinds := [.data, .data, .pinned], laidTests := true, laidLooks := .later }
def InferClosesCardSaid : Prop := Claim7.holds Tryz.pinned (.plain (OpenSpec.ofChange inferClosesSpec)) inferClosesCard

/-- THE TIED CARD OF 'tesseralaw25.InferGrows'. -/
def inferGrowsCard : Claim7 := { stood := { row := inferGrowsRow, standIns := [], harness := (true, "2d2f2a8c17ddd8a863e6c6a8964c72e994cd539e9d9db5835db83fda7cb38920"), looks := false }, kinds := [], alts := [], laidByText := true, laidKinds := [.data, .data, .pinned], laidTests := true, laidLooks := .later }
def InferGrowsCardSaid : Prop := Claim7.holds Tryz.pinned (.plain (OpenSpec.ofChange inferGrowsSpec)) inferGrowsCard

/-- THE TIED CARD OF 'tesseralaw25.InferGraphs'. -/
def inferGraphsCard : Claim7 := { stood := { row := inferGraphsRow, standIns := [], harness := (true, "2d2f2a8c17ddd8a863e6c6a8964c72e994cd539e9d9db5835db83fda7cb38920"), looks := false }, kinds := [], alts := [], laidByText := true, laidKinds := [.data, .data, .pinned], laidTests := true, laidLooks := .later }
def InferGraphsCardSaid : Prop := Claim7.holds Tryz.pinned (.plain (OpenSpec.ofChange inferGraphsSpec)) inferGraphsCard

/-- THE TIED CARD OF 'tesseralaw25.InferNews'. -/
def inferNewsCard : Claim7 := { stood := { row := inferNewsRow, standIns := [], harness := (true, "2d2f2a8c17ddd8a863e6c6a8964c72e994cd539e9d9db5835db83fda7cb38920"), looks := false }, kinds := [], alts := [], laidByText := true, laidKinds := [.data, .data, .pinned], laidTests := true, laidLooks := .later }
def InferNewsCardSaid : Prop := Claim7.holds Tryz.pinned (.plain (OpenSpec.ofChange inferNewsSpec)) inferNewsCard

/-- THE TIED CARD OF 'tesseralaw25.InferLeast'. -/
def inferLeastCard : Claim7 := { stood := { row := inferLeastRow, standIns := [], harness := (true, "2d2f2a8c17ddd8a863e6c6a8964c72e994cd539e9d9db5835db83fda7cb38920"), looks := false }, kinds := [], alts := [], laidByText := true, laidKinds := [.data, .data, .pinned], laidTests := true, laidLooks := .later }
def InferLeastCardSaid : Prop := Claim7.holds Tryz.pinned (.plain (OpenSpec.ofChange inferLeastSpec)) inferLeastCard

/-- THE SECOND FORM's CARD OF 'tesseralaw25.InferHolds'. -/
def inferHoldsUptoCard : Claim7 := { stood := { row := inferHoldsUptoRow, standIns := [], harness := (true, "2d2f2a8c17ddd8a863e6c6a8964c72e994cd539e9d9db5835db83fda7cb38920"), looks := false }, kinds := [], alts := [], laidByText := true, laidKinds := [.data, .data, .pinned], laidTests := true, laidLooks := .later }
def InferHoldsUptoCardSaid : Prop := Claim7.holds Tryz.pinned (.plain (OpenSpec.upto inferHoldsSpec)) inferHoldsUptoCard

/-- THE SECOND FORM's CARD OF 'tesseralaw25.InferWhy'. -/
def inferWhyUptoCard : Claim7 := { stood := { row := inferWhyUptoRow, standIns := [], harness := (true, "2d2f2a8c17ddd8a863e6c6a8964c72e994cd539e9d9db5835db83fda7cb38920"), looks := false }, kinds := [], alts := [], laidByText := true, laidKinds := [.data, .data, .pinned], laidTests := true, laidLooks := .later }
def InferWhyUptoCardSaid : Prop := Claim7.holds Tryz.pinned (.plain (OpenSpec.upto inferWhySpec)) inferWhyUptoCard

/-- THE SECOND FORM's CARD OF 'tesseralaw25.InferCloses'. -/
def inferClosesUptoCard : Claim7 := { stood := { row := inferClosesUptoRow, standIns := [], harness := (true, "2d2f2a8c17ddd8a863e6c6a8964c72e994cd539e9d9db5835db83fda7cb38920"), looks := false }, kinds := [], alts := [], laidByText := true, laidKinds := [.data, .data, .pinned], laidTests := true, laidLooks := .later }
def InferClosesUptoCardSaid : Prop := Claim7.holds Tryz.pinned (.plain (OpenSpec.upto inferClosesSpec)) inferClosesUptoCard

/-- THE SECOND FORM's CARD OF 'tesseralaw25.InferGrows'. -/
def inferGrowsUptoCard : Claim7 := { stood := { row := inferGrowsUptoRow, standIns := [], harness := (true, "2d2f2a8c17ddd8a863e6c6a8964c72e994cd539e9d9db5835db83fda7cb38920"), looks := false }, kinds := [], alts := [], laidByText := true, laidKinds := [.data, .data, .pinned], laidTests := true, laidLooks := .later }
def InferGrowsUptoCardSaid : Prop := Claim7.holds Tryz.pinned (.plain (OpenSpec.upto inferGrowsSpec)) inferGrowsUptoCard

/-- THE SECOND FORM's CARD OF 'tesseralaw25.InferGraphs'. -/
def inferGraphsUptoCard : Claim7 := { stood := { row := inferGraphsUptoRow, standIns := [], harness := (true, "2d2f2a8c17ddd8a863e6c6a8964c72e994cd539e9d9db5835db83fda7cb38920"), looks := false }, kinds := [], alts := [], laidByText := true, laidKinds := [.data, .data, .pinned], laidTests := true, laidLooks := .later }
def InferGraphsUptoCardSaid : Prop := Claim7.holds Tryz.pinned (.plain (OpenSpec.upto inferGraphsSpec)) inferGraphsUptoCard

/-- THE SECOND FORM's CARD OF 'tesseralaw25.InferNews'. -/
def inferNewsUptoCard : Claim7 := { stood := { row := inferNewsUptoRow, standIns := [], harness := (true, "2d2f2a8c17ddd8a863e6c6a8964c72e994cd539e9d9db5835db83fda7cb38920"), looks := false }, kinds := [], alts := [], laidByText := true, laidKinds := [.data, .data, .pinned], laidTests := true, laidLooks := .later }
def InferNewsUptoCardSaid : Prop := Claim7.holds Tryz.pinned (.plain (OpenSpec.upto inferNewsSpec)) inferNewsUptoCard

/-- THE SECOND FORM's CARD OF 'tesseralaw25.InferLeast'. -/
def inferLeastUptoCard : Claim7 := { stood := { row := inferLeastUptoRow, standIns := [], harness := (true, "2d2f2a8c17ddd8a863e6c6a8964c72e994cd539e9d9db5835db83fda7cb38920"), looks := false }, kinds := [], alts := [], laidByText := true, laidKinds := [.data, .data, .pinned], laidTests := true, laidLooks := .later }
def InferLeastUptoCardSaid : Prop := Claim7.holds Tryz.pinned (.plain (OpenSpec.upto inferLeastSpec)) inferLeastUptoCard
end Rows
end Go.Proofs.YtjbbkimodgffiaaGreatDoor
