/-
  DERIVED. GIVEN WITH THE SEED: THE CARDS: each row of YtjgjfeicenkceaaDoorRows.lean that lists a variable, with what it lists TIED to the program's text (the seventh form; the later family's looks); each row that meets fmt, with fmt's text TOLD by the authors' own Lean function (tested against real Go, not proved from fmt's source: count such statements apart). THE CARD IS WHAT COUNTS. Prove the row's statement (the work); the ties are given (YtjgjfeicenkceaaDoorTie.lean); close each card by the builder's one call (the guide's Derived/Test/ToyasCard.lean, 'card_holds'). Laid BY PROGRAM, IN A SANDBOX (cutbox-door.mjs). By AI agents, Wed Nov 11 2026. No macro, syntax, notation, axiom, sorry.
-/
import Derived.Test.YtjgjfeicenkceaaDoorRows
import GoSem.ClaimSeven
namespace Go.Proofs.YtjgjfeicenkceaaDoor
namespace Rows

/-- THE TIED CARD OF 'tesseralaw03.SumsCRC'. -/
def sumsCRCCard : Claim7 := { stood := { row := sumsCRCRow, standIns := [], harness := (true, "52c43f6d5290715cf7a7e7bc40ca96a38df116849aed78c3fc5d350ef35a0bee"), looks := false }, kinds := [], alts := [], laidByText := true, laidKinds := [.data], laidTests := true, laidLooks := .later }
def SumsCRCCardSaid : Prop := Claim7.holds Tryd.pinned (.plain (OpenSpec.ofChange sumsCRCSpec)) sumsCRCCard

/-- THE TIED CARD OF 'tesseralaw03.SumsBursts'. -/
def sumsBurstsCard : Claim7 := { stood := { row := sumsBurstsRow, standIns := [], harness := (true, "52c43f6d5290715cf7a7e7bc40ca96a38df116849aed78c3fc5d350ef35a0bee"), looks := false }, kinds := [], alts := [], laidByText := true, laidKinds := [.data], laidTests := true, laidLooks := .later }
def SumsBurstsCardSaid : Prop := Claim7.holds Tryd.pinned (.plain (OpenSpec.ofChange sumsBurstsSpec)) sumsBurstsCard

/-- THE TIED CARD OF 'tesseralaw03.SumsCombine'. -/
def sumsCombineCard : Claim7 := { stood := { row := sumsCombineRow, standIns := [], harness := (true, "52c43f6d5290715cf7a7e7bc40ca96a38df116849aed78c3fc5d350ef35a0bee"), looks := false }, kinds := [], alts := [], laidByText := true, laidKinds := [.data], laidTests := true, laidLooks := .later }
def SumsCombineCardSaid : Prop := Claim7.holds Tryd.pinned (.plain (OpenSpec.ofChange sumsCombineSpec)) sumsCombineCard

/-- THE TIED CARD OF 'tesseralaw03.SumsJoins'. -/
def sumsJoinsCard : Claim7 := { stood := { row := sumsJoinsRow, standIns := [], harness := (true, "52c43f6d5290715cf7a7e7bc40ca96a38df116849aed78c3fc5d350ef35a0bee"), looks := false }, kinds := [], alts := [], laidByText := true, laidKinds := [.data], laidTests := true, laidLooks := .later }
def SumsJoinsCardSaid : Prop := Claim7.holds Tryd.pinned (.plain (OpenSpec.ofChange sumsJoinsSpec)) sumsJoinsCard

/-- THE TIED CARD OF 'tesseralaw03.SumsDigest'. -/
def sumsDigestCard : Claim7 := { stood := { row := sumsDigestRow, standIns := [], harness := (true, "52c43f6d5290715cf7a7e7bc40ca96a38df116849aed78c3fc5d350ef35a0bee"), looks := false }, kinds := [], alts := [], laidByText := true, laidKinds := [.data, .data], laidTests := true, laidLooks := .later }
def SumsDigestCardSaid : Prop := Claim7.holds Tryd.pinned (.plain (OpenSpec.ofChange sumsDigestSpec)) sumsDigestCard

/-- THE TIED CARD OF 'tesseralaw03.SumsHashes'. -/
def sumsHashesCard : Claim7 := { stood := { row := sumsHashesRow, standIns := [], harness := (true, "52c43f6d5290715cf7a7e7bc40ca96a38df116849aed78c3fc5d350ef35a0bee"), looks := false }, kinds := [], alts := [], laidByText := true, laidKinds := [.data, .data], laidTests := true, laidLooks := .later }
def SumsHashesCardSaid : Prop := Claim7.holds Tryd.pinned (.plain (OpenSpec.ofChange sumsHashesSpec)) sumsHashesCard

/-- THE SECOND FORM's CARD OF 'tesseralaw03.SumsCRC'. -/
def sumsCRCUptoCard : Claim7 := { stood := { row := sumsCRCUptoRow, standIns := [], harness := (true, "52c43f6d5290715cf7a7e7bc40ca96a38df116849aed78c3fc5d350ef35a0bee"), looks := false }, kinds := [], alts := [], laidByText := true, laidKinds := [.data], laidTests := true, laidLooks := .later }
def SumsCRCUptoCardSaid : Prop := Claim7.holds Tryd.pinned (.plain (OpenSpec.upto sumsCRCSpec)) sumsCRCUptoCard

/-- THE SECOND FORM's CARD OF 'tesseralaw03.SumsBursts'. -/
def sumsBurstsUptoCard : Claim7 := { stood := { row := sumsBurstsUptoRow, standIns := [], harness := (true, "52c43f6d5290715cf7a7e7bc40ca96a38df116849aed78c3fc5d350ef35a0bee"), looks := false }, kinds := [], alts := [], laidByText := true, laidKinds := [.data], laidTests := true, laidLooks := .later }
def SumsBurstsUptoCardSaid : Prop := Claim7.holds Tryd.pinned (.plain (OpenSpec.upto sumsBurstsSpec)) sumsBurstsUptoCard

/-- THE SECOND FORM's CARD OF 'tesseralaw03.SumsCombine'. -/
def sumsCombineUptoCard : Claim7 := { stood := { row := sumsCombineUptoRow, standIns := [], harness := (true, "52c43f6d5290715cf7a7e7bc40ca96a38df116849aed78c3fc5d350ef35a0bee"), looks := false }, kinds := [], alts := [], laidByText := true, laidKinds := [.data], laidTests := true, laidLooks := .later }
def SumsCombineUptoCardSaid : Prop := Claim7.holds Tryd.pinned (.plain (OpenSpec.upto sumsCombineSpec)) sumsCombineUptoCard

/-- THE SECOND FORM's CARD OF 'tesseralaw03.SumsJoins'. -/
def sumsJoinsUptoCard : Claim7 := { stood := { row := sumsJoinsUptoRow, standIns := [], harness := (true, "52c43f6d5290715cf7a7e7bc40ca96a38df116849aed78c3fc5d350ef35a0bee"), looks := false }, kinds := [], alts := [], laidByText := true, laidKinds := [.data], laidTests := true, laidLooks := .later }
def SumsJoinsUptoCardSaid : Prop := Claim7.holds Tryd.pinned (.plain (OpenSpec.upto sumsJoinsSpec)) sumsJoinsUptoCard

/-- THE SECOND FORM's CARD OF 'tesseralaw03.SumsDigest'. -/
def sumsDigestUptoCard : Claim7 := { stood := { row := sumsDigestUptoRow, standIns := [], harness := (true, "52c43f6d5290715cf7a7e7bc40ca96a38df116849aed78c3fc5d350ef35a0bee"), looks := false }, kinds := [], alts := [], laidByText := true, laidKinds := [.data, .data], laidTests := true, laidLooks := .later }
def SumsDigestUptoCardSaid : Prop := Claim7.holds Tryd.pinned (.plain (OpenSpec.upto sumsDigestSpec)) sumsDigestUptoCard

/-- THE SECOND FORM's CARD OF 'tesseralaw03.SumsHashes'. -/
def sumsHashesUptoCard : Claim7 := { stood := { row := sumsHashesUptoRow, standIns := [], harness := (true, "52c43f6d5290715cf7a7e7bc40ca96a38df116849aed78c3fc5d350ef35a0bee"), looks := false }, kinds := [], alts := [], laidByText := true, laidKinds := [.data, .data], laidTests := true, laidLooks := .later }
def SumsHashesUptoCardSaid : Prop := Claim7.holds Tryd.pinned (.plain (OpenSpec.upto sumsHashesSpec)) sumsHashesUptoCard
end Rows
end Go.Proofs.YtjgjfeicenkceaaDoor
