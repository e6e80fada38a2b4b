/-
  DERIVED. GIVEN WITH THE SEED: THE CARDS: each row of YtlcbipfmodcedaaGreatDoorRows.lean that lists a variable, with what it lists TIED to the program's text (the seventh form; the later family's looks); each row that meets fmt, with fmt's text TOLD by the authors' own Lean function (tested against real Go, not proved from fmt's source: count such statements apart). THE CARD IS WHAT COUNTS. Prove the row's statement (the work); the ties are given (YtlcbipfmodcedaaGreatDoorTie.lean); close each card by the builder's one call (the guide's Derived/Test/ToyasCard.lean, 'card_holds'). Laid BY PROGRAM, IN A SANDBOX (cutbox-door.mjs). By AI agents, Wed Nov 11 2026. No macro, syntax, notation, axiom, sorry.
-/
import Derived.Test.YtlcbipfmodcedaaGreatDoorRows
import GoSem.ClaimSeven
namespace Go.Proofs.YtlcbipfmodcedaaGreatDoor
namespace Rows

/-- THE TIED CARD OF 'tesseralaw15.CanonRefines'. -/
def canonRefinesCard : Claim7 := { stood := { row := canonRefinesRow, standIns := [], harness := (true, "3796e467318d242081936724b064fe30a68274671a4304189e1c835450ee5a9e"), looks := true }, kinds := [], alts := [], laidByText := true, laidKinds := [.data, .data, .data, .data, .data, .pinned], laidTests := true, laidLooks := .later }
def CanonRefinesCardSaid : Prop := Claim7.holds Tryz.pinned (.plain (OpenSpec.ofChange canonRefinesSpec)) canonRefinesCard

/-- THE TIED CARD OF 'tesseralaw15.CanonForms'. -/
def canonFormsCard : Claim7 := { stood := { row := canonFormsRow, standIns := [], harness := (true, "3796e467318d242081936724b064fe30a68274671a4304189e1c835450ee5a9e"), looks := true }, kinds := [], alts := [], laidByText := true, laidKinds := [.data, .data, .data, .data, .data, .pinned], laidTests := true, laidLooks := .later }
def CanonFormsCardSaid : Prop := Claim7.holds Tryz.pinned (.plain (OpenSpec.ofChange canonFormsSpec)) canonFormsCard

/-- THE TIED CARD OF 'tesseralaw15.CanonSames'. -/
def canonSamesCard : Claim7 := { stood := { row := canonSamesRow, standIns := [], harness := (true, "3796e467318d242081936724b064fe30a68274671a4304189e1c835450ee5a9e"), looks := true }, kinds := [], alts := [], laidByText := true, laidKinds := [.data, .data, .data, .data, .data, .pinned], laidTests := true, laidLooks := .later }
def CanonSamesCardSaid : Prop := Claim7.holds Tryz.pinned (.plain (OpenSpec.ofChange canonSamesSpec)) canonSamesCard

/-- THE TIED CARD OF 'tesseralaw15.CanonSame'. -/
def canonSameCard : Claim7 := { stood := { row := canonSameRow, standIns := [], harness := (true, "3796e467318d242081936724b064fe30a68274671a4304189e1c835450ee5a9e"), looks := true }, kinds := [], alts := [], laidByText := true, laidKinds := [.data, .data, .data, .data, .data, .pinned], laidTests := true, laidLooks := .later }
def CanonSameCardSaid : Prop := Claim7.holds Tryz.pinned (.plain (OpenSpec.ofChange canonSameSpec)) canonSameCard

/-- THE TIED CARD OF 'tesseralaw15.CanonTexts'. -/
def canonTextsCard : Claim7 := { stood := { row := canonTextsRow, standIns := [], harness := (true, "3796e467318d242081936724b064fe30a68274671a4304189e1c835450ee5a9e"), looks := true }, kinds := [], alts := [], laidByText := true, laidKinds := [.data, .data, .data, .data, .data, .data, .data, .pinned], laidTests := true, laidLooks := .later }
def CanonTextsCardSaid : Prop := Claim7.holds Tryz.pinned (.plain (OpenSpec.ofChange canonTextsSpec)) canonTextsCard

/-- THE TIED CARD OF 'tesseralaw15.CanonIso'. -/
def canonIsoCard : Claim7 := { stood := { row := canonIsoRow, standIns := [], harness := (true, "3796e467318d242081936724b064fe30a68274671a4304189e1c835450ee5a9e"), looks := true }, kinds := [], alts := [], laidByText := true, laidKinds := [.data, .data, .data, .data, .data, .pinned], laidTests := true, laidLooks := .later }
def CanonIsoCardSaid : Prop := Claim7.holds Tryz.pinned (.plain (OpenSpec.ofChange canonIsoSpec)) canonIsoCard

/-- THE SECOND FORM's CARD OF 'tesseralaw15.CanonRefines'. -/
def canonRefinesUptoCard : Claim7 := { stood := { row := canonRefinesUptoRow, standIns := [], harness := (true, "3796e467318d242081936724b064fe30a68274671a4304189e1c835450ee5a9e"), looks := true }, kinds := [], alts := [], laidByText := true, laidKinds := [.data, .data, .data, .data, .data, .pinned], laidTests := true, laidLooks := .later }
def CanonRefinesUptoCardSaid : Prop := Claim7.holds Tryz.pinned (.plain (OpenSpec.upto canonRefinesSpec)) canonRefinesUptoCard

/-- THE SECOND FORM's CARD OF 'tesseralaw15.CanonForms'. -/
def canonFormsUptoCard : Claim7 := { stood := { row := canonFormsUptoRow, standIns := [], harness := (true, "3796e467318d242081936724b064fe30a68274671a4304189e1c835450ee5a9e"), looks := true }, kinds := [], alts := [], laidByText := true, laidKinds := [.data, .data, .data, .data, .data, .pinned], laidTests := true, laidLooks := .later }
def CanonFormsUptoCardSaid : Prop := Claim7.holds Tryz.pinned (.plain (OpenSpec.upto canonFormsSpec)) canonFormsUptoCard

/-- THE SECOND FORM's CARD OF 'tesseralaw15.CanonSames'. -/
def canonSamesUptoCard : Claim7 := { stood := { row := canonSamesUptoRow, standIns := [], harness := (true, "3796e467318d242081936724b064fe30a68274671a4304189e1c835450ee5a9e"), looks := true }, kinds := [], alts := [], laidByText := true, laidKinds := [.data, .data, .data, .data, .data, .pinned], laidTests := true, laidLooks := .later }
def CanonSamesUptoCardSaid : Prop := Claim7.holds Tryz.pinned (.plain (OpenSpec.upto canonSamesSpec)) canonSamesUptoCard

/-- THE SECOND FORM's CARD OF 'tesseralaw15.CanonSame'. -/
def canonSameUptoCard : Claim7 := { stood := { row := canonSameUptoRow, standIns := [], harness := (true, "3796e467318d242081936724b064fe30a68274671a4304189e1c835450ee5a9e"), looks := true }, kinds := [], alts := [], laidByText := true, laidKinds := [.data, .data, .data, .data, .data, .pinned], laidTests := true, laidLooks := .later }
def CanonSameUptoCardSaid : Prop := Claim7.holds Tryz.pinned (.plain (OpenSpec.upto canonSameSpec)) canonSameUptoCard

/-- THE SECOND FORM's CARD OF 'tesseralaw15.CanonTexts'. -/
def canonTextsUptoCard : Claim7 := { stood := { row := canonTextsUptoRow, standIns := [], harness := (true, "3796e467318d242081936724b064fe30a68274671a4304189e1c835450ee5a9e"), looks := true }, kinds := [], alts := [], laidByText := true, laidKinds := [.data, .data, .data, .data, .data, .data, .data, .pinned], laidTests := true, laidLooks := .later }
def CanonTextsUptoCardSaid : Prop := Claim7.holds Tryz.pinned (.plain (OpenSpec.upto canonTextsSpec)) canonTextsUptoCard

/-- THE SECOND FORM's CARD OF 'tesseralaw15.CanonIso'. -/
def canonIsoUptoCard : Claim7 := { stood := { row := canonIsoUptoRow, standIns := [], harness := (true, "3796e467318d242081936724b064fe30a68274671a4304189e1c835450ee5a9e"), looks := true }, kinds := [], alts := [], laidByText := true, laidKinds := [.data, .data, .data, .data, .data, .pinned], laidTests := true, laidLooks := .later }
def CanonIsoUptoCardSaid : Prop := Claim7.holds Tryz.pinned (.plain (OpenSpec.upto canonIsoSpec)) canonIsoUptoCard
end Rows
end Go.Proofs.YtlcbipfmodcedaaGreatDoor
