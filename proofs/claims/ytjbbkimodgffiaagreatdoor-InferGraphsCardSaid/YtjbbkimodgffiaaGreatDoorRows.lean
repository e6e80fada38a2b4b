/-
  NARROWER THAN 'FOR EVERY INPUT', by the rows' own cells (each row's printed sentence says how): InferHolds: laid · InferWhy: laid · InferCloses: laid · InferGrows: laid · InferGraphs: laid · InferNews: laid · InferLeast: laid.
  DERIVED. THE GIVEN ROWS OF THIS SEAT. 7 by the template 'for every input the law returns true; each argument reads behind the call as it read before'; 0 by the template 'total and deterministic' (their statements: YtjbbkimodgffiaaGreatDoorTotals.lean).
  GIVEN WITH THE SEED: the statements are not yours to turn. If you find one false, say at which input.
  Laid BY PROGRAM, IN A SANDBOX (cutbox-rows.mjs): the forced cells as the released guide's own fill.sh prints them over the translation 11be711d7ac383c1… (all of the seat's roots in one cut). By AI agents, Wed Nov 11 2026. No macro, syntax, notation, axiom, sorry.
-/
import Derived.Test.YtjbbkimodgffiaaGreatDoorChecked
import GoSem.PinnedTables
import GoSem.Claim
import GoSem.ClaimJoined
import GoSem.ClaimMapViews
import Derived.JoinedTies
import Derived.KernelRfl
namespace Go.Proofs.YtjbbkimodgffiaaGreatDoor
/- THE CELL 'sum', in the pinned program and in every row, IS THE sha256 OF THE DUMP (.gsa) THAT YtjbbkimodgffiaaGreatDoorProg.lean LOADS. Nothing in Lean hashes anything: it is a label: what it is worth is what the hold of that sum in a sandbox is worth. -/
noncomputable def Tryz.pinned : Pinned := { name := "ytjbbkimodgffiaagreatdoor", sum := "11be711d7ac383c1c5efd496ba6ea71e9da7da8d0cf393bb40502128432992fc", checked := Tryz.checked }
namespace Rows
def none {H : Type} : Left H := { results := [], args := [] }

/- WHAT THE LISTED PACKAGE-LEVEL VARIABLES READ AS WHEN THE CALL BEGINS. Each datum BY PROGRAM (the guide's laid-datum.mjs) off the statement by which the dump's own 'gosem.cut.vars' lays the variable. In a bare row this is a premise. The card (YtjbbkimodgffiaaGreatDoorCards.lean) ties it to the program's text. -/
def laid_unicode_utf8_acceptRanges {H : Type} : DataW H := .agg [.agg [.lit (.int .u8 128), .lit (.int .u8 191)], .agg [.lit (.int .u8 160), .lit (.int .u8 191)], .agg [.lit (.int .u8 128), .lit (.int .u8 159)], .agg [.lit (.int .u8 144), .lit (.int .u8 191)], .agg [.lit (.int .u8 128), .lit (.int .u8 143)], .agg [.lit (.int .u8 0), .lit (.int .u8 0)], .agg [.lit (.int .u8 0), .lit (.int .u8 0)], .agg [.lit (.int .u8 0), .lit (.int .u8 0)], .agg [.lit (.int .u8 0), .lit (.int .u8 0)], .agg [.lit (.int .u8 0), .lit (.int .u8 0)], .agg [.lit (.int .u8 0), .lit (.int .u8 0)], .agg [.lit (.int .u8 0), .lit (.int .u8 0)], .agg [.lit (.int .u8 0), .lit (.int .u8 0)], .agg [.lit (.int .u8 0), .lit (.int .u8 0)], .agg [.lit (.int .u8 0), .lit (.int .u8 0)], .agg [.lit (.int .u8 0), .lit (.int .u8 0)]]
def laid_tessera_names_basesTable {H : Type} : DataW H := .agg [.lit (.int .i32 192), .lit (.int .i32 214), .lit (.int .i32 216), .lit (.int .i32 246), .lit (.int .i32 248), .lit (.int .i32 767), .lit (.int .i32 880), .lit (.int .i32 893), .lit (.int .i32 895), .lit (.int .i32 8191), .lit (.int .i32 8204), .lit (.int .i32 8205), .lit (.int .i32 8304), .lit (.int .i32 8591), .lit (.int .i32 11264), .lit (.int .i32 12271), .lit (.int .i32 12289), .lit (.int .i32 55295), .lit (.int .i32 63744), .lit (.int .i32 64975), .lit (.int .i32 65008), .lit (.int .i32 65533), .lit (.int .i32 65536), .lit (.int .i32 983039)]
/-- One of Go's own tables, pinned by name: the form's constant. -/
def laid_unicode_utf8_first : DataW Unit := Go.Pinned.utf8First

/-- 'tesseralaw25.InferHolds': WHATEVER THE INPUT: true; the input reads as it did. -/
def inferHoldsSpec : ChangeSpec := { name := "inferHolds", fn := fun _ => fun
  | [d1, d2] => { results := [.lit (.bool true)], args := [d1, d2] }
  | _ => none }
def inferHoldsRow : OpenClaim := { program := "ytjbbkimodgffiaagreatdoor", sum := "11be711d7ac383c1c5efd496ba6ea71e9da7da8d0cf393bb40502128432992fc", func := "tessera/tesseralaw25.InferHolds", spec := "inferHolds", inPlace := ["internal/bytealg.IndexByteString", "internal/bytealg.IndexString", "internal/bytealg.CountString"], unfollowed := true, recurses := true, named := ["tessera/names.basesTable", "unicode/utf8.first", "unicode/utf8.acceptRanges", "internal/bytealg.MaxLen"], plainKeys := false, apart := false, laid := [("unicode/utf8.acceptRanges", laid_unicode_utf8_acceptRanges), ("tessera/names.basesTable", laid_tessera_names_basesTable), ("unicode/utf8.first", laid_unicode_utf8_first)] }
def InferHoldsSaid : Prop := inferHoldsRow.holds Tryz.pinned (OpenSpec.ofChange inferHoldsSpec)

/-- ITS FALSE NEIGHBOUR: 'it returns false'. Refute it at one input. -/
def inferHoldsWrong : ChangeSpec := { name := "inferHolds", fn := fun _ => fun
  | [d1, d2] => { results := [.lit (.bool false)], args := [d1, d2] }
  | _ => none }
def InferHoldsWrongFalsely : Prop := inferHoldsRow.holds Tryz.pinned (OpenSpec.ofChange inferHoldsWrong)

/-- 'tesseralaw25.InferWhy': WHATEVER THE INPUT: true; the input reads as it did. -/
def inferWhySpec : ChangeSpec := { name := "inferWhy", fn := fun _ => fun
  | [d1, d2, d3] => { results := [.lit (.bool true)], args := [d1, d2, d3] }
  | _ => none }
def inferWhyRow : OpenClaim := { program := "ytjbbkimodgffiaagreatdoor", sum := "11be711d7ac383c1c5efd496ba6ea71e9da7da8d0cf393bb40502128432992fc", func := "tessera/tesseralaw25.InferWhy", spec := "inferWhy", inPlace := ["internal/bytealg.IndexByteString", "internal/bytealg.IndexString", "internal/bytealg.CountString", "internal/bytealg.abigen_runtime_cmpstring"], unfollowed := true, recurses := true, named := ["tessera/names.basesTable", "unicode/utf8.first", "unicode/utf8.acceptRanges", "internal/bytealg.MaxLen"], plainKeys := false, apart := false, laid := [("unicode/utf8.acceptRanges", laid_unicode_utf8_acceptRanges), ("tessera/names.basesTable", laid_tessera_names_basesTable), ("unicode/utf8.first", laid_unicode_utf8_first)] }
def InferWhySaid : Prop := inferWhyRow.holds Tryz.pinned (OpenSpec.ofChange inferWhySpec)

/-- ITS FALSE NEIGHBOUR: 'it returns false'. Refute it at one input. -/
def inferWhyWrong : ChangeSpec := { name := "inferWhy", fn := fun _ => fun
  | [d1, d2, d3] => { results := [.lit (.bool false)], args := [d1, d2, d3] }
  | _ => none }
def InferWhyWrongFalsely : Prop := inferWhyRow.holds Tryz.pinned (OpenSpec.ofChange inferWhyWrong)

/-- 'tesseralaw25.InferCloses': WHATEVER THE INPUT: true; the input reads as it did. -/
def inferClosesSpec : ChangeSpec := { name := "inferCloses", fn := fun _ => fun
  | [d1, d2] => { results := [.lit (.bool true)], args := [d1, d2] }
  | _ => none }
def inferClosesRow : OpenClaim := { program := "ytjbbkimodgffiaagreatdoor", sum := "11be711d7ac383c1c5efd496ba6ea71e9da7da8d0cf393bb40502128432992fc", func := "tessera/tesseralaw25.InferCloses", spec := "inferCloses", inPlace := ["internal/bytealg.IndexByteString", "internal/bytealg.IndexString", "internal/bytealg.CountString", "internal/bytealg.abigen_runtime_cmpstring"], unfollowed := true, recurses := true, named := ["tessera/names.basesTable", "unicode/utf8.first", "unicode/utf8.acceptRanges", "internal/bytealg.MaxLen"], plainKeys := false, apart := false, laid := [("unicode/utf8.acceptRanges", laid_unicode_utf8_acceptRanges), ("tessera/names.basesTable", laid_tessera_names_basesTable), ("unicode/utf8.first", laid_unicode_utf8_first)] }
def InferClosesSaid : Prop := inferClosesRow.holds Tryz.pinned (OpenSpec.ofChange inferClosesSpec)

/-- ITS FALSE NEIGHBOUR: 'it returns false'. Refute it at one input. -/
def inferClosesWrong : ChangeSpec := { name := "inferCloses", fn := fun _ => fun
  | [d1, d2] => { results := [.lit (.bool false)], args := [d1, d2] }
  | _ => none }
def InferClosesWrongFalsely : Prop := inferClosesRow.holds Tryz.pinned (OpenSpec.ofChange inferClosesWrong)

/-- 'tesseralaw25.InferGrows': WHATEVER THE INPUT: true; the input reads as it did. -/
def inferGrowsSpec : ChangeSpec := { name := "inferGrows", fn := fun _ => fun
  | [d1, d2, d3] => { results := [.lit (.bool true)], args := [d1, d2, d3] }
  | _ => none }
def inferGrowsRow : OpenClaim := { program := "ytjbbkimodgffiaagreatdoor", sum := "11be711d7ac383c1c5efd496ba6ea71e9da7da8d0cf393bb40502128432992fc", func := "tessera/tesseralaw25.InferGrows", spec := "inferGrows", inPlace := ["internal/bytealg.IndexByteString", "internal/bytealg.IndexString", "internal/bytealg.CountString", "internal/bytealg.abigen_runtime_cmpstring"], unfollowed := true, recurses := true, named := ["tessera/names.basesTable", "unicode/utf8.first", "unicode/utf8.acceptRanges", "internal/bytealg.MaxLen"], plainKeys := false, apart := false, laid := [("unicode/utf8.acceptRanges", laid_unicode_utf8_acceptRanges), ("tessera/names.basesTable", laid_tessera_names_basesTable), ("unicode/utf8.first", laid_unicode_utf8_first)] }
def InferGrowsSaid : Prop := inferGrowsRow.holds Tryz.pinned (OpenSpec.ofChange inferGrowsSpec)

/-- ITS FALSE NEIGHBOUR: 'it returns false'. Refute it at one input. -/
def inferGrowsWrong : ChangeSpec := { name := "inferGrows", fn := fun _ => fun
  | [d1, d2, d3] => { results := [.lit (.bool false)], args := [d1, d2, d3] }
  | _ => none }
def InferGrowsWrongFalsely : Prop := inferGrowsRow.holds Tryz.pinned (OpenSpec.ofChange inferGrowsWrong)

/-- 'tesseralaw25.InferGraphs': WHATEVER THE INPUT: true; the input reads as it did. -/
def inferGraphsSpec : ChangeSpec := { name := "inferGraphs", fn := fun _ => fun
  | [d] => { results := [.lit (.bool true)], args := [d] }
  | _ => none }
def inferGraphsRow : OpenClaim := { program := "ytjbbkimodgffiaagreatdoor", sum := "11be711d7ac383c1c5efd496ba6ea71e9da7da8d0cf393bb40502128432992fc", func := "tessera/tesseralaw25.InferGraphs", spec := "inferGraphs", inPlace := ["internal/bytealg.abigen_runtime_cmpstring", "internal/bytealg.IndexByteString", "internal/bytealg.IndexString", "internal/bytealg.CountString"], unfollowed := true, recurses := true, named := ["tessera/names.basesTable", "unicode/utf8.first", "unicode/utf8.acceptRanges", "internal/bytealg.MaxLen"], plainKeys := false, apart := false, laid := [("unicode/utf8.acceptRanges", laid_unicode_utf8_acceptRanges), ("tessera/names.basesTable", laid_tessera_names_basesTable), ("unicode/utf8.first", laid_unicode_utf8_first)] }
def InferGraphsSaid : Prop := inferGraphsRow.holds Tryz.pinned (OpenSpec.ofChange inferGraphsSpec)

/-- ITS FALSE NEIGHBOUR: 'it returns false'. Refute it at one input. -/
def inferGraphsWrong : ChangeSpec := { name := "inferGraphs", fn := fun _ => fun
  | [d] => { results := [.lit (.bool false)], args := [d] }
  | _ => none }
def InferGraphsWrongFalsely : Prop := inferGraphsRow.holds Tryz.pinned (OpenSpec.ofChange inferGraphsWrong)

/-- 'tesseralaw25.InferNews': WHATEVER THE INPUT: true; the input reads as it did. -/
def inferNewsSpec : ChangeSpec := { name := "inferNews", fn := fun _ => fun
  | [d1, d2, d3, d4] => { results := [.lit (.bool true)], args := [d1, d2, d3, d4] }
  | _ => none }
def inferNewsRow : OpenClaim := { program := "ytjbbkimodgffiaagreatdoor", sum := "11be711d7ac383c1c5efd496ba6ea71e9da7da8d0cf393bb40502128432992fc", func := "tessera/tesseralaw25.InferNews", spec := "inferNews", inPlace := ["internal/bytealg.IndexByteString", "internal/bytealg.IndexString", "internal/bytealg.CountString", "internal/bytealg.abigen_runtime_cmpstring"], unfollowed := true, recurses := true, named := ["tessera/names.basesTable", "unicode/utf8.first", "unicode/utf8.acceptRanges", "internal/bytealg.MaxLen"], plainKeys := false, apart := false, laid := [("unicode/utf8.acceptRanges", laid_unicode_utf8_acceptRanges), ("tessera/names.basesTable", laid_tessera_names_basesTable), ("unicode/utf8.first", laid_unicode_utf8_first)] }
def InferNewsSaid : Prop := inferNewsRow.holds Tryz.pinned (OpenSpec.ofChange inferNewsSpec)

/-- ITS FALSE NEIGHBOUR: 'it returns false'. Refute it at one input. -/
def inferNewsWrong : ChangeSpec := { name := "inferNews", fn := fun _ => fun
  | [d1, d2, d3, d4] => { results := [.lit (.bool false)], args := [d1, d2, d3, d4] }
  | _ => none }
def InferNewsWrongFalsely : Prop := inferNewsRow.holds Tryz.pinned (OpenSpec.ofChange inferNewsWrong)

/-- 'tesseralaw25.InferLeast': WHATEVER THE INPUT: true; the input reads as it did. -/
def inferLeastSpec : ChangeSpec := { name := "inferLeast", fn := fun _ => fun
  | [d1, d2, d3] => { results := [.lit (.bool true)], args := [d1, d2, d3] }
  | _ => none }
def inferLeastRow : OpenClaim := { program := "ytjbbkimodgffiaagreatdoor", sum := "11be711d7ac383c1c5efd496ba6ea71e9da7da8d0cf393bb40502128432992fc", func := "tessera/tesseralaw25.InferLeast", spec := "inferLeast", inPlace := ["internal/bytealg.abigen_runtime_cmpstring", "internal/bytealg.IndexByteString", "internal/bytealg.IndexString", "internal/bytealg.CountString"], unfollowed := true, recurses := true, named := ["tessera/names.basesTable", "unicode/utf8.first", "unicode/utf8.acceptRanges", "internal/bytealg.MaxLen"], plainKeys := false, apart := false, laid := [("unicode/utf8.acceptRanges", laid_unicode_utf8_acceptRanges), ("tessera/names.basesTable", laid_tessera_names_basesTable), ("unicode/utf8.first", laid_unicode_utf8_first)] }
def InferLeastSaid : Prop := inferLeastRow.holds Tryz.pinned (OpenSpec.ofChange inferLeastSpec)

/-- ITS FALSE NEIGHBOUR: 'it returns false'. Refute it at one input. -/
def inferLeastWrong : ChangeSpec := { name := "inferLeast", fn := fun _ => fun
  | [d1, d2, d3] => { results := [.lit (.bool false)], args := [d1, d2, d3] }
  | _ => none }
def InferLeastWrongFalsely : Prop := inferLeastRow.holds Tryz.pinned (OpenSpec.ofChange inferLeastWrong)

/- THE SECOND FORM. 'bulk': how many values and letters a reading holds, each counted each time it is reached (what is shared counts as often as it is met; a slice's spare places count too). A statement '..UptoSaid' is the law's where the arguments, and the package variables that the reading takes, are together of bulk at most 1048576: NARROWER than '..Said'. Prove '..Said' where nothing that the law and all that it calls make is longer than what came in: it says more and counts as full. Else prove '..UptoSaid'. A law counts once. -/
mutual
def uptoBulk {H : Type} : DataW H → Nat
  | .lit (.string bytes) => bytes.length + 1
  | .lit _ => 1
  | .nil => 1
  | .ptr d => uptoBulk d + 1
  | .slice elems spare => uptoBulkAll elems + uptoBulkAll spare + 1
  | .agg parts => uptoBulkAll parts + 1
  | .iface _ d => uptoBulk d + 1
  | .map entries => uptoBulkEntries entries + 1
  | .held _ => 1
def uptoBulkAll {H : Type} : List (DataW H) → Nat
  | [] => 0
  | d :: r => uptoBulk d + uptoBulkAll r
def uptoBulkEntries {H : Type} : List (Lit × DataW H) → Nat
  | [] => 0
  | x :: r => uptoBulkEntry x + uptoBulkEntries r
def uptoBulkEntry {H : Type} : Lit × DataW H → Nat
  | (.string bytes, d) => bytes.length + uptoBulk d + 1
  | (_, d) => uptoBulk d + 1
 end
def uptoSmall : (H : Type) → List (DataW H) → Bool := fun _ ds => decide (uptoBulkAll ds ≤ 1048576)
def OpenSpec.upto (s : _root_.Go.ChangeSpec) : _root_.Go.OpenSpec := { _root_.Go.OpenSpec.ofChange s with cond := some uptoSmall }

/-- 'tesseralaw25.InferHolds', WHERE WHAT IT READS IS OF BULK AT MOST 1048576: true; the input reads as it did. -/
def inferHoldsUptoRow : OpenClaim := { program := "ytjbbkimodgffiaagreatdoor", sum := "11be711d7ac383c1c5efd496ba6ea71e9da7da8d0cf393bb40502128432992fc", func := "tessera/tesseralaw25.InferHolds", spec := "inferHolds", inPlace := ["internal/bytealg.IndexByteString", "internal/bytealg.IndexString", "internal/bytealg.CountString"], unfollowed := true, recurses := true, named := ["tessera/names.basesTable", "unicode/utf8.first", "unicode/utf8.acceptRanges", "internal/bytealg.MaxLen"], plainKeys := false, apart := false, laid := [("unicode/utf8.acceptRanges", laid_unicode_utf8_acceptRanges), ("tessera/names.basesTable", laid_tessera_names_basesTable), ("unicode/utf8.first", laid_unicode_utf8_first)], narrowed := true }
def InferHoldsUptoSaid : Prop := inferHoldsUptoRow.holds Tryz.pinned (OpenSpec.upto inferHoldsSpec)

/-- 'tesseralaw25.InferWhy', WHERE WHAT IT READS IS OF BULK AT MOST 1048576: true; the input reads as it did. -/
def inferWhyUptoRow : OpenClaim := { program := "ytjbbkimodgffiaagreatdoor", sum := "11be711d7ac383c1c5efd496ba6ea71e9da7da8d0cf393bb40502128432992fc", func := "tessera/tesseralaw25.InferWhy", spec := "inferWhy", inPlace := ["internal/bytealg.IndexByteString", "internal/bytealg.IndexString", "internal/bytealg.CountString", "internal/bytealg.abigen_runtime_cmpstring"], unfollowed := true, recurses := true, named := ["tessera/names.basesTable", "unicode/utf8.first", "unicode/utf8.acceptRanges", "internal/bytealg.MaxLen"], plainKeys := false, apart := false, laid := [("unicode/utf8.acceptRanges", laid_unicode_utf8_acceptRanges), ("tessera/names.basesTable", laid_tessera_names_basesTable), ("unicode/utf8.first", laid_unicode_utf8_first)], narrowed := true }
def InferWhyUptoSaid : Prop := inferWhyUptoRow.holds Tryz.pinned (OpenSpec.upto inferWhySpec)

/-- 'tesseralaw25.InferCloses', WHERE WHAT IT READS IS OF BULK AT MOST 1048576: true; the input reads as it did. -/
def inferClosesUptoRow : OpenClaim := { program := "ytjbbkimodgffiaagreatdoor", sum := "11be711d7ac383c1c5efd496ba6ea71e9da7da8d0cf393bb40502128432992fc", func := "tessera/tesseralaw25.InferCloses", spec := "inferCloses", inPlace := ["internal/bytealg.IndexByteString", "internal/bytealg.IndexString", "internal/bytealg.CountString", "internal/bytealg.abigen_runtime_cmpstring"], unfollowed := true, recurses := true, named := ["tessera/names.basesTable", "unicode/utf8.first", "unicode/utf8.acceptRanges", "internal/bytealg.MaxLen"], plainKeys := false, apart := false, laid := [("unicode/utf8.acceptRanges", laid_unicode_utf8_acceptRanges), ("tessera/names.basesTable", laid_tessera_names_basesTable), ("unicode/utf8.first", laid_unicode_utf8_first)], narrowed := true }
def InferClosesUptoSaid : Prop := inferClosesUptoRow.holds Tryz.pinned (OpenSpec.upto inferClosesSpec)

/-- 'tesseralaw25.InferGrows', WHERE WHAT IT READS IS OF BULK AT MOST 1048576: true; the input reads as it did. -/
def inferGrowsUptoRow : OpenClaim := { program := "ytjbbkimodgffiaagreatdoor", sum := "11be711d7ac383c1c5efd496ba6ea71e9da7da8d0cf393bb40502128432992fc", func := "tessera/tesseralaw25.InferGrows", spec := "inferGrows", inPlace := ["internal/bytealg.IndexByteString", "internal/bytealg.IndexString", "internal/bytealg.CountString", "internal/bytealg.abigen_runtime_cmpstring"], unfollowed := true, recurses := true, named := ["tessera/names.basesTable", "unicode/utf8.first", "unicode/utf8.acceptRanges", "internal/bytealg.MaxLen"], plainKeys := false, apart := false, laid := [("unicode/utf8.acceptRanges", laid_unicode_utf8_acceptRanges), ("tessera/names.basesTable", laid_tessera_names_basesTable), ("unicode/utf8.first", laid_unicode_utf8_first)], narrowed := true }
def InferGrowsUptoSaid : Prop := inferGrowsUptoRow.holds Tryz.pinned (OpenSpec.upto inferGrowsSpec)

/-- 'tesseralaw25.InferGraphs', WHERE WHAT IT READS IS OF BULK AT MOST 1048576: true; the input reads as it did. -/
def inferGraphsUptoRow : OpenClaim := { program := "ytjbbkimodgffiaagreatdoor", sum := "11be711d7ac383c1c5efd496ba6ea71e9da7da8d0cf393bb40502128432992fc", func := "tessera/tesseralaw25.InferGraphs", spec := "inferGraphs", inPlace := ["internal/bytealg.abigen_runtime_cmpstring", "internal/bytealg.IndexByteString", "internal/bytealg.IndexString", "internal/bytealg.CountString"], unfollowed := true, recurses := true, named := ["tessera/names.basesTable", "unicode/utf8.first", "unicode/utf8.acceptRanges", "internal/bytealg.MaxLen"], plainKeys := false, apart := false, laid := [("unicode/utf8.acceptRanges", laid_unicode_utf8_acceptRanges), ("tessera/names.basesTable", laid_tessera_names_basesTable), ("unicode/utf8.first", laid_unicode_utf8_first)], narrowed := true }
def InferGraphsUptoSaid : Prop := inferGraphsUptoRow.holds Tryz.pinned (OpenSpec.upto inferGraphsSpec)

/-- 'tesseralaw25.InferNews', WHERE WHAT IT READS IS OF BULK AT MOST 1048576: true; the input reads as it did. -/
def inferNewsUptoRow : OpenClaim := { program := "ytjbbkimodgffiaagreatdoor", sum := "11be711d7ac383c1c5efd496ba6ea71e9da7da8d0cf393bb40502128432992fc", func := "tessera/tesseralaw25.InferNews", spec := "inferNews", inPlace := ["internal/bytealg.IndexByteString", "internal/bytealg.IndexString", "internal/bytealg.CountString", "internal/bytealg.abigen_runtime_cmpstring"], unfollowed := true, recurses := true, named := ["tessera/names.basesTable", "unicode/utf8.first", "unicode/utf8.acceptRanges", "internal/bytealg.MaxLen"], plainKeys := false, apart := false, laid := [("unicode/utf8.acceptRanges", laid_unicode_utf8_acceptRanges), ("tessera/names.basesTable", laid_tessera_names_basesTable), ("unicode/utf8.first", laid_unicode_utf8_first)], narrowed := true }
def InferNewsUptoSaid : Prop := inferNewsUptoRow.holds Tryz.pinned (OpenSpec.upto inferNewsSpec)

/-- 'tesseralaw25.InferLeast', WHERE WHAT IT READS IS OF BULK AT MOST 1048576: true; the input reads as it did. -/
def inferLeastUptoRow : OpenClaim := { program := "ytjbbkimodgffiaagreatdoor", sum := "11be711d7ac383c1c5efd496ba6ea71e9da7da8d0cf393bb40502128432992fc", func := "tessera/tesseralaw25.InferLeast", spec := "inferLeast", inPlace := ["internal/bytealg.abigen_runtime_cmpstring", "internal/bytealg.IndexByteString", "internal/bytealg.IndexString", "internal/bytealg.CountString"], unfollowed := true, recurses := true, named := ["tessera/names.basesTable", "unicode/utf8.first", "unicode/utf8.acceptRanges", "internal/bytealg.MaxLen"], plainKeys := false, apart := false, laid := [("unicode/utf8.acceptRanges", laid_unicode_utf8_acceptRanges), ("tessera/names.basesTable", laid_tessera_names_basesTable), ("unicode/utf8.first", laid_unicode_utf8_first)], narrowed := true }
def InferLeastUptoSaid : Prop := inferLeastUptoRow.holds Tryz.pinned (OpenSpec.upto inferLeastSpec)

end Rows
end Go.Proofs.YtjbbkimodgffiaaGreatDoor
