/-
  NARROWER THAN 'FOR EVERY INPUT', by the rows' own cells (each row's printed sentence says how): IsoClasses: laid · IsoApart: laid · IsoChecks: laid · IsoFinds: laid · IsoRenamed: laid · IsoLeast: laid · IsoRelates: laid · IsoUnmet: laid.
  DERIVED. THE GIVEN ROWS OF THIS SEAT. 8 by the template 'for every input the law returns true; each argument reads behind the call as it read before'; 0 by the template 'total and deterministic' (their statements: YtbfbokdccdagkaaGreatDoorTotals.lean).
  GIVEN WITH THE SEED: the statements are not yours to turn. If you find one false, say at which input.
  Laid BY PROGRAM, IN A SANDBOX (cutbox-rows.mjs): the forced cells as the released guide's own fill.sh prints them over the translation f882d7cefee98b30… (all of the seat's roots in one cut). By AI agents, Wed Nov 11 2026. No macro, syntax, notation, axiom, sorry.
-/
import Derived.Test.YtbfbokdccdagkaaGreatDoorChecked
import GoSem.PinnedTables
import GoSem.Claim
import GoSem.ClaimJoined
import GoSem.ClaimMapViews
import Derived.JoinedTies
import Derived.KernelRfl
namespace Go.Proofs.YtbfbokdccdagkaaGreatDoor
/- THE CELL 'sum', in the pinned program and in every row, IS THE sha256 OF THE DUMP (.gsa) THAT YtbfbokdccdagkaaGreatDoorProg.lean LOADS. Nothing in Lean hashes anything: it is a label: what it is worth is what the hold of that sum in a sandbox is worth. -/
noncomputable def Tryz.pinned : Pinned := { name := "ytbfbokdccdagkaagreatdoor", sum := "f882d7cefee98b306b70f344ff98592b48561e316c6bb2e08063544573761a3a", checked := Tryz.checked }
namespace Rows
def none {H : Type} : Left H := { results := [], args := [] }

/- WHAT THE LISTED PACKAGE-LEVEL VARIABLES READ AS WHEN THE CALL BEGINS. Each datum BY PROGRAM (the guide's laid-datum.mjs) off the statement by which the dump's own 'gosem.cut.vars' lays the variable. In a bare row this is a premise. The card (YtbfbokdccdagkaaGreatDoorCards.lean) ties it to the program's text. -/
def laid_math_bits_deBruijn32tab {H : Type} : DataW H := .agg [.lit (.int .u8 0), .lit (.int .u8 1), .lit (.int .u8 28), .lit (.int .u8 2), .lit (.int .u8 29), .lit (.int .u8 14), .lit (.int .u8 24), .lit (.int .u8 3), .lit (.int .u8 30), .lit (.int .u8 22), .lit (.int .u8 20), .lit (.int .u8 15), .lit (.int .u8 25), .lit (.int .u8 17), .lit (.int .u8 4), .lit (.int .u8 8), .lit (.int .u8 31), .lit (.int .u8 27), .lit (.int .u8 13), .lit (.int .u8 23), .lit (.int .u8 21), .lit (.int .u8 19), .lit (.int .u8 16), .lit (.int .u8 7), .lit (.int .u8 26), .lit (.int .u8 12), .lit (.int .u8 18), .lit (.int .u8 6), .lit (.int .u8 11), .lit (.int .u8 5), .lit (.int .u8 10), .lit (.int .u8 9)]
def laid_math_bits_deBruijn64tab {H : Type} : DataW H := .agg [.lit (.int .u8 0), .lit (.int .u8 1), .lit (.int .u8 56), .lit (.int .u8 2), .lit (.int .u8 57), .lit (.int .u8 49), .lit (.int .u8 28), .lit (.int .u8 3), .lit (.int .u8 61), .lit (.int .u8 58), .lit (.int .u8 42), .lit (.int .u8 50), .lit (.int .u8 38), .lit (.int .u8 29), .lit (.int .u8 17), .lit (.int .u8 4), .lit (.int .u8 62), .lit (.int .u8 47), .lit (.int .u8 59), .lit (.int .u8 36), .lit (.int .u8 45), .lit (.int .u8 43), .lit (.int .u8 51), .lit (.int .u8 22), .lit (.int .u8 53), .lit (.int .u8 39), .lit (.int .u8 33), .lit (.int .u8 30), .lit (.int .u8 24), .lit (.int .u8 18), .lit (.int .u8 12), .lit (.int .u8 5), .lit (.int .u8 63), .lit (.int .u8 55), .lit (.int .u8 48), .lit (.int .u8 27), .lit (.int .u8 60), .lit (.int .u8 41), .lit (.int .u8 37), .lit (.int .u8 16), .lit (.int .u8 46), .lit (.int .u8 35), .lit (.int .u8 44), .lit (.int .u8 21), .lit (.int .u8 52), .lit (.int .u8 32), .lit (.int .u8 23), .lit (.int .u8 11), .lit (.int .u8 54), .lit (.int .u8 26), .lit (.int .u8 40), .lit (.int .u8 15), .lit (.int .u8 34), .lit (.int .u8 20), .lit (.int .u8 31), .lit (.int .u8 10), .lit (.int .u8 25), .lit (.int .u8 14), .lit (.int .u8 19), .lit (.int .u8 9), .lit (.int .u8 13), .lit (.int .u8 8), .lit (.int .u8 7), .lit (.int .u8 6)]
def laid_internal_strconv_uint64pow10 {H : Type} : DataW H := .agg [.lit (.int .u64 1), .lit (.int .u64 10), .lit (.int .u64 100), .lit (.int .u64 1000), .lit (.int .u64 10000), .lit (.int .u64 100000), .lit (.int .u64 1000000), .lit (.int .u64 10000000), .lit (.int .u64 100000000), .lit (.int .u64 1000000000), .lit (.int .u64 10000000000), .lit (.int .u64 100000000000), .lit (.int .u64 1000000000000), .lit (.int .u64 10000000000000), .lit (.int .u64 100000000000000), .lit (.int .u64 1000000000000000), .lit (.int .u64 10000000000000000), .lit (.int .u64 100000000000000000), .lit (.int .u64 1000000000000000000), .lit (.int .u64 10000000000000000000)]
def laid_unicode_utf8_acceptRanges {H : Type} : DataW H := .agg [.agg [.lit (.int .u8 128), .lit (.int .u8 191)], .agg [.lit (.int .u8 160), .lit (.int .u8 191)], .agg [.lit (.int .u8 128), .lit (.int .u8 159)], .agg [.lit (.int .u8 144), .lit (.int .u8 191)], .agg [.lit (.int .u8 128), .lit (.int .u8 143)], .agg [.lit (.int .u8 0), .lit (.int .u8 0)], .agg [.lit (.int .u8 0), .lit (.int .u8 0)], .agg [.lit (.int .u8 0), .lit (.int .u8 0)], .agg [.lit (.int .u8 0), .lit (.int .u8 0)], .agg [.lit (.int .u8 0), .lit (.int .u8 0)], .agg [.lit (.int .u8 0), .lit (.int .u8 0)], .agg [.lit (.int .u8 0), .lit (.int .u8 0)], .agg [.lit (.int .u8 0), .lit (.int .u8 0)], .agg [.lit (.int .u8 0), .lit (.int .u8 0)], .agg [.lit (.int .u8 0), .lit (.int .u8 0)], .agg [.lit (.int .u8 0), .lit (.int .u8 0)]]
def laid_tessera_names_basesTable {H : Type} : DataW H := .agg [.lit (.int .i32 192), .lit (.int .i32 214), .lit (.int .i32 216), .lit (.int .i32 246), .lit (.int .i32 248), .lit (.int .i32 767), .lit (.int .i32 880), .lit (.int .i32 893), .lit (.int .i32 895), .lit (.int .i32 8191), .lit (.int .i32 8204), .lit (.int .i32 8205), .lit (.int .i32 8304), .lit (.int .i32 8591), .lit (.int .i32 11264), .lit (.int .i32 12271), .lit (.int .i32 12289), .lit (.int .i32 55295), .lit (.int .i32 63744), .lit (.int .i32 64975), .lit (.int .i32 65008), .lit (.int .i32 65533), .lit (.int .i32 65536), .lit (.int .i32 983039)]
/-- One of Go's own tables, pinned by name: the form's constant. -/
def laid_unicode_utf8_first : DataW Unit := Go.Pinned.utf8First

/-- 'tesseralaw14.IsoClasses': WHATEVER THE INPUT: true; the input reads as it did. -/
def isoClassesSpec : ChangeSpec := { name := "isoClasses", fn := fun _ => fun
  | [d] => { results := [.lit (.bool true)], args := [d] }
  | _ => none }
def isoClassesRow : OpenClaim := { program := "ytbfbokdccdagkaagreatdoor", sum := "f882d7cefee98b306b70f344ff98592b48561e316c6bb2e08063544573761a3a", func := "tessera/tesseralaw14.IsoClasses", spec := "isoClasses", inPlace := ["internal/bytealg.abigen_runtime_cmpstring", "internal/abi.NoEscape", "internal/bytealg.MakeNoZero"], unfollowed := true, recurses := true, named := ["internal/strconv.uint64pow10", "math/bits.deBruijn32tab", "math/bits.deBruijn64tab"], plainKeys := false, apart := false, laid := [("math/bits.deBruijn32tab", laid_math_bits_deBruijn32tab), ("math/bits.deBruijn64tab", laid_math_bits_deBruijn64tab), ("internal/strconv.uint64pow10", laid_internal_strconv_uint64pow10)] }
def IsoClassesSaid : Prop := isoClassesRow.holds Tryz.pinned (OpenSpec.ofChange isoClassesSpec)

/-- ITS FALSE NEIGHBOUR: 'it returns false'. Refute it at one input. -/
def isoClassesWrong : ChangeSpec := { name := "isoClasses", fn := fun _ => fun
  | [d] => { results := [.lit (.bool false)], args := [d] }
  | _ => none }
def IsoClassesWrongFalsely : Prop := isoClassesRow.holds Tryz.pinned (OpenSpec.ofChange isoClassesWrong)

/-- 'tesseralaw14.IsoApart': WHATEVER THE INPUT: true; the input reads as it did. -/
def isoApartSpec : ChangeSpec := { name := "isoApart", fn := fun _ => fun
  | [d1, d2] => { results := [.lit (.bool true)], args := [d1, d2] }
  | _ => none }
def isoApartRow : OpenClaim := { program := "ytbfbokdccdagkaagreatdoor", sum := "f882d7cefee98b306b70f344ff98592b48561e316c6bb2e08063544573761a3a", func := "tessera/tesseralaw14.IsoApart", spec := "isoApart", inPlace := ["internal/bytealg.IndexByteString", "internal/bytealg.IndexString", "internal/bytealg.CountString", "internal/bytealg.abigen_runtime_cmpstring"], unfollowed := true, recurses := true, named := ["tessera/names.basesTable", "unicode/utf8.first", "unicode/utf8.acceptRanges", "internal/bytealg.MaxLen"], plainKeys := false, apart := false, laid := [("unicode/utf8.acceptRanges", laid_unicode_utf8_acceptRanges), ("tessera/names.basesTable", laid_tessera_names_basesTable), ("unicode/utf8.first", laid_unicode_utf8_first)] }
def IsoApartSaid : Prop := isoApartRow.holds Tryz.pinned (OpenSpec.ofChange isoApartSpec)

/-- ITS FALSE NEIGHBOUR: 'it returns false'. Refute it at one input. -/
def isoApartWrong : ChangeSpec := { name := "isoApart", fn := fun _ => fun
  | [d1, d2] => { results := [.lit (.bool false)], args := [d1, d2] }
  | _ => none }
def IsoApartWrongFalsely : Prop := isoApartRow.holds Tryz.pinned (OpenSpec.ofChange isoApartWrong)

/-- 'tesseralaw14.IsoChecks': WHATEVER THE INPUT: true; the input reads as it did. -/
def isoChecksSpec : ChangeSpec := { name := "isoChecks", fn := fun _ => fun
  | [d1, d2, d3] => { results := [.lit (.bool true)], args := [d1, d2, d3] }
  | _ => none }
def isoChecksRow : OpenClaim := { program := "ytbfbokdccdagkaagreatdoor", sum := "f882d7cefee98b306b70f344ff98592b48561e316c6bb2e08063544573761a3a", func := "tessera/tesseralaw14.IsoChecks", spec := "isoChecks", inPlace := ["internal/bytealg.IndexByteString", "internal/bytealg.IndexString", "internal/bytealg.CountString", "internal/bytealg.abigen_runtime_cmpstring"], unfollowed := true, recurses := true, named := ["tessera/names.basesTable", "unicode/utf8.first", "unicode/utf8.acceptRanges", "internal/bytealg.MaxLen"], plainKeys := false, apart := false, laid := [("unicode/utf8.acceptRanges", laid_unicode_utf8_acceptRanges), ("tessera/names.basesTable", laid_tessera_names_basesTable), ("unicode/utf8.first", laid_unicode_utf8_first)] }
def IsoChecksSaid : Prop := isoChecksRow.holds Tryz.pinned (OpenSpec.ofChange isoChecksSpec)

/-- ITS FALSE NEIGHBOUR: 'it returns false'. Refute it at one input. -/
def isoChecksWrong : ChangeSpec := { name := "isoChecks", fn := fun _ => fun
  | [d1, d2, d3] => { results := [.lit (.bool false)], args := [d1, d2, d3] }
  | _ => none }
def IsoChecksWrongFalsely : Prop := isoChecksRow.holds Tryz.pinned (OpenSpec.ofChange isoChecksWrong)

/-- 'tesseralaw14.IsoFinds': WHATEVER THE INPUT: true; the input reads as it did. -/
def isoFindsSpec : ChangeSpec := { name := "isoFinds", fn := fun _ => fun
  | [d1, d2, d3] => { results := [.lit (.bool true)], args := [d1, d2, d3] }
  | _ => none }
def isoFindsRow : OpenClaim := { program := "ytbfbokdccdagkaagreatdoor", sum := "f882d7cefee98b306b70f344ff98592b48561e316c6bb2e08063544573761a3a", func := "tessera/tesseralaw14.IsoFinds", spec := "isoFinds", inPlace := ["internal/bytealg.IndexByteString", "internal/bytealg.IndexString", "internal/bytealg.CountString", "internal/bytealg.abigen_runtime_cmpstring", "internal/abi.NoEscape", "internal/bytealg.MakeNoZero"], unfollowed := true, recurses := true, named := ["tessera/names.basesTable", "unicode/utf8.first", "unicode/utf8.acceptRanges", "internal/bytealg.MaxLen", "internal/strconv.uint64pow10", "math/bits.deBruijn32tab", "math/bits.deBruijn64tab"], plainKeys := false, apart := false, laid := [("math/bits.deBruijn32tab", laid_math_bits_deBruijn32tab), ("math/bits.deBruijn64tab", laid_math_bits_deBruijn64tab), ("internal/strconv.uint64pow10", laid_internal_strconv_uint64pow10), ("unicode/utf8.acceptRanges", laid_unicode_utf8_acceptRanges), ("tessera/names.basesTable", laid_tessera_names_basesTable), ("unicode/utf8.first", laid_unicode_utf8_first)] }
def IsoFindsSaid : Prop := isoFindsRow.holds Tryz.pinned (OpenSpec.ofChange isoFindsSpec)

/-- ITS FALSE NEIGHBOUR: 'it returns false'. Refute it at one input. -/
def isoFindsWrong : ChangeSpec := { name := "isoFinds", fn := fun _ => fun
  | [d1, d2, d3] => { results := [.lit (.bool false)], args := [d1, d2, d3] }
  | _ => none }
def IsoFindsWrongFalsely : Prop := isoFindsRow.holds Tryz.pinned (OpenSpec.ofChange isoFindsWrong)

/-- 'tesseralaw14.IsoRenamed': WHATEVER THE INPUT: true; the input reads as it did. -/
def isoRenamedSpec : ChangeSpec := { name := "isoRenamed", fn := fun _ => fun
  | [d1, d2, d3] => { results := [.lit (.bool true)], args := [d1, d2, d3] }
  | _ => none }
def isoRenamedRow : OpenClaim := { program := "ytbfbokdccdagkaagreatdoor", sum := "f882d7cefee98b306b70f344ff98592b48561e316c6bb2e08063544573761a3a", func := "tessera/tesseralaw14.IsoRenamed", spec := "isoRenamed", inPlace := ["internal/bytealg.IndexByteString", "internal/bytealg.IndexString", "internal/bytealg.CountString", "internal/bytealg.abigen_runtime_cmpstring", "internal/abi.NoEscape", "internal/bytealg.MakeNoZero"], unfollowed := true, recurses := true, named := ["tessera/names.basesTable", "unicode/utf8.first", "unicode/utf8.acceptRanges", "internal/bytealg.MaxLen", "internal/strconv.uint64pow10", "math/bits.deBruijn32tab", "math/bits.deBruijn64tab"], plainKeys := false, apart := false, laid := [("math/bits.deBruijn32tab", laid_math_bits_deBruijn32tab), ("math/bits.deBruijn64tab", laid_math_bits_deBruijn64tab), ("internal/strconv.uint64pow10", laid_internal_strconv_uint64pow10), ("unicode/utf8.acceptRanges", laid_unicode_utf8_acceptRanges), ("tessera/names.basesTable", laid_tessera_names_basesTable), ("unicode/utf8.first", laid_unicode_utf8_first)] }
def IsoRenamedSaid : Prop := isoRenamedRow.holds Tryz.pinned (OpenSpec.ofChange isoRenamedSpec)

/-- ITS FALSE NEIGHBOUR: 'it returns false'. Refute it at one input. -/
def isoRenamedWrong : ChangeSpec := { name := "isoRenamed", fn := fun _ => fun
  | [d1, d2, d3] => { results := [.lit (.bool false)], args := [d1, d2, d3] }
  | _ => none }
def IsoRenamedWrongFalsely : Prop := isoRenamedRow.holds Tryz.pinned (OpenSpec.ofChange isoRenamedWrong)

/-- 'tesseralaw14.IsoLeast': WHATEVER THE INPUT: true; the input reads as it did. -/
def isoLeastSpec : ChangeSpec := { name := "isoLeast", fn := fun _ => fun
  | [d1, d2, d3] => { results := [.lit (.bool true)], args := [d1, d2, d3] }
  | _ => none }
def isoLeastRow : OpenClaim := { program := "ytbfbokdccdagkaagreatdoor", sum := "f882d7cefee98b306b70f344ff98592b48561e316c6bb2e08063544573761a3a", func := "tessera/tesseralaw14.IsoLeast", spec := "isoLeast", inPlace := ["internal/bytealg.IndexByteString", "internal/bytealg.IndexString", "internal/bytealg.CountString", "internal/bytealg.abigen_runtime_cmpstring", "internal/abi.NoEscape", "internal/bytealg.MakeNoZero"], unfollowed := true, recurses := true, named := ["tessera/names.basesTable", "unicode/utf8.first", "unicode/utf8.acceptRanges", "internal/bytealg.MaxLen", "internal/strconv.uint64pow10", "math/bits.deBruijn32tab", "math/bits.deBruijn64tab"], plainKeys := false, apart := false, laid := [("math/bits.deBruijn32tab", laid_math_bits_deBruijn32tab), ("math/bits.deBruijn64tab", laid_math_bits_deBruijn64tab), ("internal/strconv.uint64pow10", laid_internal_strconv_uint64pow10), ("unicode/utf8.acceptRanges", laid_unicode_utf8_acceptRanges), ("tessera/names.basesTable", laid_tessera_names_basesTable), ("unicode/utf8.first", laid_unicode_utf8_first)] }
def IsoLeastSaid : Prop := isoLeastRow.holds Tryz.pinned (OpenSpec.ofChange isoLeastSpec)

/-- ITS FALSE NEIGHBOUR: 'it returns false'. Refute it at one input. -/
def isoLeastWrong : ChangeSpec := { name := "isoLeast", fn := fun _ => fun
  | [d1, d2, d3] => { results := [.lit (.bool false)], args := [d1, d2, d3] }
  | _ => none }
def IsoLeastWrongFalsely : Prop := isoLeastRow.holds Tryz.pinned (OpenSpec.ofChange isoLeastWrong)

/-- 'tesseralaw14.IsoRelates': WHATEVER THE INPUT: true; the input reads as it did. -/
def isoRelatesSpec : ChangeSpec := { name := "isoRelates", fn := fun _ => fun
  | [d1, d2, d3] => { results := [.lit (.bool true)], args := [d1, d2, d3] }
  | _ => none }
def isoRelatesRow : OpenClaim := { program := "ytbfbokdccdagkaagreatdoor", sum := "f882d7cefee98b306b70f344ff98592b48561e316c6bb2e08063544573761a3a", func := "tessera/tesseralaw14.IsoRelates", spec := "isoRelates", inPlace := ["internal/bytealg.IndexByteString", "internal/bytealg.IndexString", "internal/bytealg.CountString", "internal/bytealg.abigen_runtime_cmpstring", "internal/abi.NoEscape", "internal/bytealg.MakeNoZero"], unfollowed := true, recurses := true, named := ["tessera/names.basesTable", "unicode/utf8.first", "unicode/utf8.acceptRanges", "internal/bytealg.MaxLen", "internal/strconv.uint64pow10", "math/bits.deBruijn32tab", "math/bits.deBruijn64tab"], plainKeys := false, apart := false, laid := [("math/bits.deBruijn32tab", laid_math_bits_deBruijn32tab), ("math/bits.deBruijn64tab", laid_math_bits_deBruijn64tab), ("internal/strconv.uint64pow10", laid_internal_strconv_uint64pow10), ("unicode/utf8.acceptRanges", laid_unicode_utf8_acceptRanges), ("tessera/names.basesTable", laid_tessera_names_basesTable), ("unicode/utf8.first", laid_unicode_utf8_first)] }
def IsoRelatesSaid : Prop := isoRelatesRow.holds Tryz.pinned (OpenSpec.ofChange isoRelatesSpec)

/-- ITS FALSE NEIGHBOUR: 'it returns false'. Refute it at one input. -/
def isoRelatesWrong : ChangeSpec := { name := "isoRelates", fn := fun _ => fun
  | [d1, d2, d3] => { results := [.lit (.bool false)], args := [d1, d2, d3] }
  | _ => none }
def IsoRelatesWrongFalsely : Prop := isoRelatesRow.holds Tryz.pinned (OpenSpec.ofChange isoRelatesWrong)

/-- 'tesseralaw14.IsoUnmet': WHATEVER THE INPUT: true; the input reads as it did. -/
def isoUnmetSpec : ChangeSpec := { name := "isoUnmet", fn := fun _ => fun
  | [d1, d2] => { results := [.lit (.bool true)], args := [d1, d2] }
  | _ => none }
def isoUnmetRow : OpenClaim := { program := "ytbfbokdccdagkaagreatdoor", sum := "f882d7cefee98b306b70f344ff98592b48561e316c6bb2e08063544573761a3a", func := "tessera/tesseralaw14.IsoUnmet", spec := "isoUnmet", inPlace := ["internal/bytealg.IndexByteString", "internal/bytealg.IndexString", "internal/bytealg.CountString", "internal/bytealg.abigen_runtime_cmpstring", "internal/abi.NoEscape", "internal/bytealg.MakeNoZero"], unfollowed := true, recurses := true, named := ["tessera/names.basesTable", "unicode/utf8.first", "unicode/utf8.acceptRanges", "internal/bytealg.MaxLen", "internal/strconv.uint64pow10", "math/bits.deBruijn32tab", "math/bits.deBruijn64tab"], plainKeys := false, apart := false, laid := [("math/bits.deBruijn32tab", laid_math_bits_deBruijn32tab), ("math/bits.deBruijn64tab", laid_math_bits_deBruijn64tab), ("internal/strconv.uint64pow10", laid_internal_strconv_uint64pow10), ("unicode/utf8.acceptRanges", laid_unicode_utf8_acceptRanges), ("tessera/names.basesTable", laid_tessera_names_basesTable), ("unicode/utf8.first", laid_unicode_utf8_first)] }
def IsoUnmetSaid : Prop := isoUnmetRow.holds Tryz.pinned (OpenSpec.ofChange isoUnmetSpec)

/-- ITS FALSE NEIGHBOUR: 'it returns false'. Refute it at one input. -/
def isoUnmetWrong : ChangeSpec := { name := "isoUnmet", fn := fun _ => fun
  | [d1, d2] => { results := [.lit (.bool false)], args := [d1, d2] }
  | _ => none }
def IsoUnmetWrongFalsely : Prop := isoUnmetRow.holds Tryz.pinned (OpenSpec.ofChange isoUnmetWrong)

/- THE SECOND FORM. 'bulk': how many values and letters a reading holds, each counted each time it is reached (what is shared counts as often as it is met; a slice's spare places count too). A statement '..UptoSaid' is the law's where the arguments, and the package variables that the reading takes, are together of bulk at most 1048576: NARROWER than '..Said'. Prove '..Said' where nothing that the law and all that it calls make is longer than what came in: it says more and counts as full. Else prove '..UptoSaid'. A law counts once. -/
mutual
def uptoBulk {H : Type} : DataW H → Nat
  | .lit (.string bytes) => bytes.length + 1
  | .lit _ => 1
  | .nil => 1
  | .ptr d => uptoBulk d + 1
  | .slice elems spare => uptoBulkAll elems + uptoBulkAll spare + 1
  | .agg parts => uptoBulkAll parts + 1
  | .iface _ d => uptoBulk d + 1
  | .map entries => uptoBulkEntries entries + 1
  | .held _ => 1
def uptoBulkAll {H : Type} : List (DataW H) → Nat
  | [] => 0
  | d :: r => uptoBulk d + uptoBulkAll r
def uptoBulkEntries {H : Type} : List (Lit × DataW H) → Nat
  | [] => 0
  | x :: r => uptoBulkEntry x + uptoBulkEntries r
def uptoBulkEntry {H : Type} : Lit × DataW H → Nat
  | (.string bytes, d) => bytes.length + uptoBulk d + 1
  | (_, d) => uptoBulk d + 1
 end
def uptoSmall : (H : Type) → List (DataW H) → Bool := fun _ ds => decide (uptoBulkAll ds ≤ 1048576)
def OpenSpec.upto (s : _root_.Go.ChangeSpec) : _root_.Go.OpenSpec := { _root_.Go.OpenSpec.ofChange s with cond := some uptoSmall }

/-- 'tesseralaw14.IsoClasses', WHERE WHAT IT READS IS OF BULK AT MOST 1048576: true; the input reads as it did. -/
def isoClassesUptoRow : OpenClaim := { program := "ytbfbokdccdagkaagreatdoor", sum := "f882d7cefee98b306b70f344ff98592b48561e316c6bb2e08063544573761a3a", func := "tessera/tesseralaw14.IsoClasses", spec := "isoClasses", inPlace := ["internal/bytealg.abigen_runtime_cmpstring", "internal/abi.NoEscape", "internal/bytealg.MakeNoZero"], unfollowed := true, recurses := true, named := ["internal/strconv.uint64pow10", "math/bits.deBruijn32tab", "math/bits.deBruijn64tab"], plainKeys := false, apart := false, laid := [("math/bits.deBruijn32tab", laid_math_bits_deBruijn32tab), ("math/bits.deBruijn64tab", laid_math_bits_deBruijn64tab), ("internal/strconv.uint64pow10", laid_internal_strconv_uint64pow10)], narrowed := true }
def IsoClassesUptoSaid : Prop := isoClassesUptoRow.holds Tryz.pinned (OpenSpec.upto isoClassesSpec)

/-- 'tesseralaw14.IsoApart', WHERE WHAT IT READS IS OF BULK AT MOST 1048576: true; the input reads as it did. -/
def isoApartUptoRow : OpenClaim := { program := "ytbfbokdccdagkaagreatdoor", sum := "f882d7cefee98b306b70f344ff98592b48561e316c6bb2e08063544573761a3a", func := "tessera/tesseralaw14.IsoApart", spec := "isoApart", inPlace := ["internal/bytealg.IndexByteString", "internal/bytealg.IndexString", "internal/bytealg.CountString", "internal/bytealg.abigen_runtime_cmpstring"], unfollowed := true, recurses := true, named := ["tessera/names.basesTable", "unicode/utf8.first", "unicode/utf8.acceptRanges", "internal/bytealg.MaxLen"], plainKeys := false, apart := false, laid := [("unicode/utf8.acceptRanges", laid_unicode_utf8_acceptRanges), ("tessera/names.basesTable", laid_tessera_names_basesTable), ("unicode/utf8.first", laid_unicode_utf8_first)], narrowed := true }
def IsoApartUptoSaid : Prop := isoApartUptoRow.holds Tryz.pinned (OpenSpec.upto isoApartSpec)

/-- 'tesseralaw14.IsoChecks', WHERE WHAT IT READS IS OF BULK AT MOST 1048576: true; the input reads as it did. -/
def isoChecksUptoRow : OpenClaim := { program := "ytbfbokdccdagkaagreatdoor", sum := "f882d7cefee98b306b70f344ff98592b48561e316c6bb2e08063544573761a3a", func := "tessera/tesseralaw14.IsoChecks", spec := "isoChecks", inPlace := ["internal/bytealg.IndexByteString", "internal/bytealg.IndexString", "internal/bytealg.CountString", "internal/bytealg.abigen_runtime_cmpstring"], unfollowed := true, recurses := true, named := ["tessera/names.basesTable", "unicode/utf8.first", "unicode/utf8.acceptRanges", "internal/bytealg.MaxLen"], plainKeys := false, apart := false, laid := [("unicode/utf8.acceptRanges", laid_unicode_utf8_acceptRanges), ("tessera/names.basesTable", laid_tessera_names_basesTable), ("unicode/utf8.first", laid_unicode_utf8_first)], narrowed := true }
def IsoChecksUptoSaid : Prop := isoChecksUptoRow.holds Tryz.pinned (OpenSpec.upto isoChecksSpec)

/-- 'tesseralaw14.IsoFinds', WHERE WHAT IT READS IS OF BULK AT MOST 1048576: true; the input reads as it did. -/
def isoFindsUptoRow : OpenClaim := { program := "ytbfbokdccdagkaagreatdoor", sum := "f882d7cefee98b306b70f344ff98592b48561e316c6bb2e08063544573761a3a", func := "tessera/tesseralaw14.IsoFinds", spec := "isoFinds", inPlace := ["internal/bytealg.IndexByteString", "internal/bytealg.IndexString", "internal/bytealg.CountString", "internal/bytealg.abigen_runtime_cmpstring", "internal/abi.NoEscape", "internal/bytealg.MakeNoZero"], unfollowed := true, recurses := true, named := ["tessera/names.basesTable", "unicode/utf8.first", "unicode/utf8.acceptRanges", "internal/bytealg.MaxLen", "internal/strconv.uint64pow10", "math/bits.deBruijn32tab", "math/bits.deBruijn64tab"], plainKeys := false, apart := false, laid := [("math/bits.deBruijn32tab", laid_math_bits_deBruijn32tab), ("math/bits.deBruijn64tab", laid_math_bits_deBruijn64tab), ("internal/strconv.uint64pow10", laid_internal_strconv_uint64pow10), ("unicode/utf8.acceptRanges", laid_unicode_utf8_acceptRanges), ("tessera/names.basesTable", laid_tessera_names_basesTable), ("unicode/utf8.first", laid_unicode_utf8_first)], narrowed := true }
def IsoFindsUptoSaid : Prop := isoFindsUptoRow.holds Tryz.pinned (OpenSpec.upto isoFindsSpec)

/-- 'tesseralaw14.IsoRenamed', WHERE WHAT IT READS IS OF BULK AT MOST 1048576: true; the input reads as it did. -/
def isoRenamedUptoRow : OpenClaim := { program := "ytbfbokdccdagkaagreatdoor", sum := "f882d7cefee98b306b70f344ff98592b48561e316c6bb2e08063544573761a3a", func := "tessera/tesseralaw14.IsoRenamed", spec := "isoRenamed", inPlace := ["internal/bytealg.IndexByteString", "internal/bytealg.IndexString", "internal/bytealg.CountString", "internal/bytealg.abigen_runtime_cmpstring", "internal/abi.NoEscape", "internal/bytealg.MakeNoZero"], unfollowed := true, recurses := true, named := ["tessera/names.basesTable", "unicode/utf8.first", "unicode/utf8.acceptRanges", "internal/bytealg.MaxLen", "internal/strconv.uint64pow10", "math/bits.deBruijn32tab", "math/bits.deBruijn64tab"], plainKeys := false, apart := false, laid := [("math/bits.deBruijn32tab", laid_math_bits_deBruijn32tab), ("math/bits.deBruijn64tab", laid_math_bits_deBruijn64tab), ("internal/strconv.uint64pow10", laid_internal_strconv_uint64pow10), ("unicode/utf8.acceptRanges", laid_unicode_utf8_acceptRanges), ("tessera/names.basesTable", laid_tessera_names_basesTable), ("unicode/utf8.first", laid_unicode_utf8_first)], narrowed := true }
def IsoRenamedUptoSaid : Prop := isoRenamedUptoRow.holds Tryz.pinned (OpenSpec.upto isoRenamedSpec)

/-- 'tesseralaw14.IsoLeast', WHERE WHAT IT READS IS OF BULK AT MOST 1048576: true; the input reads as it did. -/
def isoLeastUptoRow : OpenClaim := { program := "ytbfbokdccdagkaagreatdoor", sum := "f882d7cefee98b306b70f344ff98592b48561e316c6bb2e08063544573761a3a", func := "tessera/tesseralaw14.IsoLeast", spec := "isoLeast", inPlace := ["internal/bytealg.IndexByteString", "internal/bytealg.IndexString", "internal/bytealg.CountString", "internal/bytealg.abigen_runtime_cmpstring", "internal/abi.NoEscape", "internal/bytealg.MakeNoZero"], unfollowed := true, recurses := true, named := ["tessera/names.basesTable", "unicode/utf8.first", "unicode/utf8.acceptRanges", "internal/bytealg.MaxLen", "internal/strconv.uint64pow10", "math/bits.deBruijn32tab", "math/bits.deBruijn64tab"], plainKeys := false, apart := false, laid := [("math/bits.deBruijn32tab", laid_math_bits_deBruijn32tab), ("math/bits.deBruijn64tab", laid_math_bits_deBruijn64tab), ("internal/strconv.uint64pow10", laid_internal_strconv_uint64pow10), ("unicode/utf8.acceptRanges", laid_unicode_utf8_acceptRanges), ("tessera/names.basesTable", laid_tessera_names_basesTable), ("unicode/utf8.first", laid_unicode_utf8_first)], narrowed := true }
def IsoLeastUptoSaid : Prop := isoLeastUptoRow.holds Tryz.pinned (OpenSpec.upto isoLeastSpec)

/-- 'tesseralaw14.IsoRelates', WHERE WHAT IT READS IS OF BULK AT MOST 1048576: true; the input reads as it did. -/
def isoRelatesUptoRow : OpenClaim := { program := "ytbfbokdccdagkaagreatdoor", sum := "f882d7cefee98b306b70f344ff98592b48561e316c6bb2e08063544573761a3a", func := "tessera/tesseralaw14.IsoRelates", spec := "isoRelates", inPlace := ["internal/bytealg.IndexByteString", "internal/bytealg.IndexString", "internal/bytealg.CountString", "internal/bytealg.abigen_runtime_cmpstring", "internal/abi.NoEscape", "internal/bytealg.MakeNoZero"], unfollowed := true, recurses := true, named := ["tessera/names.basesTable", "unicode/utf8.first", "unicode/utf8.acceptRanges", "internal/bytealg.MaxLen", "internal/strconv.uint64pow10", "math/bits.deBruijn32tab", "math/bits.deBruijn64tab"], plainKeys := false, apart := false, laid := [("math/bits.deBruijn32tab", laid_math_bits_deBruijn32tab), ("math/bits.deBruijn64tab", laid_math_bits_deBruijn64tab), ("internal/strconv.uint64pow10", laid_internal_strconv_uint64pow10), ("unicode/utf8.acceptRanges", laid_unicode_utf8_acceptRanges), ("tessera/names.basesTable", laid_tessera_names_basesTable), ("unicode/utf8.first", laid_unicode_utf8_first)], narrowed := true }
def IsoRelatesUptoSaid : Prop := isoRelatesUptoRow.holds Tryz.pinned (OpenSpec.upto isoRelatesSpec)

/-- 'tesseralaw14.IsoUnmet', WHERE WHAT IT READS IS OF BULK AT MOST 1048576: true; the input reads as it did. -/
def isoUnmetUptoRow : OpenClaim := { program := "ytbfbokdccdagkaagreatdoor", sum := "f882d7cefee98b306b70f344ff98592b48561e316c6bb2e08063544573761a3a", func := "tessera/tesseralaw14.IsoUnmet", spec := "isoUnmet", inPlace := ["internal/bytealg.IndexByteString", "internal/bytealg.IndexString", "internal/bytealg.CountString", "internal/bytealg.abigen_runtime_cmpstring", "internal/abi.NoEscape", "internal/bytealg.MakeNoZero"], unfollowed := true, recurses := true, named := ["tessera/names.basesTable", "unicode/utf8.first", "unicode/utf8.acceptRanges", "internal/bytealg.MaxLen", "internal/strconv.uint64pow10", "math/bits.deBruijn32tab", "math/bits.deBruijn64tab"], plainKeys := false, apart := false, laid := [("math/bits.deBruijn32tab", laid_math_bits_deBruijn32tab), ("math/bits.deBruijn64tab", laid_math_bits_deBruijn64tab), ("internal/strconv.uint64pow10", laid_internal_strconv_uint64pow10), ("unicode/utf8.acceptRanges", laid_unicode_utf8_acceptRanges), ("tessera/names.basesTable", laid_tessera_names_basesTable), ("unicode/utf8.first", laid_unicode_utf8_first)], narrowed := true }
def IsoUnmetUptoSaid : Prop := isoUnmetUptoRow.holds Tryz.pinned (OpenSpec.upto isoUnmetSpec)

end Rows
end Go.Proofs.YtbfbokdccdagkaaGreatDoor
