/-
  No cell of these rows narrows 'for every input' (looked for: loops, veiled, ifaces, maps, wideKeys, modest, calm, conditions, laid).
  DERIVED. THE GIVEN ROWS OF THIS SEAT. 5 by the template 'for every input the law returns true; each argument reads behind the call as it read before'; 0 by the template 'total and deterministic' (their statements: YtpffclpheldabaaTotals.lean).
  GIVEN WITH THE SEED: the statements are not yours to turn. If you find one false, say at which input.
  Laid BY PROGRAM, IN A SANDBOX (cutbox-rows.mjs): the forced cells as the released guide's own fill.sh prints them over the translation 8c4a8cd686484c73… (all of the seat's roots in one cut). By AI agents, Wed Nov 11 2026. No macro, syntax, notation, axiom, sorry.
-/
import Derived.Test.YtpffclpheldabaaChecked
import GoSem.Claim
import GoSem.ClaimJoined
import GoSem.ClaimMapViews
import Derived.JoinedTies
import Derived.KernelRfl
namespace Go.Proofs.Ytpffclpheldabaa
/- THE CELL 'sum', in the pinned program and in every row, IS THE sha256 OF THE DUMP (.gsa) THAT YtpffclpheldabaaProg.lean LOADS. Nothing in Lean hashes anything: it is a label: what it is worth is what the hold of that sum in a sandbox is worth. -/
noncomputable def Try.pinned : Pinned := { name := "ytpffclpheldabaa", sum := "8c4a8cd686484c73920c77af44b5a34ecf9c409ea3b52f126c10c53a599bd5b2", checked := Try.checked }
namespace Rows
def none {H : Type} : Left H := { results := [], args := [] }

/-- 'tesseralaw07.TermMatches': WHATEVER THE INPUT: true; the input reads as it did. -/
def termMatchesSpec : ChangeSpec := { name := "termMatches", fn := fun _ => fun
  | [d1, d2, d3, d4] => { results := [.lit (.bool true)], args := [d1, d2, d3, d4] }
  | _ => none }
def termMatchesRow : OpenClaim := { program := "ytpffclpheldabaa", sum := "8c4a8cd686484c73920c77af44b5a34ecf9c409ea3b52f126c10c53a599bd5b2", func := "tessera/tesseralaw07.TermMatches", spec := "termMatches", unfollowed := true, recurses := true, apart := false }
def TermMatchesSaid : Prop := termMatchesRow.holds Try.pinned (OpenSpec.ofChange termMatchesSpec)

/-- ITS FALSE NEIGHBOUR: 'it returns false'. Refute it at one input. -/
def termMatchesWrong : ChangeSpec := { name := "termMatches", fn := fun _ => fun
  | [d1, d2, d3, d4] => { results := [.lit (.bool false)], args := [d1, d2, d3, d4] }
  | _ => none }
def TermMatchesWrongFalsely : Prop := termMatchesRow.holds Try.pinned (OpenSpec.ofChange termMatchesWrong)

/-- 'tesseralaw07.TermOrders': WHATEVER THE INPUT: true; the input reads as it did. -/
def termOrdersSpec : ChangeSpec := { name := "termOrders", fn := fun _ => fun
  | [d1, d2] => { results := [.lit (.bool true)], args := [d1, d2] }
  | _ => none }
def termOrdersRow : OpenClaim := { program := "ytpffclpheldabaa", sum := "8c4a8cd686484c73920c77af44b5a34ecf9c409ea3b52f126c10c53a599bd5b2", func := "tessera/tesseralaw07.TermOrders", spec := "termOrders", inPlace := ["internal/bytealg.abigen_runtime_cmpstring"], apart := false }
def TermOrdersSaid : Prop := termOrdersRow.holds Try.pinned (OpenSpec.ofChange termOrdersSpec)

/-- ITS FALSE NEIGHBOUR: 'it returns false'. Refute it at one input. -/
def termOrdersWrong : ChangeSpec := { name := "termOrders", fn := fun _ => fun
  | [d1, d2] => { results := [.lit (.bool false)], args := [d1, d2] }
  | _ => none }
def TermOrdersWrongFalsely : Prop := termOrdersRow.holds Try.pinned (OpenSpec.ofChange termOrdersWrong)

/-- 'tesseralaw07.TermOne': WHATEVER THE INPUT: true; the input reads as it did. -/
def termOneSpec : ChangeSpec := { name := "termOne", fn := fun _ => fun
  | [d1, d2, d3] => { results := [.lit (.bool true)], args := [d1, d2, d3] }
  | _ => none }
def termOneRow : OpenClaim := { program := "ytpffclpheldabaa", sum := "8c4a8cd686484c73920c77af44b5a34ecf9c409ea3b52f126c10c53a599bd5b2", func := "tessera/tesseralaw07.TermOne", spec := "termOne", inPlace := ["internal/bytealg.abigen_runtime_cmpstring"], apart := false }
def TermOneSaid : Prop := termOneRow.holds Try.pinned (OpenSpec.ofChange termOneSpec)

/-- ITS FALSE NEIGHBOUR: 'it returns false'. Refute it at one input. -/
def termOneWrong : ChangeSpec := { name := "termOne", fn := fun _ => fun
  | [d1, d2, d3] => { results := [.lit (.bool false)], args := [d1, d2, d3] }
  | _ => none }
def TermOneWrongFalsely : Prop := termOneRow.holds Try.pinned (OpenSpec.ofChange termOneWrong)

/-- 'tesseralaw07.TermSets': WHATEVER THE INPUT: true; the input reads as it did. -/
def termSetsSpec : ChangeSpec := { name := "termSets", fn := fun _ => fun
  | [d1, d2, d3] => { results := [.lit (.bool true)], args := [d1, d2, d3] }
  | _ => none }
def termSetsRow : OpenClaim := { program := "ytpffclpheldabaa", sum := "8c4a8cd686484c73920c77af44b5a34ecf9c409ea3b52f126c10c53a599bd5b2", func := "tessera/tesseralaw07.TermSets", spec := "termSets", inPlace := ["internal/bytealg.abigen_runtime_cmpstring"], unfollowed := true, recurses := true, apart := false }
def TermSetsSaid : Prop := termSetsRow.holds Try.pinned (OpenSpec.ofChange termSetsSpec)

/-- ITS FALSE NEIGHBOUR: 'it returns false'. Refute it at one input. -/
def termSetsWrong : ChangeSpec := { name := "termSets", fn := fun _ => fun
  | [d1, d2, d3] => { results := [.lit (.bool false)], args := [d1, d2, d3] }
  | _ => none }
def TermSetsWrongFalsely : Prop := termSetsRow.holds Try.pinned (OpenSpec.ofChange termSetsWrong)

/-- 'tesseralaw07.TermLists': WHATEVER THE INPUT: true; the input reads as it did. -/
def termListsSpec : ChangeSpec := { name := "termLists", fn := fun _ => fun
  | [d1, d2] => { results := [.lit (.bool true)], args := [d1, d2] }
  | _ => none }
def termListsRow : OpenClaim := { program := "ytpffclpheldabaa", sum := "8c4a8cd686484c73920c77af44b5a34ecf9c409ea3b52f126c10c53a599bd5b2", func := "tessera/tesseralaw07.TermLists", spec := "termLists", inPlace := ["internal/bytealg.abigen_runtime_cmpstring"], unfollowed := true, recurses := true, apart := false }
def TermListsSaid : Prop := termListsRow.holds Try.pinned (OpenSpec.ofChange termListsSpec)

/-- ITS FALSE NEIGHBOUR: 'it returns false'. Refute it at one input. -/
def termListsWrong : ChangeSpec := { name := "termLists", fn := fun _ => fun
  | [d1, d2] => { results := [.lit (.bool false)], args := [d1, d2] }
  | _ => none }
def TermListsWrongFalsely : Prop := termListsRow.holds Try.pinned (OpenSpec.ofChange termListsWrong)

/- THE SECOND FORM. 'bulk': how many values and letters a reading holds, each counted each time it is reached (what is shared counts as often as it is met; a slice's spare places count too). A statement '..UptoSaid' is the law's where the arguments, and the package variables that the reading takes, are together of bulk at most 1048576: NARROWER than '..Said'. Prove '..Said' where nothing that the law and all that it calls make is longer than what came in: it says more and counts as full. Else prove '..UptoSaid'. A law counts once. -/
mutual
def uptoBulk {H : Type} : DataW H → Nat
  | .lit (.string bytes) => bytes.length + 1
  | .lit _ => 1
  | .nil => 1
  | .ptr d => uptoBulk d + 1
  | .slice elems spare => uptoBulkAll elems + uptoBulkAll spare + 1
  | .agg parts => uptoBulkAll parts + 1
  | .iface _ d => uptoBulk d + 1
  | .map entries => uptoBulkEntries entries + 1
  | .held _ => 1
def uptoBulkAll {H : Type} : List (DataW H) → Nat
  | [] => 0
  | d :: r => uptoBulk d + uptoBulkAll r
def uptoBulkEntries {H : Type} : List (Lit × DataW H) → Nat
  | [] => 0
  | x :: r => uptoBulkEntry x + uptoBulkEntries r
def uptoBulkEntry {H : Type} : Lit × DataW H → Nat
  | (.string bytes, d) => bytes.length + uptoBulk d + 1
  | (_, d) => uptoBulk d + 1
 end
def uptoSmall : (H : Type) → List (DataW H) → Bool := fun _ ds => decide (uptoBulkAll ds ≤ 1048576)
def OpenSpec.upto (s : _root_.Go.ChangeSpec) : _root_.Go.OpenSpec := { _root_.Go.OpenSpec.ofChange s with cond := some uptoSmall }

/-- 'tesseralaw07.TermMatches', WHERE WHAT IT READS IS OF BULK AT MOST 1048576: true; the input reads as it did. -/
def termMatchesUptoRow : OpenClaim := { program := "ytpffclpheldabaa", sum := "8c4a8cd686484c73920c77af44b5a34ecf9c409ea3b52f126c10c53a599bd5b2", func := "tessera/tesseralaw07.TermMatches", spec := "termMatches", unfollowed := true, recurses := true, apart := false, narrowed := true }
def TermMatchesUptoSaid : Prop := termMatchesUptoRow.holds Try.pinned (OpenSpec.upto termMatchesSpec)

/-- 'tesseralaw07.TermOrders', WHERE WHAT IT READS IS OF BULK AT MOST 1048576: true; the input reads as it did. -/
def termOrdersUptoRow : OpenClaim := { program := "ytpffclpheldabaa", sum := "8c4a8cd686484c73920c77af44b5a34ecf9c409ea3b52f126c10c53a599bd5b2", func := "tessera/tesseralaw07.TermOrders", spec := "termOrders", inPlace := ["internal/bytealg.abigen_runtime_cmpstring"], apart := false, narrowed := true }
def TermOrdersUptoSaid : Prop := termOrdersUptoRow.holds Try.pinned (OpenSpec.upto termOrdersSpec)

/-- 'tesseralaw07.TermOne', WHERE WHAT IT READS IS OF BULK AT MOST 1048576: true; the input reads as it did. -/
def termOneUptoRow : OpenClaim := { program := "ytpffclpheldabaa", sum := "8c4a8cd686484c73920c77af44b5a34ecf9c409ea3b52f126c10c53a599bd5b2", func := "tessera/tesseralaw07.TermOne", spec := "termOne", inPlace := ["internal/bytealg.abigen_runtime_cmpstring"], apart := false, narrowed := true }
def TermOneUptoSaid : Prop := termOneUptoRow.holds Try.pinned (OpenSpec.upto termOneSpec)

/-- 'tesseralaw07.TermSets', WHERE WHAT IT READS IS OF BULK AT MOST 1048576: true; the input reads as it did. -/
def termSetsUptoRow : OpenClaim := { program := "ytpffclpheldabaa", sum := "8c4a8cd686484c73920c77af44b5a34ecf9c409ea3b52f126c10c53a599bd5b2", func := "tessera/tesseralaw07.TermSets", spec := "termSets", inPlace := ["internal/bytealg.abigen_runtime_cmpstring"], unfollowed := true, recurses := true, apart := false, narrowed := true }
def TermSetsUptoSaid : Prop := termSetsUptoRow.holds Try.pinned (OpenSpec.upto termSetsSpec)

/-- 'tesseralaw07.TermLists', WHERE WHAT IT READS IS OF BULK AT MOST 1048576: true; the input reads as it did. -/
def termListsUptoRow : OpenClaim := { program := "ytpffclpheldabaa", sum := "8c4a8cd686484c73920c77af44b5a34ecf9c409ea3b52f126c10c53a599bd5b2", func := "tessera/tesseralaw07.TermLists", spec := "termLists", inPlace := ["internal/bytealg.abigen_runtime_cmpstring"], unfollowed := true, recurses := true, apart := false, narrowed := true }
def TermListsUptoSaid : Prop := termListsUptoRow.holds Try.pinned (OpenSpec.upto termListsSpec)

end Rows
end Go.Proofs.Ytpffclpheldabaa
