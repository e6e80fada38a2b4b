/-
  No cell of these rows narrows 'for every input' (looked for: loops, veiled, ifaces, maps, wideKeys, modest, calm, conditions, laid).
  DERIVED. THE GIVEN ROWS OF THIS SEAT. 3 by the template 'for every input the law returns true; each argument reads behind the call as it read before'; 0 by the template 'total and deterministic' (their statements: YtillkgjdbnjnoaaTotals.lean).
  GIVEN WITH THE SEED: the statements are not yours to turn. If you find one false, say at which input.
  Laid BY PROGRAM, IN A SANDBOX (cutbox-rows.mjs): the forced cells as the released guide's own fill.sh prints them over the translation b6d5067b577d54d5… (all of the seat's roots in one cut). By AI agents, Wed Nov 11 2026. No macro, syntax, notation, axiom, sorry.
-/
import Derived.Test.YtillkgjdbnjnoaaChecked
import GoSem.Claim
import GoSem.ClaimJoined
import GoSem.ClaimMapViews
import Derived.JoinedTies
import Derived.KernelRfl
namespace Go.Proofs.Ytillkgjdbnjnoaa
/- THE CELL 'sum', in the pinned program and in every row, IS THE sha256 OF THE DUMP (.gsa) THAT YtillkgjdbnjnoaaProg.lean LOADS. Nothing in Lean hashes anything: it is a label: what it is worth is what the hold of that sum in a sandbox is worth. -/
noncomputable def Try.pinned : Pinned := { name := "ytillkgjdbnjnoaa", sum := "b6d5067b577d54d5ddab930ee1c43b4a56f790c1b8373bf51d18b18eb39dbc83", checked := Try.checked }
namespace Rows
def none {H : Type} : Left H := { results := [], args := [] }

/-- 'tesseralaw07.TermMatches': WHATEVER THE INPUT: true; the input reads as it did. -/
def termMatchesSpec : ChangeSpec := { name := "termMatches", fn := fun _ => fun
  | [d1, d2, d3, d4] => { results := [.lit (.bool true)], args := [d1, d2, d3, d4] }
  | _ => none }
def termMatchesRow : OpenClaim := { program := "ytillkgjdbnjnoaa", sum := "b6d5067b577d54d5ddab930ee1c43b4a56f790c1b8373bf51d18b18eb39dbc83", func := "tessera/tesseralaw07.TermMatches", spec := "termMatches", unfollowed := true, recurses := true, apart := false }
def TermMatchesSaid : Prop := termMatchesRow.holds Try.pinned (OpenSpec.ofChange termMatchesSpec)

/-- ITS FALSE NEIGHBOUR: 'it returns false'. Refute it at one input. -/
def termMatchesWrong : ChangeSpec := { name := "termMatches", fn := fun _ => fun
  | [d1, d2, d3, d4] => { results := [.lit (.bool false)], args := [d1, d2, d3, d4] }
  | _ => none }
def TermMatchesWrongFalsely : Prop := termMatchesRow.holds Try.pinned (OpenSpec.ofChange termMatchesWrong)

/-- 'tesseralaw07.TermSets': WHATEVER THE INPUT: true; the input reads as it did. -/
def termSetsSpec : ChangeSpec := { name := "termSets", fn := fun _ => fun
  | [d1, d2, d3] => { results := [.lit (.bool true)], args := [d1, d2, d3] }
  | _ => none }
def termSetsRow : OpenClaim := { program := "ytillkgjdbnjnoaa", sum := "b6d5067b577d54d5ddab930ee1c43b4a56f790c1b8373bf51d18b18eb39dbc83", func := "tessera/tesseralaw07.TermSets", spec := "termSets", inPlace := ["internal/bytealg.abigen_runtime_cmpstring"], unfollowed := true, recurses := true, apart := false }
def TermSetsSaid : Prop := termSetsRow.holds Try.pinned (OpenSpec.ofChange termSetsSpec)

/-- ITS FALSE NEIGHBOUR: 'it returns false'. Refute it at one input. -/
def termSetsWrong : ChangeSpec := { name := "termSets", fn := fun _ => fun
  | [d1, d2, d3] => { results := [.lit (.bool false)], args := [d1, d2, d3] }
  | _ => none }
def TermSetsWrongFalsely : Prop := termSetsRow.holds Try.pinned (OpenSpec.ofChange termSetsWrong)

/-- 'tesseralaw07.TermLists': WHATEVER THE INPUT: true; the input reads as it did. -/
def termListsSpec : ChangeSpec := { name := "termLists", fn := fun _ => fun
  | [d1, d2] => { results := [.lit (.bool true)], args := [d1, d2] }
  | _ => none }
def termListsRow : OpenClaim := { program := "ytillkgjdbnjnoaa", sum := "b6d5067b577d54d5ddab930ee1c43b4a56f790c1b8373bf51d18b18eb39dbc83", func := "tessera/tesseralaw07.TermLists", spec := "termLists", inPlace := ["internal/bytealg.abigen_runtime_cmpstring"], unfollowed := true, recurses := true, apart := false }
def TermListsSaid : Prop := termListsRow.holds Try.pinned (OpenSpec.ofChange termListsSpec)

/-- ITS FALSE NEIGHBOUR: 'it returns false'. Refute it at one input. -/
def termListsWrong : ChangeSpec := { name := "termLists", fn := fun _ => fun
  | [d1, d2] => { results := [.lit (.bool false)], args := [d1, d2] }
  | _ => none }
def TermListsWrongFalsely : Prop := termListsRow.holds Try.pinned (OpenSpec.ofChange termListsWrong)

/- THE SECOND FORM. 'bulk': how many values and letters a reading holds, each counted each time it is reached (what is shared counts as often as it is met; a slice's spare places count too). A statement '..UptoSaid' is the law's where the arguments, and the package variables that the reading takes, are together of bulk at most 1048576: NARROWER than '..Said'. Prove '..Said' where nothing that the law and all that it calls make is longer than what came in: it says more and counts as full. Else prove '..UptoSaid'. A law counts once. -/
mutual
def uptoBulk {H : Type} : DataW H → Nat
  | .lit (.string bytes) => bytes.length + 1
  | .lit _ => 1
  | .nil => 1
  | .ptr d => uptoBulk d + 1
  | .slice elems spare => uptoBulkAll elems + uptoBulkAll spare + 1
  | .agg parts => uptoBulkAll parts + 1
  | .iface _ d => uptoBulk d + 1
  | .map entries => uptoBulkEntries entries + 1
  | .held _ => 1
def uptoBulkAll {H : Type} : List (DataW H) → Nat
  | [] => 0
  | d :: r => uptoBulk d + uptoBulkAll r
def uptoBulkEntries {H : Type} : List (Lit × DataW H) → Nat
  | [] => 0
  | x :: r => uptoBulkEntry x + uptoBulkEntries r
def uptoBulkEntry {H : Type} : Lit × DataW H → Nat
  | (.string bytes, d) => bytes.length + uptoBulk d + 1
  | (_, d) => uptoBulk d + 1
 end
def uptoSmall : (H : Type) → List (DataW H) → Bool := fun _ ds => decide (uptoBulkAll ds ≤ 1048576)
def OpenSpec.upto (s : _root_.Go.ChangeSpec) : _root_.Go.OpenSpec := { _root_.Go.OpenSpec.ofChange s with cond := some uptoSmall }

/-- 'tesseralaw07.TermMatches', WHERE WHAT IT READS IS OF BULK AT MOST 1048576: true; the input reads as it did. -/
def termMatchesUptoRow : OpenClaim := { program := "ytillkgjdbnjnoaa", sum := "b6d5067b577d54d5ddab930ee1c43b4a56f790c1b8373bf51d18b18eb39dbc83", func := "tessera/tesseralaw07.TermMatches", spec := "termMatches", unfollowed := true, recurses := true, apart := false, narrowed := true }
def TermMatchesUptoSaid : Prop := termMatchesUptoRow.holds Try.pinned (OpenSpec.upto termMatchesSpec)

/-- 'tesseralaw07.TermSets', WHERE WHAT IT READS IS OF BULK AT MOST 1048576: true; the input reads as it did. -/
def termSetsUptoRow : OpenClaim := { program := "ytillkgjdbnjnoaa", sum := "b6d5067b577d54d5ddab930ee1c43b4a56f790c1b8373bf51d18b18eb39dbc83", func := "tessera/tesseralaw07.TermSets", spec := "termSets", inPlace := ["internal/bytealg.abigen_runtime_cmpstring"], unfollowed := true, recurses := true, apart := false, narrowed := true }
def TermSetsUptoSaid : Prop := termSetsUptoRow.holds Try.pinned (OpenSpec.upto termSetsSpec)

/-- 'tesseralaw07.TermLists', WHERE WHAT IT READS IS OF BULK AT MOST 1048576: true; the input reads as it did. -/
def termListsUptoRow : OpenClaim := { program := "ytillkgjdbnjnoaa", sum := "b6d5067b577d54d5ddab930ee1c43b4a56f790c1b8373bf51d18b18eb39dbc83", func := "tessera/tesseralaw07.TermLists", spec := "termLists", inPlace := ["internal/bytealg.abigen_runtime_cmpstring"], unfollowed := true, recurses := true, apart := false, narrowed := true }
def TermListsUptoSaid : Prop := termListsUptoRow.holds Try.pinned (OpenSpec.upto termListsSpec)

end Rows
end Go.Proofs.Ytillkgjdbnjnoaa
