/-
  No cell of these rows narrows 'for every input' (looked for: loops, veiled, ifaces, maps, wideKeys, modest, calm, conditions, laid).
  DERIVED. THE GIVEN ROWS OF THIS SEAT. 14 by the template 'for every input the law returns true; each argument reads behind the call as it read before'; 0 by the template 'total and deterministic' (their statements: YtnahijjohgjbdaaTotals.lean).
  GIVEN WITH THE SEED: the statements are not yours to turn. If you find one false, say at which input.
  Laid BY PROGRAM, IN A SANDBOX (cutbox-rows.mjs): the forced cells as the released guide's own fill.sh prints them over the translation c963743b0b91d5e3… (all of the seat's roots in one cut). By AI agents, Wed Nov 11 2026. No macro, syntax, notation, axiom, sorry.
-/
import Derived.Test.YtnahijjohgjbdaaChecked
import GoSem.Claim
import GoSem.ClaimJoined
import GoSem.ClaimMapViews
import Derived.JoinedTies
import Derived.KernelRfl
namespace Go.Proofs.Ytnahijjohgjbdaa
/- THE CELL 'sum', in the pinned program and in every row, IS THE sha256 OF THE DUMP (.gsa) THAT YtnahijjohgjbdaaProg.lean LOADS. Nothing in Lean hashes anything: it is a label: what it is worth is what the hold of that sum in a sandbox is worth. -/
noncomputable def Try.pinned : Pinned := { name := "ytnahijjohgjbdaa", sum := "c963743b0b91d5e377bf381a14b38b4afde56e5b829eea5a5a4c1a4ca5cdc264", checked := Try.checked }
namespace Rows
def none {H : Type} : Left H := { results := [], args := [] }

/-- 'satchellaw17.PackPuts': WHATEVER THE INPUT: true; the input reads as it did. -/
def packPutsSpec : ChangeSpec := { name := "packPuts", fn := fun _ => fun
  | [d1, d2] => { results := [.lit (.bool true)], args := [d1, d2] }
  | _ => none }
def packPutsRow : OpenClaim := { program := "ytnahijjohgjbdaa", sum := "c963743b0b91d5e377bf381a14b38b4afde56e5b829eea5a5a4c1a4ca5cdc264", func := "satchel/satchellaw17.PackPuts", spec := "packPuts", unfollowed := true, recurses := true, plainKeys := false, apart := false }
def PackPutsSaid : Prop := packPutsRow.holds Try.pinned (OpenSpec.ofChange packPutsSpec)

/-- ITS FALSE NEIGHBOUR: 'it returns false'. Refute it at one input. -/
def packPutsWrong : ChangeSpec := { name := "packPuts", fn := fun _ => fun
  | [d1, d2] => { results := [.lit (.bool false)], args := [d1, d2] }
  | _ => none }
def PackPutsWrongFalsely : Prop := packPutsRow.holds Try.pinned (OpenSpec.ofChange packPutsWrong)

/-- 'satchellaw17.PackScans': WHATEVER THE INPUT: true; the input reads as it did. -/
def packScansSpec : ChangeSpec := { name := "packScans", fn := fun _ => fun
  | [d1, d2] => { results := [.lit (.bool true)], args := [d1, d2] }
  | _ => none }
def packScansRow : OpenClaim := { program := "ytnahijjohgjbdaa", sum := "c963743b0b91d5e377bf381a14b38b4afde56e5b829eea5a5a4c1a4ca5cdc264", func := "satchel/satchellaw17.PackScans", spec := "packScans", unfollowed := true, recurses := true, plainKeys := false, apart := false }
def PackScansSaid : Prop := packScansRow.holds Try.pinned (OpenSpec.ofChange packScansSpec)

/-- ITS FALSE NEIGHBOUR: 'it returns false'. Refute it at one input. -/
def packScansWrong : ChangeSpec := { name := "packScans", fn := fun _ => fun
  | [d1, d2] => { results := [.lit (.bool false)], args := [d1, d2] }
  | _ => none }
def PackScansWrongFalsely : Prop := packScansRow.holds Try.pinned (OpenSpec.ofChange packScansWrong)

/-- 'satchellaw17.PackKnown': WHATEVER THE INPUT: true; the input reads as it did. -/
def packKnownSpec : ChangeSpec := { name := "packKnown", fn := fun _ => fun
  | [] => { results := [.lit (.bool true)], args := [] }
  | _ => none }
def packKnownRow : OpenClaim := { program := "ytnahijjohgjbdaa", sum := "c963743b0b91d5e377bf381a14b38b4afde56e5b829eea5a5a4c1a4ca5cdc264", func := "satchel/satchellaw17.PackKnown", spec := "packKnown", unfollowed := true, recurses := true, plainKeys := false, apart := false }
def PackKnownSaid : Prop := packKnownRow.holds Try.pinned (OpenSpec.ofChange packKnownSpec)

/-- ITS FALSE NEIGHBOUR: 'it returns false'. Refute it at one input. -/
def packKnownWrong : ChangeSpec := { name := "packKnown", fn := fun _ => fun
  | [] => { results := [.lit (.bool false)], args := [] }
  | _ => none }
def PackKnownWrongFalsely : Prop := packKnownRow.holds Try.pinned (OpenSpec.ofChange packKnownWrong)

/-- 'satchellaw17.PackBack': WHATEVER THE INPUT: true; the input reads as it did. -/
def packBackSpec : ChangeSpec := { name := "packBack", fn := fun _ => fun
  | [d1, d2] => { results := [.lit (.bool true)], args := [d1, d2] }
  | _ => none }
def packBackRow : OpenClaim := { program := "ytnahijjohgjbdaa", sum := "c963743b0b91d5e377bf381a14b38b4afde56e5b829eea5a5a4c1a4ca5cdc264", func := "satchel/satchellaw17.PackBack", spec := "packBack", unfollowed := true, recurses := true, plainKeys := false, apart := false }
def PackBackSaid : Prop := packBackRow.holds Try.pinned (OpenSpec.ofChange packBackSpec)

/-- ITS FALSE NEIGHBOUR: 'it returns false'. Refute it at one input. -/
def packBackWrong : ChangeSpec := { name := "packBack", fn := fun _ => fun
  | [d1, d2] => { results := [.lit (.bool false)], args := [d1, d2] }
  | _ => none }
def PackBackWrongFalsely : Prop := packBackRow.holds Try.pinned (OpenSpec.ofChange packBackWrong)

/-- 'satchellaw17.PackTurned': WHATEVER THE INPUT: true; the input reads as it did. -/
def packTurnedSpec : ChangeSpec := { name := "packTurned", fn := fun _ => fun
  | [d1, d2, d3, d4] => { results := [.lit (.bool true)], args := [d1, d2, d3, d4] }
  | _ => none }
def packTurnedRow : OpenClaim := { program := "ytnahijjohgjbdaa", sum := "c963743b0b91d5e377bf381a14b38b4afde56e5b829eea5a5a4c1a4ca5cdc264", func := "satchel/satchellaw17.PackTurned", spec := "packTurned", unfollowed := true, recurses := true, plainKeys := false, apart := false }
def PackTurnedSaid : Prop := packTurnedRow.holds Try.pinned (OpenSpec.ofChange packTurnedSpec)

/-- ITS FALSE NEIGHBOUR: 'it returns false'. Refute it at one input. -/
def packTurnedWrong : ChangeSpec := { name := "packTurned", fn := fun _ => fun
  | [d1, d2, d3, d4] => { results := [.lit (.bool false)], args := [d1, d2, d3, d4] }
  | _ => none }
def PackTurnedWrongFalsely : Prop := packTurnedRow.holds Try.pinned (OpenSpec.ofChange packTurnedWrong)

/-- 'satchellaw17.PackHeads': WHATEVER THE INPUT: true; the input reads as it did. -/
def packHeadsSpec : ChangeSpec := { name := "packHeads", fn := fun _ => fun
  | [d1, d2, d3] => { results := [.lit (.bool true)], args := [d1, d2, d3] }
  | _ => none }
def packHeadsRow : OpenClaim := { program := "ytnahijjohgjbdaa", sum := "c963743b0b91d5e377bf381a14b38b4afde56e5b829eea5a5a4c1a4ca5cdc264", func := "satchel/satchellaw17.PackHeads", spec := "packHeads", unfollowed := true, recurses := true, plainKeys := false, apart := false }
def PackHeadsSaid : Prop := packHeadsRow.holds Try.pinned (OpenSpec.ofChange packHeadsSpec)

/-- ITS FALSE NEIGHBOUR: 'it returns false'. Refute it at one input. -/
def packHeadsWrong : ChangeSpec := { name := "packHeads", fn := fun _ => fun
  | [d1, d2, d3] => { results := [.lit (.bool false)], args := [d1, d2, d3] }
  | _ => none }
def PackHeadsWrongFalsely : Prop := packHeadsRow.holds Try.pinned (OpenSpec.ofChange packHeadsWrong)

/-- 'satchellaw17.PackHonest': WHATEVER THE INPUT: true; the input reads as it did. -/
def packHonestSpec : ChangeSpec := { name := "packHonest", fn := fun _ => fun
  | [d] => { results := [.lit (.bool true)], args := [d] }
  | _ => none }
def packHonestRow : OpenClaim := { program := "ytnahijjohgjbdaa", sum := "c963743b0b91d5e377bf381a14b38b4afde56e5b829eea5a5a4c1a4ca5cdc264", func := "satchel/satchellaw17.PackHonest", spec := "packHonest", unfollowed := true, recurses := true, plainKeys := false, apart := false }
def PackHonestSaid : Prop := packHonestRow.holds Try.pinned (OpenSpec.ofChange packHonestSpec)

/-- ITS FALSE NEIGHBOUR: 'it returns false'. Refute it at one input. -/
def packHonestWrong : ChangeSpec := { name := "packHonest", fn := fun _ => fun
  | [d] => { results := [.lit (.bool false)], args := [d] }
  | _ => none }
def PackHonestWrongFalsely : Prop := packHonestRow.holds Try.pinned (OpenSpec.ofChange packHonestWrong)

/-- 'satchellaw18.IndexBytes': WHATEVER THE INPUT: true; the input reads as it did. -/
def indexBytesSpec : ChangeSpec := { name := "indexBytes", fn := fun _ => fun
  | [d1, d2, d3, d4] => { results := [.lit (.bool true)], args := [d1, d2, d3, d4] }
  | _ => none }
def indexBytesRow : OpenClaim := { program := "ytnahijjohgjbdaa", sum := "c963743b0b91d5e377bf381a14b38b4afde56e5b829eea5a5a4c1a4ca5cdc264", func := "satchel/satchellaw18.IndexBytes", spec := "indexBytes", unfollowed := true, recurses := true, plainKeys := false, apart := false }
def IndexBytesSaid : Prop := indexBytesRow.holds Try.pinned (OpenSpec.ofChange indexBytesSpec)

/-- ITS FALSE NEIGHBOUR: 'it returns false'. Refute it at one input. -/
def indexBytesWrong : ChangeSpec := { name := "indexBytes", fn := fun _ => fun
  | [d1, d2, d3, d4] => { results := [.lit (.bool false)], args := [d1, d2, d3, d4] }
  | _ => none }
def IndexBytesWrongFalsely : Prop := indexBytesRow.holds Try.pinned (OpenSpec.ofChange indexBytesWrong)

/-- 'satchellaw18.IndexNames': WHATEVER THE INPUT: true; the input reads as it did. -/
def indexNamesSpec : ChangeSpec := { name := "indexNames", fn := fun _ => fun
  | [d1, d2, d3] => { results := [.lit (.bool true)], args := [d1, d2, d3] }
  | _ => none }
def indexNamesRow : OpenClaim := { program := "ytnahijjohgjbdaa", sum := "c963743b0b91d5e377bf381a14b38b4afde56e5b829eea5a5a4c1a4ca5cdc264", func := "satchel/satchellaw18.IndexNames", spec := "indexNames", unfollowed := true, recurses := true, plainKeys := false, apart := false }
def IndexNamesSaid : Prop := indexNamesRow.holds Try.pinned (OpenSpec.ofChange indexNamesSpec)

/-- ITS FALSE NEIGHBOUR: 'it returns false'. Refute it at one input. -/
def indexNamesWrong : ChangeSpec := { name := "indexNames", fn := fun _ => fun
  | [d1, d2, d3] => { results := [.lit (.bool false)], args := [d1, d2, d3] }
  | _ => none }
def IndexNamesWrongFalsely : Prop := indexNamesRow.holds Try.pinned (OpenSpec.ofChange indexNamesWrong)

/-- 'satchellaw18.IndexFinds': WHATEVER THE INPUT: true; the input reads as it did. -/
def indexFindsSpec : ChangeSpec := { name := "indexFinds", fn := fun _ => fun
  | [d1, d2] => { results := [.lit (.bool true)], args := [d1, d2] }
  | _ => none }
def indexFindsRow : OpenClaim := { program := "ytnahijjohgjbdaa", sum := "c963743b0b91d5e377bf381a14b38b4afde56e5b829eea5a5a4c1a4ca5cdc264", func := "satchel/satchellaw18.IndexFinds", spec := "indexFinds", unfollowed := true, recurses := true, plainKeys := false, apart := false }
def IndexFindsSaid : Prop := indexFindsRow.holds Try.pinned (OpenSpec.ofChange indexFindsSpec)

/-- ITS FALSE NEIGHBOUR: 'it returns false'. Refute it at one input. -/
def indexFindsWrong : ChangeSpec := { name := "indexFinds", fn := fun _ => fun
  | [d1, d2] => { results := [.lit (.bool false)], args := [d1, d2] }
  | _ => none }
def IndexFindsWrongFalsely : Prop := indexFindsRow.holds Try.pinned (OpenSpec.ofChange indexFindsWrong)

/-- 'satchellaw18.IndexMerges': WHATEVER THE INPUT: true; the input reads as it did. -/
def indexMergesSpec : ChangeSpec := { name := "indexMerges", fn := fun _ => fun
  | [d1, d2] => { results := [.lit (.bool true)], args := [d1, d2] }
  | _ => none }
def indexMergesRow : OpenClaim := { program := "ytnahijjohgjbdaa", sum := "c963743b0b91d5e377bf381a14b38b4afde56e5b829eea5a5a4c1a4ca5cdc264", func := "satchel/satchellaw18.IndexMerges", spec := "indexMerges", unfollowed := true, recurses := true, plainKeys := false, apart := false }
def IndexMergesSaid : Prop := indexMergesRow.holds Try.pinned (OpenSpec.ofChange indexMergesSpec)

/-- ITS FALSE NEIGHBOUR: 'it returns false'. Refute it at one input. -/
def indexMergesWrong : ChangeSpec := { name := "indexMerges", fn := fun _ => fun
  | [d1, d2] => { results := [.lit (.bool false)], args := [d1, d2] }
  | _ => none }
def IndexMergesWrongFalsely : Prop := indexMergesRow.holds Try.pinned (OpenSpec.ofChange indexMergesWrong)

/-- 'satchellaw18.IndexKnown': WHATEVER THE INPUT: true; the input reads as it did. -/
def indexKnownSpec : ChangeSpec := { name := "indexKnown", fn := fun _ => fun
  | [] => { results := [.lit (.bool true)], args := [] }
  | _ => none }
def indexKnownRow : OpenClaim := { program := "ytnahijjohgjbdaa", sum := "c963743b0b91d5e377bf381a14b38b4afde56e5b829eea5a5a4c1a4ca5cdc264", func := "satchel/satchellaw18.IndexKnown", spec := "indexKnown", unfollowed := true, recurses := true, plainKeys := false, apart := false }
def IndexKnownSaid : Prop := indexKnownRow.holds Try.pinned (OpenSpec.ofChange indexKnownSpec)

/-- ITS FALSE NEIGHBOUR: 'it returns false'. Refute it at one input. -/
def indexKnownWrong : ChangeSpec := { name := "indexKnown", fn := fun _ => fun
  | [] => { results := [.lit (.bool false)], args := [] }
  | _ => none }
def IndexKnownWrongFalsely : Prop := indexKnownRow.holds Try.pinned (OpenSpec.ofChange indexKnownWrong)

/-- 'satchellaw18.IndexBack': WHATEVER THE INPUT: true; the input reads as it did. -/
def indexBackSpec : ChangeSpec := { name := "indexBack", fn := fun _ => fun
  | [d1, d2, d3, d4] => { results := [.lit (.bool true)], args := [d1, d2, d3, d4] }
  | _ => none }
def indexBackRow : OpenClaim := { program := "ytnahijjohgjbdaa", sum := "c963743b0b91d5e377bf381a14b38b4afde56e5b829eea5a5a4c1a4ca5cdc264", func := "satchel/satchellaw18.IndexBack", spec := "indexBack", unfollowed := true, recurses := true, plainKeys := false, apart := false }
def IndexBackSaid : Prop := indexBackRow.holds Try.pinned (OpenSpec.ofChange indexBackSpec)

/-- ITS FALSE NEIGHBOUR: 'it returns false'. Refute it at one input. -/
def indexBackWrong : ChangeSpec := { name := "indexBack", fn := fun _ => fun
  | [d1, d2, d3, d4] => { results := [.lit (.bool false)], args := [d1, d2, d3, d4] }
  | _ => none }
def IndexBackWrongFalsely : Prop := indexBackRow.holds Try.pinned (OpenSpec.ofChange indexBackWrong)

/-- 'satchellaw18.IndexAgain': WHATEVER THE INPUT: true; the input reads as it did. -/
def indexAgainSpec : ChangeSpec := { name := "indexAgain", fn := fun _ => fun
  | [d1, d2] => { results := [.lit (.bool true)], args := [d1, d2] }
  | _ => none }
def indexAgainRow : OpenClaim := { program := "ytnahijjohgjbdaa", sum := "c963743b0b91d5e377bf381a14b38b4afde56e5b829eea5a5a4c1a4ca5cdc264", func := "satchel/satchellaw18.IndexAgain", spec := "indexAgain", unfollowed := true, recurses := true, plainKeys := false, apart := false }
def IndexAgainSaid : Prop := indexAgainRow.holds Try.pinned (OpenSpec.ofChange indexAgainSpec)

/-- ITS FALSE NEIGHBOUR: 'it returns false'. Refute it at one input. -/
def indexAgainWrong : ChangeSpec := { name := "indexAgain", fn := fun _ => fun
  | [d1, d2] => { results := [.lit (.bool false)], args := [d1, d2] }
  | _ => none }
def IndexAgainWrongFalsely : Prop := indexAgainRow.holds Try.pinned (OpenSpec.ofChange indexAgainWrong)

/- THE SECOND FORM. 'bulk': how many values and letters a reading holds, each counted each time it is reached (what is shared counts as often as it is met; a slice's spare places count too). A statement '..UptoSaid' is the law's where the arguments, and the package variables that the reading takes, are together of bulk at most 1048576: NARROWER than '..Said'. Prove '..Said' where nothing that the law and all that it calls make is longer than what came in: it says more and counts as full. Else prove '..UptoSaid'. A law counts once. -/
mutual
def uptoBulk {H : Type} : DataW H → Nat
  | .lit (.string bytes) => bytes.length + 1
  | .lit _ => 1
  | .nil => 1
  | .ptr d => uptoBulk d + 1
  | .slice elems spare => uptoBulkAll elems + uptoBulkAll spare + 1
  | .agg parts => uptoBulkAll parts + 1
  | .iface _ d => uptoBulk d + 1
  | .map entries => uptoBulkEntries entries + 1
  | .held _ => 1
def uptoBulkAll {H : Type} : List (DataW H) → Nat
  | [] => 0
  | d :: r => uptoBulk d + uptoBulkAll r
def uptoBulkEntries {H : Type} : List (Lit × DataW H) → Nat
  | [] => 0
  | x :: r => uptoBulkEntry x + uptoBulkEntries r
def uptoBulkEntry {H : Type} : Lit × DataW H → Nat
  | (.string bytes, d) => bytes.length + uptoBulk d + 1
  | (_, d) => uptoBulk d + 1
 end
def uptoSmall : (H : Type) → List (DataW H) → Bool := fun _ ds => decide (uptoBulkAll ds ≤ 1048576)
def OpenSpec.upto (s : _root_.Go.ChangeSpec) : _root_.Go.OpenSpec := { _root_.Go.OpenSpec.ofChange s with cond := some uptoSmall }

/-- 'satchellaw17.PackPuts', WHERE WHAT IT READS IS OF BULK AT MOST 1048576: true; the input reads as it did. -/
def packPutsUptoRow : OpenClaim := { program := "ytnahijjohgjbdaa", sum := "c963743b0b91d5e377bf381a14b38b4afde56e5b829eea5a5a4c1a4ca5cdc264", func := "satchel/satchellaw17.PackPuts", spec := "packPuts", unfollowed := true, recurses := true, plainKeys := false, apart := false, narrowed := true }
def PackPutsUptoSaid : Prop := packPutsUptoRow.holds Try.pinned (OpenSpec.upto packPutsSpec)

/-- 'satchellaw17.PackScans', WHERE WHAT IT READS IS OF BULK AT MOST 1048576: true; the input reads as it did. -/
def packScansUptoRow : OpenClaim := { program := "ytnahijjohgjbdaa", sum := "c963743b0b91d5e377bf381a14b38b4afde56e5b829eea5a5a4c1a4ca5cdc264", func := "satchel/satchellaw17.PackScans", spec := "packScans", unfollowed := true, recurses := true, plainKeys := false, apart := false, narrowed := true }
def PackScansUptoSaid : Prop := packScansUptoRow.holds Try.pinned (OpenSpec.upto packScansSpec)

/-- 'satchellaw17.PackKnown', WHERE WHAT IT READS IS OF BULK AT MOST 1048576: true; the input reads as it did. -/
def packKnownUptoRow : OpenClaim := { program := "ytnahijjohgjbdaa", sum := "c963743b0b91d5e377bf381a14b38b4afde56e5b829eea5a5a4c1a4ca5cdc264", func := "satchel/satchellaw17.PackKnown", spec := "packKnown", unfollowed := true, recurses := true, plainKeys := false, apart := false, narrowed := true }
def PackKnownUptoSaid : Prop := packKnownUptoRow.holds Try.pinned (OpenSpec.upto packKnownSpec)

/-- 'satchellaw17.PackBack', WHERE WHAT IT READS IS OF BULK AT MOST 1048576: true; the input reads as it did. -/
def packBackUptoRow : OpenClaim := { program := "ytnahijjohgjbdaa", sum := "c963743b0b91d5e377bf381a14b38b4afde56e5b829eea5a5a4c1a4ca5cdc264", func := "satchel/satchellaw17.PackBack", spec := "packBack", unfollowed := true, recurses := true, plainKeys := false, apart := false, narrowed := true }
def PackBackUptoSaid : Prop := packBackUptoRow.holds Try.pinned (OpenSpec.upto packBackSpec)

/-- 'satchellaw17.PackTurned', WHERE WHAT IT READS IS OF BULK AT MOST 1048576: true; the input reads as it did. -/
def packTurnedUptoRow : OpenClaim := { program := "ytnahijjohgjbdaa", sum := "c963743b0b91d5e377bf381a14b38b4afde56e5b829eea5a5a4c1a4ca5cdc264", func := "satchel/satchellaw17.PackTurned", spec := "packTurned", unfollowed := true, recurses := true, plainKeys := false, apart := false, narrowed := true }
def PackTurnedUptoSaid : Prop := packTurnedUptoRow.holds Try.pinned (OpenSpec.upto packTurnedSpec)

/-- 'satchellaw17.PackHeads', WHERE WHAT IT READS IS OF BULK AT MOST 1048576: true; the input reads as it did. -/
def packHeadsUptoRow : OpenClaim := { program := "ytnahijjohgjbdaa", sum := "c963743b0b91d5e377bf381a14b38b4afde56e5b829eea5a5a4c1a4ca5cdc264", func := "satchel/satchellaw17.PackHeads", spec := "packHeads", unfollowed := true, recurses := true, plainKeys := false, apart := false, narrowed := true }
def PackHeadsUptoSaid : Prop := packHeadsUptoRow.holds Try.pinned (OpenSpec.upto packHeadsSpec)

/-- 'satchellaw17.PackHonest', WHERE WHAT IT READS IS OF BULK AT MOST 1048576: true; the input reads as it did. -/
def packHonestUptoRow : OpenClaim := { program := "ytnahijjohgjbdaa", sum := "c963743b0b91d5e377bf381a14b38b4afde56e5b829eea5a5a4c1a4ca5cdc264", func := "satchel/satchellaw17.PackHonest", spec := "packHonest", unfollowed := true, recurses := true, plainKeys := false, apart := false, narrowed := true }
def PackHonestUptoSaid : Prop := packHonestUptoRow.holds Try.pinned (OpenSpec.upto packHonestSpec)

/-- 'satchellaw18.IndexBytes', WHERE WHAT IT READS IS OF BULK AT MOST 1048576: true; the input reads as it did. -/
def indexBytesUptoRow : OpenClaim := { program := "ytnahijjohgjbdaa", sum := "c963743b0b91d5e377bf381a14b38b4afde56e5b829eea5a5a4c1a4ca5cdc264", func := "satchel/satchellaw18.IndexBytes", spec := "indexBytes", unfollowed := true, recurses := true, plainKeys := false, apart := false, narrowed := true }
def IndexBytesUptoSaid : Prop := indexBytesUptoRow.holds Try.pinned (OpenSpec.upto indexBytesSpec)

/-- 'satchellaw18.IndexNames', WHERE WHAT IT READS IS OF BULK AT MOST 1048576: true; the input reads as it did. -/
def indexNamesUptoRow : OpenClaim := { program := "ytnahijjohgjbdaa", sum := "c963743b0b91d5e377bf381a14b38b4afde56e5b829eea5a5a4c1a4ca5cdc264", func := "satchel/satchellaw18.IndexNames", spec := "indexNames", unfollowed := true, recurses := true, plainKeys := false, apart := false, narrowed := true }
def IndexNamesUptoSaid : Prop := indexNamesUptoRow.holds Try.pinned (OpenSpec.upto indexNamesSpec)

/-- 'satchellaw18.IndexFinds', WHERE WHAT IT READS IS OF BULK AT MOST 1048576: true; the input reads as it did. -/
def indexFindsUptoRow : OpenClaim := { program := "ytnahijjohgjbdaa", sum := "c963743b0b91d5e377bf381a14b38b4afde56e5b829eea5a5a4c1a4ca5cdc264", func := "satchel/satchellaw18.IndexFinds", spec := "indexFinds", unfollowed := true, recurses := true, plainKeys := false, apart := false, narrowed := true }
def IndexFindsUptoSaid : Prop := indexFindsUptoRow.holds Try.pinned (OpenSpec.upto indexFindsSpec)

/-- 'satchellaw18.IndexMerges', WHERE WHAT IT READS IS OF BULK AT MOST 1048576: true; the input reads as it did. -/
def indexMergesUptoRow : OpenClaim := { program := "ytnahijjohgjbdaa", sum := "c963743b0b91d5e377bf381a14b38b4afde56e5b829eea5a5a4c1a4ca5cdc264", func := "satchel/satchellaw18.IndexMerges", spec := "indexMerges", unfollowed := true, recurses := true, plainKeys := false, apart := false, narrowed := true }
def IndexMergesUptoSaid : Prop := indexMergesUptoRow.holds Try.pinned (OpenSpec.upto indexMergesSpec)

/-- 'satchellaw18.IndexKnown', WHERE WHAT IT READS IS OF BULK AT MOST 1048576: true; the input reads as it did. -/
def indexKnownUptoRow : OpenClaim := { program := "ytnahijjohgjbdaa", sum := "c963743b0b91d5e377bf381a14b38b4afde56e5b829eea5a5a4c1a4ca5cdc264", func := "satchel/satchellaw18.IndexKnown", spec := "indexKnown", unfollowed := true, recurses := true, plainKeys := false, apart := false, narrowed := true }
def IndexKnownUptoSaid : Prop := indexKnownUptoRow.holds Try.pinned (OpenSpec.upto indexKnownSpec)

/-- 'satchellaw18.IndexBack', WHERE WHAT IT READS IS OF BULK AT MOST 1048576: true; the input reads as it did. -/
def indexBackUptoRow : OpenClaim := { program := "ytnahijjohgjbdaa", sum := "c963743b0b91d5e377bf381a14b38b4afde56e5b829eea5a5a4c1a4ca5cdc264", func := "satchel/satchellaw18.IndexBack", spec := "indexBack", unfollowed := true, recurses := true, plainKeys := false, apart := false, narrowed := true }
def IndexBackUptoSaid : Prop := indexBackUptoRow.holds Try.pinned (OpenSpec.upto indexBackSpec)

/-- 'satchellaw18.IndexAgain', WHERE WHAT IT READS IS OF BULK AT MOST 1048576: true; the input reads as it did. -/
def indexAgainUptoRow : OpenClaim := { program := "ytnahijjohgjbdaa", sum := "c963743b0b91d5e377bf381a14b38b4afde56e5b829eea5a5a4c1a4ca5cdc264", func := "satchel/satchellaw18.IndexAgain", spec := "indexAgain", unfollowed := true, recurses := true, plainKeys := false, apart := false, narrowed := true }
def IndexAgainUptoSaid : Prop := indexAgainUptoRow.holds Try.pinned (OpenSpec.upto indexAgainSpec)

end Rows
end Go.Proofs.Ytnahijjohgjbdaa
