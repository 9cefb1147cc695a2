/-
  No cell of these rows narrows 'for every input' (looked for: loops, veiled, ifaces, maps, wideKeys, modest, calm, conditions, laid).
  DERIVED. THE GIVEN ROWS OF THIS SEAT. 8 by the template 'for every input the law returns true; each argument reads behind the call as it read before'; 0 by the template 'total and deterministic' (their statements: YtobkigllalbkiaaTotals.lean).
  GIVEN WITH THE SEED: the statements are not yours to turn. If you find one false, say at which input.
  Laid BY PROGRAM, IN A SANDBOX (cutbox-rows.mjs): the forced cells as the released guide's own fill.sh prints them over the translation 313a5b4562461012… (all of the seat's roots in one cut). By AI agents, Wed Nov 11 2026. No macro, syntax, notation, axiom, sorry.
-/
import Derived.Test.YtobkigllalbkiaaChecked
import GoSem.Claim
import GoSem.ClaimJoined
import GoSem.ClaimMapViews
import Derived.JoinedTies
import Derived.KernelRfl
namespace Go.Proofs.Ytobkigllalbkiaa
/- THE CELL 'sum', in the pinned program and in every row, IS THE sha256 OF THE DUMP (.gsa) THAT YtobkigllalbkiaaProg.lean LOADS. Nothing in Lean hashes anything: it is a label: what it is worth is what the hold of that sum in a sandbox is worth. -/
noncomputable def Try.pinned : Pinned := { name := "ytobkigllalbkiaa", sum := "313a5b4562461012a66d210598379035b966afbb039eed68663ffccd2613824b", checked := Try.checked }
namespace Rows
def none {H : Type} : Left H := { results := [], args := [] }

/-- 'dioramalaw27.PyramidTells': WHATEVER THE INPUT: true; the input reads as it did. -/
def pyramidTellsSpec : ChangeSpec := { name := "pyramidTells", fn := fun _ => fun
  | [d1, d2, d3] => { results := [.lit (.bool true)], args := [d1, d2, d3] }
  | _ => none }
def pyramidTellsRow : OpenClaim := { program := "ytobkigllalbkiaa", sum := "313a5b4562461012a66d210598379035b966afbb039eed68663ffccd2613824b", func := "diorama/dioramalaw27.PyramidTells", spec := "pyramidTells", unfollowed := true, recurses := true, plainKeys := false, apart := false }
def PyramidTellsSaid : Prop := pyramidTellsRow.holds Try.pinned (OpenSpec.ofChange pyramidTellsSpec)

/-- ITS FALSE NEIGHBOUR: 'it returns false'. Refute it at one input. -/
def pyramidTellsWrong : ChangeSpec := { name := "pyramidTells", fn := fun _ => fun
  | [d1, d2, d3] => { results := [.lit (.bool false)], args := [d1, d2, d3] }
  | _ => none }
def PyramidTellsWrongFalsely : Prop := pyramidTellsRow.holds Try.pinned (OpenSpec.ofChange pyramidTellsWrong)

/-- 'dioramalaw25.FrameNames': WHATEVER THE INPUT: true; the input reads as it did. -/
def frameNamesSpec : ChangeSpec := { name := "frameNames", fn := fun _ => fun
  | [] => { results := [.lit (.bool true)], args := [] }
  | _ => none }
def frameNamesRow : OpenClaim := { program := "ytobkigllalbkiaa", sum := "313a5b4562461012a66d210598379035b966afbb039eed68663ffccd2613824b", func := "diorama/dioramalaw25.FrameNames", spec := "frameNames", unfollowed := true, recurses := true, plainKeys := false, apart := false }
def FrameNamesSaid : Prop := frameNamesRow.holds Try.pinned (OpenSpec.ofChange frameNamesSpec)

/-- ITS FALSE NEIGHBOUR: 'it returns false'. Refute it at one input. -/
def frameNamesWrong : ChangeSpec := { name := "frameNames", fn := fun _ => fun
  | [] => { results := [.lit (.bool false)], args := [] }
  | _ => none }
def FrameNamesWrongFalsely : Prop := frameNamesRow.holds Try.pinned (OpenSpec.ofChange frameNamesWrong)

/-- 'dioramalaw27.PyramidLeast': WHATEVER THE INPUT: true; the input reads as it did. -/
def pyramidLeastSpec : ChangeSpec := { name := "pyramidLeast", fn := fun _ => fun
  | [d1, d2] => { results := [.lit (.bool true)], args := [d1, d2] }
  | _ => none }
def pyramidLeastRow : OpenClaim := { program := "ytobkigllalbkiaa", sum := "313a5b4562461012a66d210598379035b966afbb039eed68663ffccd2613824b", func := "diorama/dioramalaw27.PyramidLeast", spec := "pyramidLeast", unfollowed := true, recurses := true, plainKeys := false, apart := false }
def PyramidLeastSaid : Prop := pyramidLeastRow.holds Try.pinned (OpenSpec.ofChange pyramidLeastSpec)

/-- ITS FALSE NEIGHBOUR: 'it returns false'. Refute it at one input. -/
def pyramidLeastWrong : ChangeSpec := { name := "pyramidLeast", fn := fun _ => fun
  | [d1, d2] => { results := [.lit (.bool false)], args := [d1, d2] }
  | _ => none }
def PyramidLeastWrongFalsely : Prop := pyramidLeastRow.holds Try.pinned (OpenSpec.ofChange pyramidLeastWrong)

/-- 'dioramalaw27.PyramidNames': WHATEVER THE INPUT: true; the input reads as it did. -/
def pyramidNamesSpec : ChangeSpec := { name := "pyramidNames", fn := fun _ => fun
  | [] => { results := [.lit (.bool true)], args := [] }
  | _ => none }
def pyramidNamesRow : OpenClaim := { program := "ytobkigllalbkiaa", sum := "313a5b4562461012a66d210598379035b966afbb039eed68663ffccd2613824b", func := "diorama/dioramalaw27.PyramidNames", spec := "pyramidNames", unfollowed := true, recurses := true, plainKeys := false, apart := false }
def PyramidNamesSaid : Prop := pyramidNamesRow.holds Try.pinned (OpenSpec.ofChange pyramidNamesSpec)

/-- ITS FALSE NEIGHBOUR: 'it returns false'. Refute it at one input. -/
def pyramidNamesWrong : ChangeSpec := { name := "pyramidNames", fn := fun _ => fun
  | [] => { results := [.lit (.bool false)], args := [] }
  | _ => none }
def PyramidNamesWrongFalsely : Prop := pyramidNamesRow.holds Try.pinned (OpenSpec.ofChange pyramidNamesWrong)

/-- 'dioramalaw27.PyramidHides': WHATEVER THE INPUT: true; the input reads as it did. -/
def pyramidHidesSpec : ChangeSpec := { name := "pyramidHides", fn := fun _ => fun
  | [d1, d2, d3, d4, d5, d6, d7, d8, d9] => { results := [.lit (.bool true)], args := [d1, d2, d3, d4, d5, d6, d7, d8, d9] }
  | _ => none }
def pyramidHidesRow : OpenClaim := { program := "ytobkigllalbkiaa", sum := "313a5b4562461012a66d210598379035b966afbb039eed68663ffccd2613824b", func := "diorama/dioramalaw27.PyramidHides", spec := "pyramidHides", unfollowed := true, recurses := true, plainKeys := false, apart := false }
def PyramidHidesSaid : Prop := pyramidHidesRow.holds Try.pinned (OpenSpec.ofChange pyramidHidesSpec)

/-- ITS FALSE NEIGHBOUR: 'it returns false'. Refute it at one input. -/
def pyramidHidesWrong : ChangeSpec := { name := "pyramidHides", fn := fun _ => fun
  | [d1, d2, d3, d4, d5, d6, d7, d8, d9] => { results := [.lit (.bool false)], args := [d1, d2, d3, d4, d5, d6, d7, d8, d9] }
  | _ => none }
def PyramidHidesWrongFalsely : Prop := pyramidHidesRow.holds Try.pinned (OpenSpec.ofChange pyramidHidesWrong)

/-- 'dioramalaw06.NodesNames': WHATEVER THE INPUT: true; the input reads as it did. -/
def nodesNamesSpec : ChangeSpec := { name := "nodesNames", fn := fun _ => fun
  | [] => { results := [.lit (.bool true)], args := [] }
  | _ => none }
def nodesNamesRow : OpenClaim := { program := "ytobkigllalbkiaa", sum := "313a5b4562461012a66d210598379035b966afbb039eed68663ffccd2613824b", func := "diorama/dioramalaw06.NodesNames", spec := "nodesNames", inPlace := ["slices.overlaps[diorama/api.Handle]"], unfollowed := true, recurses := true, plainKeys := false, apart := false }
def NodesNamesSaid : Prop := nodesNamesRow.holds Try.pinned (OpenSpec.ofChange nodesNamesSpec)

/-- ITS FALSE NEIGHBOUR: 'it returns false'. Refute it at one input. -/
def nodesNamesWrong : ChangeSpec := { name := "nodesNames", fn := fun _ => fun
  | [] => { results := [.lit (.bool false)], args := [] }
  | _ => none }
def NodesNamesWrongFalsely : Prop := nodesNamesRow.holds Try.pinned (OpenSpec.ofChange nodesNamesWrong)

/-- 'dioramalaw06.NodesNever': WHATEVER THE INPUT: true; the input reads as it did. -/
def nodesNeverSpec : ChangeSpec := { name := "nodesNever", fn := fun _ => fun
  | [d1, d2] => { results := [.lit (.bool true)], args := [d1, d2] }
  | _ => none }
def nodesNeverRow : OpenClaim := { program := "ytobkigllalbkiaa", sum := "313a5b4562461012a66d210598379035b966afbb039eed68663ffccd2613824b", func := "diorama/dioramalaw06.NodesNever", spec := "nodesNever", inPlace := ["slices.overlaps[diorama/api.Handle]"], unfollowed := true, recurses := true, plainKeys := false, apart := false }
def NodesNeverSaid : Prop := nodesNeverRow.holds Try.pinned (OpenSpec.ofChange nodesNeverSpec)

/-- ITS FALSE NEIGHBOUR: 'it returns false'. Refute it at one input. -/
def nodesNeverWrong : ChangeSpec := { name := "nodesNever", fn := fun _ => fun
  | [d1, d2] => { results := [.lit (.bool false)], args := [d1, d2] }
  | _ => none }
def NodesNeverWrongFalsely : Prop := nodesNeverRow.holds Try.pinned (OpenSpec.ofChange nodesNeverWrong)

/-- 'dioramalaw06.NodesTurn': WHATEVER THE INPUT: true; the input reads as it did. -/
def nodesTurnSpec : ChangeSpec := { name := "nodesTurn", fn := fun _ => fun
  | [d1, d2, d3, d4, d5] => { results := [.lit (.bool true)], args := [d1, d2, d3, d4, d5] }
  | _ => none }
def nodesTurnRow : OpenClaim := { program := "ytobkigllalbkiaa", sum := "313a5b4562461012a66d210598379035b966afbb039eed68663ffccd2613824b", func := "diorama/dioramalaw06.NodesTurn", spec := "nodesTurn", inPlace := ["slices.overlaps[diorama/api.Handle]"], unfollowed := true, recurses := true, plainKeys := false, apart := false }
def NodesTurnSaid : Prop := nodesTurnRow.holds Try.pinned (OpenSpec.ofChange nodesTurnSpec)

/-- ITS FALSE NEIGHBOUR: 'it returns false'. Refute it at one input. -/
def nodesTurnWrong : ChangeSpec := { name := "nodesTurn", fn := fun _ => fun
  | [d1, d2, d3, d4, d5] => { results := [.lit (.bool false)], args := [d1, d2, d3, d4, d5] }
  | _ => none }
def NodesTurnWrongFalsely : Prop := nodesTurnRow.holds Try.pinned (OpenSpec.ofChange nodesTurnWrong)

/- THE SECOND FORM. 'bulk': how many values and letters a reading holds, each counted each time it is reached (what is shared counts as often as it is met; a slice's spare places count too). A statement '..UptoSaid' is the law's where the arguments, and the package variables that the reading takes, are together of bulk at most 1048576: NARROWER than '..Said'. Prove '..Said' where nothing that the law and all that it calls make is longer than what came in: it says more and counts as full. Else prove '..UptoSaid'. A law counts once. -/
mutual
def uptoBulk {H : Type} : DataW H → Nat
  | .lit (.string bytes) => bytes.length + 1
  | .lit _ => 1
  | .nil => 1
  | .ptr d => uptoBulk d + 1
  | .slice elems spare => uptoBulkAll elems + uptoBulkAll spare + 1
  | .agg parts => uptoBulkAll parts + 1
  | .iface _ d => uptoBulk d + 1
  | .map entries => uptoBulkEntries entries + 1
  | .held _ => 1
def uptoBulkAll {H : Type} : List (DataW H) → Nat
  | [] => 0
  | d :: r => uptoBulk d + uptoBulkAll r
def uptoBulkEntries {H : Type} : List (Lit × DataW H) → Nat
  | [] => 0
  | x :: r => uptoBulkEntry x + uptoBulkEntries r
def uptoBulkEntry {H : Type} : Lit × DataW H → Nat
  | (.string bytes, d) => bytes.length + uptoBulk d + 1
  | (_, d) => uptoBulk d + 1
 end
def uptoSmall : (H : Type) → List (DataW H) → Bool := fun _ ds => decide (uptoBulkAll ds ≤ 1048576)
def OpenSpec.upto (s : _root_.Go.ChangeSpec) : _root_.Go.OpenSpec := { _root_.Go.OpenSpec.ofChange s with cond := some uptoSmall }

/-- 'dioramalaw27.PyramidTells', WHERE WHAT IT READS IS OF BULK AT MOST 1048576: true; the input reads as it did. -/
def pyramidTellsUptoRow : OpenClaim := { program := "ytobkigllalbkiaa", sum := "313a5b4562461012a66d210598379035b966afbb039eed68663ffccd2613824b", func := "diorama/dioramalaw27.PyramidTells", spec := "pyramidTells", unfollowed := true, recurses := true, plainKeys := false, apart := false, narrowed := true }
def PyramidTellsUptoSaid : Prop := pyramidTellsUptoRow.holds Try.pinned (OpenSpec.upto pyramidTellsSpec)

/-- 'dioramalaw25.FrameNames', WHERE WHAT IT READS IS OF BULK AT MOST 1048576: true; the input reads as it did. -/
def frameNamesUptoRow : OpenClaim := { program := "ytobkigllalbkiaa", sum := "313a5b4562461012a66d210598379035b966afbb039eed68663ffccd2613824b", func := "diorama/dioramalaw25.FrameNames", spec := "frameNames", unfollowed := true, recurses := true, plainKeys := false, apart := false, narrowed := true }
def FrameNamesUptoSaid : Prop := frameNamesUptoRow.holds Try.pinned (OpenSpec.upto frameNamesSpec)

/-- 'dioramalaw27.PyramidLeast', WHERE WHAT IT READS IS OF BULK AT MOST 1048576: true; the input reads as it did. -/
def pyramidLeastUptoRow : OpenClaim := { program := "ytobkigllalbkiaa", sum := "313a5b4562461012a66d210598379035b966afbb039eed68663ffccd2613824b", func := "diorama/dioramalaw27.PyramidLeast", spec := "pyramidLeast", unfollowed := true, recurses := true, plainKeys := false, apart := false, narrowed := true }
def PyramidLeastUptoSaid : Prop := pyramidLeastUptoRow.holds Try.pinned (OpenSpec.upto pyramidLeastSpec)

/-- 'dioramalaw27.PyramidNames', WHERE WHAT IT READS IS OF BULK AT MOST 1048576: true; the input reads as it did. -/
def pyramidNamesUptoRow : OpenClaim := { program := "ytobkigllalbkiaa", sum := "313a5b4562461012a66d210598379035b966afbb039eed68663ffccd2613824b", func := "diorama/dioramalaw27.PyramidNames", spec := "pyramidNames", unfollowed := true, recurses := true, plainKeys := false, apart := false, narrowed := true }
def PyramidNamesUptoSaid : Prop := pyramidNamesUptoRow.holds Try.pinned (OpenSpec.upto pyramidNamesSpec)

/-- 'dioramalaw27.PyramidHides', WHERE WHAT IT READS IS OF BULK AT MOST 1048576: true; the input reads as it did. -/
def pyramidHidesUptoRow : OpenClaim := { program := "ytobkigllalbkiaa", sum := "313a5b4562461012a66d210598379035b966afbb039eed68663ffccd2613824b", func := "diorama/dioramalaw27.PyramidHides", spec := "pyramidHides", unfollowed := true, recurses := true, plainKeys := false, apart := false, narrowed := true }
def PyramidHidesUptoSaid : Prop := pyramidHidesUptoRow.holds Try.pinned (OpenSpec.upto pyramidHidesSpec)

/-- 'dioramalaw06.NodesNames', WHERE WHAT IT READS IS OF BULK AT MOST 1048576: true; the input reads as it did. -/
def nodesNamesUptoRow : OpenClaim := { program := "ytobkigllalbkiaa", sum := "313a5b4562461012a66d210598379035b966afbb039eed68663ffccd2613824b", func := "diorama/dioramalaw06.NodesNames", spec := "nodesNames", inPlace := ["slices.overlaps[diorama/api.Handle]"], unfollowed := true, recurses := true, plainKeys := false, apart := false, narrowed := true }
def NodesNamesUptoSaid : Prop := nodesNamesUptoRow.holds Try.pinned (OpenSpec.upto nodesNamesSpec)

/-- 'dioramalaw06.NodesNever', WHERE WHAT IT READS IS OF BULK AT MOST 1048576: true; the input reads as it did. -/
def nodesNeverUptoRow : OpenClaim := { program := "ytobkigllalbkiaa", sum := "313a5b4562461012a66d210598379035b966afbb039eed68663ffccd2613824b", func := "diorama/dioramalaw06.NodesNever", spec := "nodesNever", inPlace := ["slices.overlaps[diorama/api.Handle]"], unfollowed := true, recurses := true, plainKeys := false, apart := false, narrowed := true }
def NodesNeverUptoSaid : Prop := nodesNeverUptoRow.holds Try.pinned (OpenSpec.upto nodesNeverSpec)

/-- 'dioramalaw06.NodesTurn', WHERE WHAT IT READS IS OF BULK AT MOST 1048576: true; the input reads as it did. -/
def nodesTurnUptoRow : OpenClaim := { program := "ytobkigllalbkiaa", sum := "313a5b4562461012a66d210598379035b966afbb039eed68663ffccd2613824b", func := "diorama/dioramalaw06.NodesTurn", spec := "nodesTurn", inPlace := ["slices.overlaps[diorama/api.Handle]"], unfollowed := true, recurses := true, plainKeys := false, apart := false, narrowed := true }
def NodesTurnUptoSaid : Prop := nodesTurnUptoRow.holds Try.pinned (OpenSpec.upto nodesTurnSpec)

end Rows
end Go.Proofs.Ytobkigllalbkiaa
