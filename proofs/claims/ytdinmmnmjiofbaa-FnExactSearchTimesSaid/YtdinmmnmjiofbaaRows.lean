/-
  No cell of these rows narrows 'for every input' (looked for: loops, veiled, ifaces, maps, wideKeys, modest, calm, conditions, laid).
  DERIVED. THE GIVEN ROWS OF THIS SEAT. 12 by the template 'for every input the law returns true; each argument reads behind the call as it read before'; 0 by the template 'total and deterministic' (their statements: YtdinmmnmjiofbaaTotals.lean).
  GIVEN WITH THE SEED: the statements are not yours to turn. If you find one false, say at which input.
  Laid BY PROGRAM, IN A SANDBOX (cutbox-rows.mjs): the forced cells as the released guide's own fill.sh prints them over the translation 1c2233e9a8703815… (all of the seat's roots in one cut). By AI agents, Wed Nov 11 2026. No macro, syntax, notation, axiom, sorry.
-/
import Derived.Test.YtdinmmnmjiofbaaChecked
import GoSem.Claim
import GoSem.ClaimJoined
import GoSem.ClaimMapViews
import Derived.JoinedTies
import Derived.KernelRfl
namespace Go.Proofs.Ytdinmmnmjiofbaa
/- THE CELL 'sum', in the pinned program and in every row, IS THE sha256 OF THE DUMP (.gsa) THAT YtdinmmnmjiofbaaProg.lean LOADS. Nothing in Lean hashes anything: it is a label: what it is worth is what the hold of that sum in a sandbox is worth. -/
noncomputable def Try.pinned : Pinned := { name := "ytdinmmnmjiofbaa", sum := "1c2233e9a87038157cb418216e74216c6524fadf5779fd89e32872001d37ca3c", checked := Try.checked }
namespace Rows
def none {H : Type} : Left H := { results := [], args := [] }

/-- 'laws.FnExactLabelMoves': WHATEVER THE INPUT: true; the input reads as it did. -/
def fnExactLabelMovesSpec : ChangeSpec := { name := "fnExactLabelMoves", fn := fun _ => fun
  | [d1, d2] => { results := [.lit (.bool true)], args := [d1, d2] }
  | _ => none }
def fnExactLabelMovesRow : OpenClaim := { program := "ytdinmmnmjiofbaa", sum := "1c2233e9a87038157cb418216e74216c6524fadf5779fd89e32872001d37ca3c", func := "loop.example/g01148/laws.FnExactLabelMoves", spec := "fnExactLabelMoves", apart := false }
def FnExactLabelMovesSaid : Prop := fnExactLabelMovesRow.holds Try.pinned (OpenSpec.ofChange fnExactLabelMovesSpec)

/-- ITS FALSE NEIGHBOUR: 'it returns false'. Refute it at one input. -/
def fnExactLabelMovesWrong : ChangeSpec := { name := "fnExactLabelMoves", fn := fun _ => fun
  | [d1, d2] => { results := [.lit (.bool false)], args := [d1, d2] }
  | _ => none }
def FnExactLabelMovesWrongFalsely : Prop := fnExactLabelMovesRow.holds Try.pinned (OpenSpec.ofChange fnExactLabelMovesWrong)

/-- 'laws.FnExactMirrorSearch': WHATEVER THE INPUT: true; the input reads as it did. -/
def fnExactMirrorSearchSpec : ChangeSpec := { name := "fnExactMirrorSearch", fn := fun _ => fun
  | [d1, d2] => { results := [.lit (.bool true)], args := [d1, d2] }
  | _ => none }
def fnExactMirrorSearchRow : OpenClaim := { program := "ytdinmmnmjiofbaa", sum := "1c2233e9a87038157cb418216e74216c6524fadf5779fd89e32872001d37ca3c", func := "loop.example/g01148/laws.FnExactMirrorSearch", spec := "fnExactMirrorSearch", unfollowed := true, recurses := true, apart := false }
def FnExactMirrorSearchSaid : Prop := fnExactMirrorSearchRow.holds Try.pinned (OpenSpec.ofChange fnExactMirrorSearchSpec)

/-- ITS FALSE NEIGHBOUR: 'it returns false'. Refute it at one input. -/
def fnExactMirrorSearchWrong : ChangeSpec := { name := "fnExactMirrorSearch", fn := fun _ => fun
  | [d1, d2] => { results := [.lit (.bool false)], args := [d1, d2] }
  | _ => none }
def FnExactMirrorSearchWrongFalsely : Prop := fnExactMirrorSearchRow.holds Try.pinned (OpenSpec.ofChange fnExactMirrorSearchWrong)

/-- 'laws.FnExactIsSearch': WHATEVER THE INPUT: true; the input reads as it did. -/
def fnExactIsSearchSpec : ChangeSpec := { name := "fnExactIsSearch", fn := fun _ => fun
  | [d1, d2, d3] => { results := [.lit (.bool true)], args := [d1, d2, d3] }
  | _ => none }
def fnExactIsSearchRow : OpenClaim := { program := "ytdinmmnmjiofbaa", sum := "1c2233e9a87038157cb418216e74216c6524fadf5779fd89e32872001d37ca3c", func := "loop.example/g01148/laws.FnExactIsSearch", spec := "fnExactIsSearch", apart := false }
def FnExactIsSearchSaid : Prop := fnExactIsSearchRow.holds Try.pinned (OpenSpec.ofChange fnExactIsSearchSpec)

/-- ITS FALSE NEIGHBOUR: 'it returns false'. Refute it at one input. -/
def fnExactIsSearchWrong : ChangeSpec := { name := "fnExactIsSearch", fn := fun _ => fun
  | [d1, d2, d3] => { results := [.lit (.bool false)], args := [d1, d2, d3] }
  | _ => none }
def FnExactIsSearchWrongFalsely : Prop := fnExactIsSearchRow.holds Try.pinned (OpenSpec.ofChange fnExactIsSearchWrong)

/-- 'laws.FnExactTurnCount': WHATEVER THE INPUT: true; the input reads as it did. -/
def fnExactTurnCountSpec : ChangeSpec := { name := "fnExactTurnCount", fn := fun _ => fun
  | [d1, d2, d3] => { results := [.lit (.bool true)], args := [d1, d2, d3] }
  | _ => none }
def fnExactTurnCountRow : OpenClaim := { program := "ytdinmmnmjiofbaa", sum := "1c2233e9a87038157cb418216e74216c6524fadf5779fd89e32872001d37ca3c", func := "loop.example/g01148/laws.FnExactTurnCount", spec := "fnExactTurnCount", apart := false }
def FnExactTurnCountSaid : Prop := fnExactTurnCountRow.holds Try.pinned (OpenSpec.ofChange fnExactTurnCountSpec)

/-- ITS FALSE NEIGHBOUR: 'it returns false'. Refute it at one input. -/
def fnExactTurnCountWrong : ChangeSpec := { name := "fnExactTurnCount", fn := fun _ => fun
  | [d1, d2, d3] => { results := [.lit (.bool false)], args := [d1, d2, d3] }
  | _ => none }
def FnExactTurnCountWrongFalsely : Prop := fnExactTurnCountRow.holds Try.pinned (OpenSpec.ofChange fnExactTurnCountWrong)

/-- 'laws.FnExactIsWalk': WHATEVER THE INPUT: true; the input reads as it did. -/
def fnExactIsWalkSpec : ChangeSpec := { name := "fnExactIsWalk", fn := fun _ => fun
  | [d1, d2] => { results := [.lit (.bool true)], args := [d1, d2] }
  | _ => none }
def fnExactIsWalkRow : OpenClaim := { program := "ytdinmmnmjiofbaa", sum := "1c2233e9a87038157cb418216e74216c6524fadf5779fd89e32872001d37ca3c", func := "loop.example/g01148/laws.FnExactIsWalk", spec := "fnExactIsWalk", apart := false }
def FnExactIsWalkSaid : Prop := fnExactIsWalkRow.holds Try.pinned (OpenSpec.ofChange fnExactIsWalkSpec)

/-- ITS FALSE NEIGHBOUR: 'it returns false'. Refute it at one input. -/
def fnExactIsWalkWrong : ChangeSpec := { name := "fnExactIsWalk", fn := fun _ => fun
  | [d1, d2] => { results := [.lit (.bool false)], args := [d1, d2] }
  | _ => none }
def FnExactIsWalkWrongFalsely : Prop := fnExactIsWalkRow.holds Try.pinned (OpenSpec.ofChange fnExactIsWalkWrong)

/-- 'laws.FnExactDoublingSearch': WHATEVER THE INPUT: true; the input reads as it did. -/
def fnExactDoublingSearchSpec : ChangeSpec := { name := "fnExactDoublingSearch", fn := fun _ => fun
  | [d1, d2] => { results := [.lit (.bool true)], args := [d1, d2] }
  | _ => none }
def fnExactDoublingSearchRow : OpenClaim := { program := "ytdinmmnmjiofbaa", sum := "1c2233e9a87038157cb418216e74216c6524fadf5779fd89e32872001d37ca3c", func := "loop.example/g01148/laws.FnExactDoublingSearch", spec := "fnExactDoublingSearch", apart := false }
def FnExactDoublingSearchSaid : Prop := fnExactDoublingSearchRow.holds Try.pinned (OpenSpec.ofChange fnExactDoublingSearchSpec)

/-- ITS FALSE NEIGHBOUR: 'it returns false'. Refute it at one input. -/
def fnExactDoublingSearchWrong : ChangeSpec := { name := "fnExactDoublingSearch", fn := fun _ => fun
  | [d1, d2] => { results := [.lit (.bool false)], args := [d1, d2] }
  | _ => none }
def FnExactDoublingSearchWrongFalsely : Prop := fnExactDoublingSearchRow.holds Try.pinned (OpenSpec.ofChange fnExactDoublingSearchWrong)

/-- 'laws.FnExactNeighborsOn': WHATEVER THE INPUT: true; the input reads as it did. -/
def fnExactNeighborsOnSpec : ChangeSpec := { name := "fnExactNeighborsOn", fn := fun _ => fun
  | [d1, d2] => { results := [.lit (.bool true)], args := [d1, d2] }
  | _ => none }
def fnExactNeighborsOnRow : OpenClaim := { program := "ytdinmmnmjiofbaa", sum := "1c2233e9a87038157cb418216e74216c6524fadf5779fd89e32872001d37ca3c", func := "loop.example/g01148/laws.FnExactNeighborsOn", spec := "fnExactNeighborsOn", apart := false }
def FnExactNeighborsOnSaid : Prop := fnExactNeighborsOnRow.holds Try.pinned (OpenSpec.ofChange fnExactNeighborsOnSpec)

/-- ITS FALSE NEIGHBOUR: 'it returns false'. Refute it at one input. -/
def fnExactNeighborsOnWrong : ChangeSpec := { name := "fnExactNeighborsOn", fn := fun _ => fun
  | [d1, d2] => { results := [.lit (.bool false)], args := [d1, d2] }
  | _ => none }
def FnExactNeighborsOnWrongFalsely : Prop := fnExactNeighborsOnRow.holds Try.pinned (OpenSpec.ofChange fnExactNeighborsOnWrong)

/-- 'laws.FnExactStraightWalk': WHATEVER THE INPUT: true; the input reads as it did. -/
def fnExactStraightWalkSpec : ChangeSpec := { name := "fnExactStraightWalk", fn := fun _ => fun
  | [d1, d2, d3] => { results := [.lit (.bool true)], args := [d1, d2, d3] }
  | _ => none }
def fnExactStraightWalkRow : OpenClaim := { program := "ytdinmmnmjiofbaa", sum := "1c2233e9a87038157cb418216e74216c6524fadf5779fd89e32872001d37ca3c", func := "loop.example/g01148/laws.FnExactStraightWalk", spec := "fnExactStraightWalk", apart := false }
def FnExactStraightWalkSaid : Prop := fnExactStraightWalkRow.holds Try.pinned (OpenSpec.ofChange fnExactStraightWalkSpec)

/-- ITS FALSE NEIGHBOUR: 'it returns false'. Refute it at one input. -/
def fnExactStraightWalkWrong : ChangeSpec := { name := "fnExactStraightWalk", fn := fun _ => fun
  | [d1, d2, d3] => { results := [.lit (.bool false)], args := [d1, d2, d3] }
  | _ => none }
def FnExactStraightWalkWrongFalsely : Prop := fnExactStraightWalkRow.holds Try.pinned (OpenSpec.ofChange fnExactStraightWalkWrong)

/-- 'laws.FnExactSweepWalk': WHATEVER THE INPUT: true; the input reads as it did. -/
def fnExactSweepWalkSpec : ChangeSpec := { name := "fnExactSweepWalk", fn := fun _ => fun
  | [d1, d2] => { results := [.lit (.bool true)], args := [d1, d2] }
  | _ => none }
def fnExactSweepWalkRow : OpenClaim := { program := "ytdinmmnmjiofbaa", sum := "1c2233e9a87038157cb418216e74216c6524fadf5779fd89e32872001d37ca3c", func := "loop.example/g01148/laws.FnExactSweepWalk", spec := "fnExactSweepWalk", apart := false }
def FnExactSweepWalkSaid : Prop := fnExactSweepWalkRow.holds Try.pinned (OpenSpec.ofChange fnExactSweepWalkSpec)

/-- ITS FALSE NEIGHBOUR: 'it returns false'. Refute it at one input. -/
def fnExactSweepWalkWrong : ChangeSpec := { name := "fnExactSweepWalk", fn := fun _ => fun
  | [d1, d2] => { results := [.lit (.bool false)], args := [d1, d2] }
  | _ => none }
def FnExactSweepWalkWrongFalsely : Prop := fnExactSweepWalkRow.holds Try.pinned (OpenSpec.ofChange fnExactSweepWalkWrong)

/-- 'laws.FnExactSearchWalk': WHATEVER THE INPUT: true; the input reads as it did. -/
def fnExactSearchWalkSpec : ChangeSpec := { name := "fnExactSearchWalk", fn := fun _ => fun
  | [d1, d2, d3] => { results := [.lit (.bool true)], args := [d1, d2, d3] }
  | _ => none }
def fnExactSearchWalkRow : OpenClaim := { program := "ytdinmmnmjiofbaa", sum := "1c2233e9a87038157cb418216e74216c6524fadf5779fd89e32872001d37ca3c", func := "loop.example/g01148/laws.FnExactSearchWalk", spec := "fnExactSearchWalk", apart := false }
def FnExactSearchWalkSaid : Prop := fnExactSearchWalkRow.holds Try.pinned (OpenSpec.ofChange fnExactSearchWalkSpec)

/-- ITS FALSE NEIGHBOUR: 'it returns false'. Refute it at one input. -/
def fnExactSearchWalkWrong : ChangeSpec := { name := "fnExactSearchWalk", fn := fun _ => fun
  | [d1, d2, d3] => { results := [.lit (.bool false)], args := [d1, d2, d3] }
  | _ => none }
def FnExactSearchWalkWrongFalsely : Prop := fnExactSearchWalkRow.holds Try.pinned (OpenSpec.ofChange fnExactSearchWalkWrong)

/-- 'laws.FnExactSearchTimes': WHATEVER THE INPUT: true; the input reads as it did. -/
def fnExactSearchTimesSpec : ChangeSpec := { name := "fnExactSearchTimes", fn := fun _ => fun
  | [d1, d2, d3, d4] => { results := [.lit (.bool true)], args := [d1, d2, d3, d4] }
  | _ => none }
def fnExactSearchTimesRow : OpenClaim := { program := "ytdinmmnmjiofbaa", sum := "1c2233e9a87038157cb418216e74216c6524fadf5779fd89e32872001d37ca3c", func := "loop.example/g01148/laws.FnExactSearchTimes", spec := "fnExactSearchTimes", apart := false }
def FnExactSearchTimesSaid : Prop := fnExactSearchTimesRow.holds Try.pinned (OpenSpec.ofChange fnExactSearchTimesSpec)

/-- ITS FALSE NEIGHBOUR: 'it returns false'. Refute it at one input. -/
def fnExactSearchTimesWrong : ChangeSpec := { name := "fnExactSearchTimes", fn := fun _ => fun
  | [d1, d2, d3, d4] => { results := [.lit (.bool false)], args := [d1, d2, d3, d4] }
  | _ => none }
def FnExactSearchTimesWrongFalsely : Prop := fnExactSearchTimesRow.holds Try.pinned (OpenSpec.ofChange fnExactSearchTimesWrong)

/-- 'laws.FnExactSearchLoad': WHATEVER THE INPUT: true; the input reads as it did. -/
def fnExactSearchLoadSpec : ChangeSpec := { name := "fnExactSearchLoad", fn := fun _ => fun
  | [d1, d2, d3, d4] => { results := [.lit (.bool true)], args := [d1, d2, d3, d4] }
  | _ => none }
def fnExactSearchLoadRow : OpenClaim := { program := "ytdinmmnmjiofbaa", sum := "1c2233e9a87038157cb418216e74216c6524fadf5779fd89e32872001d37ca3c", func := "loop.example/g01148/laws.FnExactSearchLoad", spec := "fnExactSearchLoad", apart := false }
def FnExactSearchLoadSaid : Prop := fnExactSearchLoadRow.holds Try.pinned (OpenSpec.ofChange fnExactSearchLoadSpec)

/-- ITS FALSE NEIGHBOUR: 'it returns false'. Refute it at one input. -/
def fnExactSearchLoadWrong : ChangeSpec := { name := "fnExactSearchLoad", fn := fun _ => fun
  | [d1, d2, d3, d4] => { results := [.lit (.bool false)], args := [d1, d2, d3, d4] }
  | _ => none }
def FnExactSearchLoadWrongFalsely : Prop := fnExactSearchLoadRow.holds Try.pinned (OpenSpec.ofChange fnExactSearchLoadWrong)

/- THE SECOND FORM. 'bulk': how many values and letters a reading holds, each counted each time it is reached (what is shared counts as often as it is met; a slice's spare places count too). A statement '..UptoSaid' is the law's where the arguments, and the package variables that the reading takes, are together of bulk at most 1048576: NARROWER than '..Said'. Prove '..Said' where nothing that the law and all that it calls make is longer than what came in: it says more and counts as full. Else prove '..UptoSaid'. A law counts once. -/
mutual
def uptoBulk {H : Type} : DataW H → Nat
  | .lit (.string bytes) => bytes.length + 1
  | .lit _ => 1
  | .nil => 1
  | .ptr d => uptoBulk d + 1
  | .slice elems spare => uptoBulkAll elems + uptoBulkAll spare + 1
  | .agg parts => uptoBulkAll parts + 1
  | .iface _ d => uptoBulk d + 1
  | .map entries => uptoBulkEntries entries + 1
  | .held _ => 1
def uptoBulkAll {H : Type} : List (DataW H) → Nat
  | [] => 0
  | d :: r => uptoBulk d + uptoBulkAll r
def uptoBulkEntries {H : Type} : List (Lit × DataW H) → Nat
  | [] => 0
  | x :: r => uptoBulkEntry x + uptoBulkEntries r
def uptoBulkEntry {H : Type} : Lit × DataW H → Nat
  | (.string bytes, d) => bytes.length + uptoBulk d + 1
  | (_, d) => uptoBulk d + 1
 end
def uptoSmall : (H : Type) → List (DataW H) → Bool := fun _ ds => decide (uptoBulkAll ds ≤ 1048576)
def OpenSpec.upto (s : _root_.Go.ChangeSpec) : _root_.Go.OpenSpec := { _root_.Go.OpenSpec.ofChange s with cond := some uptoSmall }

/-- 'laws.FnExactLabelMoves', WHERE WHAT IT READS IS OF BULK AT MOST 1048576: true; the input reads as it did. -/
def fnExactLabelMovesUptoRow : OpenClaim := { program := "ytdinmmnmjiofbaa", sum := "1c2233e9a87038157cb418216e74216c6524fadf5779fd89e32872001d37ca3c", func := "loop.example/g01148/laws.FnExactLabelMoves", spec := "fnExactLabelMoves", apart := false, narrowed := true }
def FnExactLabelMovesUptoSaid : Prop := fnExactLabelMovesUptoRow.holds Try.pinned (OpenSpec.upto fnExactLabelMovesSpec)

/-- 'laws.FnExactMirrorSearch', WHERE WHAT IT READS IS OF BULK AT MOST 1048576: true; the input reads as it did. -/
def fnExactMirrorSearchUptoRow : OpenClaim := { program := "ytdinmmnmjiofbaa", sum := "1c2233e9a87038157cb418216e74216c6524fadf5779fd89e32872001d37ca3c", func := "loop.example/g01148/laws.FnExactMirrorSearch", spec := "fnExactMirrorSearch", unfollowed := true, recurses := true, apart := false, narrowed := true }
def FnExactMirrorSearchUptoSaid : Prop := fnExactMirrorSearchUptoRow.holds Try.pinned (OpenSpec.upto fnExactMirrorSearchSpec)

/-- 'laws.FnExactIsSearch', WHERE WHAT IT READS IS OF BULK AT MOST 1048576: true; the input reads as it did. -/
def fnExactIsSearchUptoRow : OpenClaim := { program := "ytdinmmnmjiofbaa", sum := "1c2233e9a87038157cb418216e74216c6524fadf5779fd89e32872001d37ca3c", func := "loop.example/g01148/laws.FnExactIsSearch", spec := "fnExactIsSearch", apart := false, narrowed := true }
def FnExactIsSearchUptoSaid : Prop := fnExactIsSearchUptoRow.holds Try.pinned (OpenSpec.upto fnExactIsSearchSpec)

/-- 'laws.FnExactTurnCount', WHERE WHAT IT READS IS OF BULK AT MOST 1048576: true; the input reads as it did. -/
def fnExactTurnCountUptoRow : OpenClaim := { program := "ytdinmmnmjiofbaa", sum := "1c2233e9a87038157cb418216e74216c6524fadf5779fd89e32872001d37ca3c", func := "loop.example/g01148/laws.FnExactTurnCount", spec := "fnExactTurnCount", apart := false, narrowed := true }
def FnExactTurnCountUptoSaid : Prop := fnExactTurnCountUptoRow.holds Try.pinned (OpenSpec.upto fnExactTurnCountSpec)

/-- 'laws.FnExactIsWalk', WHERE WHAT IT READS IS OF BULK AT MOST 1048576: true; the input reads as it did. -/
def fnExactIsWalkUptoRow : OpenClaim := { program := "ytdinmmnmjiofbaa", sum := "1c2233e9a87038157cb418216e74216c6524fadf5779fd89e32872001d37ca3c", func := "loop.example/g01148/laws.FnExactIsWalk", spec := "fnExactIsWalk", apart := false, narrowed := true }
def FnExactIsWalkUptoSaid : Prop := fnExactIsWalkUptoRow.holds Try.pinned (OpenSpec.upto fnExactIsWalkSpec)

/-- 'laws.FnExactDoublingSearch', WHERE WHAT IT READS IS OF BULK AT MOST 1048576: true; the input reads as it did. -/
def fnExactDoublingSearchUptoRow : OpenClaim := { program := "ytdinmmnmjiofbaa", sum := "1c2233e9a87038157cb418216e74216c6524fadf5779fd89e32872001d37ca3c", func := "loop.example/g01148/laws.FnExactDoublingSearch", spec := "fnExactDoublingSearch", apart := false, narrowed := true }
def FnExactDoublingSearchUptoSaid : Prop := fnExactDoublingSearchUptoRow.holds Try.pinned (OpenSpec.upto fnExactDoublingSearchSpec)

/-- 'laws.FnExactNeighborsOn', WHERE WHAT IT READS IS OF BULK AT MOST 1048576: true; the input reads as it did. -/
def fnExactNeighborsOnUptoRow : OpenClaim := { program := "ytdinmmnmjiofbaa", sum := "1c2233e9a87038157cb418216e74216c6524fadf5779fd89e32872001d37ca3c", func := "loop.example/g01148/laws.FnExactNeighborsOn", spec := "fnExactNeighborsOn", apart := false, narrowed := true }
def FnExactNeighborsOnUptoSaid : Prop := fnExactNeighborsOnUptoRow.holds Try.pinned (OpenSpec.upto fnExactNeighborsOnSpec)

/-- 'laws.FnExactStraightWalk', WHERE WHAT IT READS IS OF BULK AT MOST 1048576: true; the input reads as it did. -/
def fnExactStraightWalkUptoRow : OpenClaim := { program := "ytdinmmnmjiofbaa", sum := "1c2233e9a87038157cb418216e74216c6524fadf5779fd89e32872001d37ca3c", func := "loop.example/g01148/laws.FnExactStraightWalk", spec := "fnExactStraightWalk", apart := false, narrowed := true }
def FnExactStraightWalkUptoSaid : Prop := fnExactStraightWalkUptoRow.holds Try.pinned (OpenSpec.upto fnExactStraightWalkSpec)

/-- 'laws.FnExactSweepWalk', WHERE WHAT IT READS IS OF BULK AT MOST 1048576: true; the input reads as it did. -/
def fnExactSweepWalkUptoRow : OpenClaim := { program := "ytdinmmnmjiofbaa", sum := "1c2233e9a87038157cb418216e74216c6524fadf5779fd89e32872001d37ca3c", func := "loop.example/g01148/laws.FnExactSweepWalk", spec := "fnExactSweepWalk", apart := false, narrowed := true }
def FnExactSweepWalkUptoSaid : Prop := fnExactSweepWalkUptoRow.holds Try.pinned (OpenSpec.upto fnExactSweepWalkSpec)

/-- 'laws.FnExactSearchWalk', WHERE WHAT IT READS IS OF BULK AT MOST 1048576: true; the input reads as it did. -/
def fnExactSearchWalkUptoRow : OpenClaim := { program := "ytdinmmnmjiofbaa", sum := "1c2233e9a87038157cb418216e74216c6524fadf5779fd89e32872001d37ca3c", func := "loop.example/g01148/laws.FnExactSearchWalk", spec := "fnExactSearchWalk", apart := false, narrowed := true }
def FnExactSearchWalkUptoSaid : Prop := fnExactSearchWalkUptoRow.holds Try.pinned (OpenSpec.upto fnExactSearchWalkSpec)

/-- 'laws.FnExactSearchTimes', WHERE WHAT IT READS IS OF BULK AT MOST 1048576: true; the input reads as it did. -/
def fnExactSearchTimesUptoRow : OpenClaim := { program := "ytdinmmnmjiofbaa", sum := "1c2233e9a87038157cb418216e74216c6524fadf5779fd89e32872001d37ca3c", func := "loop.example/g01148/laws.FnExactSearchTimes", spec := "fnExactSearchTimes", apart := false, narrowed := true }
def FnExactSearchTimesUptoSaid : Prop := fnExactSearchTimesUptoRow.holds Try.pinned (OpenSpec.upto fnExactSearchTimesSpec)

/-- 'laws.FnExactSearchLoad', WHERE WHAT IT READS IS OF BULK AT MOST 1048576: true; the input reads as it did. -/
def fnExactSearchLoadUptoRow : OpenClaim := { program := "ytdinmmnmjiofbaa", sum := "1c2233e9a87038157cb418216e74216c6524fadf5779fd89e32872001d37ca3c", func := "loop.example/g01148/laws.FnExactSearchLoad", spec := "fnExactSearchLoad", apart := false, narrowed := true }
def FnExactSearchLoadUptoSaid : Prop := fnExactSearchLoadUptoRow.holds Try.pinned (OpenSpec.upto fnExactSearchLoadSpec)

end Rows
end Go.Proofs.Ytdinmmnmjiofbaa
