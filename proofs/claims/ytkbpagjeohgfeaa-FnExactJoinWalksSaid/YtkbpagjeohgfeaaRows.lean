/-
  No cell of these rows narrows 'for every input' (looked for: loops, veiled, ifaces, maps, wideKeys, modest, calm, conditions, laid).
  DERIVED. THE GIVEN ROWS OF THIS SEAT. 12 by the template 'for every input the law returns true; each argument reads behind the call as it read before'; 0 by the template 'total and deterministic' (their statements: YtkbpagjeohgfeaaTotals.lean).
  GIVEN WITH THE SEED: the statements are not yours to turn. If you find one false, say at which input.
  Laid BY PROGRAM, IN A SANDBOX (cutbox-rows.mjs): the forced cells as the released guide's own fill.sh prints them over the translation 9504fd21ced71f9e… (all of the seat's roots in one cut). By AI agents, Wed Nov 11 2026. No macro, syntax, notation, axiom, sorry.
-/
import Derived.Test.YtkbpagjeohgfeaaChecked
import GoSem.Claim
import GoSem.ClaimJoined
import GoSem.ClaimMapViews
import Derived.JoinedTies
import Derived.KernelRfl
namespace Go.Proofs.Ytkbpagjeohgfeaa
/- THE CELL 'sum', in the pinned program and in every row, IS THE sha256 OF THE DUMP (.gsa) THAT YtkbpagjeohgfeaaProg.lean LOADS. Nothing in Lean hashes anything: it is a label: what it is worth is what the hold of that sum in a sandbox is worth. -/
noncomputable def Try.pinned : Pinned := { name := "ytkbpagjeohgfeaa", sum := "9504fd21ced71f9e86572ce44168e35f69f30c63cefbfa69bcdc740ec00f8919", checked := Try.checked }
namespace Rows
def none {H : Type} : Left H := { results := [], args := [] }

/-- 'laws.FnExactPlaceAt': WHATEVER THE INPUT: true; the input reads as it did. -/
def fnExactPlaceAtSpec : ChangeSpec := { name := "fnExactPlaceAt", fn := fun _ => fun
  | [d1, d2, d3] => { results := [.lit (.bool true)], args := [d1, d2, d3] }
  | _ => none }
def fnExactPlaceAtRow : OpenClaim := { program := "ytkbpagjeohgfeaa", sum := "9504fd21ced71f9e86572ce44168e35f69f30c63cefbfa69bcdc740ec00f8919", func := "loop.example/g01148/laws.FnExactPlaceAt", spec := "fnExactPlaceAt", unfollowed := true, recurses := true, apart := false }
def FnExactPlaceAtSaid : Prop := fnExactPlaceAtRow.holds Try.pinned (OpenSpec.ofChange fnExactPlaceAtSpec)

/-- ITS FALSE NEIGHBOUR: 'it returns false'. Refute it at one input. -/
def fnExactPlaceAtWrong : ChangeSpec := { name := "fnExactPlaceAt", fn := fun _ => fun
  | [d1, d2, d3] => { results := [.lit (.bool false)], args := [d1, d2, d3] }
  | _ => none }
def FnExactPlaceAtWrongFalsely : Prop := fnExactPlaceAtRow.holds Try.pinned (OpenSpec.ofChange fnExactPlaceAtWrong)

/-- 'laws.FnExactStepCount': WHATEVER THE INPUT: true; the input reads as it did. -/
def fnExactStepCountSpec : ChangeSpec := { name := "fnExactStepCount", fn := fun _ => fun
  | [d1, d2] => { results := [.lit (.bool true)], args := [d1, d2] }
  | _ => none }
def fnExactStepCountRow : OpenClaim := { program := "ytkbpagjeohgfeaa", sum := "9504fd21ced71f9e86572ce44168e35f69f30c63cefbfa69bcdc740ec00f8919", func := "loop.example/g01148/laws.FnExactStepCount", spec := "fnExactStepCount", unfollowed := true, recurses := true, apart := false }
def FnExactStepCountSaid : Prop := fnExactStepCountRow.holds Try.pinned (OpenSpec.ofChange fnExactStepCountSpec)

/-- ITS FALSE NEIGHBOUR: 'it returns false'. Refute it at one input. -/
def fnExactStepCountWrong : ChangeSpec := { name := "fnExactStepCount", fn := fun _ => fun
  | [d1, d2] => { results := [.lit (.bool false)], args := [d1, d2] }
  | _ => none }
def FnExactStepCountWrongFalsely : Prop := fnExactStepCountRow.holds Try.pinned (OpenSpec.ofChange fnExactStepCountWrong)

/-- 'laws.FnExactShiftWalk': WHATEVER THE INPUT: true; the input reads as it did. -/
def fnExactShiftWalkSpec : ChangeSpec := { name := "fnExactShiftWalk", fn := fun _ => fun
  | [d1, d2, d3] => { results := [.lit (.bool true)], args := [d1, d2, d3] }
  | _ => none }
def fnExactShiftWalkRow : OpenClaim := { program := "ytkbpagjeohgfeaa", sum := "9504fd21ced71f9e86572ce44168e35f69f30c63cefbfa69bcdc740ec00f8919", func := "loop.example/g01148/laws.FnExactShiftWalk", spec := "fnExactShiftWalk", unfollowed := true, recurses := true, apart := false }
def FnExactShiftWalkSaid : Prop := fnExactShiftWalkRow.holds Try.pinned (OpenSpec.ofChange fnExactShiftWalkSpec)

/-- ITS FALSE NEIGHBOUR: 'it returns false'. Refute it at one input. -/
def fnExactShiftWalkWrong : ChangeSpec := { name := "fnExactShiftWalk", fn := fun _ => fun
  | [d1, d2, d3] => { results := [.lit (.bool false)], args := [d1, d2, d3] }
  | _ => none }
def FnExactShiftWalkWrongFalsely : Prop := fnExactShiftWalkRow.holds Try.pinned (OpenSpec.ofChange fnExactShiftWalkWrong)

/-- 'laws.FnExactBackWalk': WHATEVER THE INPUT: true; the input reads as it did. -/
def fnExactBackWalkSpec : ChangeSpec := { name := "fnExactBackWalk", fn := fun _ => fun
  | [d1, d2] => { results := [.lit (.bool true)], args := [d1, d2] }
  | _ => none }
def fnExactBackWalkRow : OpenClaim := { program := "ytkbpagjeohgfeaa", sum := "9504fd21ced71f9e86572ce44168e35f69f30c63cefbfa69bcdc740ec00f8919", func := "loop.example/g01148/laws.FnExactBackWalk", spec := "fnExactBackWalk", unfollowed := true, recurses := true, apart := false }
def FnExactBackWalkSaid : Prop := fnExactBackWalkRow.holds Try.pinned (OpenSpec.ofChange fnExactBackWalkSpec)

/-- ITS FALSE NEIGHBOUR: 'it returns false'. Refute it at one input. -/
def fnExactBackWalkWrong : ChangeSpec := { name := "fnExactBackWalk", fn := fun _ => fun
  | [d1, d2] => { results := [.lit (.bool false)], args := [d1, d2] }
  | _ => none }
def FnExactBackWalkWrongFalsely : Prop := fnExactBackWalkRow.holds Try.pinned (OpenSpec.ofChange fnExactBackWalkWrong)

/-- 'laws.FnExactMirrorWalk': WHATEVER THE INPUT: true; the input reads as it did. -/
def fnExactMirrorWalkSpec : ChangeSpec := { name := "fnExactMirrorWalk", fn := fun _ => fun
  | [d1, d2] => { results := [.lit (.bool true)], args := [d1, d2] }
  | _ => none }
def fnExactMirrorWalkRow : OpenClaim := { program := "ytkbpagjeohgfeaa", sum := "9504fd21ced71f9e86572ce44168e35f69f30c63cefbfa69bcdc740ec00f8919", func := "loop.example/g01148/laws.FnExactMirrorWalk", spec := "fnExactMirrorWalk", unfollowed := true, recurses := true, apart := false }
def FnExactMirrorWalkSaid : Prop := fnExactMirrorWalkRow.holds Try.pinned (OpenSpec.ofChange fnExactMirrorWalkSpec)

/-- ITS FALSE NEIGHBOUR: 'it returns false'. Refute it at one input. -/
def fnExactMirrorWalkWrong : ChangeSpec := { name := "fnExactMirrorWalk", fn := fun _ => fun
  | [d1, d2] => { results := [.lit (.bool false)], args := [d1, d2] }
  | _ => none }
def FnExactMirrorWalkWrongFalsely : Prop := fnExactMirrorWalkRow.holds Try.pinned (OpenSpec.ofChange fnExactMirrorWalkWrong)

/-- 'laws.FnExactPassTimes': WHATEVER THE INPUT: true; the input reads as it did. -/
def fnExactPassTimesSpec : ChangeSpec := { name := "fnExactPassTimes", fn := fun _ => fun
  | [d1, d2, d3] => { results := [.lit (.bool true)], args := [d1, d2, d3] }
  | _ => none }
def fnExactPassTimesRow : OpenClaim := { program := "ytkbpagjeohgfeaa", sum := "9504fd21ced71f9e86572ce44168e35f69f30c63cefbfa69bcdc740ec00f8919", func := "loop.example/g01148/laws.FnExactPassTimes", spec := "fnExactPassTimes", unfollowed := true, recurses := true, apart := false }
def FnExactPassTimesSaid : Prop := fnExactPassTimesRow.holds Try.pinned (OpenSpec.ofChange fnExactPassTimesSpec)

/-- ITS FALSE NEIGHBOUR: 'it returns false'. Refute it at one input. -/
def fnExactPassTimesWrong : ChangeSpec := { name := "fnExactPassTimes", fn := fun _ => fun
  | [d1, d2, d3] => { results := [.lit (.bool false)], args := [d1, d2, d3] }
  | _ => none }
def FnExactPassTimesWrongFalsely : Prop := fnExactPassTimesRow.holds Try.pinned (OpenSpec.ofChange fnExactPassTimesWrong)

/-- 'laws.FnExactWaitWalk': WHATEVER THE INPUT: true; the input reads as it did. -/
def fnExactWaitWalkSpec : ChangeSpec := { name := "fnExactWaitWalk", fn := fun _ => fun
  | [d1, d2, d3, d4] => { results := [.lit (.bool true)], args := [d1, d2, d3, d4] }
  | _ => none }
def fnExactWaitWalkRow : OpenClaim := { program := "ytkbpagjeohgfeaa", sum := "9504fd21ced71f9e86572ce44168e35f69f30c63cefbfa69bcdc740ec00f8919", func := "loop.example/g01148/laws.FnExactWaitWalk", spec := "fnExactWaitWalk", unfollowed := true, recurses := true, apart := false }
def FnExactWaitWalkSaid : Prop := fnExactWaitWalkRow.holds Try.pinned (OpenSpec.ofChange fnExactWaitWalkSpec)

/-- ITS FALSE NEIGHBOUR: 'it returns false'. Refute it at one input. -/
def fnExactWaitWalkWrong : ChangeSpec := { name := "fnExactWaitWalk", fn := fun _ => fun
  | [d1, d2, d3, d4] => { results := [.lit (.bool false)], args := [d1, d2, d3, d4] }
  | _ => none }
def FnExactWaitWalkWrongFalsely : Prop := fnExactWaitWalkRow.holds Try.pinned (OpenSpec.ofChange fnExactWaitWalkWrong)

/-- 'laws.FnExactMeetTimes': WHATEVER THE INPUT: true; the input reads as it did. -/
def fnExactMeetTimesSpec : ChangeSpec := { name := "fnExactMeetTimes", fn := fun _ => fun
  | [d1, d2, d3] => { results := [.lit (.bool true)], args := [d1, d2, d3] }
  | _ => none }
def fnExactMeetTimesRow : OpenClaim := { program := "ytkbpagjeohgfeaa", sum := "9504fd21ced71f9e86572ce44168e35f69f30c63cefbfa69bcdc740ec00f8919", func := "loop.example/g01148/laws.FnExactMeetTimes", spec := "fnExactMeetTimes", unfollowed := true, recurses := true, apart := false }
def FnExactMeetTimesSaid : Prop := fnExactMeetTimesRow.holds Try.pinned (OpenSpec.ofChange fnExactMeetTimesSpec)

/-- ITS FALSE NEIGHBOUR: 'it returns false'. Refute it at one input. -/
def fnExactMeetTimesWrong : ChangeSpec := { name := "fnExactMeetTimes", fn := fun _ => fun
  | [d1, d2, d3] => { results := [.lit (.bool false)], args := [d1, d2, d3] }
  | _ => none }
def FnExactMeetTimesWrongFalsely : Prop := fnExactMeetTimesRow.holds Try.pinned (OpenSpec.ofChange fnExactMeetTimesWrong)

/-- 'laws.FnExactFirstVisits': WHATEVER THE INPUT: true; the input reads as it did. -/
def fnExactFirstVisitsSpec : ChangeSpec := { name := "fnExactFirstVisits", fn := fun _ => fun
  | [d1, d2] => { results := [.lit (.bool true)], args := [d1, d2] }
  | _ => none }
def fnExactFirstVisitsRow : OpenClaim := { program := "ytkbpagjeohgfeaa", sum := "9504fd21ced71f9e86572ce44168e35f69f30c63cefbfa69bcdc740ec00f8919", func := "loop.example/g01148/laws.FnExactFirstVisits", spec := "fnExactFirstVisits", unfollowed := true, recurses := true, apart := false }
def FnExactFirstVisitsSaid : Prop := fnExactFirstVisitsRow.holds Try.pinned (OpenSpec.ofChange fnExactFirstVisitsSpec)

/-- ITS FALSE NEIGHBOUR: 'it returns false'. Refute it at one input. -/
def fnExactFirstVisitsWrong : ChangeSpec := { name := "fnExactFirstVisits", fn := fun _ => fun
  | [d1, d2] => { results := [.lit (.bool false)], args := [d1, d2] }
  | _ => none }
def FnExactFirstVisitsWrongFalsely : Prop := fnExactFirstVisitsRow.holds Try.pinned (OpenSpec.ofChange fnExactFirstVisitsWrong)

/-- 'laws.FnExactCoverTime': WHATEVER THE INPUT: true; the input reads as it did. -/
def fnExactCoverTimeSpec : ChangeSpec := { name := "fnExactCoverTime", fn := fun _ => fun
  | [d1, d2] => { results := [.lit (.bool true)], args := [d1, d2] }
  | _ => none }
def fnExactCoverTimeRow : OpenClaim := { program := "ytkbpagjeohgfeaa", sum := "9504fd21ced71f9e86572ce44168e35f69f30c63cefbfa69bcdc740ec00f8919", func := "loop.example/g01148/laws.FnExactCoverTime", spec := "fnExactCoverTime", unfollowed := true, recurses := true, apart := false }
def FnExactCoverTimeSaid : Prop := fnExactCoverTimeRow.holds Try.pinned (OpenSpec.ofChange fnExactCoverTimeSpec)

/-- ITS FALSE NEIGHBOUR: 'it returns false'. Refute it at one input. -/
def fnExactCoverTimeWrong : ChangeSpec := { name := "fnExactCoverTime", fn := fun _ => fun
  | [d1, d2] => { results := [.lit (.bool false)], args := [d1, d2] }
  | _ => none }
def FnExactCoverTimeWrongFalsely : Prop := fnExactCoverTimeRow.holds Try.pinned (OpenSpec.ofChange fnExactCoverTimeWrong)

/-- 'laws.FnExactJoinWalks': WHATEVER THE INPUT: true; the input reads as it did. -/
def fnExactJoinWalksSpec : ChangeSpec := { name := "fnExactJoinWalks", fn := fun _ => fun
  | [d1, d2, d3] => { results := [.lit (.bool true)], args := [d1, d2, d3] }
  | _ => none }
def fnExactJoinWalksRow : OpenClaim := { program := "ytkbpagjeohgfeaa", sum := "9504fd21ced71f9e86572ce44168e35f69f30c63cefbfa69bcdc740ec00f8919", func := "loop.example/g01148/laws.FnExactJoinWalks", spec := "fnExactJoinWalks", unfollowed := true, recurses := true, apart := false }
def FnExactJoinWalksSaid : Prop := fnExactJoinWalksRow.holds Try.pinned (OpenSpec.ofChange fnExactJoinWalksSpec)

/-- ITS FALSE NEIGHBOUR: 'it returns false'. Refute it at one input. -/
def fnExactJoinWalksWrong : ChangeSpec := { name := "fnExactJoinWalks", fn := fun _ => fun
  | [d1, d2, d3] => { results := [.lit (.bool false)], args := [d1, d2, d3] }
  | _ => none }
def FnExactJoinWalksWrongFalsely : Prop := fnExactJoinWalksRow.holds Try.pinned (OpenSpec.ofChange fnExactJoinWalksWrong)

/-- 'laws.FnExactTurnTimes': WHATEVER THE INPUT: true; the input reads as it did. -/
def fnExactTurnTimesSpec : ChangeSpec := { name := "fnExactTurnTimes", fn := fun _ => fun
  | [d1, d2] => { results := [.lit (.bool true)], args := [d1, d2] }
  | _ => none }
def fnExactTurnTimesRow : OpenClaim := { program := "ytkbpagjeohgfeaa", sum := "9504fd21ced71f9e86572ce44168e35f69f30c63cefbfa69bcdc740ec00f8919", func := "loop.example/g01148/laws.FnExactTurnTimes", spec := "fnExactTurnTimes", unfollowed := true, recurses := true, apart := false }
def FnExactTurnTimesSaid : Prop := fnExactTurnTimesRow.holds Try.pinned (OpenSpec.ofChange fnExactTurnTimesSpec)

/-- ITS FALSE NEIGHBOUR: 'it returns false'. Refute it at one input. -/
def fnExactTurnTimesWrong : ChangeSpec := { name := "fnExactTurnTimes", fn := fun _ => fun
  | [d1, d2] => { results := [.lit (.bool false)], args := [d1, d2] }
  | _ => none }
def FnExactTurnTimesWrongFalsely : Prop := fnExactTurnTimesRow.holds Try.pinned (OpenSpec.ofChange fnExactTurnTimesWrong)

/- THE SECOND FORM. 'bulk': how many values and letters a reading holds, each counted each time it is reached (what is shared counts as often as it is met; a slice's spare places count too). A statement '..UptoSaid' is the law's where the arguments, and the package variables that the reading takes, are together of bulk at most 1048576: NARROWER than '..Said'. Prove '..Said' where nothing that the law and all that it calls make is longer than what came in: it says more and counts as full. Else prove '..UptoSaid'. A law counts once. -/
mutual
def uptoBulk {H : Type} : DataW H → Nat
  | .lit (.string bytes) => bytes.length + 1
  | .lit _ => 1
  | .nil => 1
  | .ptr d => uptoBulk d + 1
  | .slice elems spare => uptoBulkAll elems + uptoBulkAll spare + 1
  | .agg parts => uptoBulkAll parts + 1
  | .iface _ d => uptoBulk d + 1
  | .map entries => uptoBulkEntries entries + 1
  | .held _ => 1
def uptoBulkAll {H : Type} : List (DataW H) → Nat
  | [] => 0
  | d :: r => uptoBulk d + uptoBulkAll r
def uptoBulkEntries {H : Type} : List (Lit × DataW H) → Nat
  | [] => 0
  | x :: r => uptoBulkEntry x + uptoBulkEntries r
def uptoBulkEntry {H : Type} : Lit × DataW H → Nat
  | (.string bytes, d) => bytes.length + uptoBulk d + 1
  | (_, d) => uptoBulk d + 1
 end
def uptoSmall : (H : Type) → List (DataW H) → Bool := fun _ ds => decide (uptoBulkAll ds ≤ 1048576)
def OpenSpec.upto (s : _root_.Go.ChangeSpec) : _root_.Go.OpenSpec := { _root_.Go.OpenSpec.ofChange s with cond := some uptoSmall }

/-- 'laws.FnExactPlaceAt', WHERE WHAT IT READS IS OF BULK AT MOST 1048576: true; the input reads as it did. -/
def fnExactPlaceAtUptoRow : OpenClaim := { program := "ytkbpagjeohgfeaa", sum := "9504fd21ced71f9e86572ce44168e35f69f30c63cefbfa69bcdc740ec00f8919", func := "loop.example/g01148/laws.FnExactPlaceAt", spec := "fnExactPlaceAt", unfollowed := true, recurses := true, apart := false, narrowed := true }
def FnExactPlaceAtUptoSaid : Prop := fnExactPlaceAtUptoRow.holds Try.pinned (OpenSpec.upto fnExactPlaceAtSpec)

/-- 'laws.FnExactStepCount', WHERE WHAT IT READS IS OF BULK AT MOST 1048576: true; the input reads as it did. -/
def fnExactStepCountUptoRow : OpenClaim := { program := "ytkbpagjeohgfeaa", sum := "9504fd21ced71f9e86572ce44168e35f69f30c63cefbfa69bcdc740ec00f8919", func := "loop.example/g01148/laws.FnExactStepCount", spec := "fnExactStepCount", unfollowed := true, recurses := true, apart := false, narrowed := true }
def FnExactStepCountUptoSaid : Prop := fnExactStepCountUptoRow.holds Try.pinned (OpenSpec.upto fnExactStepCountSpec)

/-- 'laws.FnExactShiftWalk', WHERE WHAT IT READS IS OF BULK AT MOST 1048576: true; the input reads as it did. -/
def fnExactShiftWalkUptoRow : OpenClaim := { program := "ytkbpagjeohgfeaa", sum := "9504fd21ced71f9e86572ce44168e35f69f30c63cefbfa69bcdc740ec00f8919", func := "loop.example/g01148/laws.FnExactShiftWalk", spec := "fnExactShiftWalk", unfollowed := true, recurses := true, apart := false, narrowed := true }
def FnExactShiftWalkUptoSaid : Prop := fnExactShiftWalkUptoRow.holds Try.pinned (OpenSpec.upto fnExactShiftWalkSpec)

/-- 'laws.FnExactBackWalk', WHERE WHAT IT READS IS OF BULK AT MOST 1048576: true; the input reads as it did. -/
def fnExactBackWalkUptoRow : OpenClaim := { program := "ytkbpagjeohgfeaa", sum := "9504fd21ced71f9e86572ce44168e35f69f30c63cefbfa69bcdc740ec00f8919", func := "loop.example/g01148/laws.FnExactBackWalk", spec := "fnExactBackWalk", unfollowed := true, recurses := true, apart := false, narrowed := true }
def FnExactBackWalkUptoSaid : Prop := fnExactBackWalkUptoRow.holds Try.pinned (OpenSpec.upto fnExactBackWalkSpec)

/-- 'laws.FnExactMirrorWalk', WHERE WHAT IT READS IS OF BULK AT MOST 1048576: true; the input reads as it did. -/
def fnExactMirrorWalkUptoRow : OpenClaim := { program := "ytkbpagjeohgfeaa", sum := "9504fd21ced71f9e86572ce44168e35f69f30c63cefbfa69bcdc740ec00f8919", func := "loop.example/g01148/laws.FnExactMirrorWalk", spec := "fnExactMirrorWalk", unfollowed := true, recurses := true, apart := false, narrowed := true }
def FnExactMirrorWalkUptoSaid : Prop := fnExactMirrorWalkUptoRow.holds Try.pinned (OpenSpec.upto fnExactMirrorWalkSpec)

/-- 'laws.FnExactPassTimes', WHERE WHAT IT READS IS OF BULK AT MOST 1048576: true; the input reads as it did. -/
def fnExactPassTimesUptoRow : OpenClaim := { program := "ytkbpagjeohgfeaa", sum := "9504fd21ced71f9e86572ce44168e35f69f30c63cefbfa69bcdc740ec00f8919", func := "loop.example/g01148/laws.FnExactPassTimes", spec := "fnExactPassTimes", unfollowed := true, recurses := true, apart := false, narrowed := true }
def FnExactPassTimesUptoSaid : Prop := fnExactPassTimesUptoRow.holds Try.pinned (OpenSpec.upto fnExactPassTimesSpec)

/-- 'laws.FnExactWaitWalk', WHERE WHAT IT READS IS OF BULK AT MOST 1048576: true; the input reads as it did. -/
def fnExactWaitWalkUptoRow : OpenClaim := { program := "ytkbpagjeohgfeaa", sum := "9504fd21ced71f9e86572ce44168e35f69f30c63cefbfa69bcdc740ec00f8919", func := "loop.example/g01148/laws.FnExactWaitWalk", spec := "fnExactWaitWalk", unfollowed := true, recurses := true, apart := false, narrowed := true }
def FnExactWaitWalkUptoSaid : Prop := fnExactWaitWalkUptoRow.holds Try.pinned (OpenSpec.upto fnExactWaitWalkSpec)

/-- 'laws.FnExactMeetTimes', WHERE WHAT IT READS IS OF BULK AT MOST 1048576: true; the input reads as it did. -/
def fnExactMeetTimesUptoRow : OpenClaim := { program := "ytkbpagjeohgfeaa", sum := "9504fd21ced71f9e86572ce44168e35f69f30c63cefbfa69bcdc740ec00f8919", func := "loop.example/g01148/laws.FnExactMeetTimes", spec := "fnExactMeetTimes", unfollowed := true, recurses := true, apart := false, narrowed := true }
def FnExactMeetTimesUptoSaid : Prop := fnExactMeetTimesUptoRow.holds Try.pinned (OpenSpec.upto fnExactMeetTimesSpec)

/-- 'laws.FnExactFirstVisits', WHERE WHAT IT READS IS OF BULK AT MOST 1048576: true; the input reads as it did. -/
def fnExactFirstVisitsUptoRow : OpenClaim := { program := "ytkbpagjeohgfeaa", sum := "9504fd21ced71f9e86572ce44168e35f69f30c63cefbfa69bcdc740ec00f8919", func := "loop.example/g01148/laws.FnExactFirstVisits", spec := "fnExactFirstVisits", unfollowed := true, recurses := true, apart := false, narrowed := true }
def FnExactFirstVisitsUptoSaid : Prop := fnExactFirstVisitsUptoRow.holds Try.pinned (OpenSpec.upto fnExactFirstVisitsSpec)

/-- 'laws.FnExactCoverTime', WHERE WHAT IT READS IS OF BULK AT MOST 1048576: true; the input reads as it did. -/
def fnExactCoverTimeUptoRow : OpenClaim := { program := "ytkbpagjeohgfeaa", sum := "9504fd21ced71f9e86572ce44168e35f69f30c63cefbfa69bcdc740ec00f8919", func := "loop.example/g01148/laws.FnExactCoverTime", spec := "fnExactCoverTime", unfollowed := true, recurses := true, apart := false, narrowed := true }
def FnExactCoverTimeUptoSaid : Prop := fnExactCoverTimeUptoRow.holds Try.pinned (OpenSpec.upto fnExactCoverTimeSpec)

/-- 'laws.FnExactJoinWalks', WHERE WHAT IT READS IS OF BULK AT MOST 1048576: true; the input reads as it did. -/
def fnExactJoinWalksUptoRow : OpenClaim := { program := "ytkbpagjeohgfeaa", sum := "9504fd21ced71f9e86572ce44168e35f69f30c63cefbfa69bcdc740ec00f8919", func := "loop.example/g01148/laws.FnExactJoinWalks", spec := "fnExactJoinWalks", unfollowed := true, recurses := true, apart := false, narrowed := true }
def FnExactJoinWalksUptoSaid : Prop := fnExactJoinWalksUptoRow.holds Try.pinned (OpenSpec.upto fnExactJoinWalksSpec)

/-- 'laws.FnExactTurnTimes', WHERE WHAT IT READS IS OF BULK AT MOST 1048576: true; the input reads as it did. -/
def fnExactTurnTimesUptoRow : OpenClaim := { program := "ytkbpagjeohgfeaa", sum := "9504fd21ced71f9e86572ce44168e35f69f30c63cefbfa69bcdc740ec00f8919", func := "loop.example/g01148/laws.FnExactTurnTimes", spec := "fnExactTurnTimes", unfollowed := true, recurses := true, apart := false, narrowed := true }
def FnExactTurnTimesUptoSaid : Prop := fnExactTurnTimesUptoRow.holds Try.pinned (OpenSpec.upto fnExactTurnTimesSpec)

end Rows
end Go.Proofs.Ytkbpagjeohgfeaa
