/-
  No cell of these rows narrows 'for every input' (looked for: loops, veiled, ifaces, maps, wideKeys, modest, calm, conditions, laid).
  DERIVED. THE GIVEN ROWS OF THIS SEAT. 6 by the template 'for every input the law returns true; each argument reads behind the call as it read before'; 0 by the template 'total and deterministic' (their statements: YtaomldgodfbokaaTotals.lean).
  GIVEN WITH THE SEED: the statements are not yours to turn. If you find one false, say at which input.
  Laid BY PROGRAM, IN A SANDBOX (cutbox-rows.mjs): the forced cells as the released guide's own fill.sh prints them over the translation c7ebb010e20878ca… (all of the seat's roots in one cut). By AI agents, Wed Nov 11 2026. No macro, syntax, notation, axiom, sorry.
-/
import Derived.Test.YtaomldgodfbokaaChecked
import GoSem.Claim
import GoSem.ClaimJoined
import GoSem.ClaimMapViews
import Derived.JoinedTies
import Derived.KernelRfl
namespace Go.Proofs.Ytaomldgodfbokaa
/- THE CELL 'sum', in the pinned program and in every row, IS THE sha256 OF THE DUMP (.gsa) THAT YtaomldgodfbokaaProg.lean LOADS. Nothing in Lean hashes anything: it is a label: what it is worth is what the hold of that sum in a sandbox is worth. -/
noncomputable def Try.pinned : Pinned := { name := "ytaomldgodfbokaa", sum := "c7ebb010e20878ca69e9ad5b7353208bc64e92fe262fc9aa62782c967dc216e3", checked := Try.checked }
namespace Rows
def none {H : Type} : Left H := { results := [], args := [] }

/-- 'laws.FnExactLeastLoad': WHATEVER THE INPUT: true; the input reads as it did. -/
def fnExactLeastLoadSpec : ChangeSpec := { name := "fnExactLeastLoad", fn := fun _ => fun
  | [d1, d2, d3] => { results := [.lit (.bool true)], args := [d1, d2, d3] }
  | _ => none }
def fnExactLeastLoadRow : OpenClaim := { program := "ytaomldgodfbokaa", sum := "c7ebb010e20878ca69e9ad5b7353208bc64e92fe262fc9aa62782c967dc216e3", func := "loop.example/g01148/laws.FnExactLeastLoad", spec := "fnExactLeastLoad", unfollowed := true, recurses := true, plainKeys := false, apart := false }
def FnExactLeastLoadSaid : Prop := fnExactLeastLoadRow.holds Try.pinned (OpenSpec.ofChange fnExactLeastLoadSpec)

/-- ITS FALSE NEIGHBOUR: 'it returns false'. Refute it at one input. -/
def fnExactLeastLoadWrong : ChangeSpec := { name := "fnExactLeastLoad", fn := fun _ => fun
  | [d1, d2, d3] => { results := [.lit (.bool false)], args := [d1, d2, d3] }
  | _ => none }
def FnExactLeastLoadWrongFalsely : Prop := fnExactLeastLoadRow.holds Try.pinned (OpenSpec.ofChange fnExactLeastLoadWrong)

/-- 'laws.FnExactWorstPlace': WHATEVER THE INPUT: true; the input reads as it did. -/
def fnExactWorstPlaceSpec : ChangeSpec := { name := "fnExactWorstPlace", fn := fun _ => fun
  | [d1, d2, d3, d4] => { results := [.lit (.bool true)], args := [d1, d2, d3, d4] }
  | _ => none }
def fnExactWorstPlaceRow : OpenClaim := { program := "ytaomldgodfbokaa", sum := "c7ebb010e20878ca69e9ad5b7353208bc64e92fe262fc9aa62782c967dc216e3", func := "loop.example/g01148/laws.FnExactWorstPlace", spec := "fnExactWorstPlace", plainKeys := false, apart := false }
def FnExactWorstPlaceSaid : Prop := fnExactWorstPlaceRow.holds Try.pinned (OpenSpec.ofChange fnExactWorstPlaceSpec)

/-- ITS FALSE NEIGHBOUR: 'it returns false'. Refute it at one input. -/
def fnExactWorstPlaceWrong : ChangeSpec := { name := "fnExactWorstPlace", fn := fun _ => fun
  | [d1, d2, d3, d4] => { results := [.lit (.bool false)], args := [d1, d2, d3, d4] }
  | _ => none }
def FnExactWorstPlaceWrongFalsely : Prop := fnExactWorstPlaceRow.holds Try.pinned (OpenSpec.ofChange fnExactWorstPlaceWrong)

/-- 'laws.FnExactSearchRatio': WHATEVER THE INPUT: true; the input reads as it did. -/
def fnExactSearchRatioSpec : ChangeSpec := { name := "fnExactSearchRatio", fn := fun _ => fun
  | [d1, d2, d3, d4] => { results := [.lit (.bool true)], args := [d1, d2, d3, d4] }
  | _ => none }
def fnExactSearchRatioRow : OpenClaim := { program := "ytaomldgodfbokaa", sum := "c7ebb010e20878ca69e9ad5b7353208bc64e92fe262fc9aa62782c967dc216e3", func := "loop.example/g01148/laws.FnExactSearchRatio", spec := "fnExactSearchRatio", plainKeys := false, apart := false }
def FnExactSearchRatioSaid : Prop := fnExactSearchRatioRow.holds Try.pinned (OpenSpec.ofChange fnExactSearchRatioSpec)

/-- ITS FALSE NEIGHBOUR: 'it returns false'. Refute it at one input. -/
def fnExactSearchRatioWrong : ChangeSpec := { name := "fnExactSearchRatio", fn := fun _ => fun
  | [d1, d2, d3, d4] => { results := [.lit (.bool false)], args := [d1, d2, d3, d4] }
  | _ => none }
def FnExactSearchRatioWrongFalsely : Prop := fnExactSearchRatioRow.holds Try.pinned (OpenSpec.ofChange fnExactSearchRatioWrong)

/-- 'laws.FnExactAllSearches': WHATEVER THE INPUT: true; the input reads as it did. -/
def fnExactAllSearchesSpec : ChangeSpec := { name := "fnExactAllSearches", fn := fun _ => fun
  | [d1, d2] => { results := [.lit (.bool true)], args := [d1, d2] }
  | _ => none }
def fnExactAllSearchesRow : OpenClaim := { program := "ytaomldgodfbokaa", sum := "c7ebb010e20878ca69e9ad5b7353208bc64e92fe262fc9aa62782c967dc216e3", func := "loop.example/g01148/laws.FnExactAllSearches", spec := "fnExactAllSearches", unfollowed := true, recurses := true, plainKeys := false, apart := false }
def FnExactAllSearchesSaid : Prop := fnExactAllSearchesRow.holds Try.pinned (OpenSpec.ofChange fnExactAllSearchesSpec)

/-- ITS FALSE NEIGHBOUR: 'it returns false'. Refute it at one input. -/
def fnExactAllSearchesWrong : ChangeSpec := { name := "fnExactAllSearches", fn := fun _ => fun
  | [d1, d2] => { results := [.lit (.bool false)], args := [d1, d2] }
  | _ => none }
def FnExactAllSearchesWrongFalsely : Prop := fnExactAllSearchesRow.holds Try.pinned (OpenSpec.ofChange fnExactAllSearchesWrong)

/-- 'laws.FnExactBestSearch': WHATEVER THE INPUT: true; the input reads as it did. -/
def fnExactBestSearchSpec : ChangeSpec := { name := "fnExactBestSearch", fn := fun _ => fun
  | [d1, d2, d3] => { results := [.lit (.bool true)], args := [d1, d2, d3] }
  | _ => none }
def fnExactBestSearchRow : OpenClaim := { program := "ytaomldgodfbokaa", sum := "c7ebb010e20878ca69e9ad5b7353208bc64e92fe262fc9aa62782c967dc216e3", func := "loop.example/g01148/laws.FnExactBestSearch", spec := "fnExactBestSearch", unfollowed := true, recurses := true, plainKeys := false, apart := false }
def FnExactBestSearchSaid : Prop := fnExactBestSearchRow.holds Try.pinned (OpenSpec.ofChange fnExactBestSearchSpec)

/-- ITS FALSE NEIGHBOUR: 'it returns false'. Refute it at one input. -/
def fnExactBestSearchWrong : ChangeSpec := { name := "fnExactBestSearch", fn := fun _ => fun
  | [d1, d2, d3] => { results := [.lit (.bool false)], args := [d1, d2, d3] }
  | _ => none }
def FnExactBestSearchWrongFalsely : Prop := fnExactBestSearchRow.holds Try.pinned (OpenSpec.ofChange fnExactBestSearchWrong)

/-- 'laws.FnExactTourTime': WHATEVER THE INPUT: true; the input reads as it did. -/
def fnExactTourTimeSpec : ChangeSpec := { name := "fnExactTourTime", fn := fun _ => fun
  | [d1, d2, d3] => { results := [.lit (.bool true)], args := [d1, d2, d3] }
  | _ => none }
def fnExactTourTimeRow : OpenClaim := { program := "ytaomldgodfbokaa", sum := "c7ebb010e20878ca69e9ad5b7353208bc64e92fe262fc9aa62782c967dc216e3", func := "loop.example/g01148/laws.FnExactTourTime", spec := "fnExactTourTime", unfollowed := true, recurses := true, plainKeys := false, apart := false }
def FnExactTourTimeSaid : Prop := fnExactTourTimeRow.holds Try.pinned (OpenSpec.ofChange fnExactTourTimeSpec)

/-- ITS FALSE NEIGHBOUR: 'it returns false'. Refute it at one input. -/
def fnExactTourTimeWrong : ChangeSpec := { name := "fnExactTourTime", fn := fun _ => fun
  | [d1, d2, d3] => { results := [.lit (.bool false)], args := [d1, d2, d3] }
  | _ => none }
def FnExactTourTimeWrongFalsely : Prop := fnExactTourTimeRow.holds Try.pinned (OpenSpec.ofChange fnExactTourTimeWrong)

/- THE SECOND FORM. 'bulk': how many values and letters a reading holds, each counted each time it is reached (what is shared counts as often as it is met; a slice's spare places count too). A statement '..UptoSaid' is the law's where the arguments, and the package variables that the reading takes, are together of bulk at most 1048576: NARROWER than '..Said'. Prove '..Said' where nothing that the law and all that it calls make is longer than what came in: it says more and counts as full. Else prove '..UptoSaid'. A law counts once. -/
mutual
def uptoBulk {H : Type} : DataW H → Nat
  | .lit (.string bytes) => bytes.length + 1
  | .lit _ => 1
  | .nil => 1
  | .ptr d => uptoBulk d + 1
  | .slice elems spare => uptoBulkAll elems + uptoBulkAll spare + 1
  | .agg parts => uptoBulkAll parts + 1
  | .iface _ d => uptoBulk d + 1
  | .map entries => uptoBulkEntries entries + 1
  | .held _ => 1
def uptoBulkAll {H : Type} : List (DataW H) → Nat
  | [] => 0
  | d :: r => uptoBulk d + uptoBulkAll r
def uptoBulkEntries {H : Type} : List (Lit × DataW H) → Nat
  | [] => 0
  | x :: r => uptoBulkEntry x + uptoBulkEntries r
def uptoBulkEntry {H : Type} : Lit × DataW H → Nat
  | (.string bytes, d) => bytes.length + uptoBulk d + 1
  | (_, d) => uptoBulk d + 1
 end
def uptoSmall : (H : Type) → List (DataW H) → Bool := fun _ ds => decide (uptoBulkAll ds ≤ 1048576)
def OpenSpec.upto (s : _root_.Go.ChangeSpec) : _root_.Go.OpenSpec := { _root_.Go.OpenSpec.ofChange s with cond := some uptoSmall }

/-- 'laws.FnExactLeastLoad', WHERE WHAT IT READS IS OF BULK AT MOST 1048576: true; the input reads as it did. -/
def fnExactLeastLoadUptoRow : OpenClaim := { program := "ytaomldgodfbokaa", sum := "c7ebb010e20878ca69e9ad5b7353208bc64e92fe262fc9aa62782c967dc216e3", func := "loop.example/g01148/laws.FnExactLeastLoad", spec := "fnExactLeastLoad", unfollowed := true, recurses := true, plainKeys := false, apart := false, narrowed := true }
def FnExactLeastLoadUptoSaid : Prop := fnExactLeastLoadUptoRow.holds Try.pinned (OpenSpec.upto fnExactLeastLoadSpec)

/-- 'laws.FnExactWorstPlace', WHERE WHAT IT READS IS OF BULK AT MOST 1048576: true; the input reads as it did. -/
def fnExactWorstPlaceUptoRow : OpenClaim := { program := "ytaomldgodfbokaa", sum := "c7ebb010e20878ca69e9ad5b7353208bc64e92fe262fc9aa62782c967dc216e3", func := "loop.example/g01148/laws.FnExactWorstPlace", spec := "fnExactWorstPlace", plainKeys := false, apart := false, narrowed := true }
def FnExactWorstPlaceUptoSaid : Prop := fnExactWorstPlaceUptoRow.holds Try.pinned (OpenSpec.upto fnExactWorstPlaceSpec)

/-- 'laws.FnExactSearchRatio', WHERE WHAT IT READS IS OF BULK AT MOST 1048576: true; the input reads as it did. -/
def fnExactSearchRatioUptoRow : OpenClaim := { program := "ytaomldgodfbokaa", sum := "c7ebb010e20878ca69e9ad5b7353208bc64e92fe262fc9aa62782c967dc216e3", func := "loop.example/g01148/laws.FnExactSearchRatio", spec := "fnExactSearchRatio", plainKeys := false, apart := false, narrowed := true }
def FnExactSearchRatioUptoSaid : Prop := fnExactSearchRatioUptoRow.holds Try.pinned (OpenSpec.upto fnExactSearchRatioSpec)

/-- 'laws.FnExactAllSearches', WHERE WHAT IT READS IS OF BULK AT MOST 1048576: true; the input reads as it did. -/
def fnExactAllSearchesUptoRow : OpenClaim := { program := "ytaomldgodfbokaa", sum := "c7ebb010e20878ca69e9ad5b7353208bc64e92fe262fc9aa62782c967dc216e3", func := "loop.example/g01148/laws.FnExactAllSearches", spec := "fnExactAllSearches", unfollowed := true, recurses := true, plainKeys := false, apart := false, narrowed := true }
def FnExactAllSearchesUptoSaid : Prop := fnExactAllSearchesUptoRow.holds Try.pinned (OpenSpec.upto fnExactAllSearchesSpec)

/-- 'laws.FnExactBestSearch', WHERE WHAT IT READS IS OF BULK AT MOST 1048576: true; the input reads as it did. -/
def fnExactBestSearchUptoRow : OpenClaim := { program := "ytaomldgodfbokaa", sum := "c7ebb010e20878ca69e9ad5b7353208bc64e92fe262fc9aa62782c967dc216e3", func := "loop.example/g01148/laws.FnExactBestSearch", spec := "fnExactBestSearch", unfollowed := true, recurses := true, plainKeys := false, apart := false, narrowed := true }
def FnExactBestSearchUptoSaid : Prop := fnExactBestSearchUptoRow.holds Try.pinned (OpenSpec.upto fnExactBestSearchSpec)

/-- 'laws.FnExactTourTime', WHERE WHAT IT READS IS OF BULK AT MOST 1048576: true; the input reads as it did. -/
def fnExactTourTimeUptoRow : OpenClaim := { program := "ytaomldgodfbokaa", sum := "c7ebb010e20878ca69e9ad5b7353208bc64e92fe262fc9aa62782c967dc216e3", func := "loop.example/g01148/laws.FnExactTourTime", spec := "fnExactTourTime", unfollowed := true, recurses := true, plainKeys := false, apart := false, narrowed := true }
def FnExactTourTimeUptoSaid : Prop := fnExactTourTimeUptoRow.holds Try.pinned (OpenSpec.upto fnExactTourTimeSpec)

end Rows
end Go.Proofs.Ytaomldgodfbokaa
