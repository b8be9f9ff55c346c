/-
  No cell of these rows narrows 'for every input' (looked for: loops, veiled, ifaces, maps, wideKeys, modest, calm, conditions, laid).
  DERIVED. THE GIVEN ROWS OF THIS SEAT. 6 by the template 'for every input the law returns true; each argument reads behind the call as it read before'; 0 by the template 'total and deterministic' (their statements: YtjjooadehkageaaTotals.lean).
  GIVEN WITH THE SEED: the statements are not yours to turn. If you find one false, say at which input.
  Laid BY PROGRAM, IN A SANDBOX (cutbox-rows.mjs): the forced cells as the released guide's own fill.sh prints them over the translation fc13000e3cfcfd8a… (all of the seat's roots in one cut). By AI agents, Wed Nov 11 2026. No macro, syntax, notation, axiom, sorry.
-/
import Derived.Test.YtjjooadehkageaaChecked
import GoSem.Claim
import GoSem.ClaimJoined
import GoSem.ClaimMapViews
import Derived.JoinedTies
import Derived.KernelRfl
namespace Go.Proofs.Ytjjooadehkageaa
/- THE CELL 'sum', in the pinned program and in every row, IS THE sha256 OF THE DUMP (.gsa) THAT YtjjooadehkageaaProg.lean LOADS. Nothing in Lean hashes anything: it is a label: what it is worth is what the hold of that sum in a sandbox is worth. -/
noncomputable def Try.pinned : Pinned := { name := "ytjjooadehkageaa", sum := "fc13000e3cfcfd8a8ab34cf7185fd9e77fe2ee7687e99c7ebd8fad6908d3b4a2", checked := Try.checked }
namespace Rows
def none {H : Type} : Left H := { results := [], args := [] }

/-- 'laws.FnExactConstants': WHATEVER THE INPUT: true; the input reads as it did. -/
def fnExactConstantsSpec : ChangeSpec := { name := "fnExactConstants", fn := fun _ => fun
  | [] => { results := [.lit (.bool true)], args := [] }
  | _ => none }
def fnExactConstantsRow : OpenClaim := { program := "ytjjooadehkageaa", sum := "fc13000e3cfcfd8a8ab34cf7185fd9e77fe2ee7687e99c7ebd8fad6908d3b4a2", func := "loop.example/g01148/laws.FnExactConstants", spec := "fnExactConstants", apart := false }
def FnExactConstantsSaid : Prop := fnExactConstantsRow.holds Try.pinned (OpenSpec.ofChange fnExactConstantsSpec)

/-- ITS FALSE NEIGHBOUR: 'it returns false'. Refute it at one input. -/
def fnExactConstantsWrong : ChangeSpec := { name := "fnExactConstants", fn := fun _ => fun
  | [] => { results := [.lit (.bool false)], args := [] }
  | _ => none }
def FnExactConstantsWrongFalsely : Prop := fnExactConstantsRow.holds Try.pinned (OpenSpec.ofChange fnExactConstantsWrong)

/-- 'laws.FnExactLessString': WHATEVER THE INPUT: true; the input reads as it did. -/
def fnExactLessStringSpec : ChangeSpec := { name := "fnExactLessString", fn := fun _ => fun
  | [d1, d2] => { results := [.lit (.bool true)], args := [d1, d2] }
  | _ => none }
def fnExactLessStringRow : OpenClaim := { program := "ytjjooadehkageaa", sum := "fc13000e3cfcfd8a8ab34cf7185fd9e77fe2ee7687e99c7ebd8fad6908d3b4a2", func := "loop.example/g01148/laws.FnExactLessString", spec := "fnExactLessString", apart := false }
def FnExactLessStringSaid : Prop := fnExactLessStringRow.holds Try.pinned (OpenSpec.ofChange fnExactLessStringSpec)

/-- ITS FALSE NEIGHBOUR: 'it returns false'. Refute it at one input. -/
def fnExactLessStringWrong : ChangeSpec := { name := "fnExactLessString", fn := fun _ => fun
  | [d1, d2] => { results := [.lit (.bool false)], args := [d1, d2] }
  | _ => none }
def FnExactLessStringWrongFalsely : Prop := fnExactLessStringRow.holds Try.pinned (OpenSpec.ofChange fnExactLessStringWrong)

/-- 'laws.FnExactIsRoad': WHATEVER THE INPUT: true; the input reads as it did. -/
def fnExactIsRoadSpec : ChangeSpec := { name := "fnExactIsRoad", fn := fun _ => fun
  | [d] => { results := [.lit (.bool true)], args := [d] }
  | _ => none }
def fnExactIsRoadRow : OpenClaim := { program := "ytjjooadehkageaa", sum := "fc13000e3cfcfd8a8ab34cf7185fd9e77fe2ee7687e99c7ebd8fad6908d3b4a2", func := "loop.example/g01148/laws.FnExactIsRoad", spec := "fnExactIsRoad", apart := false }
def FnExactIsRoadSaid : Prop := fnExactIsRoadRow.holds Try.pinned (OpenSpec.ofChange fnExactIsRoadSpec)

/-- ITS FALSE NEIGHBOUR: 'it returns false'. Refute it at one input. -/
def fnExactIsRoadWrong : ChangeSpec := { name := "fnExactIsRoad", fn := fun _ => fun
  | [d] => { results := [.lit (.bool false)], args := [d] }
  | _ => none }
def FnExactIsRoadWrongFalsely : Prop := fnExactIsRoadRow.holds Try.pinned (OpenSpec.ofChange fnExactIsRoadWrong)

/-- 'laws.FnExactChecksum': WHATEVER THE INPUT: true; the input reads as it did. -/
def fnExactChecksumSpec : ChangeSpec := { name := "fnExactChecksum", fn := fun _ => fun
  | [d] => { results := [.lit (.bool true)], args := [d] }
  | _ => none }
def fnExactChecksumRow : OpenClaim := { program := "ytjjooadehkageaa", sum := "fc13000e3cfcfd8a8ab34cf7185fd9e77fe2ee7687e99c7ebd8fad6908d3b4a2", func := "loop.example/g01148/laws.FnExactChecksum", spec := "fnExactChecksum", apart := false }
def FnExactChecksumSaid : Prop := fnExactChecksumRow.holds Try.pinned (OpenSpec.ofChange fnExactChecksumSpec)

/-- ITS FALSE NEIGHBOUR: 'it returns false'. Refute it at one input. -/
def fnExactChecksumWrong : ChangeSpec := { name := "fnExactChecksum", fn := fun _ => fun
  | [d] => { results := [.lit (.bool false)], args := [d] }
  | _ => none }
def FnExactChecksumWrongFalsely : Prop := fnExactChecksumRow.holds Try.pinned (OpenSpec.ofChange fnExactChecksumWrong)

/-- 'laws.FnExactGapOf': WHATEVER THE INPUT: true; the input reads as it did. -/
def fnExactGapOfSpec : ChangeSpec := { name := "fnExactGapOf", fn := fun _ => fun
  | [d1, d2, d3] => { results := [.lit (.bool true)], args := [d1, d2, d3] }
  | _ => none }
def fnExactGapOfRow : OpenClaim := { program := "ytjjooadehkageaa", sum := "fc13000e3cfcfd8a8ab34cf7185fd9e77fe2ee7687e99c7ebd8fad6908d3b4a2", func := "loop.example/g01148/laws.FnExactGapOf", spec := "fnExactGapOf", apart := false }
def FnExactGapOfSaid : Prop := fnExactGapOfRow.holds Try.pinned (OpenSpec.ofChange fnExactGapOfSpec)

/-- ITS FALSE NEIGHBOUR: 'it returns false'. Refute it at one input. -/
def fnExactGapOfWrong : ChangeSpec := { name := "fnExactGapOf", fn := fun _ => fun
  | [d1, d2, d3] => { results := [.lit (.bool false)], args := [d1, d2, d3] }
  | _ => none }
def FnExactGapOfWrongFalsely : Prop := fnExactGapOfRow.holds Try.pinned (OpenSpec.ofChange fnExactGapOfWrong)

/-- 'laws.FnExactDoubleLabel': WHATEVER THE INPUT: true; the input reads as it did. -/
def fnExactDoubleLabelSpec : ChangeSpec := { name := "fnExactDoubleLabel", fn := fun _ => fun
  | [d] => { results := [.lit (.bool true)], args := [d] }
  | _ => none }
def fnExactDoubleLabelRow : OpenClaim := { program := "ytjjooadehkageaa", sum := "fc13000e3cfcfd8a8ab34cf7185fd9e77fe2ee7687e99c7ebd8fad6908d3b4a2", func := "loop.example/g01148/laws.FnExactDoubleLabel", spec := "fnExactDoubleLabel", apart := false }
def FnExactDoubleLabelSaid : Prop := fnExactDoubleLabelRow.holds Try.pinned (OpenSpec.ofChange fnExactDoubleLabelSpec)

/-- ITS FALSE NEIGHBOUR: 'it returns false'. Refute it at one input. -/
def fnExactDoubleLabelWrong : ChangeSpec := { name := "fnExactDoubleLabel", fn := fun _ => fun
  | [d] => { results := [.lit (.bool false)], args := [d] }
  | _ => none }
def FnExactDoubleLabelWrongFalsely : Prop := fnExactDoubleLabelRow.holds Try.pinned (OpenSpec.ofChange fnExactDoubleLabelWrong)

/- THE SECOND FORM. 'bulk': how many values and letters a reading holds, each counted each time it is reached (what is shared counts as often as it is met; a slice's spare places count too). A statement '..UptoSaid' is the law's where the arguments, and the package variables that the reading takes, are together of bulk at most 1048576: NARROWER than '..Said'. Prove '..Said' where nothing that the law and all that it calls make is longer than what came in: it says more and counts as full. Else prove '..UptoSaid'. A law counts once. -/
mutual
def uptoBulk {H : Type} : DataW H → Nat
  | .lit (.string bytes) => bytes.length + 1
  | .lit _ => 1
  | .nil => 1
  | .ptr d => uptoBulk d + 1
  | .slice elems spare => uptoBulkAll elems + uptoBulkAll spare + 1
  | .agg parts => uptoBulkAll parts + 1
  | .iface _ d => uptoBulk d + 1
  | .map entries => uptoBulkEntries entries + 1
  | .held _ => 1
def uptoBulkAll {H : Type} : List (DataW H) → Nat
  | [] => 0
  | d :: r => uptoBulk d + uptoBulkAll r
def uptoBulkEntries {H : Type} : List (Lit × DataW H) → Nat
  | [] => 0
  | x :: r => uptoBulkEntry x + uptoBulkEntries r
def uptoBulkEntry {H : Type} : Lit × DataW H → Nat
  | (.string bytes, d) => bytes.length + uptoBulk d + 1
  | (_, d) => uptoBulk d + 1
 end
def uptoSmall : (H : Type) → List (DataW H) → Bool := fun _ ds => decide (uptoBulkAll ds ≤ 1048576)
def OpenSpec.upto (s : _root_.Go.ChangeSpec) : _root_.Go.OpenSpec := { _root_.Go.OpenSpec.ofChange s with cond := some uptoSmall }

/-- 'laws.FnExactConstants', WHERE WHAT IT READS IS OF BULK AT MOST 1048576: true; the input reads as it did. -/
def fnExactConstantsUptoRow : OpenClaim := { program := "ytjjooadehkageaa", sum := "fc13000e3cfcfd8a8ab34cf7185fd9e77fe2ee7687e99c7ebd8fad6908d3b4a2", func := "loop.example/g01148/laws.FnExactConstants", spec := "fnExactConstants", apart := false, narrowed := true }
def FnExactConstantsUptoSaid : Prop := fnExactConstantsUptoRow.holds Try.pinned (OpenSpec.upto fnExactConstantsSpec)

/-- 'laws.FnExactLessString', WHERE WHAT IT READS IS OF BULK AT MOST 1048576: true; the input reads as it did. -/
def fnExactLessStringUptoRow : OpenClaim := { program := "ytjjooadehkageaa", sum := "fc13000e3cfcfd8a8ab34cf7185fd9e77fe2ee7687e99c7ebd8fad6908d3b4a2", func := "loop.example/g01148/laws.FnExactLessString", spec := "fnExactLessString", apart := false, narrowed := true }
def FnExactLessStringUptoSaid : Prop := fnExactLessStringUptoRow.holds Try.pinned (OpenSpec.upto fnExactLessStringSpec)

/-- 'laws.FnExactIsRoad', WHERE WHAT IT READS IS OF BULK AT MOST 1048576: true; the input reads as it did. -/
def fnExactIsRoadUptoRow : OpenClaim := { program := "ytjjooadehkageaa", sum := "fc13000e3cfcfd8a8ab34cf7185fd9e77fe2ee7687e99c7ebd8fad6908d3b4a2", func := "loop.example/g01148/laws.FnExactIsRoad", spec := "fnExactIsRoad", apart := false, narrowed := true }
def FnExactIsRoadUptoSaid : Prop := fnExactIsRoadUptoRow.holds Try.pinned (OpenSpec.upto fnExactIsRoadSpec)

/-- 'laws.FnExactChecksum', WHERE WHAT IT READS IS OF BULK AT MOST 1048576: true; the input reads as it did. -/
def fnExactChecksumUptoRow : OpenClaim := { program := "ytjjooadehkageaa", sum := "fc13000e3cfcfd8a8ab34cf7185fd9e77fe2ee7687e99c7ebd8fad6908d3b4a2", func := "loop.example/g01148/laws.FnExactChecksum", spec := "fnExactChecksum", apart := false, narrowed := true }
def FnExactChecksumUptoSaid : Prop := fnExactChecksumUptoRow.holds Try.pinned (OpenSpec.upto fnExactChecksumSpec)

/-- 'laws.FnExactGapOf', WHERE WHAT IT READS IS OF BULK AT MOST 1048576: true; the input reads as it did. -/
def fnExactGapOfUptoRow : OpenClaim := { program := "ytjjooadehkageaa", sum := "fc13000e3cfcfd8a8ab34cf7185fd9e77fe2ee7687e99c7ebd8fad6908d3b4a2", func := "loop.example/g01148/laws.FnExactGapOf", spec := "fnExactGapOf", apart := false, narrowed := true }
def FnExactGapOfUptoSaid : Prop := fnExactGapOfUptoRow.holds Try.pinned (OpenSpec.upto fnExactGapOfSpec)

/-- 'laws.FnExactDoubleLabel', WHERE WHAT IT READS IS OF BULK AT MOST 1048576: true; the input reads as it did. -/
def fnExactDoubleLabelUptoRow : OpenClaim := { program := "ytjjooadehkageaa", sum := "fc13000e3cfcfd8a8ab34cf7185fd9e77fe2ee7687e99c7ebd8fad6908d3b4a2", func := "loop.example/g01148/laws.FnExactDoubleLabel", spec := "fnExactDoubleLabel", apart := false, narrowed := true }
def FnExactDoubleLabelUptoSaid : Prop := fnExactDoubleLabelUptoRow.holds Try.pinned (OpenSpec.upto fnExactDoubleLabelSpec)

end Rows
end Go.Proofs.Ytjjooadehkageaa
