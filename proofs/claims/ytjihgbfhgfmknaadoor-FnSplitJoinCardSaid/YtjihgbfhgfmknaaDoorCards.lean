/-
  DERIVED. GIVEN WITH THE SEED: THE CARDS: each row of YtjihgbfhgfmknaaDoorRows.lean that lists a variable, with what it lists TIED to the program's text (the seventh form; the later family's looks); each row that meets fmt, with fmt's text TOLD by the authors' own Lean function (tested against real Go, not proved from fmt's source: count such statements apart). THE CARD IS WHAT COUNTS. Prove the row's statement (the work); the ties are given (YtjihgbfhgfmknaaDoorTie.lean); close each card by the builder's one call (the guide's Derived/Test/ToyasCard.lean, 'card_holds'). Laid BY PROGRAM, IN A SANDBOX (cutbox-door.mjs). By AI agents, Wed Nov 11 2026. No macro, syntax, notation, axiom, sorry.
-/
import Derived.Test.YtjihgbfhgfmknaaDoorRows
import GoSem.ClaimSeven
namespace Go.Proofs.YtjihgbfhgfmknaaDoor
namespace Rows

/-- THE TIED CARD OF 'laws.FnSplitJoin'. -/
def fnSplitJoinCard : Claim7 := { stood := { row := fnSplitJoinRow, standIns := [], harness := (true, "5676f6c4f40b68a34017c1b7bc28a30b450ee879456a4751e67dcb7af272e269"), looks := true }, kinds := [], alts := [], laidByText := true, laidKinds := [.data, .pinned], laidTests := true, laidLooks := .later }
def FnSplitJoinCardSaid : Prop := Claim7.holds Tryd.pinned (.plain (OpenSpec.ofChange fnSplitJoinSpec)) fnSplitJoinCard

/-- THE TIED CARD OF 'laws.FnStrings'. -/
def fnStringsCard : Claim7 := { stood := { row := fnStringsRow, standIns := [], harness := (true, "5676f6c4f40b68a34017c1b7bc28a30b450ee879456a4751e67dcb7af272e269"), looks := true }, kinds := [], alts := [], laidByText := true, laidKinds := [.data, .data, .data, .sentinel, .sentinel], laidTests := true, laidLooks := .later }
def FnStringsCardSaid : Prop := Claim7.holds Tryd.pinned (.plain (OpenSpec.ofChange fnStringsSpec)) fnStringsCard

/-- THE TIED CARD OF 'laws.FnExactWalkText'. -/
def fnExactWalkTextCard : Claim7 := { stood := { row := fnExactWalkTextRow, standIns := [], harness := (true, "5676f6c4f40b68a34017c1b7bc28a30b450ee879456a4751e67dcb7af272e269"), looks := true }, kinds := [], alts := [], laidByText := true, laidKinds := [.data, .data, .data], laidTests := true, laidLooks := .later }
def FnExactWalkTextCardSaid : Prop := Claim7.holds Tryd.pinned (.plain (OpenSpec.ofChange fnExactWalkTextSpec)) fnExactWalkTextCard

/-- THE TIED CARD OF 'laws.FnExactParseWalk'. -/
def fnExactParseWalkCard : Claim7 := { stood := { row := fnExactParseWalkRow, standIns := [], harness := (true, "5676f6c4f40b68a34017c1b7bc28a30b450ee879456a4751e67dcb7af272e269"), looks := true }, kinds := [], alts := [], laidByText := true, laidKinds := [.data, .data, .data, .data, .sentinel, .sentinel, .pinned], laidTests := true, laidLooks := .later }
def FnExactParseWalkCardSaid : Prop := Claim7.holds Tryd.pinned (.plain (OpenSpec.ofChange fnExactParseWalkSpec)) fnExactParseWalkCard

/-- THE SECOND FORM's CARD OF 'laws.FnSplitJoin'. -/
def fnSplitJoinUptoCard : Claim7 := { stood := { row := fnSplitJoinUptoRow, standIns := [], harness := (true, "5676f6c4f40b68a34017c1b7bc28a30b450ee879456a4751e67dcb7af272e269"), looks := true }, kinds := [], alts := [], laidByText := true, laidKinds := [.data, .pinned], laidTests := true, laidLooks := .later }
def FnSplitJoinUptoCardSaid : Prop := Claim7.holds Tryd.pinned (.plain (OpenSpec.upto fnSplitJoinSpec)) fnSplitJoinUptoCard

/-- THE SECOND FORM's CARD OF 'laws.FnStrings'. -/
def fnStringsUptoCard : Claim7 := { stood := { row := fnStringsUptoRow, standIns := [], harness := (true, "5676f6c4f40b68a34017c1b7bc28a30b450ee879456a4751e67dcb7af272e269"), looks := true }, kinds := [], alts := [], laidByText := true, laidKinds := [.data, .data, .data, .sentinel, .sentinel], laidTests := true, laidLooks := .later }
def FnStringsUptoCardSaid : Prop := Claim7.holds Tryd.pinned (.plain (OpenSpec.upto fnStringsSpec)) fnStringsUptoCard

/-- THE SECOND FORM's CARD OF 'laws.FnExactWalkText'. -/
def fnExactWalkTextUptoCard : Claim7 := { stood := { row := fnExactWalkTextUptoRow, standIns := [], harness := (true, "5676f6c4f40b68a34017c1b7bc28a30b450ee879456a4751e67dcb7af272e269"), looks := true }, kinds := [], alts := [], laidByText := true, laidKinds := [.data, .data, .data], laidTests := true, laidLooks := .later }
def FnExactWalkTextUptoCardSaid : Prop := Claim7.holds Tryd.pinned (.plain (OpenSpec.upto fnExactWalkTextSpec)) fnExactWalkTextUptoCard

/-- THE SECOND FORM's CARD OF 'laws.FnExactParseWalk'. -/
def fnExactParseWalkUptoCard : Claim7 := { stood := { row := fnExactParseWalkUptoRow, standIns := [], harness := (true, "5676f6c4f40b68a34017c1b7bc28a30b450ee879456a4751e67dcb7af272e269"), looks := true }, kinds := [], alts := [], laidByText := true, laidKinds := [.data, .data, .data, .data, .sentinel, .sentinel, .pinned], laidTests := true, laidLooks := .later }
def FnExactParseWalkUptoCardSaid : Prop := Claim7.holds Tryd.pinned (.plain (OpenSpec.upto fnExactParseWalkSpec)) fnExactParseWalkUptoCard
end Rows
end Go.Proofs.YtjihgbfhgfmknaaDoor
