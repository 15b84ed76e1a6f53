/-
  DERIVED. GIVEN WITH THE SEED: THE CARDS: each row of YtgpjcfkohlhknaaDoorRows.lean that lists a variable, with what it lists TIED to the program's text (the seventh form; the later family's looks); each row that meets fmt, with fmt's text TOLD by the authors' own Lean function (tested against real Go, not proved from fmt's source: count such statements apart). THE CARD IS WHAT COUNTS. Prove the row's statement (the work); the ties are given (YtgpjcfkohlhknaaDoorTie.lean); close each card by the builder's one call (the guide's Derived/Test/ToyasCard.lean, 'card_holds'). Laid BY PROGRAM, IN A SANDBOX (cutbox-door.mjs). By AI agents, Wed Nov 11 2026. No macro, syntax, notation, axiom, sorry.
-/
import Derived.Test.YtgpjcfkohlhknaaDoorRows
import GoSem.ClaimSeven
namespace Go.Proofs.YtgpjcfkohlhknaaDoor
namespace Rows

/-- THE TIED CARD OF 'laws.FnExactReadWithMistakes'. -/
def fnExactReadWithMistakesCard : Claim7 := { stood := { row := fnExactReadWithMistakesRow, standIns := [], harness := (true, "6b1f9f8c789ebda958dbb82eb94cb1a9094cfe62e963a752e1a4fa38e447dbc7"), looks := false }, kinds := [], alts := [], laidByText := true, laidKinds := [.data, .pinned], laidTests := true, laidLooks := .later }
def FnExactReadWithMistakesCardSaid : Prop := Claim7.holds Tryd.pinned (.plain (OpenSpec.ofChange fnExactReadWithMistakesSpec)) fnExactReadWithMistakesCard

/-- THE TIED CARD OF 'laws.FnExactIsGrown'. -/
def fnExactIsGrownCard : Claim7 := { stood := { row := fnExactIsGrownRow, standIns := [], harness := (true, "6b1f9f8c789ebda958dbb82eb94cb1a9094cfe62e963a752e1a4fa38e447dbc7"), looks := false }, kinds := [], alts := [], laidByText := true, laidKinds := [.data, .pinned], laidTests := true, laidLooks := .later }
def FnExactIsGrownCardSaid : Prop := Claim7.holds Tryd.pinned (.plain (OpenSpec.ofChange fnExactIsGrownSpec)) fnExactIsGrownCard

/-- THE TIED CARD OF 'laws.FnExactFilledNodes'. -/
def fnExactFilledNodesCard : Claim7 := { stood := { row := fnExactFilledNodesRow, standIns := [], harness := (true, "6b1f9f8c789ebda958dbb82eb94cb1a9094cfe62e963a752e1a4fa38e447dbc7"), looks := false }, kinds := [], alts := [], laidByText := true, laidKinds := [.data, .pinned], laidTests := true, laidLooks := .later }
def FnExactFilledNodesCardSaid : Prop := Claim7.holds Tryd.pinned (.plain (OpenSpec.ofChange fnExactFilledNodesSpec)) fnExactFilledNodesCard

/-- THE TIED CARD OF 'laws.FnExactLettersBelow'. -/
def fnExactLettersBelowCard : Claim7 := { stood := { row := fnExactLettersBelowRow, standIns := [], harness := (true, "6b1f9f8c789ebda958dbb82eb94cb1a9094cfe62e963a752e1a4fa38e447dbc7"), looks := false }, kinds := [], alts := [], laidByText := true, laidKinds := [.data, .pinned], laidTests := true, laidLooks := .later }
def FnExactLettersBelowCardSaid : Prop := Claim7.holds Tryd.pinned (.plain (OpenSpec.ofChange fnExactLettersBelowSpec)) fnExactLettersBelowCard

/-- THE TIED CARD OF 'laws.FnExactGapNodes'. -/
def fnExactGapNodesCard : Claim7 := { stood := { row := fnExactGapNodesRow, standIns := [], harness := (true, "6b1f9f8c789ebda958dbb82eb94cb1a9094cfe62e963a752e1a4fa38e447dbc7"), looks := false }, kinds := [], alts := [], laidByText := true, laidKinds := [.data, .pinned], laidTests := true, laidLooks := .later }
def FnExactGapNodesCardSaid : Prop := Claim7.holds Tryd.pinned (.plain (OpenSpec.ofChange fnExactGapNodesSpec)) fnExactGapNodesCard

/-- THE TIED CARD OF 'laws.FnExactSortTable'. -/
def fnExactSortTableCard : Claim7 := { stood := { row := fnExactSortTableRow, standIns := [], harness := (true, "6b1f9f8c789ebda958dbb82eb94cb1a9094cfe62e963a752e1a4fa38e447dbc7"), looks := false }, kinds := [], alts := [], laidByText := true, laidKinds := [.data, .pinned], laidTests := true, laidLooks := .later }
def FnExactSortTableCardSaid : Prop := Claim7.holds Tryd.pinned (.plain (OpenSpec.ofChange fnExactSortTableSpec)) fnExactSortTableCard

/-- THE TIED CARD OF 'laws.FnSplitJoin'. -/
def fnSplitJoinCard : Claim7 := { stood := { row := fnSplitJoinRow, standIns := [], harness := (true, "6b1f9f8c789ebda958dbb82eb94cb1a9094cfe62e963a752e1a4fa38e447dbc7"), looks := false }, kinds := [], alts := [], laidByText := true, laidKinds := [.data, .pinned], laidTests := true, laidLooks := .later }
def FnSplitJoinCardSaid : Prop := Claim7.holds Tryd.pinned (.plain (OpenSpec.ofChange fnSplitJoinSpec)) fnSplitJoinCard

/-- THE SECOND FORM's CARD OF 'laws.FnExactReadWithMistakes'. -/
def fnExactReadWithMistakesUptoCard : Claim7 := { stood := { row := fnExactReadWithMistakesUptoRow, standIns := [], harness := (true, "6b1f9f8c789ebda958dbb82eb94cb1a9094cfe62e963a752e1a4fa38e447dbc7"), looks := false }, kinds := [], alts := [], laidByText := true, laidKinds := [.data, .pinned], laidTests := true, laidLooks := .later }
def FnExactReadWithMistakesUptoCardSaid : Prop := Claim7.holds Tryd.pinned (.plain (OpenSpec.upto fnExactReadWithMistakesSpec)) fnExactReadWithMistakesUptoCard

/-- THE SECOND FORM's CARD OF 'laws.FnExactIsGrown'. -/
def fnExactIsGrownUptoCard : Claim7 := { stood := { row := fnExactIsGrownUptoRow, standIns := [], harness := (true, "6b1f9f8c789ebda958dbb82eb94cb1a9094cfe62e963a752e1a4fa38e447dbc7"), looks := false }, kinds := [], alts := [], laidByText := true, laidKinds := [.data, .pinned], laidTests := true, laidLooks := .later }
def FnExactIsGrownUptoCardSaid : Prop := Claim7.holds Tryd.pinned (.plain (OpenSpec.upto fnExactIsGrownSpec)) fnExactIsGrownUptoCard

/-- THE SECOND FORM's CARD OF 'laws.FnExactFilledNodes'. -/
def fnExactFilledNodesUptoCard : Claim7 := { stood := { row := fnExactFilledNodesUptoRow, standIns := [], harness := (true, "6b1f9f8c789ebda958dbb82eb94cb1a9094cfe62e963a752e1a4fa38e447dbc7"), looks := false }, kinds := [], alts := [], laidByText := true, laidKinds := [.data, .pinned], laidTests := true, laidLooks := .later }
def FnExactFilledNodesUptoCardSaid : Prop := Claim7.holds Tryd.pinned (.plain (OpenSpec.upto fnExactFilledNodesSpec)) fnExactFilledNodesUptoCard

/-- THE SECOND FORM's CARD OF 'laws.FnExactLettersBelow'. -/
def fnExactLettersBelowUptoCard : Claim7 := { stood := { row := fnExactLettersBelowUptoRow, standIns := [], harness := (true, "6b1f9f8c789ebda958dbb82eb94cb1a9094cfe62e963a752e1a4fa38e447dbc7"), looks := false }, kinds := [], alts := [], laidByText := true, laidKinds := [.data, .pinned], laidTests := true, laidLooks := .later }
def FnExactLettersBelowUptoCardSaid : Prop := Claim7.holds Tryd.pinned (.plain (OpenSpec.upto fnExactLettersBelowSpec)) fnExactLettersBelowUptoCard

/-- THE SECOND FORM's CARD OF 'laws.FnExactGapNodes'. -/
def fnExactGapNodesUptoCard : Claim7 := { stood := { row := fnExactGapNodesUptoRow, standIns := [], harness := (true, "6b1f9f8c789ebda958dbb82eb94cb1a9094cfe62e963a752e1a4fa38e447dbc7"), looks := false }, kinds := [], alts := [], laidByText := true, laidKinds := [.data, .pinned], laidTests := true, laidLooks := .later }
def FnExactGapNodesUptoCardSaid : Prop := Claim7.holds Tryd.pinned (.plain (OpenSpec.upto fnExactGapNodesSpec)) fnExactGapNodesUptoCard

/-- THE SECOND FORM's CARD OF 'laws.FnExactSortTable'. -/
def fnExactSortTableUptoCard : Claim7 := { stood := { row := fnExactSortTableUptoRow, standIns := [], harness := (true, "6b1f9f8c789ebda958dbb82eb94cb1a9094cfe62e963a752e1a4fa38e447dbc7"), looks := false }, kinds := [], alts := [], laidByText := true, laidKinds := [.data, .pinned], laidTests := true, laidLooks := .later }
def FnExactSortTableUptoCardSaid : Prop := Claim7.holds Tryd.pinned (.plain (OpenSpec.upto fnExactSortTableSpec)) fnExactSortTableUptoCard

/-- THE SECOND FORM's CARD OF 'laws.FnSplitJoin'. -/
def fnSplitJoinUptoCard : Claim7 := { stood := { row := fnSplitJoinUptoRow, standIns := [], harness := (true, "6b1f9f8c789ebda958dbb82eb94cb1a9094cfe62e963a752e1a4fa38e447dbc7"), looks := false }, kinds := [], alts := [], laidByText := true, laidKinds := [.data, .pinned], laidTests := true, laidLooks := .later }
def FnSplitJoinUptoCardSaid : Prop := Claim7.holds Tryd.pinned (.plain (OpenSpec.upto fnSplitJoinSpec)) fnSplitJoinUptoCard
end Rows
end Go.Proofs.YtgpjcfkohlhknaaDoor
