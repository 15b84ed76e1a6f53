/-
  DERIVED. GIVEN WITH THE SEED: THE CARDS: each row of YtlmagoppgplocaaDoorRows.lean that lists a variable, with what it lists TIED to the program's text (the seventh form; the later family's looks); each row that meets fmt, with fmt's text TOLD by the authors' own Lean function (tested against real Go, not proved from fmt's source: count such statements apart). THE CARD IS WHAT COUNTS. Prove the row's statement (the work); the ties are given (YtlmagoppgplocaaDoorTie.lean); close each card by the builder's one call (the guide's Derived/Test/ToyasCard.lean, 'card_holds'). Laid BY PROGRAM, IN A SANDBOX (cutbox-door.mjs). By AI agents, Wed Nov 11 2026. No macro, syntax, notation, axiom, sorry.
-/
import Derived.Test.YtlmagoppgplocaaDoorRows
import GoSem.ClaimSeven
namespace Go.Proofs.YtlmagoppgplocaaDoor
namespace Rows

/-- THE TIED CARD OF 'laws.FnExactDepthCounts'. -/
def fnExactDepthCountsCard : Claim7 := { stood := { row := fnExactDepthCountsRow, standIns := [], harness := (true, "90b058e22084cd4d62301f172704dfe4645f527af92cdd05bdf5bd582a7c254b"), looks := false }, kinds := [], alts := [], laidByText := true, laidKinds := [.data, .pinned], laidTests := true, laidLooks := .later }
def FnExactDepthCountsCardSaid : Prop := Claim7.holds Tryd.pinned (.plain (OpenSpec.ofChange fnExactDepthCountsSpec)) fnExactDepthCountsCard

/-- THE TIED CARD OF 'laws.FnExactLeastApart'. -/
def fnExactLeastApartCard : Claim7 := { stood := { row := fnExactLeastApartRow, standIns := [], harness := (true, "90b058e22084cd4d62301f172704dfe4645f527af92cdd05bdf5bd582a7c254b"), looks := false }, kinds := [], alts := [], laidByText := true, laidKinds := [.data, .pinned], laidTests := true, laidLooks := .later }
def FnExactLeastApartCardSaid : Prop := Claim7.holds Tryd.pinned (.plain (OpenSpec.ofChange fnExactLeastApartSpec)) fnExactLeastApartCard

/-- THE TIED CARD OF 'laws.FnExactJoinNode'. -/
def fnExactJoinNodeCard : Claim7 := { stood := { row := fnExactJoinNodeRow, standIns := [], harness := (true, "90b058e22084cd4d62301f172704dfe4645f527af92cdd05bdf5bd582a7c254b"), looks := false }, kinds := [], alts := [], laidByText := true, laidKinds := [.data, .pinned], laidTests := true, laidLooks := .later }
def FnExactJoinNodeCardSaid : Prop := Claim7.holds Tryd.pinned (.plain (OpenSpec.ofChange fnExactJoinNodeSpec)) fnExactJoinNodeCard

/-- THE TIED CARD OF 'laws.FnExactWayBetween'. -/
def fnExactWayBetweenCard : Claim7 := { stood := { row := fnExactWayBetweenRow, standIns := [], harness := (true, "90b058e22084cd4d62301f172704dfe4645f527af92cdd05bdf5bd582a7c254b"), looks := false }, kinds := [], alts := [], laidByText := true, laidKinds := [.data, .pinned], laidTests := true, laidLooks := .later }
def FnExactWayBetweenCardSaid : Prop := Claim7.holds Tryd.pinned (.plain (OpenSpec.ofChange fnExactWayBetweenSpec)) fnExactWayBetweenCard

/-- THE TIED CARD OF 'laws.FnExactLeastDistance'. -/
def fnExactLeastDistanceCard : Claim7 := { stood := { row := fnExactLeastDistanceRow, standIns := [], harness := (true, "90b058e22084cd4d62301f172704dfe4645f527af92cdd05bdf5bd582a7c254b"), looks := false }, kinds := [], alts := [], laidByText := true, laidKinds := [.data, .pinned], laidTests := true, laidLooks := .later }
def FnExactLeastDistanceCardSaid : Prop := Claim7.holds Tryd.pinned (.plain (OpenSpec.ofChange fnExactLeastDistanceSpec)) fnExactLeastDistanceCard

/-- THE TIED CARD OF 'laws.FnExactIsSafe'. -/
def fnExactIsSafeCard : Claim7 := { stood := { row := fnExactIsSafeRow, standIns := [], harness := (true, "90b058e22084cd4d62301f172704dfe4645f527af92cdd05bdf5bd582a7c254b"), looks := false }, kinds := [], alts := [], laidByText := true, laidKinds := [.data, .pinned], laidTests := true, laidLooks := .later }
def FnExactIsSafeCardSaid : Prop := Claim7.holds Tryd.pinned (.plain (OpenSpec.ofChange fnExactIsSafeSpec)) fnExactIsSafeCard

/-- THE TIED CARD OF 'laws.FnExactCanRepair'. -/
def fnExactCanRepairCard : Claim7 := { stood := { row := fnExactCanRepairRow, standIns := [], harness := (true, "90b058e22084cd4d62301f172704dfe4645f527af92cdd05bdf5bd582a7c254b"), looks := false }, kinds := [], alts := [], laidByText := true, laidKinds := [.data, .pinned], laidTests := true, laidLooks := .later }
def FnExactCanRepairCardSaid : Prop := Claim7.holds Tryd.pinned (.plain (OpenSpec.ofChange fnExactCanRepairSpec)) fnExactCanRepairCard

/-- THE TIED CARD OF 'laws.FnExactJoinedLetters'. -/
def fnExactJoinedLettersCard : Claim7 := { stood := { row := fnExactJoinedLettersRow, standIns := [], harness := (true, "90b058e22084cd4d62301f172704dfe4645f527af92cdd05bdf5bd582a7c254b"), looks := false }, kinds := [], alts := [], laidByText := true, laidKinds := [.data, .pinned], laidTests := true, laidLooks := .later }
def FnExactJoinedLettersCardSaid : Prop := Claim7.holds Tryd.pinned (.plain (OpenSpec.ofChange fnExactJoinedLettersSpec)) fnExactJoinedLettersCard

/-- THE TIED CARD OF 'laws.FnExactRankOfTable'. -/
def fnExactRankOfTableCard : Claim7 := { stood := { row := fnExactRankOfTableRow, standIns := [], harness := (true, "90b058e22084cd4d62301f172704dfe4645f527af92cdd05bdf5bd582a7c254b"), looks := false }, kinds := [], alts := [], laidByText := true, laidKinds := [.data, .pinned], laidTests := true, laidLooks := .later }
def FnExactRankOfTableCardSaid : Prop := Claim7.holds Tryd.pinned (.plain (OpenSpec.ofChange fnExactRankOfTableSpec)) fnExactRankOfTableCard

/-- THE SECOND FORM's CARD OF 'laws.FnExactDepthCounts'. -/
def fnExactDepthCountsUptoCard : Claim7 := { stood := { row := fnExactDepthCountsUptoRow, standIns := [], harness := (true, "90b058e22084cd4d62301f172704dfe4645f527af92cdd05bdf5bd582a7c254b"), looks := false }, kinds := [], alts := [], laidByText := true, laidKinds := [.data, .pinned], laidTests := true, laidLooks := .later }
def FnExactDepthCountsUptoCardSaid : Prop := Claim7.holds Tryd.pinned (.plain (OpenSpec.upto fnExactDepthCountsSpec)) fnExactDepthCountsUptoCard

/-- THE SECOND FORM's CARD OF 'laws.FnExactLeastApart'. -/
def fnExactLeastApartUptoCard : Claim7 := { stood := { row := fnExactLeastApartUptoRow, standIns := [], harness := (true, "90b058e22084cd4d62301f172704dfe4645f527af92cdd05bdf5bd582a7c254b"), looks := false }, kinds := [], alts := [], laidByText := true, laidKinds := [.data, .pinned], laidTests := true, laidLooks := .later }
def FnExactLeastApartUptoCardSaid : Prop := Claim7.holds Tryd.pinned (.plain (OpenSpec.upto fnExactLeastApartSpec)) fnExactLeastApartUptoCard

/-- THE SECOND FORM's CARD OF 'laws.FnExactJoinNode'. -/
def fnExactJoinNodeUptoCard : Claim7 := { stood := { row := fnExactJoinNodeUptoRow, standIns := [], harness := (true, "90b058e22084cd4d62301f172704dfe4645f527af92cdd05bdf5bd582a7c254b"), looks := false }, kinds := [], alts := [], laidByText := true, laidKinds := [.data, .pinned], laidTests := true, laidLooks := .later }
def FnExactJoinNodeUptoCardSaid : Prop := Claim7.holds Tryd.pinned (.plain (OpenSpec.upto fnExactJoinNodeSpec)) fnExactJoinNodeUptoCard

/-- THE SECOND FORM's CARD OF 'laws.FnExactWayBetween'. -/
def fnExactWayBetweenUptoCard : Claim7 := { stood := { row := fnExactWayBetweenUptoRow, standIns := [], harness := (true, "90b058e22084cd4d62301f172704dfe4645f527af92cdd05bdf5bd582a7c254b"), looks := false }, kinds := [], alts := [], laidByText := true, laidKinds := [.data, .pinned], laidTests := true, laidLooks := .later }
def FnExactWayBetweenUptoCardSaid : Prop := Claim7.holds Tryd.pinned (.plain (OpenSpec.upto fnExactWayBetweenSpec)) fnExactWayBetweenUptoCard

/-- THE SECOND FORM's CARD OF 'laws.FnExactLeastDistance'. -/
def fnExactLeastDistanceUptoCard : Claim7 := { stood := { row := fnExactLeastDistanceUptoRow, standIns := [], harness := (true, "90b058e22084cd4d62301f172704dfe4645f527af92cdd05bdf5bd582a7c254b"), looks := false }, kinds := [], alts := [], laidByText := true, laidKinds := [.data, .pinned], laidTests := true, laidLooks := .later }
def FnExactLeastDistanceUptoCardSaid : Prop := Claim7.holds Tryd.pinned (.plain (OpenSpec.upto fnExactLeastDistanceSpec)) fnExactLeastDistanceUptoCard

/-- THE SECOND FORM's CARD OF 'laws.FnExactIsSafe'. -/
def fnExactIsSafeUptoCard : Claim7 := { stood := { row := fnExactIsSafeUptoRow, standIns := [], harness := (true, "90b058e22084cd4d62301f172704dfe4645f527af92cdd05bdf5bd582a7c254b"), looks := false }, kinds := [], alts := [], laidByText := true, laidKinds := [.data, .pinned], laidTests := true, laidLooks := .later }
def FnExactIsSafeUptoCardSaid : Prop := Claim7.holds Tryd.pinned (.plain (OpenSpec.upto fnExactIsSafeSpec)) fnExactIsSafeUptoCard

/-- THE SECOND FORM's CARD OF 'laws.FnExactCanRepair'. -/
def fnExactCanRepairUptoCard : Claim7 := { stood := { row := fnExactCanRepairUptoRow, standIns := [], harness := (true, "90b058e22084cd4d62301f172704dfe4645f527af92cdd05bdf5bd582a7c254b"), looks := false }, kinds := [], alts := [], laidByText := true, laidKinds := [.data, .pinned], laidTests := true, laidLooks := .later }
def FnExactCanRepairUptoCardSaid : Prop := Claim7.holds Tryd.pinned (.plain (OpenSpec.upto fnExactCanRepairSpec)) fnExactCanRepairUptoCard

/-- THE SECOND FORM's CARD OF 'laws.FnExactJoinedLetters'. -/
def fnExactJoinedLettersUptoCard : Claim7 := { stood := { row := fnExactJoinedLettersUptoRow, standIns := [], harness := (true, "90b058e22084cd4d62301f172704dfe4645f527af92cdd05bdf5bd582a7c254b"), looks := false }, kinds := [], alts := [], laidByText := true, laidKinds := [.data, .pinned], laidTests := true, laidLooks := .later }
def FnExactJoinedLettersUptoCardSaid : Prop := Claim7.holds Tryd.pinned (.plain (OpenSpec.upto fnExactJoinedLettersSpec)) fnExactJoinedLettersUptoCard

/-- THE SECOND FORM's CARD OF 'laws.FnExactRankOfTable'. -/
def fnExactRankOfTableUptoCard : Claim7 := { stood := { row := fnExactRankOfTableUptoRow, standIns := [], harness := (true, "90b058e22084cd4d62301f172704dfe4645f527af92cdd05bdf5bd582a7c254b"), looks := false }, kinds := [], alts := [], laidByText := true, laidKinds := [.data, .pinned], laidTests := true, laidLooks := .later }
def FnExactRankOfTableUptoCardSaid : Prop := Claim7.holds Tryd.pinned (.plain (OpenSpec.upto fnExactRankOfTableSpec)) fnExactRankOfTableUptoCard
end Rows
end Go.Proofs.YtlmagoppgplocaaDoor
