/-
  DERIVED. GIVEN WITH THE SEED: THE CARDS: each row of YtolbhpgphinjcaaDoorRows.lean that lists a variable, with what it lists TIED to the program's text (the seventh form; the later family's looks); each row that meets fmt, with fmt's text TOLD by the authors' own Lean function (tested against real Go, not proved from fmt's source: count such statements apart). THE CARD IS WHAT COUNTS. Prove the row's statement (the work); the ties are given (YtolbhpgphinjcaaDoorTie.lean); close each card by the builder's one call (the guide's Derived/Test/ToyasCard.lean, 'card_holds'). Laid BY PROGRAM, IN A SANDBOX (cutbox-door.mjs). By AI agents, Wed Nov 11 2026. No macro, syntax, notation, axiom, sorry.
-/
import Derived.Test.YtolbhpgphinjcaaDoorRows
import GoSem.ClaimSeven
namespace Go.Proofs.YtolbhpgphinjcaaDoor
namespace Rows

/-- THE TIED CARD OF 'laws.FnExactSwapsToBest'. -/
def fnExactSwapsToBestCard : Claim7 := { stood := { row := fnExactSwapsToBestRow, standIns := [], harness := (true, "88a308c0cbc99c12e46f341335b532c58318cf9ae67837a6b19aaf862701e14c"), looks := false }, kinds := [], alts := [], laidByText := true, laidKinds := [.data, .pinned], laidTests := true, laidLooks := .later }
def FnExactSwapsToBestCardSaid : Prop := Claim7.holds Tryd.pinned (.plain (OpenSpec.ofChange fnExactSwapsToBestSpec)) fnExactSwapsToBestCard

/-- THE TIED CARD OF 'laws.FnExactWayOfMessage'. -/
def fnExactWayOfMessageCard : Claim7 := { stood := { row := fnExactWayOfMessageRow, standIns := [], harness := (true, "88a308c0cbc99c12e46f341335b532c58318cf9ae67837a6b19aaf862701e14c"), looks := false }, kinds := [], alts := [], laidByText := true, laidKinds := [.data, .pinned], laidTests := true, laidLooks := .later }
def FnExactWayOfMessageCardSaid : Prop := Claim7.holds Tryd.pinned (.plain (OpenSpec.ofChange fnExactWayOfMessageSpec)) fnExactWayOfMessageCard

/-- THE TIED CARD OF 'laws.FnExactFilledNodes'. -/
def fnExactFilledNodesCard : Claim7 := { stood := { row := fnExactFilledNodesRow, standIns := [], harness := (true, "88a308c0cbc99c12e46f341335b532c58318cf9ae67837a6b19aaf862701e14c"), looks := false }, kinds := [], alts := [], laidByText := true, laidKinds := [.data, .pinned], laidTests := true, laidLooks := .later }
def FnExactFilledNodesCardSaid : Prop := Claim7.holds Tryd.pinned (.plain (OpenSpec.ofChange fnExactFilledNodesSpec)) fnExactFilledNodesCard

/-- THE TIED CARD OF 'laws.FnSplitJoin'. -/
def fnSplitJoinCard : Claim7 := { stood := { row := fnSplitJoinRow, standIns := [], harness := (true, "88a308c0cbc99c12e46f341335b532c58318cf9ae67837a6b19aaf862701e14c"), looks := false }, kinds := [], alts := [], laidByText := true, laidKinds := [.data, .pinned], laidTests := true, laidLooks := .later }
def FnSplitJoinCardSaid : Prop := Claim7.holds Tryd.pinned (.plain (OpenSpec.ofChange fnSplitJoinSpec)) fnSplitJoinCard

/-- THE SECOND FORM's CARD OF 'laws.FnExactSwapsToBest'. -/
def fnExactSwapsToBestUptoCard : Claim7 := { stood := { row := fnExactSwapsToBestUptoRow, standIns := [], harness := (true, "88a308c0cbc99c12e46f341335b532c58318cf9ae67837a6b19aaf862701e14c"), looks := false }, kinds := [], alts := [], laidByText := true, laidKinds := [.data, .pinned], laidTests := true, laidLooks := .later }
def FnExactSwapsToBestUptoCardSaid : Prop := Claim7.holds Tryd.pinned (.plain (OpenSpec.upto fnExactSwapsToBestSpec)) fnExactSwapsToBestUptoCard

/-- THE SECOND FORM's CARD OF 'laws.FnExactWayOfMessage'. -/
def fnExactWayOfMessageUptoCard : Claim7 := { stood := { row := fnExactWayOfMessageUptoRow, standIns := [], harness := (true, "88a308c0cbc99c12e46f341335b532c58318cf9ae67837a6b19aaf862701e14c"), looks := false }, kinds := [], alts := [], laidByText := true, laidKinds := [.data, .pinned], laidTests := true, laidLooks := .later }
def FnExactWayOfMessageUptoCardSaid : Prop := Claim7.holds Tryd.pinned (.plain (OpenSpec.upto fnExactWayOfMessageSpec)) fnExactWayOfMessageUptoCard

/-- THE SECOND FORM's CARD OF 'laws.FnExactFilledNodes'. -/
def fnExactFilledNodesUptoCard : Claim7 := { stood := { row := fnExactFilledNodesUptoRow, standIns := [], harness := (true, "88a308c0cbc99c12e46f341335b532c58318cf9ae67837a6b19aaf862701e14c"), looks := false }, kinds := [], alts := [], laidByText := true, laidKinds := [.data, .pinned], laidTests := true, laidLooks := .later }
def FnExactFilledNodesUptoCardSaid : Prop := Claim7.holds Tryd.pinned (.plain (OpenSpec.upto fnExactFilledNodesSpec)) fnExactFilledNodesUptoCard

/-- THE SECOND FORM's CARD OF 'laws.FnSplitJoin'. -/
def fnSplitJoinUptoCard : Claim7 := { stood := { row := fnSplitJoinUptoRow, standIns := [], harness := (true, "88a308c0cbc99c12e46f341335b532c58318cf9ae67837a6b19aaf862701e14c"), looks := false }, kinds := [], alts := [], laidByText := true, laidKinds := [.data, .pinned], laidTests := true, laidLooks := .later }
def FnSplitJoinUptoCardSaid : Prop := Claim7.holds Tryd.pinned (.plain (OpenSpec.upto fnSplitJoinSpec)) fnSplitJoinUptoCard
end Rows
end Go.Proofs.YtolbhpgphinjcaaDoor
