/-
  DERIVED. GIVEN WITH THE SEED: THE CARDS: each row of YtlmjdemefcncgaaDoorRows.lean that lists a variable, with what it lists TIED to the program's text (the seventh form; the later family's looks); each row that meets fmt, with fmt's text TOLD by the authors' own Lean function (tested against real Go, not proved from fmt's source: count such statements apart). THE CARD IS WHAT COUNTS. Prove the row's statement (the work); the ties are given (YtlmjdemefcncgaaDoorTie.lean); close each card by the builder's one call (the guide's Derived/Test/ToyasCard.lean, 'card_holds'). Laid BY PROGRAM, IN A SANDBOX (cutbox-door.mjs). By AI agents, Wed Nov 11 2026. No macro, syntax, notation, axiom, sorry.
-/
import Derived.Test.YtlmjdemefcncgaaDoorRows
import GoSem.ClaimSeven
namespace Go.Proofs.YtlmjdemefcncgaaDoor
namespace Rows

/-- THE TIED CARD OF 'laws.FnExactChancesSent'. -/
def fnExactChancesSentCard : Claim7 := { stood := { row := fnExactChancesSentRow, standIns := [], harness := (true, "83440c94e3d64782ca8c643cf7896f4cf865c547646f8db8a10edc79be67a41c"), looks := false }, kinds := [], alts := [], laidByText := true, laidKinds := [.data, .pinned], laidTests := true, laidLooks := .later }
def FnExactChancesSentCardSaid : Prop := Claim7.holds Tryd.pinned (.plain (OpenSpec.ofChange fnExactChancesSentSpec)) fnExactChancesSentCard

/-- THE TIED CARD OF 'laws.FnExactEvenTable'. -/
def fnExactEvenTableCard : Claim7 := { stood := { row := fnExactEvenTableRow, standIns := [], harness := (true, "83440c94e3d64782ca8c643cf7896f4cf865c547646f8db8a10edc79be67a41c"), looks := false }, kinds := [], alts := [], laidByText := true, laidKinds := [.data, .pinned], laidTests := true, laidLooks := .later }
def FnExactEvenTableCardSaid : Prop := Claim7.holds Tryd.pinned (.plain (OpenSpec.ofChange fnExactEvenTableSpec)) fnExactEvenTableCard

/-- THE TIED CARD OF 'laws.FnExactMistakeChain'. -/
def fnExactMistakeChainCard : Claim7 := { stood := { row := fnExactMistakeChainRow, standIns := [], harness := (true, "83440c94e3d64782ca8c643cf7896f4cf865c547646f8db8a10edc79be67a41c"), looks := false }, kinds := [], alts := [], laidByText := true, laidKinds := [.data, .pinned], laidTests := true, laidLooks := .later }
def FnExactMistakeChainCardSaid : Prop := Claim7.holds Tryd.pinned (.plain (OpenSpec.ofChange fnExactMistakeChainSpec)) fnExactMistakeChainCard

/-- THE TIED CARD OF 'laws.FnExactCostOf'. -/
def fnExactCostOfCard : Claim7 := { stood := { row := fnExactCostOfRow, standIns := [], harness := (true, "83440c94e3d64782ca8c643cf7896f4cf865c547646f8db8a10edc79be67a41c"), looks := false }, kinds := [], alts := [], laidByText := true, laidKinds := [.data, .pinned], laidTests := true, laidLooks := .later }
def FnExactCostOfCardSaid : Prop := Claim7.holds Tryd.pinned (.plain (OpenSpec.ofChange fnExactCostOfSpec)) fnExactCostOfCard

/-- THE TIED CARD OF 'laws.FnExactWeightsOf'. -/
def fnExactWeightsOfCard : Claim7 := { stood := { row := fnExactWeightsOfRow, standIns := [], harness := (true, "83440c94e3d64782ca8c643cf7896f4cf865c547646f8db8a10edc79be67a41c"), looks := false }, kinds := [], alts := [], laidByText := true, laidKinds := [.data, .pinned], laidTests := true, laidLooks := .later }
def FnExactWeightsOfCardSaid : Prop := Claim7.holds Tryd.pinned (.plain (OpenSpec.ofChange fnExactWeightsOfSpec)) fnExactWeightsOfCard

/-- THE TIED CARD OF 'laws.FnExactBestSwap'. -/
def fnExactBestSwapCard : Claim7 := { stood := { row := fnExactBestSwapRow, standIns := [], harness := (true, "83440c94e3d64782ca8c643cf7896f4cf865c547646f8db8a10edc79be67a41c"), looks := false }, kinds := [], alts := [], laidByText := true, laidKinds := [.data, .pinned], laidTests := true, laidLooks := .later }
def FnExactBestSwapCardSaid : Prop := Claim7.holds Tryd.pinned (.plain (OpenSpec.ofChange fnExactBestSwapSpec)) fnExactBestSwapCard

/-- THE TIED CARD OF 'laws.FnExactSwapsToBest'. -/
def fnExactSwapsToBestCard : Claim7 := { stood := { row := fnExactSwapsToBestRow, standIns := [], harness := (true, "83440c94e3d64782ca8c643cf7896f4cf865c547646f8db8a10edc79be67a41c"), looks := false }, kinds := [], alts := [], laidByText := true, laidKinds := [.data, .pinned], laidTests := true, laidLooks := .later }
def FnExactSwapsToBestCardSaid : Prop := Claim7.holds Tryd.pinned (.plain (OpenSpec.ofChange fnExactSwapsToBestSpec)) fnExactSwapsToBestCard

/-- THE TIED CARD OF 'laws.FnExactUnitsFor'. -/
def fnExactUnitsForCard : Claim7 := { stood := { row := fnExactUnitsForRow, standIns := [], harness := (true, "83440c94e3d64782ca8c643cf7896f4cf865c547646f8db8a10edc79be67a41c"), looks := false }, kinds := [], alts := [], laidByText := true, laidKinds := [.data, .pinned], laidTests := true, laidLooks := .later }
def FnExactUnitsForCardSaid : Prop := Claim7.holds Tryd.pinned (.plain (OpenSpec.ofChange fnExactUnitsForSpec)) fnExactUnitsForCard

/-- THE TIED CARD OF 'laws.FnExactWayOfMessage'. -/
def fnExactWayOfMessageCard : Claim7 := { stood := { row := fnExactWayOfMessageRow, standIns := [], harness := (true, "83440c94e3d64782ca8c643cf7896f4cf865c547646f8db8a10edc79be67a41c"), looks := false }, kinds := [], alts := [], laidByText := true, laidKinds := [.data, .pinned], laidTests := true, laidLooks := .later }
def FnExactWayOfMessageCardSaid : Prop := Claim7.holds Tryd.pinned (.plain (OpenSpec.ofChange fnExactWayOfMessageSpec)) fnExactWayOfMessageCard

/-- THE TIED CARD OF 'laws.FnExactTraceOf'. -/
def fnExactTraceOfCard : Claim7 := { stood := { row := fnExactTraceOfRow, standIns := [], harness := (true, "83440c94e3d64782ca8c643cf7896f4cf865c547646f8db8a10edc79be67a41c"), looks := false }, kinds := [], alts := [], laidByText := true, laidKinds := [.data, .pinned], laidTests := true, laidLooks := .later }
def FnExactTraceOfCardSaid : Prop := Claim7.holds Tryd.pinned (.plain (OpenSpec.ofChange fnExactTraceOfSpec)) fnExactTraceOfCard

/-- THE TIED CARD OF 'laws.FnExactSignalsOf'. -/
def fnExactSignalsOfCard : Claim7 := { stood := { row := fnExactSignalsOfRow, standIns := [], harness := (true, "83440c94e3d64782ca8c643cf7896f4cf865c547646f8db8a10edc79be67a41c"), looks := false }, kinds := [], alts := [], laidByText := true, laidKinds := [.data, .pinned], laidTests := true, laidLooks := .later }
def FnExactSignalsOfCardSaid : Prop := Claim7.holds Tryd.pinned (.plain (OpenSpec.ofChange fnExactSignalsOfSpec)) fnExactSignalsOfCard

/-- THE TIED CARD OF 'laws.FnExactBoundsOf'. -/
def fnExactBoundsOfCard : Claim7 := { stood := { row := fnExactBoundsOfRow, standIns := [], harness := (true, "83440c94e3d64782ca8c643cf7896f4cf865c547646f8db8a10edc79be67a41c"), looks := false }, kinds := [], alts := [], laidByText := true, laidKinds := [.data, .pinned], laidTests := true, laidLooks := .later }
def FnExactBoundsOfCardSaid : Prop := Claim7.holds Tryd.pinned (.plain (OpenSpec.ofChange fnExactBoundsOfSpec)) fnExactBoundsOfCard

/-- THE SECOND FORM's CARD OF 'laws.FnExactChancesSent'. -/
def fnExactChancesSentUptoCard : Claim7 := { stood := { row := fnExactChancesSentUptoRow, standIns := [], harness := (true, "83440c94e3d64782ca8c643cf7896f4cf865c547646f8db8a10edc79be67a41c"), looks := false }, kinds := [], alts := [], laidByText := true, laidKinds := [.data, .pinned], laidTests := true, laidLooks := .later }
def FnExactChancesSentUptoCardSaid : Prop := Claim7.holds Tryd.pinned (.plain (OpenSpec.upto fnExactChancesSentSpec)) fnExactChancesSentUptoCard

/-- THE SECOND FORM's CARD OF 'laws.FnExactEvenTable'. -/
def fnExactEvenTableUptoCard : Claim7 := { stood := { row := fnExactEvenTableUptoRow, standIns := [], harness := (true, "83440c94e3d64782ca8c643cf7896f4cf865c547646f8db8a10edc79be67a41c"), looks := false }, kinds := [], alts := [], laidByText := true, laidKinds := [.data, .pinned], laidTests := true, laidLooks := .later }
def FnExactEvenTableUptoCardSaid : Prop := Claim7.holds Tryd.pinned (.plain (OpenSpec.upto fnExactEvenTableSpec)) fnExactEvenTableUptoCard

/-- THE SECOND FORM's CARD OF 'laws.FnExactMistakeChain'. -/
def fnExactMistakeChainUptoCard : Claim7 := { stood := { row := fnExactMistakeChainUptoRow, standIns := [], harness := (true, "83440c94e3d64782ca8c643cf7896f4cf865c547646f8db8a10edc79be67a41c"), looks := false }, kinds := [], alts := [], laidByText := true, laidKinds := [.data, .pinned], laidTests := true, laidLooks := .later }
def FnExactMistakeChainUptoCardSaid : Prop := Claim7.holds Tryd.pinned (.plain (OpenSpec.upto fnExactMistakeChainSpec)) fnExactMistakeChainUptoCard

/-- THE SECOND FORM's CARD OF 'laws.FnExactCostOf'. -/
def fnExactCostOfUptoCard : Claim7 := { stood := { row := fnExactCostOfUptoRow, standIns := [], harness := (true, "83440c94e3d64782ca8c643cf7896f4cf865c547646f8db8a10edc79be67a41c"), looks := false }, kinds := [], alts := [], laidByText := true, laidKinds := [.data, .pinned], laidTests := true, laidLooks := .later }
def FnExactCostOfUptoCardSaid : Prop := Claim7.holds Tryd.pinned (.plain (OpenSpec.upto fnExactCostOfSpec)) fnExactCostOfUptoCard

/-- THE SECOND FORM's CARD OF 'laws.FnExactWeightsOf'. -/
def fnExactWeightsOfUptoCard : Claim7 := { stood := { row := fnExactWeightsOfUptoRow, standIns := [], harness := (true, "83440c94e3d64782ca8c643cf7896f4cf865c547646f8db8a10edc79be67a41c"), looks := false }, kinds := [], alts := [], laidByText := true, laidKinds := [.data, .pinned], laidTests := true, laidLooks := .later }
def FnExactWeightsOfUptoCardSaid : Prop := Claim7.holds Tryd.pinned (.plain (OpenSpec.upto fnExactWeightsOfSpec)) fnExactWeightsOfUptoCard

/-- THE SECOND FORM's CARD OF 'laws.FnExactBestSwap'. -/
def fnExactBestSwapUptoCard : Claim7 := { stood := { row := fnExactBestSwapUptoRow, standIns := [], harness := (true, "83440c94e3d64782ca8c643cf7896f4cf865c547646f8db8a10edc79be67a41c"), looks := false }, kinds := [], alts := [], laidByText := true, laidKinds := [.data, .pinned], laidTests := true, laidLooks := .later }
def FnExactBestSwapUptoCardSaid : Prop := Claim7.holds Tryd.pinned (.plain (OpenSpec.upto fnExactBestSwapSpec)) fnExactBestSwapUptoCard

/-- THE SECOND FORM's CARD OF 'laws.FnExactSwapsToBest'. -/
def fnExactSwapsToBestUptoCard : Claim7 := { stood := { row := fnExactSwapsToBestUptoRow, standIns := [], harness := (true, "83440c94e3d64782ca8c643cf7896f4cf865c547646f8db8a10edc79be67a41c"), looks := false }, kinds := [], alts := [], laidByText := true, laidKinds := [.data, .pinned], laidTests := true, laidLooks := .later }
def FnExactSwapsToBestUptoCardSaid : Prop := Claim7.holds Tryd.pinned (.plain (OpenSpec.upto fnExactSwapsToBestSpec)) fnExactSwapsToBestUptoCard

/-- THE SECOND FORM's CARD OF 'laws.FnExactUnitsFor'. -/
def fnExactUnitsForUptoCard : Claim7 := { stood := { row := fnExactUnitsForUptoRow, standIns := [], harness := (true, "83440c94e3d64782ca8c643cf7896f4cf865c547646f8db8a10edc79be67a41c"), looks := false }, kinds := [], alts := [], laidByText := true, laidKinds := [.data, .pinned], laidTests := true, laidLooks := .later }
def FnExactUnitsForUptoCardSaid : Prop := Claim7.holds Tryd.pinned (.plain (OpenSpec.upto fnExactUnitsForSpec)) fnExactUnitsForUptoCard

/-- THE SECOND FORM's CARD OF 'laws.FnExactWayOfMessage'. -/
def fnExactWayOfMessageUptoCard : Claim7 := { stood := { row := fnExactWayOfMessageUptoRow, standIns := [], harness := (true, "83440c94e3d64782ca8c643cf7896f4cf865c547646f8db8a10edc79be67a41c"), looks := false }, kinds := [], alts := [], laidByText := true, laidKinds := [.data, .pinned], laidTests := true, laidLooks := .later }
def FnExactWayOfMessageUptoCardSaid : Prop := Claim7.holds Tryd.pinned (.plain (OpenSpec.upto fnExactWayOfMessageSpec)) fnExactWayOfMessageUptoCard

/-- THE SECOND FORM's CARD OF 'laws.FnExactTraceOf'. -/
def fnExactTraceOfUptoCard : Claim7 := { stood := { row := fnExactTraceOfUptoRow, standIns := [], harness := (true, "83440c94e3d64782ca8c643cf7896f4cf865c547646f8db8a10edc79be67a41c"), looks := false }, kinds := [], alts := [], laidByText := true, laidKinds := [.data, .pinned], laidTests := true, laidLooks := .later }
def FnExactTraceOfUptoCardSaid : Prop := Claim7.holds Tryd.pinned (.plain (OpenSpec.upto fnExactTraceOfSpec)) fnExactTraceOfUptoCard

/-- THE SECOND FORM's CARD OF 'laws.FnExactSignalsOf'. -/
def fnExactSignalsOfUptoCard : Claim7 := { stood := { row := fnExactSignalsOfUptoRow, standIns := [], harness := (true, "83440c94e3d64782ca8c643cf7896f4cf865c547646f8db8a10edc79be67a41c"), looks := false }, kinds := [], alts := [], laidByText := true, laidKinds := [.data, .pinned], laidTests := true, laidLooks := .later }
def FnExactSignalsOfUptoCardSaid : Prop := Claim7.holds Tryd.pinned (.plain (OpenSpec.upto fnExactSignalsOfSpec)) fnExactSignalsOfUptoCard

/-- THE SECOND FORM's CARD OF 'laws.FnExactBoundsOf'. -/
def fnExactBoundsOfUptoCard : Claim7 := { stood := { row := fnExactBoundsOfUptoRow, standIns := [], harness := (true, "83440c94e3d64782ca8c643cf7896f4cf865c547646f8db8a10edc79be67a41c"), looks := false }, kinds := [], alts := [], laidByText := true, laidKinds := [.data, .pinned], laidTests := true, laidLooks := .later }
def FnExactBoundsOfUptoCardSaid : Prop := Claim7.holds Tryd.pinned (.plain (OpenSpec.upto fnExactBoundsOfSpec)) fnExactBoundsOfUptoCard
end Rows
end Go.Proofs.YtlmjdemefcncgaaDoor
