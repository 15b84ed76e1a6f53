/-
  DERIVED. GIVEN WITH THE SEED: THE CARDS: each row of YtlgmccliclmbaaaDoorRows.lean that lists a variable, with what it lists TIED to the program's text (the seventh form; the later family's looks); each row that meets fmt, with fmt's text TOLD by the authors' own Lean function (tested against real Go, not proved from fmt's source: count such statements apart). THE CARD IS WHAT COUNTS. Prove the row's statement (the work); the ties are given (YtlgmccliclmbaaaDoorTie.lean); close each card by the builder's one call (the guide's Derived/Test/ToyasCard.lean, 'card_holds'). Laid BY PROGRAM, IN A SANDBOX (cutbox-door.mjs). By AI agents, Wed Nov 11 2026. No macro, syntax, notation, axiom, sorry.
-/
import Derived.Test.YtlgmccliclmbaaaDoorRows
import GoSem.ClaimSeven
namespace Go.Proofs.YtlgmccliclmbaaaDoor
namespace Rows

/-- THE TIED CARD OF 'laws.FnExactRankOfTable'. -/
def fnExactRankOfTableCard : Claim7 := { stood := { row := fnExactRankOfTableRow, standIns := [], harness := (true, "9ba0e0d442db09add8da482ae397b24b153b562d6a82a29eb958f994fad30511"), looks := false }, kinds := [], alts := [], laidByText := true, laidKinds := [.data, .pinned], laidTests := true, laidLooks := .later }
def FnExactRankOfTableCardSaid : Prop := Claim7.holds Tryd.pinned (.plain (OpenSpec.ofChange fnExactRankOfTableSpec)) fnExactRankOfTableCard

/-- THE TIED CARD OF 'laws.FnExactSafeSubset'. -/
def fnExactSafeSubsetCard : Claim7 := { stood := { row := fnExactSafeSubsetRow, standIns := [], harness := (true, "9ba0e0d442db09add8da482ae397b24b153b562d6a82a29eb958f994fad30511"), looks := false }, kinds := [], alts := [], laidByText := true, laidKinds := [.data, .pinned], laidTests := true, laidLooks := .later }
def FnExactSafeSubsetCardSaid : Prop := Claim7.holds Tryd.pinned (.plain (OpenSpec.ofChange fnExactSafeSubsetSpec)) fnExactSafeSubsetCard

/-- THE TIED CARD OF 'laws.FnExactSwapsToBest'. -/
def fnExactSwapsToBestCard : Claim7 := { stood := { row := fnExactSwapsToBestRow, standIns := [], harness := (true, "9ba0e0d442db09add8da482ae397b24b153b562d6a82a29eb958f994fad30511"), looks := false }, kinds := [], alts := [], laidByText := true, laidKinds := [.data, .pinned], laidTests := true, laidLooks := .later }
def FnExactSwapsToBestCardSaid : Prop := Claim7.holds Tryd.pinned (.plain (OpenSpec.ofChange fnExactSwapsToBestSpec)) fnExactSwapsToBestCard

/-- THE TIED CARD OF 'laws.FnExactEvenTable'. -/
def fnExactEvenTableCard : Claim7 := { stood := { row := fnExactEvenTableRow, standIns := [], harness := (true, "9ba0e0d442db09add8da482ae397b24b153b562d6a82a29eb958f994fad30511"), looks := false }, kinds := [], alts := [], laidByText := true, laidKinds := [.data, .pinned], laidTests := true, laidLooks := .later }
def FnExactEvenTableCardSaid : Prop := Claim7.holds Tryd.pinned (.plain (OpenSpec.ofChange fnExactEvenTableSpec)) fnExactEvenTableCard

/-- THE TIED CARD OF 'laws.FnExactMistakeChain'. -/
def fnExactMistakeChainCard : Claim7 := { stood := { row := fnExactMistakeChainRow, standIns := [], harness := (true, "9ba0e0d442db09add8da482ae397b24b153b562d6a82a29eb958f994fad30511"), looks := false }, kinds := [], alts := [], laidByText := true, laidKinds := [.data, .pinned], laidTests := true, laidLooks := .later }
def FnExactMistakeChainCardSaid : Prop := Claim7.holds Tryd.pinned (.plain (OpenSpec.ofChange fnExactMistakeChainSpec)) fnExactMistakeChainCard

/-- THE TIED CARD OF 'laws.FnExactWayOfMessage'. -/
def fnExactWayOfMessageCard : Claim7 := { stood := { row := fnExactWayOfMessageRow, standIns := [], harness := (true, "9ba0e0d442db09add8da482ae397b24b153b562d6a82a29eb958f994fad30511"), looks := false }, kinds := [], alts := [], laidByText := true, laidKinds := [.data, .pinned], laidTests := true, laidLooks := .later }
def FnExactWayOfMessageCardSaid : Prop := Claim7.holds Tryd.pinned (.plain (OpenSpec.ofChange fnExactWayOfMessageSpec)) fnExactWayOfMessageCard

/-- THE TIED CARD OF 'laws.FnExactTraceOf'. -/
def fnExactTraceOfCard : Claim7 := { stood := { row := fnExactTraceOfRow, standIns := [], harness := (true, "9ba0e0d442db09add8da482ae397b24b153b562d6a82a29eb958f994fad30511"), looks := false }, kinds := [], alts := [], laidByText := true, laidKinds := [.data, .pinned], laidTests := true, laidLooks := .later }
def FnExactTraceOfCardSaid : Prop := Claim7.holds Tryd.pinned (.plain (OpenSpec.ofChange fnExactTraceOfSpec)) fnExactTraceOfCard

/-- THE TIED CARD OF 'laws.FnExactBoundsOf'. -/
def fnExactBoundsOfCard : Claim7 := { stood := { row := fnExactBoundsOfRow, standIns := [], harness := (true, "9ba0e0d442db09add8da482ae397b24b153b562d6a82a29eb958f994fad30511"), looks := false }, kinds := [], alts := [], laidByText := true, laidKinds := [.data, .pinned], laidTests := true, laidLooks := .later }
def FnExactBoundsOfCardSaid : Prop := Claim7.holds Tryd.pinned (.plain (OpenSpec.ofChange fnExactBoundsOfSpec)) fnExactBoundsOfCard

/-- THE SECOND FORM's CARD OF 'laws.FnExactRankOfTable'. -/
def fnExactRankOfTableUptoCard : Claim7 := { stood := { row := fnExactRankOfTableUptoRow, standIns := [], harness := (true, "9ba0e0d442db09add8da482ae397b24b153b562d6a82a29eb958f994fad30511"), looks := false }, kinds := [], alts := [], laidByText := true, laidKinds := [.data, .pinned], laidTests := true, laidLooks := .later }
def FnExactRankOfTableUptoCardSaid : Prop := Claim7.holds Tryd.pinned (.plain (OpenSpec.upto fnExactRankOfTableSpec)) fnExactRankOfTableUptoCard

/-- THE SECOND FORM's CARD OF 'laws.FnExactSafeSubset'. -/
def fnExactSafeSubsetUptoCard : Claim7 := { stood := { row := fnExactSafeSubsetUptoRow, standIns := [], harness := (true, "9ba0e0d442db09add8da482ae397b24b153b562d6a82a29eb958f994fad30511"), looks := false }, kinds := [], alts := [], laidByText := true, laidKinds := [.data, .pinned], laidTests := true, laidLooks := .later }
def FnExactSafeSubsetUptoCardSaid : Prop := Claim7.holds Tryd.pinned (.plain (OpenSpec.upto fnExactSafeSubsetSpec)) fnExactSafeSubsetUptoCard

/-- THE SECOND FORM's CARD OF 'laws.FnExactSwapsToBest'. -/
def fnExactSwapsToBestUptoCard : Claim7 := { stood := { row := fnExactSwapsToBestUptoRow, standIns := [], harness := (true, "9ba0e0d442db09add8da482ae397b24b153b562d6a82a29eb958f994fad30511"), looks := false }, kinds := [], alts := [], laidByText := true, laidKinds := [.data, .pinned], laidTests := true, laidLooks := .later }
def FnExactSwapsToBestUptoCardSaid : Prop := Claim7.holds Tryd.pinned (.plain (OpenSpec.upto fnExactSwapsToBestSpec)) fnExactSwapsToBestUptoCard

/-- THE SECOND FORM's CARD OF 'laws.FnExactEvenTable'. -/
def fnExactEvenTableUptoCard : Claim7 := { stood := { row := fnExactEvenTableUptoRow, standIns := [], harness := (true, "9ba0e0d442db09add8da482ae397b24b153b562d6a82a29eb958f994fad30511"), looks := false }, kinds := [], alts := [], laidByText := true, laidKinds := [.data, .pinned], laidTests := true, laidLooks := .later }
def FnExactEvenTableUptoCardSaid : Prop := Claim7.holds Tryd.pinned (.plain (OpenSpec.upto fnExactEvenTableSpec)) fnExactEvenTableUptoCard

/-- THE SECOND FORM's CARD OF 'laws.FnExactMistakeChain'. -/
def fnExactMistakeChainUptoCard : Claim7 := { stood := { row := fnExactMistakeChainUptoRow, standIns := [], harness := (true, "9ba0e0d442db09add8da482ae397b24b153b562d6a82a29eb958f994fad30511"), looks := false }, kinds := [], alts := [], laidByText := true, laidKinds := [.data, .pinned], laidTests := true, laidLooks := .later }
def FnExactMistakeChainUptoCardSaid : Prop := Claim7.holds Tryd.pinned (.plain (OpenSpec.upto fnExactMistakeChainSpec)) fnExactMistakeChainUptoCard

/-- THE SECOND FORM's CARD OF 'laws.FnExactWayOfMessage'. -/
def fnExactWayOfMessageUptoCard : Claim7 := { stood := { row := fnExactWayOfMessageUptoRow, standIns := [], harness := (true, "9ba0e0d442db09add8da482ae397b24b153b562d6a82a29eb958f994fad30511"), looks := false }, kinds := [], alts := [], laidByText := true, laidKinds := [.data, .pinned], laidTests := true, laidLooks := .later }
def FnExactWayOfMessageUptoCardSaid : Prop := Claim7.holds Tryd.pinned (.plain (OpenSpec.upto fnExactWayOfMessageSpec)) fnExactWayOfMessageUptoCard

/-- THE SECOND FORM's CARD OF 'laws.FnExactTraceOf'. -/
def fnExactTraceOfUptoCard : Claim7 := { stood := { row := fnExactTraceOfUptoRow, standIns := [], harness := (true, "9ba0e0d442db09add8da482ae397b24b153b562d6a82a29eb958f994fad30511"), looks := false }, kinds := [], alts := [], laidByText := true, laidKinds := [.data, .pinned], laidTests := true, laidLooks := .later }
def FnExactTraceOfUptoCardSaid : Prop := Claim7.holds Tryd.pinned (.plain (OpenSpec.upto fnExactTraceOfSpec)) fnExactTraceOfUptoCard

/-- THE SECOND FORM's CARD OF 'laws.FnExactBoundsOf'. -/
def fnExactBoundsOfUptoCard : Claim7 := { stood := { row := fnExactBoundsOfUptoRow, standIns := [], harness := (true, "9ba0e0d442db09add8da482ae397b24b153b562d6a82a29eb958f994fad30511"), looks := false }, kinds := [], alts := [], laidByText := true, laidKinds := [.data, .pinned], laidTests := true, laidLooks := .later }
def FnExactBoundsOfUptoCardSaid : Prop := Claim7.holds Tryd.pinned (.plain (OpenSpec.upto fnExactBoundsOfSpec)) fnExactBoundsOfUptoCard
end Rows
end Go.Proofs.YtlgmccliclmbaaaDoor
