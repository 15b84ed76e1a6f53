/-
  DERIVED. GIVEN WITH THE SEED: THE CARDS: each row of YtgaadjlcmgmfaaaGreatDoorRows.lean that lists a variable, with what it lists TIED to the program's text (the seventh form; the later family's looks); each row that meets fmt, with fmt's text TOLD by the authors' own Lean function (tested against real Go, not proved from fmt's source: count such statements apart). THE CARD IS WHAT COUNTS. Prove the row's statement (the work); the ties are given (YtgaadjlcmgmfaaaGreatDoorTie.lean); close each card by the builder's one call (the guide's Derived/Test/ToyasCard.lean, 'card_holds'). Laid BY PROGRAM, IN A SANDBOX (cutbox-door.mjs). By AI agents, Wed Nov 11 2026. No macro, syntax, notation, axiom, sorry.
-/
import Derived.Test.YtgaadjlcmgmfaaaGreatDoorRows
import GoSem.ClaimSeven
namespace Go.Proofs.YtgaadjlcmgmfaaaGreatDoor
namespace Rows

/-- THE TIED CARD OF 'laws.FnExactIsBestOrder'. -/
def fnExactIsBestOrderCard : Claim7 := { stood := { row := fnExactIsBestOrderRow, standIns := [], harness := (true, "7f5b7978a84403cc4f50fa6055e6546fffe357f433434dde0517786e06b64f66"), looks := true }, kinds := [], alts := [], laidByText := true, laidKinds := [.data, .pinned], laidTests := true, laidLooks := .later }
def FnExactIsBestOrderCardSaid : Prop := Claim7.holds Tryz.pinned (.plain (OpenSpec.ofChange fnExactIsBestOrderSpec)) fnExactIsBestOrderCard

/-- THE TIED CARD OF 'laws.FnExactBestFrom'. -/
def fnExactBestFromCard : Claim7 := { stood := { row := fnExactBestFromRow, standIns := [], harness := (true, "7f5b7978a84403cc4f50fa6055e6546fffe357f433434dde0517786e06b64f66"), looks := true }, kinds := [], alts := [], laidByText := true, laidKinds := [.data, .pinned], laidTests := true, laidLooks := .later }
def FnExactBestFromCardSaid : Prop := Claim7.holds Tryz.pinned (.plain (OpenSpec.ofChange fnExactBestFromSpec)) fnExactBestFromCard

/-- THE TIED CARD OF 'laws.FnExactMeanFlips'. -/
def fnExactMeanFlipsCard : Claim7 := { stood := { row := fnExactMeanFlipsRow, standIns := [], harness := (true, "7f5b7978a84403cc4f50fa6055e6546fffe357f433434dde0517786e06b64f66"), looks := true }, kinds := [], alts := [], laidByText := true, laidKinds := [.data, .listed, .data, .pinned], laidTests := true, laidLooks := .later }
def FnExactMeanFlipsCardSaid : Prop := Claim7.holds Tryz.pinned (.plain (OpenSpec.ofChange fnExactMeanFlipsSpec)) fnExactMeanFlipsCard

/-- THE SECOND FORM's CARD OF 'laws.FnExactIsBestOrder'. -/
def fnExactIsBestOrderUptoCard : Claim7 := { stood := { row := fnExactIsBestOrderUptoRow, standIns := [], harness := (true, "7f5b7978a84403cc4f50fa6055e6546fffe357f433434dde0517786e06b64f66"), looks := true }, kinds := [], alts := [], laidByText := true, laidKinds := [.data, .pinned], laidTests := true, laidLooks := .later }
def FnExactIsBestOrderUptoCardSaid : Prop := Claim7.holds Tryz.pinned (.plain (OpenSpec.upto fnExactIsBestOrderSpec)) fnExactIsBestOrderUptoCard

/-- THE SECOND FORM's CARD OF 'laws.FnExactBestFrom'. -/
def fnExactBestFromUptoCard : Claim7 := { stood := { row := fnExactBestFromUptoRow, standIns := [], harness := (true, "7f5b7978a84403cc4f50fa6055e6546fffe357f433434dde0517786e06b64f66"), looks := true }, kinds := [], alts := [], laidByText := true, laidKinds := [.data, .pinned], laidTests := true, laidLooks := .later }
def FnExactBestFromUptoCardSaid : Prop := Claim7.holds Tryz.pinned (.plain (OpenSpec.upto fnExactBestFromSpec)) fnExactBestFromUptoCard

/-- THE SECOND FORM's CARD OF 'laws.FnExactMeanFlips'. -/
def fnExactMeanFlipsUptoCard : Claim7 := { stood := { row := fnExactMeanFlipsUptoRow, standIns := [], harness := (true, "7f5b7978a84403cc4f50fa6055e6546fffe357f433434dde0517786e06b64f66"), looks := true }, kinds := [], alts := [], laidByText := true, laidKinds := [.data, .listed, .data, .pinned], laidTests := true, laidLooks := .later }
def FnExactMeanFlipsUptoCardSaid : Prop := Claim7.holds Tryz.pinned (.plain (OpenSpec.upto fnExactMeanFlipsSpec)) fnExactMeanFlipsUptoCard
end Rows
end Go.Proofs.YtgaadjlcmgmfaaaGreatDoor
