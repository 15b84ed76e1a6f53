/-
  DERIVED. GIVEN WITH THE SEED: THE CARDS: each row of YtbndcmfpblhjbaaGreatDoorRows.lean that lists a variable, with what it lists TIED to the program's text (the seventh form; the later family's looks); each row that meets fmt, with fmt's text TOLD by the authors' own Lean function (tested against real Go, not proved from fmt's source: count such statements apart). THE CARD IS WHAT COUNTS. Prove the row's statement (the work); the ties are given (YtbndcmfpblhjbaaGreatDoorTie.lean); close each card by the builder's one call (the guide's Derived/Test/ToyasCard.lean, 'card_holds'). Laid BY PROGRAM, IN A SANDBOX (cutbox-door.mjs). By AI agents, Wed Nov 11 2026. No macro, syntax, notation, axiom, sorry.
-/
import Derived.Test.YtbndcmfpblhjbaaGreatDoorRows
import GoSem.ClaimSeven
namespace Go.Proofs.YtbndcmfpblhjbaaGreatDoor
namespace Rows

/-- THE TIED CARD OF 'laws.FnExactMarksBefore'. -/
def fnExactMarksBeforeCard : Claim7 := { stood := { row := fnExactMarksBeforeRow, standIns := [], harness := (true, "4983758302ee7645ff934d9db83d2f7e37a0596cc50ff589f7688089f71ffa18"), looks := true }, kinds := [], alts := [], laidByText := true, laidKinds := [.data, .pinned], laidTests := true, laidLooks := .later }
def FnExactMarksBeforeCardSaid : Prop := Claim7.holds Tryz.pinned (.plain (OpenSpec.ofChange fnExactMarksBeforeSpec)) fnExactMarksBeforeCard

/-- THE TIED CARD OF 'laws.FnExactIsBestOrder'. -/
def fnExactIsBestOrderCard : Claim7 := { stood := { row := fnExactIsBestOrderRow, standIns := [], harness := (true, "4983758302ee7645ff934d9db83d2f7e37a0596cc50ff589f7688089f71ffa18"), looks := true }, kinds := [], alts := [], laidByText := true, laidKinds := [.data, .pinned], laidTests := true, laidLooks := .later }
def FnExactIsBestOrderCardSaid : Prop := Claim7.holds Tryz.pinned (.plain (OpenSpec.ofChange fnExactIsBestOrderSpec)) fnExactIsBestOrderCard

/-- THE TIED CARD OF 'laws.FnExactMeanFlips'. -/
def fnExactMeanFlipsCard : Claim7 := { stood := { row := fnExactMeanFlipsRow, standIns := [], harness := (true, "4983758302ee7645ff934d9db83d2f7e37a0596cc50ff589f7688089f71ffa18"), looks := true }, kinds := [], alts := [], laidByText := true, laidKinds := [.data, .listed, .data, .pinned], laidTests := true, laidLooks := .later }
def FnExactMeanFlipsCardSaid : Prop := Claim7.holds Tryz.pinned (.plain (OpenSpec.ofChange fnExactMeanFlipsSpec)) fnExactMeanFlipsCard

/-- THE SECOND FORM's CARD OF 'laws.FnExactMarksBefore'. -/
def fnExactMarksBeforeUptoCard : Claim7 := { stood := { row := fnExactMarksBeforeUptoRow, standIns := [], harness := (true, "4983758302ee7645ff934d9db83d2f7e37a0596cc50ff589f7688089f71ffa18"), looks := true }, kinds := [], alts := [], laidByText := true, laidKinds := [.data, .pinned], laidTests := true, laidLooks := .later }
def FnExactMarksBeforeUptoCardSaid : Prop := Claim7.holds Tryz.pinned (.plain (OpenSpec.upto fnExactMarksBeforeSpec)) fnExactMarksBeforeUptoCard

/-- THE SECOND FORM's CARD OF 'laws.FnExactIsBestOrder'. -/
def fnExactIsBestOrderUptoCard : Claim7 := { stood := { row := fnExactIsBestOrderUptoRow, standIns := [], harness := (true, "4983758302ee7645ff934d9db83d2f7e37a0596cc50ff589f7688089f71ffa18"), looks := true }, kinds := [], alts := [], laidByText := true, laidKinds := [.data, .pinned], laidTests := true, laidLooks := .later }
def FnExactIsBestOrderUptoCardSaid : Prop := Claim7.holds Tryz.pinned (.plain (OpenSpec.upto fnExactIsBestOrderSpec)) fnExactIsBestOrderUptoCard

/-- THE SECOND FORM's CARD OF 'laws.FnExactMeanFlips'. -/
def fnExactMeanFlipsUptoCard : Claim7 := { stood := { row := fnExactMeanFlipsUptoRow, standIns := [], harness := (true, "4983758302ee7645ff934d9db83d2f7e37a0596cc50ff589f7688089f71ffa18"), looks := true }, kinds := [], alts := [], laidByText := true, laidKinds := [.data, .listed, .data, .pinned], laidTests := true, laidLooks := .later }
def FnExactMeanFlipsUptoCardSaid : Prop := Claim7.holds Tryz.pinned (.plain (OpenSpec.upto fnExactMeanFlipsSpec)) fnExactMeanFlipsUptoCard
end Rows
end Go.Proofs.YtbndcmfpblhjbaaGreatDoor
