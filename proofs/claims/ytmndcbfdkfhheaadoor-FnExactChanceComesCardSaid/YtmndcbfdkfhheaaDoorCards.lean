/-
  DERIVED. GIVEN WITH THE SEED: THE CARDS: each row of YtmndcbfdkfhheaaDoorRows.lean that lists a variable, with what it lists TIED to the program's text (the seventh form; the later family's looks); each row that meets fmt, with fmt's text TOLD by the authors' own Lean function (tested against real Go, not proved from fmt's source: count such statements apart). THE CARD IS WHAT COUNTS. Prove the row's statement (the work); the ties are given (YtmndcbfdkfhheaaDoorTie.lean); close each card by the builder's one call (the guide's Derived/Test/ToyasCard.lean, 'card_holds'). Laid BY PROGRAM, IN A SANDBOX (cutbox-door.mjs). By AI agents, Wed Nov 11 2026. No macro, syntax, notation, axiom, sorry.
-/
import Derived.Test.YtmndcbfdkfhheaaDoorRows
import GoSem.ClaimSeven
namespace Go.Proofs.YtmndcbfdkfhheaaDoor
namespace Rows

/-- THE TIED CARD OF 'laws.FnExactNodeOfMarks'. -/
def fnExactNodeOfMarksCard : Claim7 := { stood := { row := fnExactNodeOfMarksRow, standIns := [], harness := (true, "2197b05d7aa751abacada78495a80d3059be14f68947ed29b1fca3cdd07c07ee"), looks := false }, kinds := [], alts := [], laidByText := true, laidKinds := [.data, .pinned], laidTests := true, laidLooks := .later }
def FnExactNodeOfMarksCardSaid : Prop := Claim7.holds Tryd.pinned (.plain (OpenSpec.ofChange fnExactNodeOfMarksSpec)) fnExactNodeOfMarksCard

/-- THE TIED CARD OF 'laws.FnExactMarkDistance'. -/
def fnExactMarkDistanceCard : Claim7 := { stood := { row := fnExactMarkDistanceRow, standIns := [], harness := (true, "2197b05d7aa751abacada78495a80d3059be14f68947ed29b1fca3cdd07c07ee"), looks := false }, kinds := [], alts := [], laidByText := true, laidKinds := [.data, .pinned], laidTests := true, laidLooks := .later }
def FnExactMarkDistanceCardSaid : Prop := Claim7.holds Tryd.pinned (.plain (OpenSpec.ofChange fnExactMarkDistanceSpec)) fnExactMarkDistanceCard

/-- THE TIED CARD OF 'laws.FnExactChanceComes'. -/
def fnExactChanceComesCard : Claim7 := { stood := { row := fnExactChanceComesRow, standIns := [], harness := (true, "2197b05d7aa751abacada78495a80d3059be14f68947ed29b1fca3cdd07c07ee"), looks := false }, kinds := [], alts := [], laidByText := true, laidKinds := [.data, .pinned], laidTests := true, laidLooks := .later }
def FnExactChanceComesCardSaid : Prop := Claim7.holds Tryd.pinned (.plain (OpenSpec.ofChange fnExactChanceComesSpec)) fnExactChanceComesCard

/-- THE SECOND FORM's CARD OF 'laws.FnExactNodeOfMarks'. -/
def fnExactNodeOfMarksUptoCard : Claim7 := { stood := { row := fnExactNodeOfMarksUptoRow, standIns := [], harness := (true, "2197b05d7aa751abacada78495a80d3059be14f68947ed29b1fca3cdd07c07ee"), looks := false }, kinds := [], alts := [], laidByText := true, laidKinds := [.data, .pinned], laidTests := true, laidLooks := .later }
def FnExactNodeOfMarksUptoCardSaid : Prop := Claim7.holds Tryd.pinned (.plain (OpenSpec.upto fnExactNodeOfMarksSpec)) fnExactNodeOfMarksUptoCard

/-- THE SECOND FORM's CARD OF 'laws.FnExactMarkDistance'. -/
def fnExactMarkDistanceUptoCard : Claim7 := { stood := { row := fnExactMarkDistanceUptoRow, standIns := [], harness := (true, "2197b05d7aa751abacada78495a80d3059be14f68947ed29b1fca3cdd07c07ee"), looks := false }, kinds := [], alts := [], laidByText := true, laidKinds := [.data, .pinned], laidTests := true, laidLooks := .later }
def FnExactMarkDistanceUptoCardSaid : Prop := Claim7.holds Tryd.pinned (.plain (OpenSpec.upto fnExactMarkDistanceSpec)) fnExactMarkDistanceUptoCard

/-- THE SECOND FORM's CARD OF 'laws.FnExactChanceComes'. -/
def fnExactChanceComesUptoCard : Claim7 := { stood := { row := fnExactChanceComesUptoRow, standIns := [], harness := (true, "2197b05d7aa751abacada78495a80d3059be14f68947ed29b1fca3cdd07c07ee"), looks := false }, kinds := [], alts := [], laidByText := true, laidKinds := [.data, .pinned], laidTests := true, laidLooks := .later }
def FnExactChanceComesUptoCardSaid : Prop := Claim7.holds Tryd.pinned (.plain (OpenSpec.upto fnExactChanceComesSpec)) fnExactChanceComesUptoCard
end Rows
end Go.Proofs.YtmndcbfdkfhheaaDoor
