/-
  DERIVED. GIVEN WITH THE SEED: THE CARDS: each row of YtdjlehnffphmbaaDoorRows.lean that lists a variable, with what it lists TIED to the program's text (the seventh form; the later family's looks); each row that meets fmt, with fmt's text TOLD by the authors' own Lean function (tested against real Go, not proved from fmt's source: count such statements apart). THE CARD IS WHAT COUNTS. Prove the row's statement (the work); the ties are given (YtdjlehnffphmbaaDoorTie.lean); close each card by the builder's one call (the guide's Derived/Test/ToyasCard.lean, 'card_holds'). Laid BY PROGRAM, IN A SANDBOX (cutbox-door.mjs). By AI agents, Wed Nov 11 2026. No macro, syntax, notation, axiom, sorry.
-/
import Derived.Test.YtdjlehnffphmbaaDoorRows
import GoSem.ClaimSeven
namespace Go.Proofs.YtdjlehnffphmbaaDoor
namespace Rows

/-- THE TIED CARD OF 'laws.FnExactTraceOf'. -/
def fnExactTraceOfCard : Claim7 := { stood := { row := fnExactTraceOfRow, standIns := [], harness := (true, "74dd9c4b2daca3f79ed5c237c2c71c88b42c1ffb08c8a9707f0e73d1d4f82c9b"), looks := false }, kinds := [], alts := [], laidByText := true, laidKinds := [.data, .pinned], laidTests := true, laidLooks := .later }
def FnExactTraceOfCardSaid : Prop := Claim7.holds Tryd.pinned (.plain (OpenSpec.ofChange fnExactTraceOfSpec)) fnExactTraceOfCard

/-- THE TIED CARD OF 'laws.FnExactBoundsOf'. -/
def fnExactBoundsOfCard : Claim7 := { stood := { row := fnExactBoundsOfRow, standIns := [], harness := (true, "74dd9c4b2daca3f79ed5c237c2c71c88b42c1ffb08c8a9707f0e73d1d4f82c9b"), looks := false }, kinds := [], alts := [], laidByText := true, laidKinds := [.data, .pinned], laidTests := true, laidLooks := .later }
def FnExactBoundsOfCardSaid : Prop := Claim7.holds Tryd.pinned (.plain (OpenSpec.ofChange fnExactBoundsOfSpec)) fnExactBoundsOfCard

/-- THE SECOND FORM's CARD OF 'laws.FnExactTraceOf'. -/
def fnExactTraceOfUptoCard : Claim7 := { stood := { row := fnExactTraceOfUptoRow, standIns := [], harness := (true, "74dd9c4b2daca3f79ed5c237c2c71c88b42c1ffb08c8a9707f0e73d1d4f82c9b"), looks := false }, kinds := [], alts := [], laidByText := true, laidKinds := [.data, .pinned], laidTests := true, laidLooks := .later }
def FnExactTraceOfUptoCardSaid : Prop := Claim7.holds Tryd.pinned (.plain (OpenSpec.upto fnExactTraceOfSpec)) fnExactTraceOfUptoCard

/-- THE SECOND FORM's CARD OF 'laws.FnExactBoundsOf'. -/
def fnExactBoundsOfUptoCard : Claim7 := { stood := { row := fnExactBoundsOfUptoRow, standIns := [], harness := (true, "74dd9c4b2daca3f79ed5c237c2c71c88b42c1ffb08c8a9707f0e73d1d4f82c9b"), looks := false }, kinds := [], alts := [], laidByText := true, laidKinds := [.data, .pinned], laidTests := true, laidLooks := .later }
def FnExactBoundsOfUptoCardSaid : Prop := Claim7.holds Tryd.pinned (.plain (OpenSpec.upto fnExactBoundsOfSpec)) fnExactBoundsOfUptoCard
end Rows
end Go.Proofs.YtdjlehnffphmbaaDoor
