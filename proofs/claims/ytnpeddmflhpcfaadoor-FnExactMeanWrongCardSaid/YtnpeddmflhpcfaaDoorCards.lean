/-
  DERIVED. GIVEN WITH THE SEED: THE CARDS: each row of YtnpeddmflhpcfaaDoorRows.lean that lists a variable, with what it lists TIED to the program's text (the seventh form; the later family's looks); each row that meets fmt, with fmt's text TOLD by the authors' own Lean function (tested against real Go, not proved from fmt's source: count such statements apart). THE CARD IS WHAT COUNTS. Prove the row's statement (the work); the ties are given (YtnpeddmflhpcfaaDoorTie.lean); close each card by the builder's one call (the guide's Derived/Test/ToyasCard.lean, 'card_holds'). Laid BY PROGRAM, IN A SANDBOX (cutbox-door.mjs). By AI agents, Wed Nov 11 2026. No macro, syntax, notation, axiom, sorry.
-/
import Derived.Test.YtnpeddmflhpcfaaDoorRows
import GoSem.ClaimSeven
namespace Go.Proofs.YtnpeddmflhpcfaaDoor
namespace Rows

/-- THE TIED CARD OF 'laws.FnExactClosePairs'. -/
def fnExactClosePairsCard : Claim7 := { stood := { row := fnExactClosePairsRow, standIns := [], harness := (true, "4d9e5cb4f43da68a48fe7e11fb8e4387cea6cbce8d7d4abb3f3d32bdc155d93a"), looks := false }, kinds := [], alts := [], laidByText := true, laidKinds := [.data, .pinned], laidTests := true, laidLooks := .later }
def FnExactClosePairsCardSaid : Prop := Claim7.holds Tryd.pinned (.plain (OpenSpec.ofChange fnExactClosePairsSpec)) fnExactClosePairsCard

/-- THE TIED CARD OF 'laws.FnExactChanceRead'. -/
def fnExactChanceReadCard : Claim7 := { stood := { row := fnExactChanceReadRow, standIns := [], harness := (true, "4d9e5cb4f43da68a48fe7e11fb8e4387cea6cbce8d7d4abb3f3d32bdc155d93a"), looks := false }, kinds := [], alts := [], laidByText := true, laidKinds := [.data, .pinned], laidTests := true, laidLooks := .later }
def FnExactChanceReadCardSaid : Prop := Claim7.holds Tryd.pinned (.plain (OpenSpec.ofChange fnExactChanceReadSpec)) fnExactChanceReadCard

/-- THE TIED CARD OF 'laws.FnExactSplitLetters'. -/
def fnExactSplitLettersCard : Claim7 := { stood := { row := fnExactSplitLettersRow, standIns := [], harness := (true, "4d9e5cb4f43da68a48fe7e11fb8e4387cea6cbce8d7d4abb3f3d32bdc155d93a"), looks := false }, kinds := [], alts := [], laidByText := true, laidKinds := [.data, .pinned], laidTests := true, laidLooks := .later }
def FnExactSplitLettersCardSaid : Prop := Claim7.holds Tryd.pinned (.plain (OpenSpec.ofChange fnExactSplitLettersSpec)) fnExactSplitLettersCard

/-- THE TIED CARD OF 'laws.FnExactLettersBy'. -/
def fnExactLettersByCard : Claim7 := { stood := { row := fnExactLettersByRow, standIns := [], harness := (true, "4d9e5cb4f43da68a48fe7e11fb8e4387cea6cbce8d7d4abb3f3d32bdc155d93a"), looks := false }, kinds := [], alts := [], laidByText := true, laidKinds := [.data, .pinned], laidTests := true, laidLooks := .later }
def FnExactLettersByCardSaid : Prop := Claim7.holds Tryd.pinned (.plain (OpenSpec.ofChange fnExactLettersBySpec)) fnExactLettersByCard

/-- THE TIED CARD OF 'laws.FnExactSafeSubset'. -/
def fnExactSafeSubsetCard : Claim7 := { stood := { row := fnExactSafeSubsetRow, standIns := [], harness := (true, "4d9e5cb4f43da68a48fe7e11fb8e4387cea6cbce8d7d4abb3f3d32bdc155d93a"), looks := false }, kinds := [], alts := [], laidByText := true, laidKinds := [.data, .pinned], laidTests := true, laidLooks := .later }
def FnExactSafeSubsetCardSaid : Prop := Claim7.holds Tryd.pinned (.plain (OpenSpec.ofChange fnExactSafeSubsetSpec)) fnExactSafeSubsetCard

/-- THE TIED CARD OF 'laws.FnExactChanceRight'. -/
def fnExactChanceRightCard : Claim7 := { stood := { row := fnExactChanceRightRow, standIns := [], harness := (true, "4d9e5cb4f43da68a48fe7e11fb8e4387cea6cbce8d7d4abb3f3d32bdc155d93a"), looks := false }, kinds := [], alts := [], laidByText := true, laidKinds := [.data, .pinned], laidTests := true, laidLooks := .later }
def FnExactChanceRightCardSaid : Prop := Claim7.holds Tryd.pinned (.plain (OpenSpec.ofChange fnExactChanceRightSpec)) fnExactChanceRightCard

/-- THE TIED CARD OF 'laws.FnExactNearestLetters'. -/
def fnExactNearestLettersCard : Claim7 := { stood := { row := fnExactNearestLettersRow, standIns := [], harness := (true, "4d9e5cb4f43da68a48fe7e11fb8e4387cea6cbce8d7d4abb3f3d32bdc155d93a"), looks := false }, kinds := [], alts := [], laidByText := true, laidKinds := [.data, .pinned], laidTests := true, laidLooks := .later }
def FnExactNearestLettersCardSaid : Prop := Claim7.holds Tryd.pinned (.plain (OpenSpec.ofChange fnExactNearestLettersSpec)) fnExactNearestLettersCard

/-- THE TIED CARD OF 'laws.FnExactChanceUnread'. -/
def fnExactChanceUnreadCard : Claim7 := { stood := { row := fnExactChanceUnreadRow, standIns := [], harness := (true, "4d9e5cb4f43da68a48fe7e11fb8e4387cea6cbce8d7d4abb3f3d32bdc155d93a"), looks := false }, kinds := [], alts := [], laidByText := true, laidKinds := [.data, .pinned], laidTests := true, laidLooks := .later }
def FnExactChanceUnreadCardSaid : Prop := Claim7.holds Tryd.pinned (.plain (OpenSpec.ofChange fnExactChanceUnreadSpec)) fnExactChanceUnreadCard

/-- THE TIED CARD OF 'laws.FnExactBestGuess'. -/
def fnExactBestGuessCard : Claim7 := { stood := { row := fnExactBestGuessRow, standIns := [], harness := (true, "4d9e5cb4f43da68a48fe7e11fb8e4387cea6cbce8d7d4abb3f3d32bdc155d93a"), looks := false }, kinds := [], alts := [], laidByText := true, laidKinds := [.data, .pinned], laidTests := true, laidLooks := .later }
def FnExactBestGuessCardSaid : Prop := Claim7.holds Tryd.pinned (.plain (OpenSpec.ofChange fnExactBestGuessSpec)) fnExactBestGuessCard

/-- THE TIED CARD OF 'laws.FnExactClosestPairs'. -/
def fnExactClosestPairsCard : Claim7 := { stood := { row := fnExactClosestPairsRow, standIns := [], harness := (true, "4d9e5cb4f43da68a48fe7e11fb8e4387cea6cbce8d7d4abb3f3d32bdc155d93a"), looks := false }, kinds := [], alts := [], laidByText := true, laidKinds := [.data, .pinned], laidTests := true, laidLooks := .later }
def FnExactClosestPairsCardSaid : Prop := Claim7.holds Tryd.pinned (.plain (OpenSpec.ofChange fnExactClosestPairsSpec)) fnExactClosestPairsCard

/-- THE TIED CARD OF 'laws.FnExactMeanWrong'. -/
def fnExactMeanWrongCard : Claim7 := { stood := { row := fnExactMeanWrongRow, standIns := [], harness := (true, "4d9e5cb4f43da68a48fe7e11fb8e4387cea6cbce8d7d4abb3f3d32bdc155d93a"), looks := false }, kinds := [], alts := [], laidByText := true, laidKinds := [.data, .pinned], laidTests := true, laidLooks := .later }
def FnExactMeanWrongCardSaid : Prop := Claim7.holds Tryd.pinned (.plain (OpenSpec.ofChange fnExactMeanWrongSpec)) fnExactMeanWrongCard

/-- THE TIED CARD OF 'laws.FnExactReadTable'. -/
def fnExactReadTableCard : Claim7 := { stood := { row := fnExactReadTableRow, standIns := [], harness := (true, "4d9e5cb4f43da68a48fe7e11fb8e4387cea6cbce8d7d4abb3f3d32bdc155d93a"), looks := false }, kinds := [], alts := [], laidByText := true, laidKinds := [.data, .pinned], laidTests := true, laidLooks := .later }
def FnExactReadTableCardSaid : Prop := Claim7.holds Tryd.pinned (.plain (OpenSpec.ofChange fnExactReadTableSpec)) fnExactReadTableCard

/-- THE SECOND FORM's CARD OF 'laws.FnExactClosePairs'. -/
def fnExactClosePairsUptoCard : Claim7 := { stood := { row := fnExactClosePairsUptoRow, standIns := [], harness := (true, "4d9e5cb4f43da68a48fe7e11fb8e4387cea6cbce8d7d4abb3f3d32bdc155d93a"), looks := false }, kinds := [], alts := [], laidByText := true, laidKinds := [.data, .pinned], laidTests := true, laidLooks := .later }
def FnExactClosePairsUptoCardSaid : Prop := Claim7.holds Tryd.pinned (.plain (OpenSpec.upto fnExactClosePairsSpec)) fnExactClosePairsUptoCard

/-- THE SECOND FORM's CARD OF 'laws.FnExactChanceRead'. -/
def fnExactChanceReadUptoCard : Claim7 := { stood := { row := fnExactChanceReadUptoRow, standIns := [], harness := (true, "4d9e5cb4f43da68a48fe7e11fb8e4387cea6cbce8d7d4abb3f3d32bdc155d93a"), looks := false }, kinds := [], alts := [], laidByText := true, laidKinds := [.data, .pinned], laidTests := true, laidLooks := .later }
def FnExactChanceReadUptoCardSaid : Prop := Claim7.holds Tryd.pinned (.plain (OpenSpec.upto fnExactChanceReadSpec)) fnExactChanceReadUptoCard

/-- THE SECOND FORM's CARD OF 'laws.FnExactSplitLetters'. -/
def fnExactSplitLettersUptoCard : Claim7 := { stood := { row := fnExactSplitLettersUptoRow, standIns := [], harness := (true, "4d9e5cb4f43da68a48fe7e11fb8e4387cea6cbce8d7d4abb3f3d32bdc155d93a"), looks := false }, kinds := [], alts := [], laidByText := true, laidKinds := [.data, .pinned], laidTests := true, laidLooks := .later }
def FnExactSplitLettersUptoCardSaid : Prop := Claim7.holds Tryd.pinned (.plain (OpenSpec.upto fnExactSplitLettersSpec)) fnExactSplitLettersUptoCard

/-- THE SECOND FORM's CARD OF 'laws.FnExactLettersBy'. -/
def fnExactLettersByUptoCard : Claim7 := { stood := { row := fnExactLettersByUptoRow, standIns := [], harness := (true, "4d9e5cb4f43da68a48fe7e11fb8e4387cea6cbce8d7d4abb3f3d32bdc155d93a"), looks := false }, kinds := [], alts := [], laidByText := true, laidKinds := [.data, .pinned], laidTests := true, laidLooks := .later }
def FnExactLettersByUptoCardSaid : Prop := Claim7.holds Tryd.pinned (.plain (OpenSpec.upto fnExactLettersBySpec)) fnExactLettersByUptoCard

/-- THE SECOND FORM's CARD OF 'laws.FnExactSafeSubset'. -/
def fnExactSafeSubsetUptoCard : Claim7 := { stood := { row := fnExactSafeSubsetUptoRow, standIns := [], harness := (true, "4d9e5cb4f43da68a48fe7e11fb8e4387cea6cbce8d7d4abb3f3d32bdc155d93a"), looks := false }, kinds := [], alts := [], laidByText := true, laidKinds := [.data, .pinned], laidTests := true, laidLooks := .later }
def FnExactSafeSubsetUptoCardSaid : Prop := Claim7.holds Tryd.pinned (.plain (OpenSpec.upto fnExactSafeSubsetSpec)) fnExactSafeSubsetUptoCard

/-- THE SECOND FORM's CARD OF 'laws.FnExactChanceRight'. -/
def fnExactChanceRightUptoCard : Claim7 := { stood := { row := fnExactChanceRightUptoRow, standIns := [], harness := (true, "4d9e5cb4f43da68a48fe7e11fb8e4387cea6cbce8d7d4abb3f3d32bdc155d93a"), looks := false }, kinds := [], alts := [], laidByText := true, laidKinds := [.data, .pinned], laidTests := true, laidLooks := .later }
def FnExactChanceRightUptoCardSaid : Prop := Claim7.holds Tryd.pinned (.plain (OpenSpec.upto fnExactChanceRightSpec)) fnExactChanceRightUptoCard

/-- THE SECOND FORM's CARD OF 'laws.FnExactNearestLetters'. -/
def fnExactNearestLettersUptoCard : Claim7 := { stood := { row := fnExactNearestLettersUptoRow, standIns := [], harness := (true, "4d9e5cb4f43da68a48fe7e11fb8e4387cea6cbce8d7d4abb3f3d32bdc155d93a"), looks := false }, kinds := [], alts := [], laidByText := true, laidKinds := [.data, .pinned], laidTests := true, laidLooks := .later }
def FnExactNearestLettersUptoCardSaid : Prop := Claim7.holds Tryd.pinned (.plain (OpenSpec.upto fnExactNearestLettersSpec)) fnExactNearestLettersUptoCard

/-- THE SECOND FORM's CARD OF 'laws.FnExactChanceUnread'. -/
def fnExactChanceUnreadUptoCard : Claim7 := { stood := { row := fnExactChanceUnreadUptoRow, standIns := [], harness := (true, "4d9e5cb4f43da68a48fe7e11fb8e4387cea6cbce8d7d4abb3f3d32bdc155d93a"), looks := false }, kinds := [], alts := [], laidByText := true, laidKinds := [.data, .pinned], laidTests := true, laidLooks := .later }
def FnExactChanceUnreadUptoCardSaid : Prop := Claim7.holds Tryd.pinned (.plain (OpenSpec.upto fnExactChanceUnreadSpec)) fnExactChanceUnreadUptoCard

/-- THE SECOND FORM's CARD OF 'laws.FnExactBestGuess'. -/
def fnExactBestGuessUptoCard : Claim7 := { stood := { row := fnExactBestGuessUptoRow, standIns := [], harness := (true, "4d9e5cb4f43da68a48fe7e11fb8e4387cea6cbce8d7d4abb3f3d32bdc155d93a"), looks := false }, kinds := [], alts := [], laidByText := true, laidKinds := [.data, .pinned], laidTests := true, laidLooks := .later }
def FnExactBestGuessUptoCardSaid : Prop := Claim7.holds Tryd.pinned (.plain (OpenSpec.upto fnExactBestGuessSpec)) fnExactBestGuessUptoCard

/-- THE SECOND FORM's CARD OF 'laws.FnExactClosestPairs'. -/
def fnExactClosestPairsUptoCard : Claim7 := { stood := { row := fnExactClosestPairsUptoRow, standIns := [], harness := (true, "4d9e5cb4f43da68a48fe7e11fb8e4387cea6cbce8d7d4abb3f3d32bdc155d93a"), looks := false }, kinds := [], alts := [], laidByText := true, laidKinds := [.data, .pinned], laidTests := true, laidLooks := .later }
def FnExactClosestPairsUptoCardSaid : Prop := Claim7.holds Tryd.pinned (.plain (OpenSpec.upto fnExactClosestPairsSpec)) fnExactClosestPairsUptoCard

/-- THE SECOND FORM's CARD OF 'laws.FnExactMeanWrong'. -/
def fnExactMeanWrongUptoCard : Claim7 := { stood := { row := fnExactMeanWrongUptoRow, standIns := [], harness := (true, "4d9e5cb4f43da68a48fe7e11fb8e4387cea6cbce8d7d4abb3f3d32bdc155d93a"), looks := false }, kinds := [], alts := [], laidByText := true, laidKinds := [.data, .pinned], laidTests := true, laidLooks := .later }
def FnExactMeanWrongUptoCardSaid : Prop := Claim7.holds Tryd.pinned (.plain (OpenSpec.upto fnExactMeanWrongSpec)) fnExactMeanWrongUptoCard

/-- THE SECOND FORM's CARD OF 'laws.FnExactReadTable'. -/
def fnExactReadTableUptoCard : Claim7 := { stood := { row := fnExactReadTableUptoRow, standIns := [], harness := (true, "4d9e5cb4f43da68a48fe7e11fb8e4387cea6cbce8d7d4abb3f3d32bdc155d93a"), looks := false }, kinds := [], alts := [], laidByText := true, laidKinds := [.data, .pinned], laidTests := true, laidLooks := .later }
def FnExactReadTableUptoCardSaid : Prop := Claim7.holds Tryd.pinned (.plain (OpenSpec.upto fnExactReadTableSpec)) fnExactReadTableUptoCard
end Rows
end Go.Proofs.YtnpeddmflhpcfaaDoor
