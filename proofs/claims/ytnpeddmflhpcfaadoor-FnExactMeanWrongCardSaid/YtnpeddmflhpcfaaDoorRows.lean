/-
  NARROWER THAN 'FOR EVERY INPUT', by the rows' own cells (each row's printed sentence says how): FnExactClosePairs: laid · FnExactChanceRead: laid · FnExactSplitLetters: laid · FnExactLettersBy: laid · FnExactSafeSubset: laid · FnExactChanceRight: laid · FnExactNearestLetters: laid · FnExactChanceUnread: laid · FnExactBestGuess: laid · FnExactClosestPairs: laid · FnExactMeanWrong: laid · FnExactReadTable: laid.
  DERIVED. THE GIVEN ROWS OF THIS SEAT. 12 by the template 'for every input the law returns true; each argument reads behind the call as it read before'; 0 by the template 'total and deterministic' (their statements: YtnpeddmflhpcfaaDoorTotals.lean).
  GIVEN WITH THE SEED: the statements are not yours to turn. If you find one false, say at which input.
  Laid BY PROGRAM, IN A SANDBOX (cutbox-rows.mjs): the forced cells as the released guide's own fill.sh prints them over the translation 0e46fe73fd86a8cb… (all of the seat's roots in one cut). By AI agents, Wed Nov 11 2026. No macro, syntax, notation, axiom, sorry.
-/
import Derived.Test.YtnpeddmflhpcfaaDoorChecked
import GoSem.PinnedTables
import GoSem.Claim
import GoSem.ClaimJoined
import GoSem.ClaimMapViews
import Derived.JoinedTies
import Derived.KernelRfl
namespace Go.Proofs.YtnpeddmflhpcfaaDoor
/- THE CELL 'sum', in the pinned program and in every row, IS THE sha256 OF THE DUMP (.gsa) THAT YtnpeddmflhpcfaaDoorProg.lean LOADS. Nothing in Lean hashes anything: it is a label: what it is worth is what the hold of that sum in a sandbox is worth. -/
noncomputable def Tryd.pinned : Pinned := { name := "ytnpeddmflhpcfaadoor", sum := "0e46fe73fd86a8cba2cd05264cb131c10c40f31959ca519bb9e39922c165af51", checked := Tryd.checked }
namespace Rows
def none {H : Type} : Left H := { results := [], args := [] }

/- WHAT THE LISTED PACKAGE-LEVEL VARIABLES READ AS WHEN THE CALL BEGINS. Each datum BY PROGRAM (the guide's laid-datum.mjs) off the statement by which the dump's own 'gosem.cut.vars' lays the variable. In a bare row this is a premise. The card (YtnpeddmflhpcfaaDoorCards.lean) ties it to the program's text. -/
def laid_unicode_utf8_acceptRanges {H : Type} : DataW H := .agg [.agg [.lit (.int .u8 128), .lit (.int .u8 191)], .agg [.lit (.int .u8 160), .lit (.int .u8 191)], .agg [.lit (.int .u8 128), .lit (.int .u8 159)], .agg [.lit (.int .u8 144), .lit (.int .u8 191)], .agg [.lit (.int .u8 128), .lit (.int .u8 143)], .agg [.lit (.int .u8 0), .lit (.int .u8 0)], .agg [.lit (.int .u8 0), .lit (.int .u8 0)], .agg [.lit (.int .u8 0), .lit (.int .u8 0)], .agg [.lit (.int .u8 0), .lit (.int .u8 0)], .agg [.lit (.int .u8 0), .lit (.int .u8 0)], .agg [.lit (.int .u8 0), .lit (.int .u8 0)], .agg [.lit (.int .u8 0), .lit (.int .u8 0)], .agg [.lit (.int .u8 0), .lit (.int .u8 0)], .agg [.lit (.int .u8 0), .lit (.int .u8 0)], .agg [.lit (.int .u8 0), .lit (.int .u8 0)], .agg [.lit (.int .u8 0), .lit (.int .u8 0)]]
/-- One of Go's own tables, pinned by name: the form's constant. -/
def laid_unicode_utf8_first : DataW Unit := Go.Pinned.utf8First

/-- 'laws.FnExactClosePairs': WHATEVER THE INPUT: true; the input reads as it did. -/
def fnExactClosePairsSpec : ChangeSpec := { name := "fnExactClosePairs", fn := fun _ => fun
  | [d1, d2] => { results := [.lit (.bool true)], args := [d1, d2] }
  | _ => none }
def fnExactClosePairsRow : OpenClaim := { program := "ytnpeddmflhpcfaadoor", sum := "0e46fe73fd86a8cba2cd05264cb131c10c40f31959ca519bb9e39922c165af51", func := "loop.example/g01248/laws.FnExactClosePairs", spec := "fnExactClosePairs", inPlace := ["internal/bytealg.IndexByteString", "internal/bytealg.IndexString"], named := ["unicode/utf8.first", "unicode/utf8.acceptRanges", "internal/bytealg.MaxLen"], apart := false, laid := [("unicode/utf8.acceptRanges", laid_unicode_utf8_acceptRanges), ("unicode/utf8.first", laid_unicode_utf8_first)] }
def FnExactClosePairsSaid : Prop := fnExactClosePairsRow.holds Tryd.pinned (OpenSpec.ofChange fnExactClosePairsSpec)

/-- ITS FALSE NEIGHBOUR: 'it returns false'. Refute it at one input. -/
def fnExactClosePairsWrong : ChangeSpec := { name := "fnExactClosePairs", fn := fun _ => fun
  | [d1, d2] => { results := [.lit (.bool false)], args := [d1, d2] }
  | _ => none }
def FnExactClosePairsWrongFalsely : Prop := fnExactClosePairsRow.holds Tryd.pinned (OpenSpec.ofChange fnExactClosePairsWrong)

/-- 'laws.FnExactChanceRead': WHATEVER THE INPUT: true; the input reads as it did. -/
def fnExactChanceReadSpec : ChangeSpec := { name := "fnExactChanceRead", fn := fun _ => fun
  | [d1, d2, d3, d4] => { results := [.lit (.bool true)], args := [d1, d2, d3, d4] }
  | _ => none }
def fnExactChanceReadRow : OpenClaim := { program := "ytnpeddmflhpcfaadoor", sum := "0e46fe73fd86a8cba2cd05264cb131c10c40f31959ca519bb9e39922c165af51", func := "loop.example/g01248/laws.FnExactChanceRead", spec := "fnExactChanceRead", inPlace := ["internal/bytealg.IndexByteString", "internal/bytealg.IndexString"], named := ["unicode/utf8.first", "unicode/utf8.acceptRanges", "internal/bytealg.MaxLen"], apart := false, laid := [("unicode/utf8.acceptRanges", laid_unicode_utf8_acceptRanges), ("unicode/utf8.first", laid_unicode_utf8_first)] }
def FnExactChanceReadSaid : Prop := fnExactChanceReadRow.holds Tryd.pinned (OpenSpec.ofChange fnExactChanceReadSpec)

/-- ITS FALSE NEIGHBOUR: 'it returns false'. Refute it at one input. -/
def fnExactChanceReadWrong : ChangeSpec := { name := "fnExactChanceRead", fn := fun _ => fun
  | [d1, d2, d3, d4] => { results := [.lit (.bool false)], args := [d1, d2, d3, d4] }
  | _ => none }
def FnExactChanceReadWrongFalsely : Prop := fnExactChanceReadRow.holds Tryd.pinned (OpenSpec.ofChange fnExactChanceReadWrong)

/-- 'laws.FnExactSplitLetters': WHATEVER THE INPUT: true; the input reads as it did. -/
def fnExactSplitLettersSpec : ChangeSpec := { name := "fnExactSplitLetters", fn := fun _ => fun
  | [d1, d2] => { results := [.lit (.bool true)], args := [d1, d2] }
  | _ => none }
def fnExactSplitLettersRow : OpenClaim := { program := "ytnpeddmflhpcfaadoor", sum := "0e46fe73fd86a8cba2cd05264cb131c10c40f31959ca519bb9e39922c165af51", func := "loop.example/g01248/laws.FnExactSplitLetters", spec := "fnExactSplitLetters", inPlace := ["internal/bytealg.IndexByteString", "internal/bytealg.IndexString"], named := ["unicode/utf8.first", "unicode/utf8.acceptRanges", "internal/bytealg.MaxLen"], apart := false, laid := [("unicode/utf8.acceptRanges", laid_unicode_utf8_acceptRanges), ("unicode/utf8.first", laid_unicode_utf8_first)] }
def FnExactSplitLettersSaid : Prop := fnExactSplitLettersRow.holds Tryd.pinned (OpenSpec.ofChange fnExactSplitLettersSpec)

/-- ITS FALSE NEIGHBOUR: 'it returns false'. Refute it at one input. -/
def fnExactSplitLettersWrong : ChangeSpec := { name := "fnExactSplitLetters", fn := fun _ => fun
  | [d1, d2] => { results := [.lit (.bool false)], args := [d1, d2] }
  | _ => none }
def FnExactSplitLettersWrongFalsely : Prop := fnExactSplitLettersRow.holds Tryd.pinned (OpenSpec.ofChange fnExactSplitLettersWrong)

/-- 'laws.FnExactLettersBy': WHATEVER THE INPUT: true; the input reads as it did. -/
def fnExactLettersBySpec : ChangeSpec := { name := "fnExactLettersBy", fn := fun _ => fun
  | [d1, d2, d3] => { results := [.lit (.bool true)], args := [d1, d2, d3] }
  | _ => none }
def fnExactLettersByRow : OpenClaim := { program := "ytnpeddmflhpcfaadoor", sum := "0e46fe73fd86a8cba2cd05264cb131c10c40f31959ca519bb9e39922c165af51", func := "loop.example/g01248/laws.FnExactLettersBy", spec := "fnExactLettersBy", inPlace := ["internal/bytealg.IndexByteString", "internal/bytealg.IndexString"], recurses := true, named := ["unicode/utf8.first", "unicode/utf8.acceptRanges", "internal/bytealg.MaxLen"], apart := false, laid := [("unicode/utf8.acceptRanges", laid_unicode_utf8_acceptRanges), ("unicode/utf8.first", laid_unicode_utf8_first)] }
def FnExactLettersBySaid : Prop := fnExactLettersByRow.holds Tryd.pinned (OpenSpec.ofChange fnExactLettersBySpec)

/-- ITS FALSE NEIGHBOUR: 'it returns false'. Refute it at one input. -/
def fnExactLettersByWrong : ChangeSpec := { name := "fnExactLettersBy", fn := fun _ => fun
  | [d1, d2, d3] => { results := [.lit (.bool false)], args := [d1, d2, d3] }
  | _ => none }
def FnExactLettersByWrongFalsely : Prop := fnExactLettersByRow.holds Tryd.pinned (OpenSpec.ofChange fnExactLettersByWrong)

/-- 'laws.FnExactSafeSubset': WHATEVER THE INPUT: true; the input reads as it did. -/
def fnExactSafeSubsetSpec : ChangeSpec := { name := "fnExactSafeSubset", fn := fun _ => fun
  | [d] => { results := [.lit (.bool true)], args := [d] }
  | _ => none }
def fnExactSafeSubsetRow : OpenClaim := { program := "ytnpeddmflhpcfaadoor", sum := "0e46fe73fd86a8cba2cd05264cb131c10c40f31959ca519bb9e39922c165af51", func := "loop.example/g01248/laws.FnExactSafeSubset", spec := "fnExactSafeSubset", inPlace := ["internal/bytealg.IndexByteString", "internal/bytealg.IndexString"], unfollowed := true, recurses := true, named := ["unicode/utf8.first", "unicode/utf8.acceptRanges", "internal/bytealg.MaxLen"], apart := false, laid := [("unicode/utf8.acceptRanges", laid_unicode_utf8_acceptRanges), ("unicode/utf8.first", laid_unicode_utf8_first)] }
def FnExactSafeSubsetSaid : Prop := fnExactSafeSubsetRow.holds Tryd.pinned (OpenSpec.ofChange fnExactSafeSubsetSpec)

/-- ITS FALSE NEIGHBOUR: 'it returns false'. Refute it at one input. -/
def fnExactSafeSubsetWrong : ChangeSpec := { name := "fnExactSafeSubset", fn := fun _ => fun
  | [d] => { results := [.lit (.bool false)], args := [d] }
  | _ => none }
def FnExactSafeSubsetWrongFalsely : Prop := fnExactSafeSubsetRow.holds Tryd.pinned (OpenSpec.ofChange fnExactSafeSubsetWrong)

/-- 'laws.FnExactChanceRight': WHATEVER THE INPUT: true; the input reads as it did. -/
def fnExactChanceRightSpec : ChangeSpec := { name := "fnExactChanceRight", fn := fun _ => fun
  | [d1, d2] => { results := [.lit (.bool true)], args := [d1, d2] }
  | _ => none }
def fnExactChanceRightRow : OpenClaim := { program := "ytnpeddmflhpcfaadoor", sum := "0e46fe73fd86a8cba2cd05264cb131c10c40f31959ca519bb9e39922c165af51", func := "loop.example/g01248/laws.FnExactChanceRight", spec := "fnExactChanceRight", inPlace := ["internal/bytealg.IndexByteString", "internal/bytealg.IndexString"], named := ["unicode/utf8.first", "unicode/utf8.acceptRanges", "internal/bytealg.MaxLen"], apart := false, laid := [("unicode/utf8.acceptRanges", laid_unicode_utf8_acceptRanges), ("unicode/utf8.first", laid_unicode_utf8_first)] }
def FnExactChanceRightSaid : Prop := fnExactChanceRightRow.holds Tryd.pinned (OpenSpec.ofChange fnExactChanceRightSpec)

/-- ITS FALSE NEIGHBOUR: 'it returns false'. Refute it at one input. -/
def fnExactChanceRightWrong : ChangeSpec := { name := "fnExactChanceRight", fn := fun _ => fun
  | [d1, d2] => { results := [.lit (.bool false)], args := [d1, d2] }
  | _ => none }
def FnExactChanceRightWrongFalsely : Prop := fnExactChanceRightRow.holds Tryd.pinned (OpenSpec.ofChange fnExactChanceRightWrong)

/-- 'laws.FnExactNearestLetters': WHATEVER THE INPUT: true; the input reads as it did. -/
def fnExactNearestLettersSpec : ChangeSpec := { name := "fnExactNearestLetters", fn := fun _ => fun
  | [d1, d2] => { results := [.lit (.bool true)], args := [d1, d2] }
  | _ => none }
def fnExactNearestLettersRow : OpenClaim := { program := "ytnpeddmflhpcfaadoor", sum := "0e46fe73fd86a8cba2cd05264cb131c10c40f31959ca519bb9e39922c165af51", func := "loop.example/g01248/laws.FnExactNearestLetters", spec := "fnExactNearestLetters", inPlace := ["internal/bytealg.IndexByteString", "internal/bytealg.IndexString"], recurses := true, named := ["unicode/utf8.first", "unicode/utf8.acceptRanges", "internal/bytealg.MaxLen"], apart := false, laid := [("unicode/utf8.acceptRanges", laid_unicode_utf8_acceptRanges), ("unicode/utf8.first", laid_unicode_utf8_first)] }
def FnExactNearestLettersSaid : Prop := fnExactNearestLettersRow.holds Tryd.pinned (OpenSpec.ofChange fnExactNearestLettersSpec)

/-- ITS FALSE NEIGHBOUR: 'it returns false'. Refute it at one input. -/
def fnExactNearestLettersWrong : ChangeSpec := { name := "fnExactNearestLetters", fn := fun _ => fun
  | [d1, d2] => { results := [.lit (.bool false)], args := [d1, d2] }
  | _ => none }
def FnExactNearestLettersWrongFalsely : Prop := fnExactNearestLettersRow.holds Tryd.pinned (OpenSpec.ofChange fnExactNearestLettersWrong)

/-- 'laws.FnExactChanceUnread': WHATEVER THE INPUT: true; the input reads as it did. -/
def fnExactChanceUnreadSpec : ChangeSpec := { name := "fnExactChanceUnread", fn := fun _ => fun
  | [d1, d2, d3] => { results := [.lit (.bool true)], args := [d1, d2, d3] }
  | _ => none }
def fnExactChanceUnreadRow : OpenClaim := { program := "ytnpeddmflhpcfaadoor", sum := "0e46fe73fd86a8cba2cd05264cb131c10c40f31959ca519bb9e39922c165af51", func := "loop.example/g01248/laws.FnExactChanceUnread", spec := "fnExactChanceUnread", inPlace := ["internal/bytealg.IndexByteString", "internal/bytealg.IndexString"], named := ["unicode/utf8.first", "unicode/utf8.acceptRanges", "internal/bytealg.MaxLen"], apart := false, laid := [("unicode/utf8.acceptRanges", laid_unicode_utf8_acceptRanges), ("unicode/utf8.first", laid_unicode_utf8_first)] }
def FnExactChanceUnreadSaid : Prop := fnExactChanceUnreadRow.holds Tryd.pinned (OpenSpec.ofChange fnExactChanceUnreadSpec)

/-- ITS FALSE NEIGHBOUR: 'it returns false'. Refute it at one input. -/
def fnExactChanceUnreadWrong : ChangeSpec := { name := "fnExactChanceUnread", fn := fun _ => fun
  | [d1, d2, d3] => { results := [.lit (.bool false)], args := [d1, d2, d3] }
  | _ => none }
def FnExactChanceUnreadWrongFalsely : Prop := fnExactChanceUnreadRow.holds Tryd.pinned (OpenSpec.ofChange fnExactChanceUnreadWrong)

/-- 'laws.FnExactBestGuess': WHATEVER THE INPUT: true; the input reads as it did. -/
def fnExactBestGuessSpec : ChangeSpec := { name := "fnExactBestGuess", fn := fun _ => fun
  | [d1, d2, d3] => { results := [.lit (.bool true)], args := [d1, d2, d3] }
  | _ => none }
def fnExactBestGuessRow : OpenClaim := { program := "ytnpeddmflhpcfaadoor", sum := "0e46fe73fd86a8cba2cd05264cb131c10c40f31959ca519bb9e39922c165af51", func := "loop.example/g01248/laws.FnExactBestGuess", spec := "fnExactBestGuess", inPlace := ["internal/bytealg.IndexByteString", "internal/bytealg.IndexString"], named := ["unicode/utf8.first", "unicode/utf8.acceptRanges", "internal/bytealg.MaxLen"], apart := false, laid := [("unicode/utf8.acceptRanges", laid_unicode_utf8_acceptRanges), ("unicode/utf8.first", laid_unicode_utf8_first)] }
def FnExactBestGuessSaid : Prop := fnExactBestGuessRow.holds Tryd.pinned (OpenSpec.ofChange fnExactBestGuessSpec)

/-- ITS FALSE NEIGHBOUR: 'it returns false'. Refute it at one input. -/
def fnExactBestGuessWrong : ChangeSpec := { name := "fnExactBestGuess", fn := fun _ => fun
  | [d1, d2, d3] => { results := [.lit (.bool false)], args := [d1, d2, d3] }
  | _ => none }
def FnExactBestGuessWrongFalsely : Prop := fnExactBestGuessRow.holds Tryd.pinned (OpenSpec.ofChange fnExactBestGuessWrong)

/-- 'laws.FnExactClosestPairs': WHATEVER THE INPUT: true; the input reads as it did. -/
def fnExactClosestPairsSpec : ChangeSpec := { name := "fnExactClosestPairs", fn := fun _ => fun
  | [d] => { results := [.lit (.bool true)], args := [d] }
  | _ => none }
def fnExactClosestPairsRow : OpenClaim := { program := "ytnpeddmflhpcfaadoor", sum := "0e46fe73fd86a8cba2cd05264cb131c10c40f31959ca519bb9e39922c165af51", func := "loop.example/g01248/laws.FnExactClosestPairs", spec := "fnExactClosestPairs", inPlace := ["internal/bytealg.IndexByteString", "internal/bytealg.IndexString"], recurses := true, named := ["unicode/utf8.first", "unicode/utf8.acceptRanges", "internal/bytealg.MaxLen"], apart := false, laid := [("unicode/utf8.acceptRanges", laid_unicode_utf8_acceptRanges), ("unicode/utf8.first", laid_unicode_utf8_first)] }
def FnExactClosestPairsSaid : Prop := fnExactClosestPairsRow.holds Tryd.pinned (OpenSpec.ofChange fnExactClosestPairsSpec)

/-- ITS FALSE NEIGHBOUR: 'it returns false'. Refute it at one input. -/
def fnExactClosestPairsWrong : ChangeSpec := { name := "fnExactClosestPairs", fn := fun _ => fun
  | [d] => { results := [.lit (.bool false)], args := [d] }
  | _ => none }
def FnExactClosestPairsWrongFalsely : Prop := fnExactClosestPairsRow.holds Tryd.pinned (OpenSpec.ofChange fnExactClosestPairsWrong)

/-- 'laws.FnExactMeanWrong': WHATEVER THE INPUT: true; the input reads as it did. -/
def fnExactMeanWrongSpec : ChangeSpec := { name := "fnExactMeanWrong", fn := fun _ => fun
  | [d1, d2, d3] => { results := [.lit (.bool true)], args := [d1, d2, d3] }
  | _ => none }
def fnExactMeanWrongRow : OpenClaim := { program := "ytnpeddmflhpcfaadoor", sum := "0e46fe73fd86a8cba2cd05264cb131c10c40f31959ca519bb9e39922c165af51", func := "loop.example/g01248/laws.FnExactMeanWrong", spec := "fnExactMeanWrong", inPlace := ["internal/bytealg.IndexByteString", "internal/bytealg.IndexString"], named := ["unicode/utf8.first", "unicode/utf8.acceptRanges", "internal/bytealg.MaxLen"], apart := false, laid := [("unicode/utf8.acceptRanges", laid_unicode_utf8_acceptRanges), ("unicode/utf8.first", laid_unicode_utf8_first)] }
def FnExactMeanWrongSaid : Prop := fnExactMeanWrongRow.holds Tryd.pinned (OpenSpec.ofChange fnExactMeanWrongSpec)

/-- ITS FALSE NEIGHBOUR: 'it returns false'. Refute it at one input. -/
def fnExactMeanWrongWrong : ChangeSpec := { name := "fnExactMeanWrong", fn := fun _ => fun
  | [d1, d2, d3] => { results := [.lit (.bool false)], args := [d1, d2, d3] }
  | _ => none }
def FnExactMeanWrongWrongFalsely : Prop := fnExactMeanWrongRow.holds Tryd.pinned (OpenSpec.ofChange fnExactMeanWrongWrong)

/-- 'laws.FnExactReadTable': WHATEVER THE INPUT: true; the input reads as it did. -/
def fnExactReadTableSpec : ChangeSpec := { name := "fnExactReadTable", fn := fun _ => fun
  | [d1, d2, d3] => { results := [.lit (.bool true)], args := [d1, d2, d3] }
  | _ => none }
def fnExactReadTableRow : OpenClaim := { program := "ytnpeddmflhpcfaadoor", sum := "0e46fe73fd86a8cba2cd05264cb131c10c40f31959ca519bb9e39922c165af51", func := "loop.example/g01248/laws.FnExactReadTable", spec := "fnExactReadTable", inPlace := ["internal/bytealg.IndexByteString", "internal/bytealg.IndexString"], named := ["unicode/utf8.first", "unicode/utf8.acceptRanges", "internal/bytealg.MaxLen"], apart := false, laid := [("unicode/utf8.acceptRanges", laid_unicode_utf8_acceptRanges), ("unicode/utf8.first", laid_unicode_utf8_first)] }
def FnExactReadTableSaid : Prop := fnExactReadTableRow.holds Tryd.pinned (OpenSpec.ofChange fnExactReadTableSpec)

/-- ITS FALSE NEIGHBOUR: 'it returns false'. Refute it at one input. -/
def fnExactReadTableWrong : ChangeSpec := { name := "fnExactReadTable", fn := fun _ => fun
  | [d1, d2, d3] => { results := [.lit (.bool false)], args := [d1, d2, d3] }
  | _ => none }
def FnExactReadTableWrongFalsely : Prop := fnExactReadTableRow.holds Tryd.pinned (OpenSpec.ofChange fnExactReadTableWrong)

/- THE SECOND FORM. 'bulk': how many values and letters a reading holds, each counted each time it is reached (what is shared counts as often as it is met; a slice's spare places count too). A statement '..UptoSaid' is the law's where the arguments, and the package variables that the reading takes, are together of bulk at most 1048576: NARROWER than '..Said'. Prove '..Said' where nothing that the law and all that it calls make is longer than what came in: it says more and counts as full. Else prove '..UptoSaid'. A law counts once. -/
mutual
def uptoBulk {H : Type} : DataW H → Nat
  | .lit (.string bytes) => bytes.length + 1
  | .lit _ => 1
  | .nil => 1
  | .ptr d => uptoBulk d + 1
  | .slice elems spare => uptoBulkAll elems + uptoBulkAll spare + 1
  | .agg parts => uptoBulkAll parts + 1
  | .iface _ d => uptoBulk d + 1
  | .map entries => uptoBulkEntries entries + 1
  | .held _ => 1
def uptoBulkAll {H : Type} : List (DataW H) → Nat
  | [] => 0
  | d :: r => uptoBulk d + uptoBulkAll r
def uptoBulkEntries {H : Type} : List (Lit × DataW H) → Nat
  | [] => 0
  | x :: r => uptoBulkEntry x + uptoBulkEntries r
def uptoBulkEntry {H : Type} : Lit × DataW H → Nat
  | (.string bytes, d) => bytes.length + uptoBulk d + 1
  | (_, d) => uptoBulk d + 1
 end
def uptoSmall : (H : Type) → List (DataW H) → Bool := fun _ ds => decide (uptoBulkAll ds ≤ 1048576)
def OpenSpec.upto (s : _root_.Go.ChangeSpec) : _root_.Go.OpenSpec := { _root_.Go.OpenSpec.ofChange s with cond := some uptoSmall }

/-- 'laws.FnExactClosePairs', WHERE WHAT IT READS IS OF BULK AT MOST 1048576: true; the input reads as it did. -/
def fnExactClosePairsUptoRow : OpenClaim := { program := "ytnpeddmflhpcfaadoor", sum := "0e46fe73fd86a8cba2cd05264cb131c10c40f31959ca519bb9e39922c165af51", func := "loop.example/g01248/laws.FnExactClosePairs", spec := "fnExactClosePairs", inPlace := ["internal/bytealg.IndexByteString", "internal/bytealg.IndexString"], named := ["unicode/utf8.first", "unicode/utf8.acceptRanges", "internal/bytealg.MaxLen"], apart := false, laid := [("unicode/utf8.acceptRanges", laid_unicode_utf8_acceptRanges), ("unicode/utf8.first", laid_unicode_utf8_first)], narrowed := true }
def FnExactClosePairsUptoSaid : Prop := fnExactClosePairsUptoRow.holds Tryd.pinned (OpenSpec.upto fnExactClosePairsSpec)

/-- 'laws.FnExactChanceRead', WHERE WHAT IT READS IS OF BULK AT MOST 1048576: true; the input reads as it did. -/
def fnExactChanceReadUptoRow : OpenClaim := { program := "ytnpeddmflhpcfaadoor", sum := "0e46fe73fd86a8cba2cd05264cb131c10c40f31959ca519bb9e39922c165af51", func := "loop.example/g01248/laws.FnExactChanceRead", spec := "fnExactChanceRead", inPlace := ["internal/bytealg.IndexByteString", "internal/bytealg.IndexString"], named := ["unicode/utf8.first", "unicode/utf8.acceptRanges", "internal/bytealg.MaxLen"], apart := false, laid := [("unicode/utf8.acceptRanges", laid_unicode_utf8_acceptRanges), ("unicode/utf8.first", laid_unicode_utf8_first)], narrowed := true }
def FnExactChanceReadUptoSaid : Prop := fnExactChanceReadUptoRow.holds Tryd.pinned (OpenSpec.upto fnExactChanceReadSpec)

/-- 'laws.FnExactSplitLetters', WHERE WHAT IT READS IS OF BULK AT MOST 1048576: true; the input reads as it did. -/
def fnExactSplitLettersUptoRow : OpenClaim := { program := "ytnpeddmflhpcfaadoor", sum := "0e46fe73fd86a8cba2cd05264cb131c10c40f31959ca519bb9e39922c165af51", func := "loop.example/g01248/laws.FnExactSplitLetters", spec := "fnExactSplitLetters", inPlace := ["internal/bytealg.IndexByteString", "internal/bytealg.IndexString"], named := ["unicode/utf8.first", "unicode/utf8.acceptRanges", "internal/bytealg.MaxLen"], apart := false, laid := [("unicode/utf8.acceptRanges", laid_unicode_utf8_acceptRanges), ("unicode/utf8.first", laid_unicode_utf8_first)], narrowed := true }
def FnExactSplitLettersUptoSaid : Prop := fnExactSplitLettersUptoRow.holds Tryd.pinned (OpenSpec.upto fnExactSplitLettersSpec)

/-- 'laws.FnExactLettersBy', WHERE WHAT IT READS IS OF BULK AT MOST 1048576: true; the input reads as it did. -/
def fnExactLettersByUptoRow : OpenClaim := { program := "ytnpeddmflhpcfaadoor", sum := "0e46fe73fd86a8cba2cd05264cb131c10c40f31959ca519bb9e39922c165af51", func := "loop.example/g01248/laws.FnExactLettersBy", spec := "fnExactLettersBy", inPlace := ["internal/bytealg.IndexByteString", "internal/bytealg.IndexString"], recurses := true, named := ["unicode/utf8.first", "unicode/utf8.acceptRanges", "internal/bytealg.MaxLen"], apart := false, laid := [("unicode/utf8.acceptRanges", laid_unicode_utf8_acceptRanges), ("unicode/utf8.first", laid_unicode_utf8_first)], narrowed := true }
def FnExactLettersByUptoSaid : Prop := fnExactLettersByUptoRow.holds Tryd.pinned (OpenSpec.upto fnExactLettersBySpec)

/-- 'laws.FnExactSafeSubset', WHERE WHAT IT READS IS OF BULK AT MOST 1048576: true; the input reads as it did. -/
def fnExactSafeSubsetUptoRow : OpenClaim := { program := "ytnpeddmflhpcfaadoor", sum := "0e46fe73fd86a8cba2cd05264cb131c10c40f31959ca519bb9e39922c165af51", func := "loop.example/g01248/laws.FnExactSafeSubset", spec := "fnExactSafeSubset", inPlace := ["internal/bytealg.IndexByteString", "internal/bytealg.IndexString"], unfollowed := true, recurses := true, named := ["unicode/utf8.first", "unicode/utf8.acceptRanges", "internal/bytealg.MaxLen"], apart := false, laid := [("unicode/utf8.acceptRanges", laid_unicode_utf8_acceptRanges), ("unicode/utf8.first", laid_unicode_utf8_first)], narrowed := true }
def FnExactSafeSubsetUptoSaid : Prop := fnExactSafeSubsetUptoRow.holds Tryd.pinned (OpenSpec.upto fnExactSafeSubsetSpec)

/-- 'laws.FnExactChanceRight', WHERE WHAT IT READS IS OF BULK AT MOST 1048576: true; the input reads as it did. -/
def fnExactChanceRightUptoRow : OpenClaim := { program := "ytnpeddmflhpcfaadoor", sum := "0e46fe73fd86a8cba2cd05264cb131c10c40f31959ca519bb9e39922c165af51", func := "loop.example/g01248/laws.FnExactChanceRight", spec := "fnExactChanceRight", inPlace := ["internal/bytealg.IndexByteString", "internal/bytealg.IndexString"], named := ["unicode/utf8.first", "unicode/utf8.acceptRanges", "internal/bytealg.MaxLen"], apart := false, laid := [("unicode/utf8.acceptRanges", laid_unicode_utf8_acceptRanges), ("unicode/utf8.first", laid_unicode_utf8_first)], narrowed := true }
def FnExactChanceRightUptoSaid : Prop := fnExactChanceRightUptoRow.holds Tryd.pinned (OpenSpec.upto fnExactChanceRightSpec)

/-- 'laws.FnExactNearestLetters', WHERE WHAT IT READS IS OF BULK AT MOST 1048576: true; the input reads as it did. -/
def fnExactNearestLettersUptoRow : OpenClaim := { program := "ytnpeddmflhpcfaadoor", sum := "0e46fe73fd86a8cba2cd05264cb131c10c40f31959ca519bb9e39922c165af51", func := "loop.example/g01248/laws.FnExactNearestLetters", spec := "fnExactNearestLetters", inPlace := ["internal/bytealg.IndexByteString", "internal/bytealg.IndexString"], recurses := true, named := ["unicode/utf8.first", "unicode/utf8.acceptRanges", "internal/bytealg.MaxLen"], apart := false, laid := [("unicode/utf8.acceptRanges", laid_unicode_utf8_acceptRanges), ("unicode/utf8.first", laid_unicode_utf8_first)], narrowed := true }
def FnExactNearestLettersUptoSaid : Prop := fnExactNearestLettersUptoRow.holds Tryd.pinned (OpenSpec.upto fnExactNearestLettersSpec)

/-- 'laws.FnExactChanceUnread', WHERE WHAT IT READS IS OF BULK AT MOST 1048576: true; the input reads as it did. -/
def fnExactChanceUnreadUptoRow : OpenClaim := { program := "ytnpeddmflhpcfaadoor", sum := "0e46fe73fd86a8cba2cd05264cb131c10c40f31959ca519bb9e39922c165af51", func := "loop.example/g01248/laws.FnExactChanceUnread", spec := "fnExactChanceUnread", inPlace := ["internal/bytealg.IndexByteString", "internal/bytealg.IndexString"], named := ["unicode/utf8.first", "unicode/utf8.acceptRanges", "internal/bytealg.MaxLen"], apart := false, laid := [("unicode/utf8.acceptRanges", laid_unicode_utf8_acceptRanges), ("unicode/utf8.first", laid_unicode_utf8_first)], narrowed := true }
def FnExactChanceUnreadUptoSaid : Prop := fnExactChanceUnreadUptoRow.holds Tryd.pinned (OpenSpec.upto fnExactChanceUnreadSpec)

/-- 'laws.FnExactBestGuess', WHERE WHAT IT READS IS OF BULK AT MOST 1048576: true; the input reads as it did. -/
def fnExactBestGuessUptoRow : OpenClaim := { program := "ytnpeddmflhpcfaadoor", sum := "0e46fe73fd86a8cba2cd05264cb131c10c40f31959ca519bb9e39922c165af51", func := "loop.example/g01248/laws.FnExactBestGuess", spec := "fnExactBestGuess", inPlace := ["internal/bytealg.IndexByteString", "internal/bytealg.IndexString"], named := ["unicode/utf8.first", "unicode/utf8.acceptRanges", "internal/bytealg.MaxLen"], apart := false, laid := [("unicode/utf8.acceptRanges", laid_unicode_utf8_acceptRanges), ("unicode/utf8.first", laid_unicode_utf8_first)], narrowed := true }
def FnExactBestGuessUptoSaid : Prop := fnExactBestGuessUptoRow.holds Tryd.pinned (OpenSpec.upto fnExactBestGuessSpec)

/-- 'laws.FnExactClosestPairs', WHERE WHAT IT READS IS OF BULK AT MOST 1048576: true; the input reads as it did. -/
def fnExactClosestPairsUptoRow : OpenClaim := { program := "ytnpeddmflhpcfaadoor", sum := "0e46fe73fd86a8cba2cd05264cb131c10c40f31959ca519bb9e39922c165af51", func := "loop.example/g01248/laws.FnExactClosestPairs", spec := "fnExactClosestPairs", inPlace := ["internal/bytealg.IndexByteString", "internal/bytealg.IndexString"], recurses := true, named := ["unicode/utf8.first", "unicode/utf8.acceptRanges", "internal/bytealg.MaxLen"], apart := false, laid := [("unicode/utf8.acceptRanges", laid_unicode_utf8_acceptRanges), ("unicode/utf8.first", laid_unicode_utf8_first)], narrowed := true }
def FnExactClosestPairsUptoSaid : Prop := fnExactClosestPairsUptoRow.holds Tryd.pinned (OpenSpec.upto fnExactClosestPairsSpec)

/-- 'laws.FnExactMeanWrong', WHERE WHAT IT READS IS OF BULK AT MOST 1048576: true; the input reads as it did. -/
def fnExactMeanWrongUptoRow : OpenClaim := { program := "ytnpeddmflhpcfaadoor", sum := "0e46fe73fd86a8cba2cd05264cb131c10c40f31959ca519bb9e39922c165af51", func := "loop.example/g01248/laws.FnExactMeanWrong", spec := "fnExactMeanWrong", inPlace := ["internal/bytealg.IndexByteString", "internal/bytealg.IndexString"], named := ["unicode/utf8.first", "unicode/utf8.acceptRanges", "internal/bytealg.MaxLen"], apart := false, laid := [("unicode/utf8.acceptRanges", laid_unicode_utf8_acceptRanges), ("unicode/utf8.first", laid_unicode_utf8_first)], narrowed := true }
def FnExactMeanWrongUptoSaid : Prop := fnExactMeanWrongUptoRow.holds Tryd.pinned (OpenSpec.upto fnExactMeanWrongSpec)

/-- 'laws.FnExactReadTable', WHERE WHAT IT READS IS OF BULK AT MOST 1048576: true; the input reads as it did. -/
def fnExactReadTableUptoRow : OpenClaim := { program := "ytnpeddmflhpcfaadoor", sum := "0e46fe73fd86a8cba2cd05264cb131c10c40f31959ca519bb9e39922c165af51", func := "loop.example/g01248/laws.FnExactReadTable", spec := "fnExactReadTable", inPlace := ["internal/bytealg.IndexByteString", "internal/bytealg.IndexString"], named := ["unicode/utf8.first", "unicode/utf8.acceptRanges", "internal/bytealg.MaxLen"], apart := false, laid := [("unicode/utf8.acceptRanges", laid_unicode_utf8_acceptRanges), ("unicode/utf8.first", laid_unicode_utf8_first)], narrowed := true }
def FnExactReadTableUptoSaid : Prop := fnExactReadTableUptoRow.holds Tryd.pinned (OpenSpec.upto fnExactReadTableSpec)

end Rows
end Go.Proofs.YtnpeddmflhpcfaaDoor
