/-
  NARROWER THAN 'FOR EVERY INPUT', by the rows' own cells (each row's printed sentence says how): FnExactReadWithMistakes: laid · FnExactIsGrown: laid · FnExactFilledNodes: laid · FnExactLettersBelow: laid · FnExactGapNodes: laid · FnExactSortTable: laid · FnSplitJoin: laid.
  DERIVED. THE GIVEN ROWS OF THIS SEAT. 7 by the template 'for every input the law returns true; each argument reads behind the call as it read before'; 0 by the template 'total and deterministic' (their statements: YtgpjcfkohlhknaaDoorTotals.lean).
  GIVEN WITH THE SEED: the statements are not yours to turn. If you find one false, say at which input.
  Laid BY PROGRAM, IN A SANDBOX (cutbox-rows.mjs): the forced cells as the released guide's own fill.sh prints them over the translation 2c2d359a66f7c3db… (all of the seat's roots in one cut). By AI agents, Wed Nov 11 2026. No macro, syntax, notation, axiom, sorry.
-/
import Derived.Test.YtgpjcfkohlhknaaDoorChecked
import GoSem.PinnedTables
import GoSem.Claim
import GoSem.ClaimJoined
import GoSem.ClaimMapViews
import Derived.JoinedTies
import Derived.KernelRfl
namespace Go.Proofs.YtgpjcfkohlhknaaDoor
/- THE CELL 'sum', in the pinned program and in every row, IS THE sha256 OF THE DUMP (.gsa) THAT YtgpjcfkohlhknaaDoorProg.lean LOADS. Nothing in Lean hashes anything: it is a label: what it is worth is what the hold of that sum in a sandbox is worth. -/
noncomputable def Tryd.pinned : Pinned := { name := "ytgpjcfkohlhknaadoor", sum := "2c2d359a66f7c3dbcdd456db59f01d674b907ec62f92d4a3e729ef2bb6bd6476", checked := Tryd.checked }
namespace Rows
def none {H : Type} : Left H := { results := [], args := [] }

/- WHAT THE LISTED PACKAGE-LEVEL VARIABLES READ AS WHEN THE CALL BEGINS. Each datum BY PROGRAM (the guide's laid-datum.mjs) off the statement by which the dump's own 'gosem.cut.vars' lays the variable. In a bare row this is a premise. The card (YtgpjcfkohlhknaaDoorCards.lean) ties it to the program's text. -/
def laid_unicode_utf8_acceptRanges {H : Type} : DataW H := .agg [.agg [.lit (.int .u8 128), .lit (.int .u8 191)], .agg [.lit (.int .u8 160), .lit (.int .u8 191)], .agg [.lit (.int .u8 128), .lit (.int .u8 159)], .agg [.lit (.int .u8 144), .lit (.int .u8 191)], .agg [.lit (.int .u8 128), .lit (.int .u8 143)], .agg [.lit (.int .u8 0), .lit (.int .u8 0)], .agg [.lit (.int .u8 0), .lit (.int .u8 0)], .agg [.lit (.int .u8 0), .lit (.int .u8 0)], .agg [.lit (.int .u8 0), .lit (.int .u8 0)], .agg [.lit (.int .u8 0), .lit (.int .u8 0)], .agg [.lit (.int .u8 0), .lit (.int .u8 0)], .agg [.lit (.int .u8 0), .lit (.int .u8 0)], .agg [.lit (.int .u8 0), .lit (.int .u8 0)], .agg [.lit (.int .u8 0), .lit (.int .u8 0)], .agg [.lit (.int .u8 0), .lit (.int .u8 0)], .agg [.lit (.int .u8 0), .lit (.int .u8 0)]]
/-- One of Go's own tables, pinned by name: the form's constant. -/
def laid_unicode_utf8_first : DataW Unit := Go.Pinned.utf8First

/-- 'laws.FnExactReadWithMistakes': WHATEVER THE INPUT: true; the input reads as it did. -/
def fnExactReadWithMistakesSpec : ChangeSpec := { name := "fnExactReadWithMistakes", fn := fun _ => fun
  | [d1, d2] => { results := [.lit (.bool true)], args := [d1, d2] }
  | _ => none }
def fnExactReadWithMistakesRow : OpenClaim := { program := "ytgpjcfkohlhknaadoor", sum := "2c2d359a66f7c3dbcdd456db59f01d674b907ec62f92d4a3e729ef2bb6bd6476", func := "loop.example/g01248/laws.FnExactReadWithMistakes", spec := "fnExactReadWithMistakes", inPlace := ["internal/bytealg.IndexByteString", "internal/bytealg.IndexString", "internal/bytealg.CountString", "internal/abi.NoEscape", "internal/bytealg.MakeNoZero"], recurses := true, named := ["unicode/utf8.first", "unicode/utf8.acceptRanges", "internal/bytealg.MaxLen"], apart := false, laid := [("unicode/utf8.acceptRanges", laid_unicode_utf8_acceptRanges), ("unicode/utf8.first", laid_unicode_utf8_first)] }
def FnExactReadWithMistakesSaid : Prop := fnExactReadWithMistakesRow.holds Tryd.pinned (OpenSpec.ofChange fnExactReadWithMistakesSpec)

/-- ITS FALSE NEIGHBOUR: 'it returns false'. Refute it at one input. -/
def fnExactReadWithMistakesWrong : ChangeSpec := { name := "fnExactReadWithMistakes", fn := fun _ => fun
  | [d1, d2] => { results := [.lit (.bool false)], args := [d1, d2] }
  | _ => none }
def FnExactReadWithMistakesWrongFalsely : Prop := fnExactReadWithMistakesRow.holds Tryd.pinned (OpenSpec.ofChange fnExactReadWithMistakesWrong)

/-- 'laws.FnExactIsGrown': WHATEVER THE INPUT: true; the input reads as it did. -/
def fnExactIsGrownSpec : ChangeSpec := { name := "fnExactIsGrown", fn := fun _ => fun
  | [d] => { results := [.lit (.bool true)], args := [d] }
  | _ => none }
def fnExactIsGrownRow : OpenClaim := { program := "ytgpjcfkohlhknaadoor", sum := "2c2d359a66f7c3dbcdd456db59f01d674b907ec62f92d4a3e729ef2bb6bd6476", func := "loop.example/g01248/laws.FnExactIsGrown", spec := "fnExactIsGrown", inPlace := ["internal/bytealg.IndexByteString", "internal/bytealg.IndexString"], recurses := true, named := ["unicode/utf8.first", "unicode/utf8.acceptRanges", "internal/bytealg.MaxLen"], apart := false, laid := [("unicode/utf8.acceptRanges", laid_unicode_utf8_acceptRanges), ("unicode/utf8.first", laid_unicode_utf8_first)] }
def FnExactIsGrownSaid : Prop := fnExactIsGrownRow.holds Tryd.pinned (OpenSpec.ofChange fnExactIsGrownSpec)

/-- ITS FALSE NEIGHBOUR: 'it returns false'. Refute it at one input. -/
def fnExactIsGrownWrong : ChangeSpec := { name := "fnExactIsGrown", fn := fun _ => fun
  | [d] => { results := [.lit (.bool false)], args := [d] }
  | _ => none }
def FnExactIsGrownWrongFalsely : Prop := fnExactIsGrownRow.holds Tryd.pinned (OpenSpec.ofChange fnExactIsGrownWrong)

/-- 'laws.FnExactFilledNodes': WHATEVER THE INPUT: true; the input reads as it did. -/
def fnExactFilledNodesSpec : ChangeSpec := { name := "fnExactFilledNodes", fn := fun _ => fun
  | [d] => { results := [.lit (.bool true)], args := [d] }
  | _ => none }
def fnExactFilledNodesRow : OpenClaim := { program := "ytgpjcfkohlhknaadoor", sum := "2c2d359a66f7c3dbcdd456db59f01d674b907ec62f92d4a3e729ef2bb6bd6476", func := "loop.example/g01248/laws.FnExactFilledNodes", spec := "fnExactFilledNodes", inPlace := ["internal/bytealg.IndexByteString", "internal/bytealg.IndexString"], unfollowed := true, recurses := true, named := ["unicode/utf8.first", "unicode/utf8.acceptRanges", "internal/bytealg.MaxLen"], apart := false, laid := [("unicode/utf8.acceptRanges", laid_unicode_utf8_acceptRanges), ("unicode/utf8.first", laid_unicode_utf8_first)] }
def FnExactFilledNodesSaid : Prop := fnExactFilledNodesRow.holds Tryd.pinned (OpenSpec.ofChange fnExactFilledNodesSpec)

/-- ITS FALSE NEIGHBOUR: 'it returns false'. Refute it at one input. -/
def fnExactFilledNodesWrong : ChangeSpec := { name := "fnExactFilledNodes", fn := fun _ => fun
  | [d] => { results := [.lit (.bool false)], args := [d] }
  | _ => none }
def FnExactFilledNodesWrongFalsely : Prop := fnExactFilledNodesRow.holds Tryd.pinned (OpenSpec.ofChange fnExactFilledNodesWrong)

/-- 'laws.FnExactLettersBelow': WHATEVER THE INPUT: true; the input reads as it did. -/
def fnExactLettersBelowSpec : ChangeSpec := { name := "fnExactLettersBelow", fn := fun _ => fun
  | [d1, d2] => { results := [.lit (.bool true)], args := [d1, d2] }
  | _ => none }
def fnExactLettersBelowRow : OpenClaim := { program := "ytgpjcfkohlhknaadoor", sum := "2c2d359a66f7c3dbcdd456db59f01d674b907ec62f92d4a3e729ef2bb6bd6476", func := "loop.example/g01248/laws.FnExactLettersBelow", spec := "fnExactLettersBelow", inPlace := ["internal/bytealg.IndexByteString", "internal/bytealg.IndexString"], unfollowed := true, recurses := true, named := ["unicode/utf8.first", "unicode/utf8.acceptRanges", "internal/bytealg.MaxLen"], apart := false, laid := [("unicode/utf8.acceptRanges", laid_unicode_utf8_acceptRanges), ("unicode/utf8.first", laid_unicode_utf8_first)] }
def FnExactLettersBelowSaid : Prop := fnExactLettersBelowRow.holds Tryd.pinned (OpenSpec.ofChange fnExactLettersBelowSpec)

/-- ITS FALSE NEIGHBOUR: 'it returns false'. Refute it at one input. -/
def fnExactLettersBelowWrong : ChangeSpec := { name := "fnExactLettersBelow", fn := fun _ => fun
  | [d1, d2] => { results := [.lit (.bool false)], args := [d1, d2] }
  | _ => none }
def FnExactLettersBelowWrongFalsely : Prop := fnExactLettersBelowRow.holds Tryd.pinned (OpenSpec.ofChange fnExactLettersBelowWrong)

/-- 'laws.FnExactGapNodes': WHATEVER THE INPUT: true; the input reads as it did. -/
def fnExactGapNodesSpec : ChangeSpec := { name := "fnExactGapNodes", fn := fun _ => fun
  | [d] => { results := [.lit (.bool true)], args := [d] }
  | _ => none }
def fnExactGapNodesRow : OpenClaim := { program := "ytgpjcfkohlhknaadoor", sum := "2c2d359a66f7c3dbcdd456db59f01d674b907ec62f92d4a3e729ef2bb6bd6476", func := "loop.example/g01248/laws.FnExactGapNodes", spec := "fnExactGapNodes", inPlace := ["internal/bytealg.IndexByteString", "internal/bytealg.IndexString"], recurses := true, named := ["unicode/utf8.first", "unicode/utf8.acceptRanges", "internal/bytealg.MaxLen"], apart := false, laid := [("unicode/utf8.acceptRanges", laid_unicode_utf8_acceptRanges), ("unicode/utf8.first", laid_unicode_utf8_first)] }
def FnExactGapNodesSaid : Prop := fnExactGapNodesRow.holds Tryd.pinned (OpenSpec.ofChange fnExactGapNodesSpec)

/-- ITS FALSE NEIGHBOUR: 'it returns false'. Refute it at one input. -/
def fnExactGapNodesWrong : ChangeSpec := { name := "fnExactGapNodes", fn := fun _ => fun
  | [d] => { results := [.lit (.bool false)], args := [d] }
  | _ => none }
def FnExactGapNodesWrongFalsely : Prop := fnExactGapNodesRow.holds Tryd.pinned (OpenSpec.ofChange fnExactGapNodesWrong)

/-- 'laws.FnExactSortTable': WHATEVER THE INPUT: true; the input reads as it did. -/
def fnExactSortTableSpec : ChangeSpec := { name := "fnExactSortTable", fn := fun _ => fun
  | [d] => { results := [.lit (.bool true)], args := [d] }
  | _ => none }
def fnExactSortTableRow : OpenClaim := { program := "ytgpjcfkohlhknaadoor", sum := "2c2d359a66f7c3dbcdd456db59f01d674b907ec62f92d4a3e729ef2bb6bd6476", func := "loop.example/g01248/laws.FnExactSortTable", spec := "fnExactSortTable", inPlace := ["internal/bytealg.IndexByteString", "internal/bytealg.IndexString"], unfollowed := true, recurses := true, named := ["unicode/utf8.first", "unicode/utf8.acceptRanges", "internal/bytealg.MaxLen"], apart := false, laid := [("unicode/utf8.acceptRanges", laid_unicode_utf8_acceptRanges), ("unicode/utf8.first", laid_unicode_utf8_first)] }
def FnExactSortTableSaid : Prop := fnExactSortTableRow.holds Tryd.pinned (OpenSpec.ofChange fnExactSortTableSpec)

/-- ITS FALSE NEIGHBOUR: 'it returns false'. Refute it at one input. -/
def fnExactSortTableWrong : ChangeSpec := { name := "fnExactSortTable", fn := fun _ => fun
  | [d] => { results := [.lit (.bool false)], args := [d] }
  | _ => none }
def FnExactSortTableWrongFalsely : Prop := fnExactSortTableRow.holds Tryd.pinned (OpenSpec.ofChange fnExactSortTableWrong)

/-- 'laws.FnSplitJoin': WHATEVER THE INPUT: true; the input reads as it did. -/
def fnSplitJoinSpec : ChangeSpec := { name := "fnSplitJoin", fn := fun _ => fun
  | [d] => { results := [.lit (.bool true)], args := [d] }
  | _ => none }
def fnSplitJoinRow : OpenClaim := { program := "ytgpjcfkohlhknaadoor", sum := "2c2d359a66f7c3dbcdd456db59f01d674b907ec62f92d4a3e729ef2bb6bd6476", func := "loop.example/g01248/laws.FnSplitJoin", spec := "fnSplitJoin", inPlace := ["internal/bytealg.CountString", "internal/bytealg.IndexByteString", "internal/bytealg.IndexString", "internal/abi.NoEscape", "internal/bytealg.MakeNoZero"], named := ["unicode/utf8.first", "unicode/utf8.acceptRanges", "internal/bytealg.MaxLen"], apart := false, laid := [("unicode/utf8.acceptRanges", laid_unicode_utf8_acceptRanges), ("unicode/utf8.first", laid_unicode_utf8_first)] }
def FnSplitJoinSaid : Prop := fnSplitJoinRow.holds Tryd.pinned (OpenSpec.ofChange fnSplitJoinSpec)

/-- ITS FALSE NEIGHBOUR: 'it returns false'. Refute it at one input. -/
def fnSplitJoinWrong : ChangeSpec := { name := "fnSplitJoin", fn := fun _ => fun
  | [d] => { results := [.lit (.bool false)], args := [d] }
  | _ => none }
def FnSplitJoinWrongFalsely : Prop := fnSplitJoinRow.holds Tryd.pinned (OpenSpec.ofChange fnSplitJoinWrong)

/- THE SECOND FORM. 'bulk': how many values and letters a reading holds, each counted each time it is reached (what is shared counts as often as it is met; a slice's spare places count too). A statement '..UptoSaid' is the law's where the arguments, and the package variables that the reading takes, are together of bulk at most 1048576: NARROWER than '..Said'. Prove '..Said' where nothing that the law and all that it calls make is longer than what came in: it says more and counts as full. Else prove '..UptoSaid'. A law counts once. -/
mutual
def uptoBulk {H : Type} : DataW H → Nat
  | .lit (.string bytes) => bytes.length + 1
  | .lit _ => 1
  | .nil => 1
  | .ptr d => uptoBulk d + 1
  | .slice elems spare => uptoBulkAll elems + uptoBulkAll spare + 1
  | .agg parts => uptoBulkAll parts + 1
  | .iface _ d => uptoBulk d + 1
  | .map entries => uptoBulkEntries entries + 1
  | .held _ => 1
def uptoBulkAll {H : Type} : List (DataW H) → Nat
  | [] => 0
  | d :: r => uptoBulk d + uptoBulkAll r
def uptoBulkEntries {H : Type} : List (Lit × DataW H) → Nat
  | [] => 0
  | x :: r => uptoBulkEntry x + uptoBulkEntries r
def uptoBulkEntry {H : Type} : Lit × DataW H → Nat
  | (.string bytes, d) => bytes.length + uptoBulk d + 1
  | (_, d) => uptoBulk d + 1
 end
def uptoSmall : (H : Type) → List (DataW H) → Bool := fun _ ds => decide (uptoBulkAll ds ≤ 1048576)
def OpenSpec.upto (s : _root_.Go.ChangeSpec) : _root_.Go.OpenSpec := { _root_.Go.OpenSpec.ofChange s with cond := some uptoSmall }

/-- 'laws.FnExactReadWithMistakes', WHERE WHAT IT READS IS OF BULK AT MOST 1048576: true; the input reads as it did. -/
def fnExactReadWithMistakesUptoRow : OpenClaim := { program := "ytgpjcfkohlhknaadoor", sum := "2c2d359a66f7c3dbcdd456db59f01d674b907ec62f92d4a3e729ef2bb6bd6476", func := "loop.example/g01248/laws.FnExactReadWithMistakes", spec := "fnExactReadWithMistakes", inPlace := ["internal/bytealg.IndexByteString", "internal/bytealg.IndexString", "internal/bytealg.CountString", "internal/abi.NoEscape", "internal/bytealg.MakeNoZero"], recurses := true, named := ["unicode/utf8.first", "unicode/utf8.acceptRanges", "internal/bytealg.MaxLen"], apart := false, laid := [("unicode/utf8.acceptRanges", laid_unicode_utf8_acceptRanges), ("unicode/utf8.first", laid_unicode_utf8_first)], narrowed := true }
def FnExactReadWithMistakesUptoSaid : Prop := fnExactReadWithMistakesUptoRow.holds Tryd.pinned (OpenSpec.upto fnExactReadWithMistakesSpec)

/-- 'laws.FnExactIsGrown', WHERE WHAT IT READS IS OF BULK AT MOST 1048576: true; the input reads as it did. -/
def fnExactIsGrownUptoRow : OpenClaim := { program := "ytgpjcfkohlhknaadoor", sum := "2c2d359a66f7c3dbcdd456db59f01d674b907ec62f92d4a3e729ef2bb6bd6476", func := "loop.example/g01248/laws.FnExactIsGrown", spec := "fnExactIsGrown", inPlace := ["internal/bytealg.IndexByteString", "internal/bytealg.IndexString"], recurses := true, named := ["unicode/utf8.first", "unicode/utf8.acceptRanges", "internal/bytealg.MaxLen"], apart := false, laid := [("unicode/utf8.acceptRanges", laid_unicode_utf8_acceptRanges), ("unicode/utf8.first", laid_unicode_utf8_first)], narrowed := true }
def FnExactIsGrownUptoSaid : Prop := fnExactIsGrownUptoRow.holds Tryd.pinned (OpenSpec.upto fnExactIsGrownSpec)

/-- 'laws.FnExactFilledNodes', WHERE WHAT IT READS IS OF BULK AT MOST 1048576: true; the input reads as it did. -/
def fnExactFilledNodesUptoRow : OpenClaim := { program := "ytgpjcfkohlhknaadoor", sum := "2c2d359a66f7c3dbcdd456db59f01d674b907ec62f92d4a3e729ef2bb6bd6476", func := "loop.example/g01248/laws.FnExactFilledNodes", spec := "fnExactFilledNodes", inPlace := ["internal/bytealg.IndexByteString", "internal/bytealg.IndexString"], unfollowed := true, recurses := true, named := ["unicode/utf8.first", "unicode/utf8.acceptRanges", "internal/bytealg.MaxLen"], apart := false, laid := [("unicode/utf8.acceptRanges", laid_unicode_utf8_acceptRanges), ("unicode/utf8.first", laid_unicode_utf8_first)], narrowed := true }
def FnExactFilledNodesUptoSaid : Prop := fnExactFilledNodesUptoRow.holds Tryd.pinned (OpenSpec.upto fnExactFilledNodesSpec)

/-- 'laws.FnExactLettersBelow', WHERE WHAT IT READS IS OF BULK AT MOST 1048576: true; the input reads as it did. -/
def fnExactLettersBelowUptoRow : OpenClaim := { program := "ytgpjcfkohlhknaadoor", sum := "2c2d359a66f7c3dbcdd456db59f01d674b907ec62f92d4a3e729ef2bb6bd6476", func := "loop.example/g01248/laws.FnExactLettersBelow", spec := "fnExactLettersBelow", inPlace := ["internal/bytealg.IndexByteString", "internal/bytealg.IndexString"], unfollowed := true, recurses := true, named := ["unicode/utf8.first", "unicode/utf8.acceptRanges", "internal/bytealg.MaxLen"], apart := false, laid := [("unicode/utf8.acceptRanges", laid_unicode_utf8_acceptRanges), ("unicode/utf8.first", laid_unicode_utf8_first)], narrowed := true }
def FnExactLettersBelowUptoSaid : Prop := fnExactLettersBelowUptoRow.holds Tryd.pinned (OpenSpec.upto fnExactLettersBelowSpec)

/-- 'laws.FnExactGapNodes', WHERE WHAT IT READS IS OF BULK AT MOST 1048576: true; the input reads as it did. -/
def fnExactGapNodesUptoRow : OpenClaim := { program := "ytgpjcfkohlhknaadoor", sum := "2c2d359a66f7c3dbcdd456db59f01d674b907ec62f92d4a3e729ef2bb6bd6476", func := "loop.example/g01248/laws.FnExactGapNodes", spec := "fnExactGapNodes", inPlace := ["internal/bytealg.IndexByteString", "internal/bytealg.IndexString"], recurses := true, named := ["unicode/utf8.first", "unicode/utf8.acceptRanges", "internal/bytealg.MaxLen"], apart := false, laid := [("unicode/utf8.acceptRanges", laid_unicode_utf8_acceptRanges), ("unicode/utf8.first", laid_unicode_utf8_first)], narrowed := true }
def FnExactGapNodesUptoSaid : Prop := fnExactGapNodesUptoRow.holds Tryd.pinned (OpenSpec.upto fnExactGapNodesSpec)

/-- 'laws.FnExactSortTable', WHERE WHAT IT READS IS OF BULK AT MOST 1048576: true; the input reads as it did. -/
def fnExactSortTableUptoRow : OpenClaim := { program := "ytgpjcfkohlhknaadoor", sum := "2c2d359a66f7c3dbcdd456db59f01d674b907ec62f92d4a3e729ef2bb6bd6476", func := "loop.example/g01248/laws.FnExactSortTable", spec := "fnExactSortTable", inPlace := ["internal/bytealg.IndexByteString", "internal/bytealg.IndexString"], unfollowed := true, recurses := true, named := ["unicode/utf8.first", "unicode/utf8.acceptRanges", "internal/bytealg.MaxLen"], apart := false, laid := [("unicode/utf8.acceptRanges", laid_unicode_utf8_acceptRanges), ("unicode/utf8.first", laid_unicode_utf8_first)], narrowed := true }
def FnExactSortTableUptoSaid : Prop := fnExactSortTableUptoRow.holds Tryd.pinned (OpenSpec.upto fnExactSortTableSpec)

/-- 'laws.FnSplitJoin', WHERE WHAT IT READS IS OF BULK AT MOST 1048576: true; the input reads as it did. -/
def fnSplitJoinUptoRow : OpenClaim := { program := "ytgpjcfkohlhknaadoor", sum := "2c2d359a66f7c3dbcdd456db59f01d674b907ec62f92d4a3e729ef2bb6bd6476", func := "loop.example/g01248/laws.FnSplitJoin", spec := "fnSplitJoin", inPlace := ["internal/bytealg.CountString", "internal/bytealg.IndexByteString", "internal/bytealg.IndexString", "internal/abi.NoEscape", "internal/bytealg.MakeNoZero"], named := ["unicode/utf8.first", "unicode/utf8.acceptRanges", "internal/bytealg.MaxLen"], apart := false, laid := [("unicode/utf8.acceptRanges", laid_unicode_utf8_acceptRanges), ("unicode/utf8.first", laid_unicode_utf8_first)], narrowed := true }
def FnSplitJoinUptoSaid : Prop := fnSplitJoinUptoRow.holds Tryd.pinned (OpenSpec.upto fnSplitJoinSpec)

end Rows
end Go.Proofs.YtgpjcfkohlhknaaDoor
