/-
  NARROWER THAN 'FOR EVERY INPUT', by the rows' own cells (each row's printed sentence says how): FnExactDepthCounts: laid · FnExactLeastApart: laid · FnExactJoinNode: laid · FnExactWayBetween: laid · FnExactLeastDistance: laid · FnExactIsSafe: laid · FnExactCanRepair: laid · FnExactJoinedLetters: laid · FnExactRankOfTable: laid.
  DERIVED. THE GIVEN ROWS OF THIS SEAT. 9 by the template 'for every input the law returns true; each argument reads behind the call as it read before'; 0 by the template 'total and deterministic' (their statements: YtlmagoppgplocaaDoorTotals.lean).
  GIVEN WITH THE SEED: the statements are not yours to turn. If you find one false, say at which input.
  Laid BY PROGRAM, IN A SANDBOX (cutbox-rows.mjs): the forced cells as the released guide's own fill.sh prints them over the translation 114e55b00a47b742… (all of the seat's roots in one cut). By AI agents, Wed Nov 11 2026. No macro, syntax, notation, axiom, sorry.
-/
import Derived.Test.YtlmagoppgplocaaDoorChecked
import GoSem.PinnedTables
import GoSem.Claim
import GoSem.ClaimJoined
import GoSem.ClaimMapViews
import Derived.JoinedTies
import Derived.KernelRfl
namespace Go.Proofs.YtlmagoppgplocaaDoor
/- THE CELL 'sum', in the pinned program and in every row, IS THE sha256 OF THE DUMP (.gsa) THAT YtlmagoppgplocaaDoorProg.lean LOADS. Nothing in Lean hashes anything: it is a label: what it is worth is what the hold of that sum in a sandbox is worth. -/
noncomputable def Tryd.pinned : Pinned := { name := "ytlmagoppgplocaadoor", sum := "114e55b00a47b742c490c0d4ffc9aa7c61e563aedebe6029b460a17e71b13a74", checked := Tryd.checked }
namespace Rows
def none {H : Type} : Left H := { results := [], args := [] }

/- WHAT THE LISTED PACKAGE-LEVEL VARIABLES READ AS WHEN THE CALL BEGINS. Each datum BY PROGRAM (the guide's laid-datum.mjs) off the statement by which the dump's own 'gosem.cut.vars' lays the variable. In a bare row this is a premise. The card (YtlmagoppgplocaaDoorCards.lean) ties it to the program's text. -/
def laid_unicode_utf8_acceptRanges {H : Type} : DataW H := .agg [.agg [.lit (.int .u8 128), .lit (.int .u8 191)], .agg [.lit (.int .u8 160), .lit (.int .u8 191)], .agg [.lit (.int .u8 128), .lit (.int .u8 159)], .agg [.lit (.int .u8 144), .lit (.int .u8 191)], .agg [.lit (.int .u8 128), .lit (.int .u8 143)], .agg [.lit (.int .u8 0), .lit (.int .u8 0)], .agg [.lit (.int .u8 0), .lit (.int .u8 0)], .agg [.lit (.int .u8 0), .lit (.int .u8 0)], .agg [.lit (.int .u8 0), .lit (.int .u8 0)], .agg [.lit (.int .u8 0), .lit (.int .u8 0)], .agg [.lit (.int .u8 0), .lit (.int .u8 0)], .agg [.lit (.int .u8 0), .lit (.int .u8 0)], .agg [.lit (.int .u8 0), .lit (.int .u8 0)], .agg [.lit (.int .u8 0), .lit (.int .u8 0)], .agg [.lit (.int .u8 0), .lit (.int .u8 0)], .agg [.lit (.int .u8 0), .lit (.int .u8 0)]]
/-- One of Go's own tables, pinned by name: the form's constant. -/
def laid_unicode_utf8_first : DataW Unit := Go.Pinned.utf8First

/-- 'laws.FnExactDepthCounts': WHATEVER THE INPUT: true; the input reads as it did. -/
def fnExactDepthCountsSpec : ChangeSpec := { name := "fnExactDepthCounts", fn := fun _ => fun
  | [d] => { results := [.lit (.bool true)], args := [d] }
  | _ => none }
def fnExactDepthCountsRow : OpenClaim := { program := "ytlmagoppgplocaadoor", sum := "114e55b00a47b742c490c0d4ffc9aa7c61e563aedebe6029b460a17e71b13a74", func := "loop.example/g01248/laws.FnExactDepthCounts", spec := "fnExactDepthCounts", inPlace := ["internal/bytealg.IndexByteString", "internal/bytealg.IndexString"], named := ["unicode/utf8.first", "unicode/utf8.acceptRanges", "internal/bytealg.MaxLen"], apart := false, laid := [("unicode/utf8.acceptRanges", laid_unicode_utf8_acceptRanges), ("unicode/utf8.first", laid_unicode_utf8_first)] }
def FnExactDepthCountsSaid : Prop := fnExactDepthCountsRow.holds Tryd.pinned (OpenSpec.ofChange fnExactDepthCountsSpec)

/-- ITS FALSE NEIGHBOUR: 'it returns false'. Refute it at one input. -/
def fnExactDepthCountsWrong : ChangeSpec := { name := "fnExactDepthCounts", fn := fun _ => fun
  | [d] => { results := [.lit (.bool false)], args := [d] }
  | _ => none }
def FnExactDepthCountsWrongFalsely : Prop := fnExactDepthCountsRow.holds Tryd.pinned (OpenSpec.ofChange fnExactDepthCountsWrong)

/-- 'laws.FnExactLeastApart': WHATEVER THE INPUT: true; the input reads as it did. -/
def fnExactLeastApartSpec : ChangeSpec := { name := "fnExactLeastApart", fn := fun _ => fun
  | [d] => { results := [.lit (.bool true)], args := [d] }
  | _ => none }
def fnExactLeastApartRow : OpenClaim := { program := "ytlmagoppgplocaadoor", sum := "114e55b00a47b742c490c0d4ffc9aa7c61e563aedebe6029b460a17e71b13a74", func := "loop.example/g01248/laws.FnExactLeastApart", spec := "fnExactLeastApart", inPlace := ["internal/bytealg.IndexByteString", "internal/bytealg.IndexString"], named := ["unicode/utf8.first", "unicode/utf8.acceptRanges", "internal/bytealg.MaxLen"], apart := false, laid := [("unicode/utf8.acceptRanges", laid_unicode_utf8_acceptRanges), ("unicode/utf8.first", laid_unicode_utf8_first)] }
def FnExactLeastApartSaid : Prop := fnExactLeastApartRow.holds Tryd.pinned (OpenSpec.ofChange fnExactLeastApartSpec)

/-- ITS FALSE NEIGHBOUR: 'it returns false'. Refute it at one input. -/
def fnExactLeastApartWrong : ChangeSpec := { name := "fnExactLeastApart", fn := fun _ => fun
  | [d] => { results := [.lit (.bool false)], args := [d] }
  | _ => none }
def FnExactLeastApartWrongFalsely : Prop := fnExactLeastApartRow.holds Tryd.pinned (OpenSpec.ofChange fnExactLeastApartWrong)

/-- 'laws.FnExactJoinNode': WHATEVER THE INPUT: true; the input reads as it did. -/
def fnExactJoinNodeSpec : ChangeSpec := { name := "fnExactJoinNode", fn := fun _ => fun
  | [d1, d2, d3] => { results := [.lit (.bool true)], args := [d1, d2, d3] }
  | _ => none }
def fnExactJoinNodeRow : OpenClaim := { program := "ytlmagoppgplocaadoor", sum := "114e55b00a47b742c490c0d4ffc9aa7c61e563aedebe6029b460a17e71b13a74", func := "loop.example/g01248/laws.FnExactJoinNode", spec := "fnExactJoinNode", inPlace := ["internal/bytealg.IndexByteString", "internal/bytealg.IndexString"], named := ["unicode/utf8.first", "unicode/utf8.acceptRanges", "internal/bytealg.MaxLen"], apart := false, laid := [("unicode/utf8.acceptRanges", laid_unicode_utf8_acceptRanges), ("unicode/utf8.first", laid_unicode_utf8_first)] }
def FnExactJoinNodeSaid : Prop := fnExactJoinNodeRow.holds Tryd.pinned (OpenSpec.ofChange fnExactJoinNodeSpec)

/-- ITS FALSE NEIGHBOUR: 'it returns false'. Refute it at one input. -/
def fnExactJoinNodeWrong : ChangeSpec := { name := "fnExactJoinNode", fn := fun _ => fun
  | [d1, d2, d3] => { results := [.lit (.bool false)], args := [d1, d2, d3] }
  | _ => none }
def FnExactJoinNodeWrongFalsely : Prop := fnExactJoinNodeRow.holds Tryd.pinned (OpenSpec.ofChange fnExactJoinNodeWrong)

/-- 'laws.FnExactWayBetween': WHATEVER THE INPUT: true; the input reads as it did. -/
def fnExactWayBetweenSpec : ChangeSpec := { name := "fnExactWayBetween", fn := fun _ => fun
  | [d1, d2, d3] => { results := [.lit (.bool true)], args := [d1, d2, d3] }
  | _ => none }
def fnExactWayBetweenRow : OpenClaim := { program := "ytlmagoppgplocaadoor", sum := "114e55b00a47b742c490c0d4ffc9aa7c61e563aedebe6029b460a17e71b13a74", func := "loop.example/g01248/laws.FnExactWayBetween", spec := "fnExactWayBetween", inPlace := ["internal/bytealg.IndexByteString", "internal/bytealg.IndexString"], named := ["unicode/utf8.first", "unicode/utf8.acceptRanges", "internal/bytealg.MaxLen"], apart := false, laid := [("unicode/utf8.acceptRanges", laid_unicode_utf8_acceptRanges), ("unicode/utf8.first", laid_unicode_utf8_first)] }
def FnExactWayBetweenSaid : Prop := fnExactWayBetweenRow.holds Tryd.pinned (OpenSpec.ofChange fnExactWayBetweenSpec)

/-- ITS FALSE NEIGHBOUR: 'it returns false'. Refute it at one input. -/
def fnExactWayBetweenWrong : ChangeSpec := { name := "fnExactWayBetween", fn := fun _ => fun
  | [d1, d2, d3] => { results := [.lit (.bool false)], args := [d1, d2, d3] }
  | _ => none }
def FnExactWayBetweenWrongFalsely : Prop := fnExactWayBetweenRow.holds Tryd.pinned (OpenSpec.ofChange fnExactWayBetweenWrong)

/-- 'laws.FnExactLeastDistance': WHATEVER THE INPUT: true; the input reads as it did. -/
def fnExactLeastDistanceSpec : ChangeSpec := { name := "fnExactLeastDistance", fn := fun _ => fun
  | [d] => { results := [.lit (.bool true)], args := [d] }
  | _ => none }
def fnExactLeastDistanceRow : OpenClaim := { program := "ytlmagoppgplocaadoor", sum := "114e55b00a47b742c490c0d4ffc9aa7c61e563aedebe6029b460a17e71b13a74", func := "loop.example/g01248/laws.FnExactLeastDistance", spec := "fnExactLeastDistance", inPlace := ["internal/bytealg.IndexByteString", "internal/bytealg.IndexString"], recurses := true, named := ["unicode/utf8.first", "unicode/utf8.acceptRanges", "internal/bytealg.MaxLen"], apart := false, laid := [("unicode/utf8.acceptRanges", laid_unicode_utf8_acceptRanges), ("unicode/utf8.first", laid_unicode_utf8_first)] }
def FnExactLeastDistanceSaid : Prop := fnExactLeastDistanceRow.holds Tryd.pinned (OpenSpec.ofChange fnExactLeastDistanceSpec)

/-- ITS FALSE NEIGHBOUR: 'it returns false'. Refute it at one input. -/
def fnExactLeastDistanceWrong : ChangeSpec := { name := "fnExactLeastDistance", fn := fun _ => fun
  | [d] => { results := [.lit (.bool false)], args := [d] }
  | _ => none }
def FnExactLeastDistanceWrongFalsely : Prop := fnExactLeastDistanceRow.holds Tryd.pinned (OpenSpec.ofChange fnExactLeastDistanceWrong)

/-- 'laws.FnExactIsSafe': WHATEVER THE INPUT: true; the input reads as it did. -/
def fnExactIsSafeSpec : ChangeSpec := { name := "fnExactIsSafe", fn := fun _ => fun
  | [d] => { results := [.lit (.bool true)], args := [d] }
  | _ => none }
def fnExactIsSafeRow : OpenClaim := { program := "ytlmagoppgplocaadoor", sum := "114e55b00a47b742c490c0d4ffc9aa7c61e563aedebe6029b460a17e71b13a74", func := "loop.example/g01248/laws.FnExactIsSafe", spec := "fnExactIsSafe", inPlace := ["internal/bytealg.IndexByteString", "internal/bytealg.IndexString"], recurses := true, named := ["unicode/utf8.first", "unicode/utf8.acceptRanges", "internal/bytealg.MaxLen"], apart := false, laid := [("unicode/utf8.acceptRanges", laid_unicode_utf8_acceptRanges), ("unicode/utf8.first", laid_unicode_utf8_first)] }
def FnExactIsSafeSaid : Prop := fnExactIsSafeRow.holds Tryd.pinned (OpenSpec.ofChange fnExactIsSafeSpec)

/-- ITS FALSE NEIGHBOUR: 'it returns false'. Refute it at one input. -/
def fnExactIsSafeWrong : ChangeSpec := { name := "fnExactIsSafe", fn := fun _ => fun
  | [d] => { results := [.lit (.bool false)], args := [d] }
  | _ => none }
def FnExactIsSafeWrongFalsely : Prop := fnExactIsSafeRow.holds Tryd.pinned (OpenSpec.ofChange fnExactIsSafeWrong)

/-- 'laws.FnExactCanRepair': WHATEVER THE INPUT: true; the input reads as it did. -/
def fnExactCanRepairSpec : ChangeSpec := { name := "fnExactCanRepair", fn := fun _ => fun
  | [d] => { results := [.lit (.bool true)], args := [d] }
  | _ => none }
def fnExactCanRepairRow : OpenClaim := { program := "ytlmagoppgplocaadoor", sum := "114e55b00a47b742c490c0d4ffc9aa7c61e563aedebe6029b460a17e71b13a74", func := "loop.example/g01248/laws.FnExactCanRepair", spec := "fnExactCanRepair", inPlace := ["internal/bytealg.IndexByteString", "internal/bytealg.IndexString"], recurses := true, named := ["unicode/utf8.first", "unicode/utf8.acceptRanges", "internal/bytealg.MaxLen"], apart := false, laid := [("unicode/utf8.acceptRanges", laid_unicode_utf8_acceptRanges), ("unicode/utf8.first", laid_unicode_utf8_first)] }
def FnExactCanRepairSaid : Prop := fnExactCanRepairRow.holds Tryd.pinned (OpenSpec.ofChange fnExactCanRepairSpec)

/-- ITS FALSE NEIGHBOUR: 'it returns false'. Refute it at one input. -/
def fnExactCanRepairWrong : ChangeSpec := { name := "fnExactCanRepair", fn := fun _ => fun
  | [d] => { results := [.lit (.bool false)], args := [d] }
  | _ => none }
def FnExactCanRepairWrongFalsely : Prop := fnExactCanRepairRow.holds Tryd.pinned (OpenSpec.ofChange fnExactCanRepairWrong)

/-- 'laws.FnExactJoinedLetters': WHATEVER THE INPUT: true; the input reads as it did. -/
def fnExactJoinedLettersSpec : ChangeSpec := { name := "fnExactJoinedLetters", fn := fun _ => fun
  | [d] => { results := [.lit (.bool true)], args := [d] }
  | _ => none }
def fnExactJoinedLettersRow : OpenClaim := { program := "ytlmagoppgplocaadoor", sum := "114e55b00a47b742c490c0d4ffc9aa7c61e563aedebe6029b460a17e71b13a74", func := "loop.example/g01248/laws.FnExactJoinedLetters", spec := "fnExactJoinedLetters", inPlace := ["internal/bytealg.IndexByteString", "internal/bytealg.IndexString"], named := ["unicode/utf8.first", "unicode/utf8.acceptRanges", "internal/bytealg.MaxLen"], apart := false, laid := [("unicode/utf8.acceptRanges", laid_unicode_utf8_acceptRanges), ("unicode/utf8.first", laid_unicode_utf8_first)] }
def FnExactJoinedLettersSaid : Prop := fnExactJoinedLettersRow.holds Tryd.pinned (OpenSpec.ofChange fnExactJoinedLettersSpec)

/-- ITS FALSE NEIGHBOUR: 'it returns false'. Refute it at one input. -/
def fnExactJoinedLettersWrong : ChangeSpec := { name := "fnExactJoinedLetters", fn := fun _ => fun
  | [d] => { results := [.lit (.bool false)], args := [d] }
  | _ => none }
def FnExactJoinedLettersWrongFalsely : Prop := fnExactJoinedLettersRow.holds Tryd.pinned (OpenSpec.ofChange fnExactJoinedLettersWrong)

/-- 'laws.FnExactRankOfTable': WHATEVER THE INPUT: true; the input reads as it did. -/
def fnExactRankOfTableSpec : ChangeSpec := { name := "fnExactRankOfTable", fn := fun _ => fun
  | [d1, d2] => { results := [.lit (.bool true)], args := [d1, d2] }
  | _ => none }
def fnExactRankOfTableRow : OpenClaim := { program := "ytlmagoppgplocaadoor", sum := "114e55b00a47b742c490c0d4ffc9aa7c61e563aedebe6029b460a17e71b13a74", func := "loop.example/g01248/laws.FnExactRankOfTable", spec := "fnExactRankOfTable", inPlace := ["internal/bytealg.IndexByteString", "internal/bytealg.IndexString"], unfollowed := true, recurses := true, named := ["unicode/utf8.first", "unicode/utf8.acceptRanges", "internal/bytealg.MaxLen"], apart := false, laid := [("unicode/utf8.acceptRanges", laid_unicode_utf8_acceptRanges), ("unicode/utf8.first", laid_unicode_utf8_first)] }
def FnExactRankOfTableSaid : Prop := fnExactRankOfTableRow.holds Tryd.pinned (OpenSpec.ofChange fnExactRankOfTableSpec)

/-- ITS FALSE NEIGHBOUR: 'it returns false'. Refute it at one input. -/
def fnExactRankOfTableWrong : ChangeSpec := { name := "fnExactRankOfTable", fn := fun _ => fun
  | [d1, d2] => { results := [.lit (.bool false)], args := [d1, d2] }
  | _ => none }
def FnExactRankOfTableWrongFalsely : Prop := fnExactRankOfTableRow.holds Tryd.pinned (OpenSpec.ofChange fnExactRankOfTableWrong)

/- THE SECOND FORM. 'bulk': how many values and letters a reading holds, each counted each time it is reached (what is shared counts as often as it is met; a slice's spare places count too). A statement '..UptoSaid' is the law's where the arguments, and the package variables that the reading takes, are together of bulk at most 1048576: NARROWER than '..Said'. Prove '..Said' where nothing that the law and all that it calls make is longer than what came in: it says more and counts as full. Else prove '..UptoSaid'. A law counts once. -/
mutual
def uptoBulk {H : Type} : DataW H → Nat
  | .lit (.string bytes) => bytes.length + 1
  | .lit _ => 1
  | .nil => 1
  | .ptr d => uptoBulk d + 1
  | .slice elems spare => uptoBulkAll elems + uptoBulkAll spare + 1
  | .agg parts => uptoBulkAll parts + 1
  | .iface _ d => uptoBulk d + 1
  | .map entries => uptoBulkEntries entries + 1
  | .held _ => 1
def uptoBulkAll {H : Type} : List (DataW H) → Nat
  | [] => 0
  | d :: r => uptoBulk d + uptoBulkAll r
def uptoBulkEntries {H : Type} : List (Lit × DataW H) → Nat
  | [] => 0
  | x :: r => uptoBulkEntry x + uptoBulkEntries r
def uptoBulkEntry {H : Type} : Lit × DataW H → Nat
  | (.string bytes, d) => bytes.length + uptoBulk d + 1
  | (_, d) => uptoBulk d + 1
 end
def uptoSmall : (H : Type) → List (DataW H) → Bool := fun _ ds => decide (uptoBulkAll ds ≤ 1048576)
def OpenSpec.upto (s : _root_.Go.ChangeSpec) : _root_.Go.OpenSpec := { _root_.Go.OpenSpec.ofChange s with cond := some uptoSmall }

/-- 'laws.FnExactDepthCounts', WHERE WHAT IT READS IS OF BULK AT MOST 1048576: true; the input reads as it did. -/
def fnExactDepthCountsUptoRow : OpenClaim := { program := "ytlmagoppgplocaadoor", sum := "114e55b00a47b742c490c0d4ffc9aa7c61e563aedebe6029b460a17e71b13a74", func := "loop.example/g01248/laws.FnExactDepthCounts", spec := "fnExactDepthCounts", inPlace := ["internal/bytealg.IndexByteString", "internal/bytealg.IndexString"], named := ["unicode/utf8.first", "unicode/utf8.acceptRanges", "internal/bytealg.MaxLen"], apart := false, laid := [("unicode/utf8.acceptRanges", laid_unicode_utf8_acceptRanges), ("unicode/utf8.first", laid_unicode_utf8_first)], narrowed := true }
def FnExactDepthCountsUptoSaid : Prop := fnExactDepthCountsUptoRow.holds Tryd.pinned (OpenSpec.upto fnExactDepthCountsSpec)

/-- 'laws.FnExactLeastApart', WHERE WHAT IT READS IS OF BULK AT MOST 1048576: true; the input reads as it did. -/
def fnExactLeastApartUptoRow : OpenClaim := { program := "ytlmagoppgplocaadoor", sum := "114e55b00a47b742c490c0d4ffc9aa7c61e563aedebe6029b460a17e71b13a74", func := "loop.example/g01248/laws.FnExactLeastApart", spec := "fnExactLeastApart", inPlace := ["internal/bytealg.IndexByteString", "internal/bytealg.IndexString"], named := ["unicode/utf8.first", "unicode/utf8.acceptRanges", "internal/bytealg.MaxLen"], apart := false, laid := [("unicode/utf8.acceptRanges", laid_unicode_utf8_acceptRanges), ("unicode/utf8.first", laid_unicode_utf8_first)], narrowed := true }
def FnExactLeastApartUptoSaid : Prop := fnExactLeastApartUptoRow.holds Tryd.pinned (OpenSpec.upto fnExactLeastApartSpec)

/-- 'laws.FnExactJoinNode', WHERE WHAT IT READS IS OF BULK AT MOST 1048576: true; the input reads as it did. -/
def fnExactJoinNodeUptoRow : OpenClaim := { program := "ytlmagoppgplocaadoor", sum := "114e55b00a47b742c490c0d4ffc9aa7c61e563aedebe6029b460a17e71b13a74", func := "loop.example/g01248/laws.FnExactJoinNode", spec := "fnExactJoinNode", inPlace := ["internal/bytealg.IndexByteString", "internal/bytealg.IndexString"], named := ["unicode/utf8.first", "unicode/utf8.acceptRanges", "internal/bytealg.MaxLen"], apart := false, laid := [("unicode/utf8.acceptRanges", laid_unicode_utf8_acceptRanges), ("unicode/utf8.first", laid_unicode_utf8_first)], narrowed := true }
def FnExactJoinNodeUptoSaid : Prop := fnExactJoinNodeUptoRow.holds Tryd.pinned (OpenSpec.upto fnExactJoinNodeSpec)

/-- 'laws.FnExactWayBetween', WHERE WHAT IT READS IS OF BULK AT MOST 1048576: true; the input reads as it did. -/
def fnExactWayBetweenUptoRow : OpenClaim := { program := "ytlmagoppgplocaadoor", sum := "114e55b00a47b742c490c0d4ffc9aa7c61e563aedebe6029b460a17e71b13a74", func := "loop.example/g01248/laws.FnExactWayBetween", spec := "fnExactWayBetween", inPlace := ["internal/bytealg.IndexByteString", "internal/bytealg.IndexString"], named := ["unicode/utf8.first", "unicode/utf8.acceptRanges", "internal/bytealg.MaxLen"], apart := false, laid := [("unicode/utf8.acceptRanges", laid_unicode_utf8_acceptRanges), ("unicode/utf8.first", laid_unicode_utf8_first)], narrowed := true }
def FnExactWayBetweenUptoSaid : Prop := fnExactWayBetweenUptoRow.holds Tryd.pinned (OpenSpec.upto fnExactWayBetweenSpec)

/-- 'laws.FnExactLeastDistance', WHERE WHAT IT READS IS OF BULK AT MOST 1048576: true; the input reads as it did. -/
def fnExactLeastDistanceUptoRow : OpenClaim := { program := "ytlmagoppgplocaadoor", sum := "114e55b00a47b742c490c0d4ffc9aa7c61e563aedebe6029b460a17e71b13a74", func := "loop.example/g01248/laws.FnExactLeastDistance", spec := "fnExactLeastDistance", inPlace := ["internal/bytealg.IndexByteString", "internal/bytealg.IndexString"], recurses := true, named := ["unicode/utf8.first", "unicode/utf8.acceptRanges", "internal/bytealg.MaxLen"], apart := false, laid := [("unicode/utf8.acceptRanges", laid_unicode_utf8_acceptRanges), ("unicode/utf8.first", laid_unicode_utf8_first)], narrowed := true }
def FnExactLeastDistanceUptoSaid : Prop := fnExactLeastDistanceUptoRow.holds Tryd.pinned (OpenSpec.upto fnExactLeastDistanceSpec)

/-- 'laws.FnExactIsSafe', WHERE WHAT IT READS IS OF BULK AT MOST 1048576: true; the input reads as it did. -/
def fnExactIsSafeUptoRow : OpenClaim := { program := "ytlmagoppgplocaadoor", sum := "114e55b00a47b742c490c0d4ffc9aa7c61e563aedebe6029b460a17e71b13a74", func := "loop.example/g01248/laws.FnExactIsSafe", spec := "fnExactIsSafe", inPlace := ["internal/bytealg.IndexByteString", "internal/bytealg.IndexString"], recurses := true, named := ["unicode/utf8.first", "unicode/utf8.acceptRanges", "internal/bytealg.MaxLen"], apart := false, laid := [("unicode/utf8.acceptRanges", laid_unicode_utf8_acceptRanges), ("unicode/utf8.first", laid_unicode_utf8_first)], narrowed := true }
def FnExactIsSafeUptoSaid : Prop := fnExactIsSafeUptoRow.holds Tryd.pinned (OpenSpec.upto fnExactIsSafeSpec)

/-- 'laws.FnExactCanRepair', WHERE WHAT IT READS IS OF BULK AT MOST 1048576: true; the input reads as it did. -/
def fnExactCanRepairUptoRow : OpenClaim := { program := "ytlmagoppgplocaadoor", sum := "114e55b00a47b742c490c0d4ffc9aa7c61e563aedebe6029b460a17e71b13a74", func := "loop.example/g01248/laws.FnExactCanRepair", spec := "fnExactCanRepair", inPlace := ["internal/bytealg.IndexByteString", "internal/bytealg.IndexString"], recurses := true, named := ["unicode/utf8.first", "unicode/utf8.acceptRanges", "internal/bytealg.MaxLen"], apart := false, laid := [("unicode/utf8.acceptRanges", laid_unicode_utf8_acceptRanges), ("unicode/utf8.first", laid_unicode_utf8_first)], narrowed := true }
def FnExactCanRepairUptoSaid : Prop := fnExactCanRepairUptoRow.holds Tryd.pinned (OpenSpec.upto fnExactCanRepairSpec)

/-- 'laws.FnExactJoinedLetters', WHERE WHAT IT READS IS OF BULK AT MOST 1048576: true; the input reads as it did. -/
def fnExactJoinedLettersUptoRow : OpenClaim := { program := "ytlmagoppgplocaadoor", sum := "114e55b00a47b742c490c0d4ffc9aa7c61e563aedebe6029b460a17e71b13a74", func := "loop.example/g01248/laws.FnExactJoinedLetters", spec := "fnExactJoinedLetters", inPlace := ["internal/bytealg.IndexByteString", "internal/bytealg.IndexString"], named := ["unicode/utf8.first", "unicode/utf8.acceptRanges", "internal/bytealg.MaxLen"], apart := false, laid := [("unicode/utf8.acceptRanges", laid_unicode_utf8_acceptRanges), ("unicode/utf8.first", laid_unicode_utf8_first)], narrowed := true }
def FnExactJoinedLettersUptoSaid : Prop := fnExactJoinedLettersUptoRow.holds Tryd.pinned (OpenSpec.upto fnExactJoinedLettersSpec)

/-- 'laws.FnExactRankOfTable', WHERE WHAT IT READS IS OF BULK AT MOST 1048576: true; the input reads as it did. -/
def fnExactRankOfTableUptoRow : OpenClaim := { program := "ytlmagoppgplocaadoor", sum := "114e55b00a47b742c490c0d4ffc9aa7c61e563aedebe6029b460a17e71b13a74", func := "loop.example/g01248/laws.FnExactRankOfTable", spec := "fnExactRankOfTable", inPlace := ["internal/bytealg.IndexByteString", "internal/bytealg.IndexString"], unfollowed := true, recurses := true, named := ["unicode/utf8.first", "unicode/utf8.acceptRanges", "internal/bytealg.MaxLen"], apart := false, laid := [("unicode/utf8.acceptRanges", laid_unicode_utf8_acceptRanges), ("unicode/utf8.first", laid_unicode_utf8_first)], narrowed := true }
def FnExactRankOfTableUptoSaid : Prop := fnExactRankOfTableUptoRow.holds Tryd.pinned (OpenSpec.upto fnExactRankOfTableSpec)

end Rows
end Go.Proofs.YtlmagoppgplocaaDoor
