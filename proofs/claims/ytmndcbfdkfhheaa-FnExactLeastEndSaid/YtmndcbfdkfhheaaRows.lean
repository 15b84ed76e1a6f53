/-
  No cell of these rows narrows 'for every input' (looked for: loops, veiled, ifaces, maps, wideKeys, modest, calm, conditions, laid).
  DERIVED. THE GIVEN ROWS OF THIS SEAT. 9 by the template 'for every input the law returns true; each argument reads behind the call as it read before'; 0 by the template 'total and deterministic' (their statements: YtmndcbfdkfhheaaTotals.lean).
  GIVEN WITH THE SEED: the statements are not yours to turn. If you find one false, say at which input.
  Laid BY PROGRAM, IN A SANDBOX (cutbox-rows.mjs): the forced cells as the released guide's own fill.sh prints them over the translation 402c52257a77aa93… (all of the seat's roots in one cut). By AI agents, Wed Nov 11 2026. No macro, syntax, notation, axiom, sorry.
-/
import Derived.Test.YtmndcbfdkfhheaaChecked
import GoSem.Claim
import GoSem.ClaimJoined
import GoSem.ClaimMapViews
import Derived.JoinedTies
import Derived.KernelRfl
namespace Go.Proofs.Ytmndcbfdkfhheaa
/- THE CELL 'sum', in the pinned program and in every row, IS THE sha256 OF THE DUMP (.gsa) THAT YtmndcbfdkfhheaaProg.lean LOADS. Nothing in Lean hashes anything: it is a label: what it is worth is what the hold of that sum in a sandbox is worth. -/
noncomputable def Try.pinned : Pinned := { name := "ytmndcbfdkfhheaa", sum := "402c52257a77aa936df737e59b53497b69431d2c6fbdef1e30539e1cc5ee4412", checked := Try.checked }
namespace Rows
def none {H : Type} : Left H := { results := [], args := [] }

/-- 'laws.FnExactIsNoise': WHATEVER THE INPUT: true; the input reads as it did. -/
def fnExactIsNoiseSpec : ChangeSpec := { name := "fnExactIsNoise", fn := fun _ => fun
  | [d] => { results := [.lit (.bool true)], args := [d] }
  | _ => none }
def fnExactIsNoiseRow : OpenClaim := { program := "ytmndcbfdkfhheaa", sum := "402c52257a77aa936df737e59b53497b69431d2c6fbdef1e30539e1cc5ee4412", func := "loop.example/g01248/laws.FnExactIsNoise", spec := "fnExactIsNoise", apart := false }
def FnExactIsNoiseSaid : Prop := fnExactIsNoiseRow.holds Try.pinned (OpenSpec.ofChange fnExactIsNoiseSpec)

/-- ITS FALSE NEIGHBOUR: 'it returns false'. Refute it at one input. -/
def fnExactIsNoiseWrong : ChangeSpec := { name := "fnExactIsNoise", fn := fun _ => fun
  | [d] => { results := [.lit (.bool false)], args := [d] }
  | _ => none }
def FnExactIsNoiseWrongFalsely : Prop := fnExactIsNoiseRow.holds Try.pinned (OpenSpec.ofChange fnExactIsNoiseWrong)

/-- 'laws.FnExactCountByTime': WHATEVER THE INPUT: true; the input reads as it did. -/
def fnExactCountByTimeSpec : ChangeSpec := { name := "fnExactCountByTime", fn := fun _ => fun
  | [d] => { results := [.lit (.bool true)], args := [d] }
  | _ => none }
def fnExactCountByTimeRow : OpenClaim := { program := "ytmndcbfdkfhheaa", sum := "402c52257a77aa936df737e59b53497b69431d2c6fbdef1e30539e1cc5ee4412", func := "loop.example/g01248/laws.FnExactCountByTime", spec := "fnExactCountByTime", apart := false }
def FnExactCountByTimeSaid : Prop := fnExactCountByTimeRow.holds Try.pinned (OpenSpec.ofChange fnExactCountByTimeSpec)

/-- ITS FALSE NEIGHBOUR: 'it returns false'. Refute it at one input. -/
def fnExactCountByTimeWrong : ChangeSpec := { name := "fnExactCountByTime", fn := fun _ => fun
  | [d] => { results := [.lit (.bool false)], args := [d] }
  | _ => none }
def FnExactCountByTimeWrongFalsely : Prop := fnExactCountByTimeRow.holds Try.pinned (OpenSpec.ofChange fnExactCountByTimeWrong)

/-- 'laws.FnExactMarksOfNode': WHATEVER THE INPUT: true; the input reads as it did. -/
def fnExactMarksOfNodeSpec : ChangeSpec := { name := "fnExactMarksOfNode", fn := fun _ => fun
  | [d] => { results := [.lit (.bool true)], args := [d] }
  | _ => none }
def fnExactMarksOfNodeRow : OpenClaim := { program := "ytmndcbfdkfhheaa", sum := "402c52257a77aa936df737e59b53497b69431d2c6fbdef1e30539e1cc5ee4412", func := "loop.example/g01248/laws.FnExactMarksOfNode", spec := "fnExactMarksOfNode", apart := false }
def FnExactMarksOfNodeSaid : Prop := fnExactMarksOfNodeRow.holds Try.pinned (OpenSpec.ofChange fnExactMarksOfNodeSpec)

/-- ITS FALSE NEIGHBOUR: 'it returns false'. Refute it at one input. -/
def fnExactMarksOfNodeWrong : ChangeSpec := { name := "fnExactMarksOfNode", fn := fun _ => fun
  | [d] => { results := [.lit (.bool false)], args := [d] }
  | _ => none }
def FnExactMarksOfNodeWrongFalsely : Prop := fnExactMarksOfNodeRow.holds Try.pinned (OpenSpec.ofChange fnExactMarksOfNodeWrong)

/-- 'laws.FnExactIsJob': WHATEVER THE INPUT: true; the input reads as it did. -/
def fnExactIsJobSpec : ChangeSpec := { name := "fnExactIsJob", fn := fun _ => fun
  | [d1, d2] => { results := [.lit (.bool true)], args := [d1, d2] }
  | _ => none }
def fnExactIsJobRow : OpenClaim := { program := "ytmndcbfdkfhheaa", sum := "402c52257a77aa936df737e59b53497b69431d2c6fbdef1e30539e1cc5ee4412", func := "loop.example/g01248/laws.FnExactIsJob", spec := "fnExactIsJob", apart := false }
def FnExactIsJobSaid : Prop := fnExactIsJobRow.holds Try.pinned (OpenSpec.ofChange fnExactIsJobSpec)

/-- ITS FALSE NEIGHBOUR: 'it returns false'. Refute it at one input. -/
def fnExactIsJobWrong : ChangeSpec := { name := "fnExactIsJob", fn := fun _ => fun
  | [d1, d2] => { results := [.lit (.bool false)], args := [d1, d2] }
  | _ => none }
def FnExactIsJobWrongFalsely : Prop := fnExactIsJobRow.holds Try.pinned (OpenSpec.ofChange fnExactIsJobWrong)

/-- 'laws.FnExactStepsOf': WHATEVER THE INPUT: true; the input reads as it did. -/
def fnExactStepsOfSpec : ChangeSpec := { name := "fnExactStepsOf", fn := fun _ => fun
  | [d1, d2] => { results := [.lit (.bool true)], args := [d1, d2] }
  | _ => none }
def fnExactStepsOfRow : OpenClaim := { program := "ytmndcbfdkfhheaa", sum := "402c52257a77aa936df737e59b53497b69431d2c6fbdef1e30539e1cc5ee4412", func := "loop.example/g01248/laws.FnExactStepsOf", spec := "fnExactStepsOf", apart := false }
def FnExactStepsOfSaid : Prop := fnExactStepsOfRow.holds Try.pinned (OpenSpec.ofChange fnExactStepsOfSpec)

/-- ITS FALSE NEIGHBOUR: 'it returns false'. Refute it at one input. -/
def fnExactStepsOfWrong : ChangeSpec := { name := "fnExactStepsOf", fn := fun _ => fun
  | [d1, d2] => { results := [.lit (.bool false)], args := [d1, d2] }
  | _ => none }
def FnExactStepsOfWrongFalsely : Prop := fnExactStepsOfRow.holds Try.pinned (OpenSpec.ofChange fnExactStepsOfWrong)

/-- 'laws.FnExactCountTables': WHATEVER THE INPUT: true; the input reads as it did. -/
def fnExactCountTablesSpec : ChangeSpec := { name := "fnExactCountTables", fn := fun _ => fun
  | [d1, d2] => { results := [.lit (.bool true)], args := [d1, d2] }
  | _ => none }
def fnExactCountTablesRow : OpenClaim := { program := "ytmndcbfdkfhheaa", sum := "402c52257a77aa936df737e59b53497b69431d2c6fbdef1e30539e1cc5ee4412", func := "loop.example/g01248/laws.FnExactCountTables", spec := "fnExactCountTables", apart := false }
def FnExactCountTablesSaid : Prop := fnExactCountTablesRow.holds Try.pinned (OpenSpec.ofChange fnExactCountTablesSpec)

/-- ITS FALSE NEIGHBOUR: 'it returns false'. Refute it at one input. -/
def fnExactCountTablesWrong : ChangeSpec := { name := "fnExactCountTables", fn := fun _ => fun
  | [d1, d2] => { results := [.lit (.bool false)], args := [d1, d2] }
  | _ => none }
def FnExactCountTablesWrongFalsely : Prop := fnExactCountTablesRow.holds Try.pinned (OpenSpec.ofChange fnExactCountTablesWrong)

/-- 'laws.FnExactTableAt': WHATEVER THE INPUT: true; the input reads as it did. -/
def fnExactTableAtSpec : ChangeSpec := { name := "fnExactTableAt", fn := fun _ => fun
  | [d1, d2, d3] => { results := [.lit (.bool true)], args := [d1, d2, d3] }
  | _ => none }
def fnExactTableAtRow : OpenClaim := { program := "ytmndcbfdkfhheaa", sum := "402c52257a77aa936df737e59b53497b69431d2c6fbdef1e30539e1cc5ee4412", func := "loop.example/g01248/laws.FnExactTableAt", spec := "fnExactTableAt", apart := false }
def FnExactTableAtSaid : Prop := fnExactTableAtRow.holds Try.pinned (OpenSpec.ofChange fnExactTableAtSpec)

/-- ITS FALSE NEIGHBOUR: 'it returns false'. Refute it at one input. -/
def fnExactTableAtWrong : ChangeSpec := { name := "fnExactTableAt", fn := fun _ => fun
  | [d1, d2, d3] => { results := [.lit (.bool false)], args := [d1, d2, d3] }
  | _ => none }
def FnExactTableAtWrongFalsely : Prop := fnExactTableAtRow.holds Try.pinned (OpenSpec.ofChange fnExactTableAtWrong)

/-- 'laws.FnExactLoadsOf': WHATEVER THE INPUT: true; the input reads as it did. -/
def fnExactLoadsOfSpec : ChangeSpec := { name := "fnExactLoadsOf", fn := fun _ => fun
  | [d1, d2] => { results := [.lit (.bool true)], args := [d1, d2] }
  | _ => none }
def fnExactLoadsOfRow : OpenClaim := { program := "ytmndcbfdkfhheaa", sum := "402c52257a77aa936df737e59b53497b69431d2c6fbdef1e30539e1cc5ee4412", func := "loop.example/g01248/laws.FnExactLoadsOf", spec := "fnExactLoadsOf", unfollowed := true, recurses := true, apart := false }
def FnExactLoadsOfSaid : Prop := fnExactLoadsOfRow.holds Try.pinned (OpenSpec.ofChange fnExactLoadsOfSpec)

/-- ITS FALSE NEIGHBOUR: 'it returns false'. Refute it at one input. -/
def fnExactLoadsOfWrong : ChangeSpec := { name := "fnExactLoadsOf", fn := fun _ => fun
  | [d1, d2] => { results := [.lit (.bool false)], args := [d1, d2] }
  | _ => none }
def FnExactLoadsOfWrongFalsely : Prop := fnExactLoadsOfRow.holds Try.pinned (OpenSpec.ofChange fnExactLoadsOfWrong)

/-- 'laws.FnExactLeastEnd': WHATEVER THE INPUT: true; the input reads as it did. -/
def fnExactLeastEndSpec : ChangeSpec := { name := "fnExactLeastEnd", fn := fun _ => fun
  | [d1, d2] => { results := [.lit (.bool true)], args := [d1, d2] }
  | _ => none }
def fnExactLeastEndRow : OpenClaim := { program := "ytmndcbfdkfhheaa", sum := "402c52257a77aa936df737e59b53497b69431d2c6fbdef1e30539e1cc5ee4412", func := "loop.example/g01248/laws.FnExactLeastEnd", spec := "fnExactLeastEnd", unfollowed := true, recurses := true, apart := false }
def FnExactLeastEndSaid : Prop := fnExactLeastEndRow.holds Try.pinned (OpenSpec.ofChange fnExactLeastEndSpec)

/-- ITS FALSE NEIGHBOUR: 'it returns false'. Refute it at one input. -/
def fnExactLeastEndWrong : ChangeSpec := { name := "fnExactLeastEnd", fn := fun _ => fun
  | [d1, d2] => { results := [.lit (.bool false)], args := [d1, d2] }
  | _ => none }
def FnExactLeastEndWrongFalsely : Prop := fnExactLeastEndRow.holds Try.pinned (OpenSpec.ofChange fnExactLeastEndWrong)

/- THE SECOND FORM. 'bulk': how many values and letters a reading holds, each counted each time it is reached (what is shared counts as often as it is met; a slice's spare places count too). A statement '..UptoSaid' is the law's where the arguments, and the package variables that the reading takes, are together of bulk at most 1048576: NARROWER than '..Said'. Prove '..Said' where nothing that the law and all that it calls make is longer than what came in: it says more and counts as full. Else prove '..UptoSaid'. A law counts once. -/
mutual
def uptoBulk {H : Type} : DataW H → Nat
  | .lit (.string bytes) => bytes.length + 1
  | .lit _ => 1
  | .nil => 1
  | .ptr d => uptoBulk d + 1
  | .slice elems spare => uptoBulkAll elems + uptoBulkAll spare + 1
  | .agg parts => uptoBulkAll parts + 1
  | .iface _ d => uptoBulk d + 1
  | .map entries => uptoBulkEntries entries + 1
  | .held _ => 1
def uptoBulkAll {H : Type} : List (DataW H) → Nat
  | [] => 0
  | d :: r => uptoBulk d + uptoBulkAll r
def uptoBulkEntries {H : Type} : List (Lit × DataW H) → Nat
  | [] => 0
  | x :: r => uptoBulkEntry x + uptoBulkEntries r
def uptoBulkEntry {H : Type} : Lit × DataW H → Nat
  | (.string bytes, d) => bytes.length + uptoBulk d + 1
  | (_, d) => uptoBulk d + 1
 end
def uptoSmall : (H : Type) → List (DataW H) → Bool := fun _ ds => decide (uptoBulkAll ds ≤ 1048576)
def OpenSpec.upto (s : _root_.Go.ChangeSpec) : _root_.Go.OpenSpec := { _root_.Go.OpenSpec.ofChange s with cond := some uptoSmall }

/-- 'laws.FnExactIsNoise', WHERE WHAT IT READS IS OF BULK AT MOST 1048576: true; the input reads as it did. -/
def fnExactIsNoiseUptoRow : OpenClaim := { program := "ytmndcbfdkfhheaa", sum := "402c52257a77aa936df737e59b53497b69431d2c6fbdef1e30539e1cc5ee4412", func := "loop.example/g01248/laws.FnExactIsNoise", spec := "fnExactIsNoise", apart := false, narrowed := true }
def FnExactIsNoiseUptoSaid : Prop := fnExactIsNoiseUptoRow.holds Try.pinned (OpenSpec.upto fnExactIsNoiseSpec)

/-- 'laws.FnExactCountByTime', WHERE WHAT IT READS IS OF BULK AT MOST 1048576: true; the input reads as it did. -/
def fnExactCountByTimeUptoRow : OpenClaim := { program := "ytmndcbfdkfhheaa", sum := "402c52257a77aa936df737e59b53497b69431d2c6fbdef1e30539e1cc5ee4412", func := "loop.example/g01248/laws.FnExactCountByTime", spec := "fnExactCountByTime", apart := false, narrowed := true }
def FnExactCountByTimeUptoSaid : Prop := fnExactCountByTimeUptoRow.holds Try.pinned (OpenSpec.upto fnExactCountByTimeSpec)

/-- 'laws.FnExactMarksOfNode', WHERE WHAT IT READS IS OF BULK AT MOST 1048576: true; the input reads as it did. -/
def fnExactMarksOfNodeUptoRow : OpenClaim := { program := "ytmndcbfdkfhheaa", sum := "402c52257a77aa936df737e59b53497b69431d2c6fbdef1e30539e1cc5ee4412", func := "loop.example/g01248/laws.FnExactMarksOfNode", spec := "fnExactMarksOfNode", apart := false, narrowed := true }
def FnExactMarksOfNodeUptoSaid : Prop := fnExactMarksOfNodeUptoRow.holds Try.pinned (OpenSpec.upto fnExactMarksOfNodeSpec)

/-- 'laws.FnExactIsJob', WHERE WHAT IT READS IS OF BULK AT MOST 1048576: true; the input reads as it did. -/
def fnExactIsJobUptoRow : OpenClaim := { program := "ytmndcbfdkfhheaa", sum := "402c52257a77aa936df737e59b53497b69431d2c6fbdef1e30539e1cc5ee4412", func := "loop.example/g01248/laws.FnExactIsJob", spec := "fnExactIsJob", apart := false, narrowed := true }
def FnExactIsJobUptoSaid : Prop := fnExactIsJobUptoRow.holds Try.pinned (OpenSpec.upto fnExactIsJobSpec)

/-- 'laws.FnExactStepsOf', WHERE WHAT IT READS IS OF BULK AT MOST 1048576: true; the input reads as it did. -/
def fnExactStepsOfUptoRow : OpenClaim := { program := "ytmndcbfdkfhheaa", sum := "402c52257a77aa936df737e59b53497b69431d2c6fbdef1e30539e1cc5ee4412", func := "loop.example/g01248/laws.FnExactStepsOf", spec := "fnExactStepsOf", apart := false, narrowed := true }
def FnExactStepsOfUptoSaid : Prop := fnExactStepsOfUptoRow.holds Try.pinned (OpenSpec.upto fnExactStepsOfSpec)

/-- 'laws.FnExactCountTables', WHERE WHAT IT READS IS OF BULK AT MOST 1048576: true; the input reads as it did. -/
def fnExactCountTablesUptoRow : OpenClaim := { program := "ytmndcbfdkfhheaa", sum := "402c52257a77aa936df737e59b53497b69431d2c6fbdef1e30539e1cc5ee4412", func := "loop.example/g01248/laws.FnExactCountTables", spec := "fnExactCountTables", apart := false, narrowed := true }
def FnExactCountTablesUptoSaid : Prop := fnExactCountTablesUptoRow.holds Try.pinned (OpenSpec.upto fnExactCountTablesSpec)

/-- 'laws.FnExactTableAt', WHERE WHAT IT READS IS OF BULK AT MOST 1048576: true; the input reads as it did. -/
def fnExactTableAtUptoRow : OpenClaim := { program := "ytmndcbfdkfhheaa", sum := "402c52257a77aa936df737e59b53497b69431d2c6fbdef1e30539e1cc5ee4412", func := "loop.example/g01248/laws.FnExactTableAt", spec := "fnExactTableAt", apart := false, narrowed := true }
def FnExactTableAtUptoSaid : Prop := fnExactTableAtUptoRow.holds Try.pinned (OpenSpec.upto fnExactTableAtSpec)

/-- 'laws.FnExactLoadsOf', WHERE WHAT IT READS IS OF BULK AT MOST 1048576: true; the input reads as it did. -/
def fnExactLoadsOfUptoRow : OpenClaim := { program := "ytmndcbfdkfhheaa", sum := "402c52257a77aa936df737e59b53497b69431d2c6fbdef1e30539e1cc5ee4412", func := "loop.example/g01248/laws.FnExactLoadsOf", spec := "fnExactLoadsOf", unfollowed := true, recurses := true, apart := false, narrowed := true }
def FnExactLoadsOfUptoSaid : Prop := fnExactLoadsOfUptoRow.holds Try.pinned (OpenSpec.upto fnExactLoadsOfSpec)

/-- 'laws.FnExactLeastEnd', WHERE WHAT IT READS IS OF BULK AT MOST 1048576: true; the input reads as it did. -/
def fnExactLeastEndUptoRow : OpenClaim := { program := "ytmndcbfdkfhheaa", sum := "402c52257a77aa936df737e59b53497b69431d2c6fbdef1e30539e1cc5ee4412", func := "loop.example/g01248/laws.FnExactLeastEnd", spec := "fnExactLeastEnd", unfollowed := true, recurses := true, apart := false, narrowed := true }
def FnExactLeastEndUptoSaid : Prop := fnExactLeastEndUptoRow.holds Try.pinned (OpenSpec.upto fnExactLeastEndSpec)

end Rows
end Go.Proofs.Ytmndcbfdkfhheaa
