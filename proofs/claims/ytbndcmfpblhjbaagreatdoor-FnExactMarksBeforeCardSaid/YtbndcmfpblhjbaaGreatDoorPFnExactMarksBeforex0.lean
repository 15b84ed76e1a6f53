-- Written by a program of this session (the kit's print with this session's additions, wip/tools): Lean checks it.
import Derived.Test.YtbndcmfpblhjbaaGreatDoorProg
import Derived.Below
import Derived.Deep.Draws
import Derived.Deep.AppendLies
import Derived.Maps.AppendAt
import Derived.OwnWalk
import Derived.Laws.BytesArg
import Derived.Laws.MakeOwn
import Derived.Laws.OwnMore
import Derived.Deep.OwnRows
import Derived.Tactics
import Derived.Lib.ConvBytes
import Derived.Laws.Slices
import Derived.WalkKit
import Derived.KernelRfl
import Derived.RowKit3
import Derived.Deep.LoopGhost
import Derived.Deep.QuietTactic
import Derived.BigQuiet
import Derived.WideLaws
import Derived.Deep.DeepCutAuto
import Derived.Deep.CutBlock
import Derived.Deep.RegionHeld3
import Derived.Laws.Rows
import Derived.Lib.AppendStr
import Derived.ArgAppend
import Derived.Laws.IdiomCopy
import Derived.OrdersHeld
import Derived.Laws.BitsLemmas
import Derived.RowKit
import Derived.Test.YtbndcmfpblhjbaaGreatDoorShelf
import Derived.Shelf.Abstract
import Derived.Tactics
import Derived.Tactics2
import Derived.Defers
import Derived.Laws.Pointers
import Derived.Laws.LoneSync
import Derived.RegionTactic
import Derived.RegionCalls
import Derived.ChangeAlike
import Derived.Laws.NewBlocks
import Derived.Deep.LoopGhost
import Derived.WalkKit
import Derived.Below
import Derived.OwnWalk
import Derived.Deep.WholeRow
import Derived.Lib.ConvBytes
import Derived.Laws.BytesString
import Derived.Lib.Strings
import Derived.Laws.AppendOwn
import Derived.Maps.AppendAt
import Derived.Test.YtbndcmfpblhjbaaGreatDoorWWords
import Derived.Test.YtbndcmfpblhjbaaGreatDoorWLast
import Derived.Test.YtbndcmfpblhjbaaGreatDoorWTab
import Derived.Test.YtbndcmfpblhjbaaGreatDoorWFour
import Derived.Test.YtbndcmfpblhjbaaGreatDoorWQPut
import Derived.Test.YtbndcmfpblhjbaaGreatDoorWApart
import Derived.Test.YtbndcmfpblhjbaaGreatDoorWArr
import Derived.Test.YtbndcmfpblhjbaaGreatDoorWZeros
import Derived.Test.YtbndcmfpblhjbaaGreatDoorWFoot
import Derived.Test.YtbndcmfpblhjbaaGreatDoorWKept
import Derived.Test.YtbndcmfpblhjbaaGreatDoorWShare
import Derived.Test.YtbndcmfpblhjbaaGreatDoorWN
import Derived.Test.YtbndcmfpblhjbaaGreatDoorWFootNe
import Derived.Test.YtbndcmfpblhjbaaGreatDoorWAt
import Derived.Test.YtbndcmfpblhjbaaGreatDoorWEqStruct
import Derived.Test.YtbndcmfpblhjbaaGreatDoorWRepsOne
import Derived.Test.YtbndcmfpblhjbaaGreatDoorWInv
import Derived.Test.YtbndcmfpblhjbaaGreatDoorWInvWords
import Derived.Test.YtbndcmfpblhjbaaGreatDoorWGuard
import Derived.Test.YtbndcmfpblhjbaaGreatDoorWNEv
import Derived.Test.YtbndcmfpblhjbaaGreatDoorWMore
namespace Go.Proofs.YtbndcmfpblhjbaaGreatDoor.PFnExactMarksBefore
open Go.RowKit Go.Proofs.YtbndcmfpblhjbaaGreatDoorW.PrintWords Go.Proofs.YtbndcmfpblhjbaaGreatDoorW.PrintLast Go.Proofs.YtbndcmfpblhjbaaGreatDoorW.PrintMore
attribute [local go_sem] max2_int min2_int max_two min_two max_three min_three max_four min_four   -- for this text's walks alone
set_option linter.unusedVariables false
set_option linter.unusedSimpArgs false



def errW : Option Int → Value
  | none => .nilIface
  | some c => .iface 0 (.int .i64 c)
theorem errW_none : errW none = .nilIface := rfl
theorem errW_some (c : Int) : errW (some c) = .iface 0 (.int .i64 c) := rfl

theorem info3 : (Tryz.prog.info? 3).map (fun i => (i.zero, i.size, i.bytes)) = some (some (.int .i64 0), 1, 8) := by kernel_rfl
-- the values' own types

end Go.Proofs.YtbndcmfpblhjbaaGreatDoor.PFnExactMarksBefore
