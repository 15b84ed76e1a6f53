-- Written by a program of this session (the kit's print with this session's additions, wip/tools): Lean checks it.
import Derived.Test.YtmndcbfdkfhheaaDoorProg
import Derived.Below
import Derived.Deep.Draws
import Derived.Deep.AppendLies
import Derived.Maps.AppendAt
import Derived.OwnWalk
import Derived.Laws.BytesArg
import Derived.Laws.MakeOwn
import Derived.Laws.OwnMore
import Derived.Deep.OwnRows
import Derived.Tactics
import Derived.Lib.ConvBytes
import Derived.Laws.Slices
import Derived.WalkKit
import Derived.KernelRfl
import Derived.RowKit3
import Derived.Deep.LoopGhost
import Derived.Deep.QuietTactic
import Derived.BigQuiet
import Derived.WideLaws
import Derived.Deep.DeepCutAuto
import Derived.Deep.CutBlock
import Derived.Deep.RegionHeld3
import Derived.Laws.Rows
import Derived.Lib.AppendStr
import Derived.ArgAppend
import Derived.Laws.IdiomCopy
import Derived.OrdersHeld
import Derived.Laws.BitsLemmas
import Derived.RowKit
import Derived.Test.YtmndcbfdkfhheaaDoorShelf
import Derived.Test.YtmndcbfdkfhheaaDoorWWords
import Derived.Test.YtmndcbfdkfhheaaDoorWLast
import Derived.Test.YtmndcbfdkfhheaaDoorWTab
import Derived.Test.YtmndcbfdkfhheaaDoorWFour
import Derived.Test.YtmndcbfdkfhheaaDoorWQPut
import Derived.Test.YtmndcbfdkfhheaaDoorWApart
import Derived.Test.YtmndcbfdkfhheaaDoorWArr
import Derived.Test.YtmndcbfdkfhheaaDoorWZeros
import Derived.Test.YtmndcbfdkfhheaaDoorWFoot
import Derived.Test.YtmndcbfdkfhheaaDoorWKept
import Derived.Test.YtmndcbfdkfhheaaDoorWShare
import Derived.Test.YtmndcbfdkfhheaaDoorWN
import Derived.Test.YtmndcbfdkfhheaaDoorWFootNe
import Derived.Test.YtmndcbfdkfhheaaDoorWAt
import Derived.Test.YtmndcbfdkfhheaaDoorWEqStruct
import Derived.Test.YtmndcbfdkfhheaaDoorWRepsOne
import Derived.Test.YtmndcbfdkfhheaaDoorWInv
import Derived.Test.YtmndcbfdkfhheaaDoorWInvWords
import Derived.Test.YtmndcbfdkfhheaaDoorWGuard
import Derived.Test.YtmndcbfdkfhheaaDoorWNEv
import Derived.Test.YtmndcbfdkfhheaaDoorWMore
namespace Go.Proofs.YtmndcbfdkfhheaaDoor.PFnExactMarkDistance
open Go.RowKit Go.Proofs.YtmndcbfdkfhheaaDoorW.PrintWords Go.Proofs.YtmndcbfdkfhheaaDoorW.PrintLast Go.Proofs.YtmndcbfdkfhheaaDoorW.PrintMore
attribute [local go_sem] max2_int min2_int max_two min_two max_three min_three max_four min_four   -- for this text's walks alone
set_option linter.unusedVariables false
set_option linter.unusedSimpArgs false



def errW : Option Int → Value
  | none => .nilIface
  | some c => .iface 0 (.int .i64 c)
theorem errW_none : errW none = .nilIface := rfl
theorem errW_some (c : Int) : errW (some c) = .iface 0 (.int .i64 c) := rfl

theorem info3 : (Tryd.prog.info? 3).map (fun i => (i.zero, i.size, i.bytes)) = some (some (.int .i64 0), 1, 8) := by kernel_rfl
-- the values' own types

end Go.Proofs.YtmndcbfdkfhheaaDoor.PFnExactMarkDistance
