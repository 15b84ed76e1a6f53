-- Written by a program of this session (the kit's print with this session's additions, wip/tools): Lean checks it.
import Derived.Test.YtgaadjlcmgmfaaaGreatProg
import Derived.Below
import Derived.Deep.Draws
import Derived.Deep.AppendLies
import Derived.Maps.AppendAt
import Derived.OwnWalk
import Derived.Laws.BytesArg
import Derived.Laws.MakeOwn
import Derived.Laws.OwnMore
import Derived.Deep.OwnRows
import Derived.Tactics
import Derived.Lib.ConvBytes
import Derived.Laws.Slices
import Derived.WalkKit
import Derived.KernelRfl
import Derived.RowKit3
import Derived.Deep.LoopGhost
import Derived.Deep.QuietTactic
import Derived.BigQuiet
import Derived.WideLaws
import Derived.Deep.DeepCutAuto
import Derived.Deep.CutBlock
import Derived.Deep.RegionHeld3
import Derived.Laws.Rows
import Derived.Lib.AppendStr
import Derived.ArgAppend
import Derived.Laws.IdiomCopy
import Derived.OrdersHeld
import Derived.Laws.BitsLemmas
import Derived.RowKit
import Derived.Test.YtgaadjlcmgmfaaaGreatShelf
import Derived.Shelf.Abstract
import Derived.Tactics
import Derived.Tactics2
import Derived.Defers
import Derived.Laws.Pointers
import Derived.Laws.LoneSync
import Derived.RegionTactic
import Derived.RegionCalls
import Derived.ChangeAlike
import Derived.Laws.NewBlocks
import Derived.Deep.LoopGhost
import Derived.WalkKit
import Derived.Below
import Derived.OwnWalk
import Derived.Deep.WholeRow
import Derived.Lib.ConvBytes
import Derived.Laws.BytesString
import Derived.Lib.Strings
import Derived.Laws.AppendOwn
import Derived.Maps.AppendAt
import Derived.Test.YtgaadjlcmgmfaaaGreatGiven
import Derived.Shelf.SlSortCmp.NoneTotal
import Derived.Test.YtgaadjlcmgmfaaaGreatWWords
import Derived.Test.YtgaadjlcmgmfaaaGreatWLast
import Derived.Test.YtgaadjlcmgmfaaaGreatWTab
import Derived.Test.YtgaadjlcmgmfaaaGreatWFour
import Derived.Test.YtgaadjlcmgmfaaaGreatWQPut
import Derived.Test.YtgaadjlcmgmfaaaGreatWApart
import Derived.Test.YtgaadjlcmgmfaaaGreatWArr
import Derived.Test.YtgaadjlcmgmfaaaGreatWZeros
import Derived.Test.YtgaadjlcmgmfaaaGreatWFoot
import Derived.Test.YtgaadjlcmgmfaaaGreatWKept
import Derived.Test.YtgaadjlcmgmfaaaGreatWShare
import Derived.Test.YtgaadjlcmgmfaaaGreatWN
import Derived.Test.YtgaadjlcmgmfaaaGreatWFootNe
import Derived.Test.YtgaadjlcmgmfaaaGreatWAt
import Derived.Test.YtgaadjlcmgmfaaaGreatWEqStruct
import Derived.Test.YtgaadjlcmgmfaaaGreatWRepsOne
import Derived.Test.YtgaadjlcmgmfaaaGreatWInv
import Derived.Test.YtgaadjlcmgmfaaaGreatWInvWords
import Derived.Test.YtgaadjlcmgmfaaaGreatWGuard
import Derived.Test.YtgaadjlcmgmfaaaGreatWNEv
import Derived.Test.YtgaadjlcmgmfaaaGreatWMore
namespace Go.Proofs.YtgaadjlcmgmfaaaGreat.PFnExactOpenMarks
open Go.RowKit Go.Proofs.YtgaadjlcmgmfaaaGreatW.PrintWords Go.Proofs.YtgaadjlcmgmfaaaGreatW.PrintLast Go.Proofs.YtgaadjlcmgmfaaaGreatW.PrintMore
attribute [local go_sem] max2_int min2_int max_two min_two max_three min_three max_four min_four   -- for this text's walks alone
set_option linter.unusedVariables false
set_option linter.unusedSimpArgs false



def errW : Option Int → Value
  | none => .nilIface
  | some c => .iface 0 (.int .i64 c)
theorem errW_none : errW none = .nilIface := rfl
theorem errW_some (c : Int) : errW (some c) = .iface 0 (.int .i64 c) := rfl

theorem info3 : (Tryz.prog.info? 3).map (fun i => (i.zero, i.size, i.bytes)) = some (some (.int .i64 0), 1, 8) := by kernel_rfl
theorem info5 : (Tryz.prog.info? 5).map (fun i => (i.zero, i.size, i.bytes)) = some (some (.int .u8 0), 1, 1) := by kernel_rfl
theorem info9 : (Tryz.prog.info? 9).map (fun i => (i.zero, i.size, i.bytes)) = some (some (.string ⟨#[]⟩), 1, 16) := by kernel_rfl
-- the values' own types
def rd_L2 (xs : List (List ByteArray)) (i : Int) : (List ByteArray) := xs.getD i.toNat ([] : List ByteArray)
theorem at_L2 {w : World} {A : Option Addr} {n : Nat} {xs : List (List ByteArray)} (h : Kd.C (Kd.slice 9 Kd.string) w A n xs) (i : Int) (h0 : 0 ≤ i) (h1 : i < n) : ∃ ad A0 c0, A = some ad ∧ w.cell? (ad.add i.toNat) = some (.slice A0 (rd_L2 xs i).length c0) ∧ (rd_L2 xs i).length ≤ c0 ∧ Kd.string.C w A0 (rd_L2 xs i).length (rd_L2 xs i) := by
  obtain ⟨ad, c, e, _, hK, hc0⟩ := Kd.C_get h ([] : List ByteArray) i h0 h1
  have hc : ∀ j u, c[j]? = some u → w.cell? (ad.add (i.toNat * 1 + j)) = some u := hc0
  obtain ⟨A0, c0, rfl, l0, g0⟩ := hK
  exact ⟨ad, A0, c0, e, by have hq := hc 0 _ rfl; rwa [Nat.mul_one, Nat.add_zero] at hq, l0, g0⟩

end Go.Proofs.YtgaadjlcmgmfaaaGreat.PFnExactOpenMarks
