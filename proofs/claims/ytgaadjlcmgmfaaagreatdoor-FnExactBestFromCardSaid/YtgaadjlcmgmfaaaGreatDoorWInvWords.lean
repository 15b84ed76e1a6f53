-- PRINTED BY print.sh 35421559b90ae4d0a3588c463048766b98c2df88dd9212a6774a882060cdf62d, without what these laws' texts don't name (a program of this session, wip/tools/trim.py)
import Derived.Test.YtgaadjlcmgmfaaaGreatDoorWInv
import Derived.Test.YtgaadjlcmgmfaaaGreatDoorWFootNe
namespace Go.Proofs.YtgaadjlcmgmfaaaGreatDoorW.PrintWords
open Go.RowKit
end Go.Proofs.YtgaadjlcmgmfaaaGreatDoorW.PrintWords
namespace Go.Proofs.YtgaadjlcmgmfaaaGreatDoorW.PrintLast
section
variable {ops : Array Oper} {a : Act} {o og : Oper} {g : Nat} {t : Tmp} {u : Bool}
end
end Go.Proofs.YtgaadjlcmgmfaaaGreatDoorW.PrintLast

