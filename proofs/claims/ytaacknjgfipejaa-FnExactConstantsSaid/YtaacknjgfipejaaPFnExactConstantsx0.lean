-- PRINTED BY print.sh 35421559b90ae4d0a3588c463048766b98c2df88dd9212a6774a882060cdf62d: not written by this session
import Derived.Test.YtaacknjgfipejaaProg
import Derived.Below
import Derived.Deep.Draws
import Derived.Deep.AppendLies
import Derived.Maps.AppendAt
import Derived.OwnWalk
import Derived.Laws.BytesArg
import Derived.Laws.MakeOwn
import Derived.Laws.OwnMore
import Derived.Deep.OwnRows
import Derived.Tactics
import Derived.Lib.ConvBytes
import Derived.Laws.Slices
import Derived.WalkKit
import Derived.KernelRfl
import Derived.RowKit3
import Derived.Deep.LoopGhost
import Derived.Deep.QuietTactic
import Derived.BigQuiet
import Derived.WideLaws
import Derived.Deep.DeepCutAuto
import Derived.Deep.CutBlock
import Derived.Deep.RegionHeld3
import Derived.Laws.Rows
import Derived.Lib.AppendStr
import Derived.ArgAppend
import Derived.Laws.IdiomCopy
import Derived.OrdersHeld
import Derived.Laws.BitsLemmas
import Derived.RowKit
import Derived.Test.YtaacknjgfipejaaWWords
import Derived.Test.YtaacknjgfipejaaWLast
import Derived.Test.YtaacknjgfipejaaWTab
import Derived.Test.YtaacknjgfipejaaWFour
import Derived.Test.YtaacknjgfipejaaWQPut
import Derived.Test.YtaacknjgfipejaaWApart
import Derived.Test.YtaacknjgfipejaaWArr
import Derived.Test.YtaacknjgfipejaaWZeros
import Derived.Test.YtaacknjgfipejaaWFoot
import Derived.Test.YtaacknjgfipejaaWKept
import Derived.Test.YtaacknjgfipejaaWShare
import Derived.Test.YtaacknjgfipejaaWN
import Derived.Test.YtaacknjgfipejaaWFootNe
import Derived.Test.YtaacknjgfipejaaWAt
import Derived.Test.YtaacknjgfipejaaWEqStruct
import Derived.Test.YtaacknjgfipejaaWRepsOne
import Derived.Test.YtaacknjgfipejaaWInv
import Derived.Test.YtaacknjgfipejaaWInvWords
import Derived.Test.YtaacknjgfipejaaWGuard
import Derived.Test.YtaacknjgfipejaaWNEv
import Derived.Test.YtaacknjgfipejaaWMore
namespace Go.Proofs.Ytaacknjgfipejaa.PFnExactConstants
open Go.RowKit Go.Proofs.YtaacknjgfipejaaW.PrintWords Go.Proofs.YtaacknjgfipejaaW.PrintLast Go.Proofs.YtaacknjgfipejaaW.PrintMore
attribute [local go_sem] max2_int min2_int max_two min_two max_three min_three max_four min_four   -- for this text's walks alone
set_option linter.unusedVariables false
set_option linter.unusedSimpArgs false



def errW : Option Int → Value
  | none => .nilIface
  | some c => .iface 0 (.int .i64 c)
theorem errW_none : errW none = .nilIface := rfl
theorem errW_some (c : Int) : errW (some c) = .iface 0 (.int .i64 c) := rfl

-- the values' own types

end Go.Proofs.Ytaacknjgfipejaa.PFnExactConstants
