
import Derived.Test.YtaacknjgfipejaaWInv
import Derived.Test.YtaacknjgfipejaaWFootNe
namespace Go.Proofs.YtaacknjgfipejaaW.PrintWords
open Go.RowKit
end Go.Proofs.YtaacknjgfipejaaW.PrintWords
namespace Go.Proofs.YtaacknjgfipejaaW.PrintLast
section
variable {ops : Array Oper} {a : Act} {o og : Oper} {g : Nat} {t : Tmp} {u : Bool}
end
end Go.Proofs.YtaacknjgfipejaaW.PrintLast

