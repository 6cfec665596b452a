
import Derived.Test.YtcdmkjcaipohiaaWInv
import Derived.Test.YtcdmkjcaipohiaaWFootNe
namespace Go.Proofs.YtcdmkjcaipohiaaW.PrintWords
open Go.RowKit
end Go.Proofs.YtcdmkjcaipohiaaW.PrintWords
namespace Go.Proofs.YtcdmkjcaipohiaaW.PrintLast
section
variable {ops : Array Oper} {a : Act} {o og : Oper} {g : Nat} {t : Tmp} {u : Bool}
end
end Go.Proofs.YtcdmkjcaipohiaaW.PrintLast

