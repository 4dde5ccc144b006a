-- squeezed
import Derived.Test.YtcdamcfklehedaaGreatDoorVInv
import Derived.Test.YtcdamcfklehedaaGreatDoorVFootNe
namespace Go.Proofs.YtcdamcfklehedaaGreatDoorW.PrintWords
open Go.RowKit
end Go.Proofs.YtcdamcfklehedaaGreatDoorW.PrintWords
namespace Go.Proofs.YtcdamcfklehedaaGreatDoorW.PrintLast
section
variable {ops : Array Oper} {a : Act} {o og : Oper} {g : Nat} {t : Tmp} {u : Bool}
end
end Go.Proofs.YtcdamcfklehedaaGreatDoorW.PrintLast
