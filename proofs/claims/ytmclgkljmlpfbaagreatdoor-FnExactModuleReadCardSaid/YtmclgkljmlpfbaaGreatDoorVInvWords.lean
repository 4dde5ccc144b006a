-- squeezed
import Derived.Test.YtmclgkljmlpfbaaGreatDoorVInv
import Derived.Test.YtmclgkljmlpfbaaGreatDoorVFootNe
namespace Go.Proofs.YtmclgkljmlpfbaaGreatDoorW.PrintWords
open Go.RowKit
end Go.Proofs.YtmclgkljmlpfbaaGreatDoorW.PrintWords
namespace Go.Proofs.YtmclgkljmlpfbaaGreatDoorW.PrintLast
section
variable {ops : Array Oper} {a : Act} {o og : Oper} {g : Nat} {t : Tmp} {u : Bool}
end
end Go.Proofs.YtmclgkljmlpfbaaGreatDoorW.PrintLast
