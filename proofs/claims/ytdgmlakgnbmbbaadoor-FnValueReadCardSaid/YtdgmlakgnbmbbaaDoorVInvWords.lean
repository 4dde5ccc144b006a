-- squeezed
import Derived.Test.YtdgmlakgnbmbbaaDoorVInv
import Derived.Test.YtdgmlakgnbmbbaaDoorVFootNe
namespace Go.Proofs.YtdgmlakgnbmbbaaDoorW.PrintWords
open Go.RowKit
end Go.Proofs.YtdgmlakgnbmbbaaDoorW.PrintWords
namespace Go.Proofs.YtdgmlakgnbmbbaaDoorW.PrintLast
section
variable {ops : Array Oper} {a : Act} {o og : Oper} {g : Nat} {t : Tmp} {u : Bool}
end
end Go.Proofs.YtdgmlakgnbmbbaaDoorW.PrintLast
