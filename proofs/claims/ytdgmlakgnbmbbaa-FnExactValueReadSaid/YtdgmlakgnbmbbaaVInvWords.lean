-- Laid by a program of this session (wip/trim.py): of the words that the kit laid for this seat, those that the laws lean on.
import Derived.Test.YtdgmlakgnbmbbaaVInv
import Derived.Test.YtdgmlakgnbmbbaaVFootNe
namespace Go.Proofs.YtdgmlakgnbmbbaaW.PrintWords
open Go.RowKit
end Go.Proofs.YtdgmlakgnbmbbaaW.PrintWords
namespace Go.Proofs.YtdgmlakgnbmbbaaW.PrintLast
section
variable {ops : Array Oper} {a : Act} {o og : Oper} {g : Nat} {t : Tmp} {u : Bool}
end
end Go.Proofs.YtdgmlakgnbmbbaaW.PrintLast
