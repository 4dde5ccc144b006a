-- Laid by a program of this session (wip/trim.py): of the words that the kit laid for this seat, those that the laws lean on.
import Derived.Test.YtcdamcfklehedaaDoorVInv
import Derived.Test.YtcdamcfklehedaaDoorVFootNe
namespace Go.Proofs.YtcdamcfklehedaaDoorW.PrintWords
open Go.RowKit
end Go.Proofs.YtcdamcfklehedaaDoorW.PrintWords
namespace Go.Proofs.YtcdamcfklehedaaDoorW.PrintLast
section
variable {ops : Array Oper} {a : Act} {o og : Oper} {g : Nat} {t : Tmp} {u : Bool}
end
end Go.Proofs.YtcdamcfklehedaaDoorW.PrintLast
