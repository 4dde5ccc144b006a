-- Laid by a program of this session (wip/trim.py): of the words that the kit laid for this seat, those that the laws lean on.
import Derived.Test.YtdgmlakgnbmbbaaVWords
import Derived.Laws.StructEq
namespace Go.Proofs.YtdgmlakgnbmbbaaW.PrintWords
open Go.RowKit
section
variable {P : Program} {d : Nat} {xs ys : Array Value} {f : Field} {fs : List Field} {a b : Value} {r s : Bool} {w : World}
end
end Go.Proofs.YtdgmlakgnbmbbaaW.PrintWords
