-- Laid by a program of this session (wip/trim.py): of the words that the kit laid for this seat, those that the laws lean on.
import Derived.Test.YtdgmlakgnbmbbaaVTab
namespace Go.Proofs.YtdgmlakgnbmbbaaW.PrintLast
section
variable {P : Program} {ops : Array Oper} {Q : Exit → Act → World → Prop} {md : Region.Mode} {S : World → Prop} {ds : List Nat} {T : Bool × List (List Nat × List Nat)}
end
end Go.Proofs.YtdgmlakgnbmbbaaW.PrintLast
