-- Laid by a program of this session (wip/trim.py): of the words that the kit laid for this seat, those that the laws lean on.
import Derived.Test.YtdgmlakgnbmbbaaVN
namespace Go.Proofs.YtdgmlakgnbmbbaaW.PrintWords
open Go.RowKit
namespace Kd
section
variable {α : Type} {d : Kd α} {W : World} {g n : Nat} {S ok : Nat → Prop} {A : Option Addr} {ad : Addr} {xs : List α}
end
end Kd
end Go.Proofs.YtdgmlakgnbmbbaaW.PrintWords
