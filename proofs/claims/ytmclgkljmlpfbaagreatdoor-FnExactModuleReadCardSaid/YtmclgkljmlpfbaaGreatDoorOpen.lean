-- squeezed
import Derived.Test.YtmclgkljmlpfbaaGreatDoorBase
import Derived.ChangeShapes
import Derived.ChangeArms
import Derived.DataReads
namespace Go.Proofs.YtmclgkljmlpfbaaGreatDoor.Open
open Go.RowKit Go.ChangeShapes Go.WideShapes Go.Proofs.YtmclgkljmlpfbaaGreatDoorW.PrintWords Go.Proofs.YtmclgkljmlpfbaaGreatDoor.Base
def OpensN {α : Type} (P : Program) (W : World) (n : Nat) (t : TypeId) (d : Kd α) (G : α → Prop) : Prop :=
 ∀ (H : Type) (enc : TypeId × Value → H) (cs : List Value) (y : DataW H × List MemPlace),DataW.trod enc P W 0 (fun _=>true) true n t cs = some y → ∃ x,d.K W x cs ∧ G x
def Opens {α : Type} (P : Program) (W : World) (t : TypeId) (d : Kd α) (G : α → Prop) : Prop:=∀ n,OpensN P W n t d G
section
variable {α β : Type} {P : Program} {W : World} {n : Nat} {t e : TypeId} {d : Kd α} {d' : Kd β} {G : α → Prop} {G' : β → Prop}
theorem Opens.mono {G' : α → Prop} (h : Opens P W t d G) (hG : ∀ x,G x → G' x) : Opens P W t d G':=by
 intro n H enc cs y hy
 obtain ⟨x,hK,hx⟩:=h n H enc cs y hy
 exact ⟨x,hK,hG x hx⟩
end
end Go.Proofs.YtmclgkljmlpfbaaGreatDoor.Open
