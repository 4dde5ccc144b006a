import Derived.Test.YtkdkmpbdpniccaaWWords
import Derived.Test.YtkdkmpbdpniccaaWLast
import Derived.Test.YtkdkmpbdpniccaaWTab
import Derived.Test.YtkdkmpbdpniccaaWFour
import Derived.Test.YtkdkmpbdpniccaaWQPut
import Derived.Test.YtkdkmpbdpniccaaWApart
import Derived.Test.YtkdkmpbdpniccaaWArr
import Derived.Test.YtkdkmpbdpniccaaWZeros
import Derived.Test.YtkdkmpbdpniccaaWFoot
import Derived.Test.YtkdkmpbdpniccaaWKept
import Derived.Test.YtkdkmpbdpniccaaWShare
import Derived.Test.YtkdkmpbdpniccaaWN
import Derived.Test.YtkdkmpbdpniccaaWFootNe
import Derived.Test.YtkdkmpbdpniccaaWAt
import Derived.Test.YtkdkmpbdpniccaaWEqStruct
import Derived.Test.YtkdkmpbdpniccaaWRepsOne
import Derived.Test.YtkdkmpbdpniccaaWInv
import Derived.Test.YtkdkmpbdpniccaaWInvWords
import Derived.Test.YtkdkmpbdpniccaaWGuard
import Derived.Test.YtkdkmpbdpniccaaWNEv
import Derived.Test.YtkdkmpbdpniccaaWMore
namespace Go.Proofs.Ytkdkmpbdpniccaa.Up
open Go.RowKit Go.Proofs.YtkdkmpbdpniccaaW.PrintWords Go.Proofs.YtkdkmpbdpniccaaW.PrintLast Go.Proofs.YtkdkmpbdpniccaaW.PrintMore
/-! What holds is carried past plain steps (allocations, draws): short words for long phrases. -/
section
variable {α : Type} {d : Kd α} {e base B g : Nat} {ok : Nat → Prop} {w W W' w1 : World} {v : Value} {xs : List α} {o : Obj}
theorem Rup (h : Aside0 (d.R e W base ok v xs)) (hb : Below W.heap.size W W' := by (with_reducible repeat (first | apply below_alloc | apply pw_below_drewN | apply below_drew1)); exact Below.refl _ _) : d.R e W' base ok v xs := Kd.R_below h.out hb
theorem Sup (h : Aside0 (Kd.S d e W base ok v xs)) (hb : Below W.heap.size W W' := by (with_reducible repeat (first | apply below_alloc | apply pw_below_drewN | apply below_drew1)); exact Below.refl _ _) : Kd.S d e W' base ok v xs := Kd.S_below h.out hb
theorem Nup (h : Aside0 (Kd.N d e W base ok v xs)) (hb : Below W.heap.size W W' := by (with_reducible repeat (first | apply below_alloc | apply pw_below_drewN | apply below_drew1)); exact Below.refl _ _) : Kd.N d e W' base ok v xs := Kd.N_below h.out hb
theorem Vup (h : Aside0 (Kd.V d e W base ok v xs)) (hb : Below W.heap.size W W' := by (with_reducible repeat (first | apply below_alloc | apply pw_below_drewN | apply below_drew1)); exact Below.refl _ _) : Kd.V d e W' base ok v xs := Kd.V_below h.out hb
theorem Kup (h : Aside0 (W.heap[g]? = some o)) (hb : Below W.heap.size W W' := by (with_reducible repeat (first | apply below_alloc | apply pw_below_drewN | apply below_drew1)); exact Below.refl _ _) : W'.heap[g]? = some o := blk_below h.out hb
theorem Bup (h : Aside0 (Below w.heap.size w W)) (hb : Below W.heap.size W W' := by (with_reducible repeat (first | apply below_alloc | apply pw_below_drewN | apply below_drew1)); exact Below.refl _ _) : Below w.heap.size w W' := below_then h.out h.out.size hb
theorem RB (h : Aside0 (d.R e W base ok v xs)) (hb : Below W'.heap.size W' w1) (hs : Below W.heap.size W W' := by (with_reducible repeat (first | apply below_alloc | apply pw_below_drewN | apply below_drew1)); exact Below.refl _ _) : Aside0 (d.R e w1 base ok v xs) := ⟨Kd.R_below (Kd.R_below h.out hs) hb⟩
theorem SB (h : Aside0 (Kd.S d e W base ok v xs)) (hb : Below W'.heap.size W' w1) (hs : Below W.heap.size W W' := by (with_reducible repeat (first | apply below_alloc | apply pw_below_drewN | apply below_drew1)); exact Below.refl _ _) : Aside0 (Kd.S d e w1 base ok v xs) := ⟨Kd.S_below (Kd.S_below h.out hs) hb⟩
theorem NB (h : Aside0 (Kd.N d e W base ok v xs)) (hb : Below W'.heap.size W' w1) (hs : Below W.heap.size W W' := by (with_reducible repeat (first | apply below_alloc | apply pw_below_drewN | apply below_drew1)); exact Below.refl _ _) : Aside0 (Kd.N d e w1 base ok v xs) := ⟨Kd.N_below (Kd.N_below h.out hs) hb⟩
theorem VB (h : Aside0 (Kd.V d e W base ok v xs)) (hb : Below W'.heap.size W' w1) (hs : Below W.heap.size W W' := by (with_reducible repeat (first | apply below_alloc | apply pw_below_drewN | apply below_drew1)); exact Below.refl _ _) : Aside0 (Kd.V d e w1 base ok v xs) := ⟨Kd.V_below (Kd.V_below h.out hs) hb⟩
theorem KB (h : Aside0 (W.heap[g]? = some o)) (hb : Below W'.heap.size W' w1) (hs : Below W.heap.size W W' := by (with_reducible repeat (first | apply below_alloc | apply pw_below_drewN | apply below_drew1)); exact Below.refl _ _) : Aside0 (w1.heap[g]? = some o) := ⟨blk_below (blk_below h.out hs) hb⟩
theorem BB (h : Aside0 (Below w.heap.size w W)) (hb : Below W'.heap.size W' w1) (hs : Below W.heap.size W W' := by (with_reducible repeat (first | apply below_alloc | apply pw_below_drewN | apply below_drew1)); exact Below.refl _ _) : Aside0 (Below w.heap.size w w1) := ⟨below_step (below_then h.out h.out.size hs) hb⟩
end
end Go.Proofs.Ytkdkmpbdpniccaa.Up
