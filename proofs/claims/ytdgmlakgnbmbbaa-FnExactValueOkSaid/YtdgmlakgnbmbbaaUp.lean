import Derived.Test.YtdgmlakgnbmbbaaVWords
import Derived.Test.YtdgmlakgnbmbbaaVLast
import Derived.Test.YtdgmlakgnbmbbaaVTab
import Derived.Test.YtdgmlakgnbmbbaaVFour
import Derived.Test.YtdgmlakgnbmbbaaVQPut
import Derived.Test.YtdgmlakgnbmbbaaVApart
import Derived.Test.YtdgmlakgnbmbbaaVArr
import Derived.Test.YtdgmlakgnbmbbaaVZeros
import Derived.Test.YtdgmlakgnbmbbaaVFoot
import Derived.Test.YtdgmlakgnbmbbaaVKept
import Derived.Test.YtdgmlakgnbmbbaaVShare
import Derived.Test.YtdgmlakgnbmbbaaVN
import Derived.Test.YtdgmlakgnbmbbaaVFootNe
import Derived.Test.YtdgmlakgnbmbbaaVAt
import Derived.Test.YtdgmlakgnbmbbaaVEqStruct
import Derived.Test.YtdgmlakgnbmbbaaVRepsOne
import Derived.Test.YtdgmlakgnbmbbaaVInv
import Derived.Test.YtdgmlakgnbmbbaaVInvWords
import Derived.Test.YtdgmlakgnbmbbaaVGuard
import Derived.Test.YtdgmlakgnbmbbaaVNEv
import Derived.Test.YtdgmlakgnbmbbaaVMore
namespace Go.Proofs.Ytdgmlakgnbmbbaa.Up
open Go.RowKit Go.Proofs.YtdgmlakgnbmbbaaW.PrintWords Go.Proofs.YtdgmlakgnbmbbaaW.PrintLast Go.Proofs.YtdgmlakgnbmbbaaW.PrintMore
/-! What holds is carried past plain steps (allocations, draws): short words for long phrases. -/
section
variable {α : Type} {d : Kd α} {e base B g : Nat} {ok : Nat → Prop} {w W W' w1 : World} {v : Value} {xs : List α} {o : Obj}
theorem Rup (h : Aside0 (d.R e W base ok v xs)) (hb : Below W.heap.size W W' := by (with_reducible repeat (first | apply below_alloc | apply pw_below_drewN | apply below_drew1)); exact Below.refl _ _) : d.R e W' base ok v xs := Kd.R_below h.out hb
theorem Sup (h : Aside0 (Kd.S d e W base ok v xs)) (hb : Below W.heap.size W W' := by (with_reducible repeat (first | apply below_alloc | apply pw_below_drewN | apply below_drew1)); exact Below.refl _ _) : Kd.S d e W' base ok v xs := Kd.S_below h.out hb
theorem Nup (h : Aside0 (Kd.N d e W base ok v xs)) (hb : Below W.heap.size W W' := by (with_reducible repeat (first | apply below_alloc | apply pw_below_drewN | apply below_drew1)); exact Below.refl _ _) : Kd.N d e W' base ok v xs := Kd.N_below h.out hb
theorem Vup (h : Aside0 (Kd.V d e W base ok v xs)) (hb : Below W.heap.size W W' := by (with_reducible repeat (first | apply below_alloc | apply pw_below_drewN | apply below_drew1)); exact Below.refl _ _) : Kd.V d e W' base ok v xs := Kd.V_below h.out hb
theorem Kup (h : Aside0 (W.heap[g]? = some o)) (hb : Below W.heap.size W W' := by (with_reducible repeat (first | apply below_alloc | apply pw_below_drewN | apply below_drew1)); exact Below.refl _ _) : W'.heap[g]? = some o := blk_below h.out hb
theorem Bup (h : Aside0 (Below w.heap.size w W)) (hb : Below W.heap.size W W' := by (with_reducible repeat (first | apply below_alloc | apply pw_below_drewN | apply below_drew1)); exact Below.refl _ _) : Below w.heap.size w W' := below_then h.out h.out.size hb
theorem RB (h : Aside0 (d.R e W base ok v xs)) (hb : Below W'.heap.size W' w1) (hs : Below W.heap.size W W' := by (with_reducible repeat (first | apply below_alloc | apply pw_below_drewN | apply below_drew1)); exact Below.refl _ _) : Aside0 (d.R e w1 base ok v xs) := ⟨Kd.R_below (Kd.R_below h.out hs) hb⟩
theorem SB (h : Aside0 (Kd.S d e W base ok v xs)) (hb : Below W'.heap.size W' w1) (hs : Below W.heap.size W W' := by (with_reducible repeat (first | apply below_alloc | apply pw_below_drewN | apply below_drew1)); exact Below.refl _ _) : Aside0 (Kd.S d e w1 base ok v xs) := ⟨Kd.S_below (Kd.S_below h.out hs) hb⟩
theorem NB (h : Aside0 (Kd.N d e W base ok v xs)) (hb : Below W'.heap.size W' w1) (hs : Below W.heap.size W W' := by (with_reducible repeat (first | apply below_alloc | apply pw_below_drewN | apply below_drew1)); exact Below.refl _ _) : Aside0 (Kd.N d e w1 base ok v xs) := ⟨Kd.N_below (Kd.N_below h.out hs) hb⟩
theorem VB (h : Aside0 (Kd.V d e W base ok v xs)) (hb : Below W'.heap.size W' w1) (hs : Below W.heap.size W W' := by (with_reducible repeat (first | apply below_alloc | apply pw_below_drewN | apply below_drew1)); exact Below.refl _ _) : Aside0 (Kd.V d e w1 base ok v xs) := ⟨Kd.V_below (Kd.V_below h.out hs) hb⟩
theorem KB (h : Aside0 (W.heap[g]? = some o)) (hb : Below W'.heap.size W' w1) (hs : Below W.heap.size W W' := by (with_reducible repeat (first | apply below_alloc | apply pw_below_drewN | apply below_drew1)); exact Below.refl _ _) : Aside0 (w1.heap[g]? = some o) := ⟨blk_below (blk_below h.out hs) hb⟩
theorem BB (h : Aside0 (Below w.heap.size w W)) (hb : Below W'.heap.size W' w1) (hs : Below W.heap.size W W' := by (with_reducible repeat (first | apply below_alloc | apply pw_below_drewN | apply below_drew1)); exact Below.refl _ _) : Aside0 (Below w.heap.size w w1) := ⟨below_step (below_then h.out h.out.size hs) hb⟩
end
section
variable {P Q R S : Prop}
theorem Kp0 (h : Aside0 P) (hs : P → Q := by intro h; repeat (first | (with_reducible first | exact h | apply KeepBut.set_ | apply keep_drewN | apply keep_drew | apply keep_alloc) | exact h)) : Q := hs h.out
theorem Kp (h : Aside0 P) (h2 : Aside0 R) (hs : P → R → Q := by intro h h2; repeat (first | (with_reducible first | exact h | apply KeepBut.set_ | apply keep_drewN | apply keep_drew | apply keep_alloc | refine keep_far ?_ h2 _) | exact h)) : Q := hs h.out h2.out
theorem Bs (h : Aside0 P) (h2 : R) (hs : P → R → Q := by intro h h2; repeat (first | (with_reducible first | exact h | apply below_alloc | apply pw_below_drewN | apply below_drew1 | refine below_set ?_ h2) | exact h)) : Q := hs h.out h2
theorem Bt (h : Aside0 P) (h2 : R) (h3 : Aside0 S) (hs : P → R → S → Q := by intro h h2 h3; repeat (first | (with_reducible first | exact h | apply below_alloc | apply pw_below_drewN | apply below_drew1 | refine below_set ?_ h2 | refine below_set ?_ h3) | exact h)) : Q := hs h.out h2 h3.out
end
section
variable {α : Type} {d : Kd α} {e base : Nat} {ok : Nat → Prop} {W W' : World} {v : Value} {xs : List α}
theorem Rq (h : d.R e W base ok v xs) (hb : Below W.heap.size W W' := by (with_reducible repeat (first | apply below_alloc | apply pw_below_drewN | apply below_drew1)); exact Below.refl _ _) : d.R e W' base ok v xs := Kd.R_below h hb
theorem Sq (h : Kd.S d e W base ok v xs) (hb : Below W.heap.size W W' := by (with_reducible repeat (first | apply below_alloc | apply pw_below_drewN | apply below_drew1)); exact Below.refl _ _) : Kd.S d e W' base ok v xs := Kd.S_below h hb
theorem Nq (h : Kd.N d e W base ok v xs) (hb : Below W.heap.size W W' := by (with_reducible repeat (first | apply below_alloc | apply pw_below_drewN | apply below_drew1)); exact Below.refl _ _) : Kd.N d e W' base ok v xs := Kd.N_below h hb
theorem Vq (h : Kd.V d e W base ok v xs) (hb : Below W.heap.size W W' := by (with_reducible repeat (first | apply below_alloc | apply pw_below_drewN | apply below_drew1)); exact Below.refl _ _) : Kd.V d e W' base ok v xs := Kd.V_below h hb
end
end Go.Proofs.Ytdgmlakgnbmbbaa.Up
