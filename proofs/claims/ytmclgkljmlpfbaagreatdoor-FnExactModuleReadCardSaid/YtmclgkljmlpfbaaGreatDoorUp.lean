import Derived.Test.YtmclgkljmlpfbaaGreatDoorVWords
import Derived.Test.YtmclgkljmlpfbaaGreatDoorVLast
import Derived.Test.YtmclgkljmlpfbaaGreatDoorVTab
import Derived.Test.YtmclgkljmlpfbaaGreatDoorVFour
import Derived.Test.YtmclgkljmlpfbaaGreatDoorVQPut
import Derived.Test.YtmclgkljmlpfbaaGreatDoorVApart
import Derived.Test.YtmclgkljmlpfbaaGreatDoorVArr
import Derived.Test.YtmclgkljmlpfbaaGreatDoorVZeros
import Derived.Test.YtmclgkljmlpfbaaGreatDoorVFoot
import Derived.Test.YtmclgkljmlpfbaaGreatDoorVKept
import Derived.Test.YtmclgkljmlpfbaaGreatDoorVShare
import Derived.Test.YtmclgkljmlpfbaaGreatDoorVN
import Derived.Test.YtmclgkljmlpfbaaGreatDoorVFootNe
import Derived.Test.YtmclgkljmlpfbaaGreatDoorVAt
import Derived.Test.YtmclgkljmlpfbaaGreatDoorVEqStruct
import Derived.Test.YtmclgkljmlpfbaaGreatDoorVRepsOne
import Derived.Test.YtmclgkljmlpfbaaGreatDoorVInv
import Derived.Test.YtmclgkljmlpfbaaGreatDoorVInvWords
import Derived.Test.YtmclgkljmlpfbaaGreatDoorVGuard
import Derived.Test.YtmclgkljmlpfbaaGreatDoorVNEv
import Derived.Test.YtmclgkljmlpfbaaGreatDoorVMore
namespace Go.Proofs.YtmclgkljmlpfbaaGreatDoor.U
open Go.RowKit Go.Proofs.YtmclgkljmlpfbaaGreatDoorW.PrintWords Go.Proofs.YtmclgkljmlpfbaaGreatDoorW.PrintLast Go.Proofs.YtmclgkljmlpfbaaGreatDoorW.PrintMore
theorem _root_.Go.Proofs.YtmclgkljmlpfbaaGreatDoor.Mk {P : Prop} (h : P) : Aside0 P:=⟨h⟩
theorem ft : ¬ (false = true):=by decide
theorem bs {α β : Type} {a : α} {f : α → Option β} {r : Option β} (h : (some a).bind f = r) : f a = r:=h
/-! What holds is carried past plain steps (allocations, draws): short words for long phrases. -/
section
variable {α : Type} {d : Kd α} {e base B g : Nat} {ok : Nat → Prop} {w W W' w1 : World} {v : Value} {xs : List α} {o : Obj}
theorem Rup (h : Aside0 (d.R e W base ok v xs)) (hb : Below W.heap.size W W':=by (with_reducible repeat (first | apply below_alloc | apply pw_below_drewN | apply below_drew1));exact Below.refl _ _) : d.R e W' base ok v xs:=Kd.R_below h.out hb
theorem Vup (h : Aside0 (Kd.V d e W base ok v xs)) (hb : Below W.heap.size W W':=by (with_reducible repeat (first | apply below_alloc | apply pw_below_drewN | apply below_drew1));exact Below.refl _ _) : Kd.V d e W' base ok v xs:=Kd.V_below h.out hb
theorem Kup (h : Aside0 (W.heap[g]? = some o)) (hb : Below W.heap.size W W':=by (with_reducible repeat (first | apply below_alloc | apply pw_below_drewN | apply below_drew1));exact Below.refl _ _) : W'.heap[g]? = some o:=blk_below h.out hb
theorem Bup (h : Aside0 (Below w.heap.size w W)) (hb : Below W.heap.size W W':=by (with_reducible repeat (first | apply below_alloc | apply pw_below_drewN | apply below_drew1));exact Below.refl _ _) : Below w.heap.size w W':=below_then h.out h.out.size hb
theorem RB (h : Aside0 (d.R e W base ok v xs)) (hb : Below W'.heap.size W' w1) (hs : Below W.heap.size W W':=by (with_reducible repeat (first | apply below_alloc | apply pw_below_drewN | apply below_drew1));exact Below.refl _ _) : Aside0 (d.R e w1 base ok v xs):=⟨Kd.R_below (Kd.R_below h.out hs) hb⟩
theorem VB (h : Aside0 (Kd.V d e W base ok v xs)) (hb : Below W'.heap.size W' w1) (hs : Below W.heap.size W W':=by (with_reducible repeat (first | apply below_alloc | apply pw_below_drewN | apply below_drew1));exact Below.refl _ _) : Aside0 (Kd.V d e w1 base ok v xs):=⟨Kd.V_below (Kd.V_below h.out hs) hb⟩
theorem KB (h : Aside0 (W.heap[g]? = some o)) (hb : Below W'.heap.size W' w1) (hs : Below W.heap.size W W':=by (with_reducible repeat (first | apply below_alloc | apply pw_below_drewN | apply below_drew1));exact Below.refl _ _) : Aside0 (w1.heap[g]? = some o):=⟨blk_below (blk_below h.out hs) hb⟩
theorem BB (h : Aside0 (Below w.heap.size w W)) (hb : Below W'.heap.size W' w1) (hs : Below W.heap.size W W':=by (with_reducible repeat (first | apply below_alloc | apply pw_below_drewN | apply below_drew1));exact Below.refl _ _) : Aside0 (Below w.heap.size w w1):=⟨below_step (below_then h.out h.out.size hs) hb⟩
end
section
variable {P Q R S : Prop}
end
section
variable {α : Type} {d : Kd α} {e base : Nat} {ok : Nat → Prop} {W W' : World} {v : Value} {xs : List α}
theorem Rq (h : d.R e W base ok v xs) (hb : Below W.heap.size W W':=by (with_reducible repeat (first | apply below_alloc | apply pw_below_drewN | apply below_drew1));exact Below.refl _ _) : d.R e W' base ok v xs:=Kd.R_below h hb
theorem Vq (h : Kd.V d e W base ok v xs) (hb : Below W.heap.size W W':=by (with_reducible repeat (first | apply below_alloc | apply pw_below_drewN | apply below_drew1));exact Below.refl _ _) : Kd.V d e W' base ok v xs:=Kd.V_below h hb
end
section
variable {P : Program} {ops : Array Oper} {Q : Exit → Act → World → Prop} {md : Region.Mode} {S : World → Prop} {ds : List Nat} {T : Bool × List (List Nat × List Nat)} {B : List Nat} {oi : Oper} {v : Value} {fuel : Nat} {l l' : Array Bool} {a a' : Act} {w : World}
theorem pu (i : Nat) (N : Option Tmp) (hT : Aside0 (rtab md ops = T)) (h : wpAnyLast P md ops Q S ds fuel l' a' w) (hi : ops[i]? = some oi:=by rfl) (hN : oi.dst = N:=by rfl) (_hl : l.setIfInBounds i true = l':=by (simp only [List.setIfInBounds_toArray,List.set_cons_zero,List.set_cons_succ];first | done | rfl)) (hc : anyT T l.toList l'.toList i = true:=by kernel_rfl)
    (hQ : ∀ c a w,Q (.panic c) (a.put oi.dst v) w → Q (.panic c) a w:=by exact fun _ _ _ h=>h) (hw : Region.wanted oi (yielded ops a.tmps) = true:=by rfl) (hy : ∀ w,(execOp a.eval oi).run P w = .ok (.value v) w:=by (intro w';go_simp;with_reducible rfl)) (ha : a.put N v = a':=by (simp only [Act.put,List.setIfInBounds_toArray,List.set_cons_zero,List.set_cons_succ,i64_w,i32_w];rfl)) : wpAnyLast P md ops Q S ds (fuel + 1) l a w :=
  pure_ l' hi hN (any_of hT.out hc) hQ (Or.inl ⟨hw,hy⟩) ha h
theorem pn (i : Nat) (N : Option Tmp) (h : wpAnyLast P md ops Q S ds fuel l' a' w) (hi : ops[i]? = some oi:=by rfl) (hN : oi.dst = N:=by rfl) (_hl : l.setIfInBounds i true = l':=by (simp only [List.setIfInBounds_toArray,List.set_cons_zero,List.set_cons_succ];first | done | rfl)) (hc : anyB md ops l l' i = true:=by kernel_rfl)
    (hQ : ∀ c a w,Q (.panic c) (a.put oi.dst v) w → Q (.panic c) a w:=by exact fun _ _ _ h=>h) (hw : Region.wanted oi (yielded ops a.tmps) = true:=by rfl) (hy : ∀ w,(execOp a.eval oi).run P w = .ok (.value v) w:=by (intro w';go_simp;with_reducible rfl)) (ha : a.put N v = a':=by (simp only [Act.put,List.setIfInBounds_toArray,List.set_cons_zero,List.set_cons_succ,i64_w,i32_w];rfl)) : wpAnyLast P md ops Q S ds (fuel + 1) l a w :=
  pure_ l' hi hN hc hQ (Or.inl ⟨hw,hy⟩) ha h
theorem pz (i : Nat) (N : Option Tmp) (hT : Aside0 (rtab md ops = T)) (h : wpAnyLast P md ops Q S ds fuel l' a' w) (hi : ops[i]? = some oi:=by rfl) (hN : oi.dst = N:=by rfl) (_hl : l.setIfInBounds i true = l':=by (simp only [List.setIfInBounds_toArray,List.set_cons_zero,List.set_cons_succ];first | done | rfl)) (hc : anyT T l.toList l'.toList i = true:=by kernel_rfl)
    (hQ : ∀ c a w,Q (.panic c) (a.put oi.dst undef) w → Q (.panic c) a w:=by exact fun _ _ _ h=>h) (hw : Region.wanted oi (yielded ops a.tmps) = false:=by rfl) (ha : a.put N undef = a':=by (simp only [Act.put,List.setIfInBounds_toArray,List.set_cons_zero,List.set_cons_succ,i64_w,i32_w];rfl)) : wpAnyLast P md ops Q S ds (fuel + 1) l a w :=
  pure_ l' hi hN (any_of hT.out hc) hQ (Or.inr ⟨hw,rfl⟩) ha h
theorem tk (i : Nat) (N : Option Tmp) (hT : Aside0 (rtab md ops = T)) (hW : Aside0 (waitsOk T.2 B = true)) (hS : S w) (h : wpAnyLast P md ops Q S ds fuel l' a' w) (hi : ops[i]? = some oi:=by rfl) (hN : oi.dst = N:=by rfl) (_hl : l.setIfInBounds i true = l':=by (simp only [List.setIfInBounds_toArray,List.set_cons_zero,List.set_cons_succ];first | done | rfl)) (hc : takeW T B ds l.toList l'.toList i = true:=by kernel_rfl)
    (hQ : ∀ c a w,Q (.panic c) (a.put oi.dst v) w → Q (.panic c) a w:=by exact fun _ _ _ h=>h) (hw : Region.wanted oi (yielded ops a.tmps) = true:=by rfl) (hy : ∀ w,S w → (execOp a.eval oi).run P w = .ok (.value v) w) (ha : a.put N v = a':=by (simp only [Act.put,List.setIfInBounds_toArray,List.set_cons_zero,List.set_cons_succ,i64_w,i32_w];rfl)) : wpAnyLast P md ops Q S ds (fuel + 1) l a w :=
  take_ l' hi hN (take_ofW hT.out hW.out hc) hQ (Or.inl ⟨hw,hy⟩) hS ha h
theorem nm (N : Tmp) {a0 : Act} (h : wpAnyLast P md ops Q S ds fuel l a' w) (h0 : a = a0.put (some N) v:=by rfl) (ha : a0.put (some N) v = a':=by (simp only [Act.put,List.setIfInBounds_toArray,List.set_cons_zero,List.set_cons_succ,i64_w,i32_w];rfl)) : wpAnyLast P md ops Q S ds fuel l a w:=norm_ (h0.trans ha) h
theorem on (i : Nat) (N : Option Tmp) (hT : Aside0 (rtab md ops = T)) (h : ∀ K : Act → World → Prop,Shut (∀ a' w',S w' → (S w' → wpAnyLast P md ops Q S ds fuel l' a' w') → K a' w') → if Region.wanted oi (yielded ops a.tmps) = true then Oper.wp P oi a w K Q else K (a.put N undef) w)
    (hi : ops[i]? = some oi:=by rfl) (hN : oi.dst = N:=by rfl) (_hl : l.setIfInBounds i true = l':=by (simp only [List.setIfInBounds_toArray,List.set_cons_zero,List.set_cons_succ];first | done | rfl)) (hc : (readyT T.2 l.toList == [i] && l.toList.set i true == l'.toList) = true:=by kernel_rfl) (hd : i ∉ ds:=by decide) : wpAnyLast P md ops Q S ds (fuel + 1) l a w:=one_ l' hi hN (one_of hT.out hc) hd h
theorem go {N : Option Tmp} {K : Act → World → Prop} {f : FuncId} {fn : Func} {ag : Array Operand} {ts : Array TypeId} (hf : P.funcs[f]? = some fn) (args : Array Value) (h : Calls P f args w fun e w'=>∃ v,e = .returned v ∧ K (a.put N v) w')
    (hname : (fn.name == "runtime.NumGoroutine") = false := by kernel_rfl) (hb : fn.body.isSome = true := by rfl) (hw : Region.wanted oi (yielded ops a.tmps) = true := by rfl) (hN : oi.dst = N := by rfl) (hop : oi.op = .call { callee := .value (.func f), args := ag, argTypes := ts } := by rfl) (hargs : ag.map a.eval = args := by (try simp only [List.map_toArray, List.map_cons, List.map_nil]); first | done | rfl | (simp only [List.length_drop, List.length_take]; rfl)) : if Region.wanted oi (yielded ops a.tmps) = true then Oper.wp P oi a w K Q else K (a.put N undef) w :=
  goes_ hf hname hb args hw hN hop hargs h
theorem gl {rest : List Oper} (N : Option Tmp) {f : FuncId} {fn : Func} {ag : Array Operand} {ts : Array TypeId} (hf : P.funcs[f]? = some fn) (args : Array Value) (h : Calls P f args w fun e w'=>∃ v,e = .returned v ∧ wpList P ops Q rest (a.put N v) w')
    (hd : oi.dst = N := by rfl) (hg : oi.guard = none := by rfl) (hname : (fn.name == "runtime.NumGoroutine") = false := by kernel_rfl) (hb : fn.body.isSome = true := by rfl) (hop : oi.op = .call { callee := .value (.func f), args := ag, argTypes := ts } := by rfl) (hargs : ag.map a.eval = args := by (try simp only [List.map_toArray, List.map_cons, List.map_nil]); first | done | rfl | (simp only [List.length_drop, List.length_take]; rfl)) : wpList P ops Q (oi :: rest) a w :=
  goesL_ N hd hg hf hname hb args hop hargs h
theorem bx {rest : List Oper} {W : World} (N : Tmp) (t : TypeId) (cs : Array Value) (h : ∀ g,g = W.heap.size → ∀ w1,w1.heap[g]? = some (.cells cs t (0,0)) → Below W.heap.size W w1 → wpList P ops Q rest (a.put oi.dst (.pointer (some ⟨g,0,none⟩))) w1)
    (hd : oi.dst = some N:=by rfl) (hgd : oi.guard = none:=by rfl) (hrun : (execOp a.eval oi).run P W = .ok (.value (.pointer (some ⟨W.heap.size,0,none⟩))) (W.alloc (.cells cs t (0,0))):=by first | (go_simp;done) | (go_simp;rfl)) : wpList P ops Q (oi :: rest) a W :=
  box_event hgd hd hrun h
end
section
variable {P Q : Prop} {w W W0 W' : World} {g g' : Nat} {o : Obj} {a : Addr} {v : Value}
theorem Bx {B : Nat} (h : Aside0 (Below B w W)) (hs : Below B w W → Below B w W0:=by intro h;repeat (first | (with_reducible first | exact h | apply below_alloc | apply pw_below_drewN | apply below_drew1 | refine below_set ?_ (Aside0.out (by assumption))) | exact h)) : Below B w W0:=hs h.out
theorem bfar (h : W.heap[g]? = some o) {p : Addr} (hp : g ≠ p.block) (u : Value) : (W.setCell p u).heap[g]? = some o:=(Below.heap_setCell W p u g hp).trans h
theorem Kx (h : Aside0 P) (hs : P → Q:=by intro h;(repeat (first | (with_reducible first | exact h | refine blk_drewN ?_ _ | refine blk_drew ?_ | refine blk_alloc ?_ _ | refine U.bfar ?_ (Aside0.out (by assumption)) _) | apply blk_put));(try exact h);all_goals rfl) : Q:=hs h.out
theorem gw (hg : g = W.heap.size) (h : Aside0 (Below w.heap.size w W0)) (hs : Below w.heap.size w W0 → Below w.heap.size w W:=by intro h;repeat (first | (with_reducible first | exact h | apply below_alloc | apply pw_below_drewN | apply below_drew1 | refine below_set ?_ (Aside0.out (by assumption))) | exact h)) : Aside0 (w.heap.size ≤ g):=⟨hg ▸ below_size (hs h.out)⟩
theorem nl (hg : g' = W.heap.size) (h : Aside0 (W0.heap[g]? = some o)) (hs : W0.heap[g]? = some o → W.heap[g]? = some o:=by intro h;(repeat (first | (with_reducible first | exact h | refine blk_drewN ?_ _ | refine blk_drew ?_ | refine blk_alloc ?_ _ | refine U.bfar ?_ (Aside0.out (by assumption)) _) | apply blk_put));(try exact h);all_goals rfl) : Aside0 (g ≠ g'):=⟨hg ▸ Nat.ne_of_lt (blk_lt (hs h.out))⟩
theorem ng (hg : g' = W.heap.size) (h : Aside0 (W0.heap[g]? = some o)) (hs : W0.heap[g]? = some o → W.heap[g]? = some o:=by intro h;(repeat (first | (with_reducible first | exact h | refine blk_drewN ?_ _ | refine blk_drew ?_ | refine blk_alloc ?_ _ | refine U.bfar ?_ (Aside0.out (by assumption)) _) | apply blk_put));(try exact h);all_goals rfl) : Aside0 (g' ≠ g):=⟨hg ▸ Nat.ne_of_gt (blk_lt (hs h.out))⟩
theorem hc (HB : Aside0 (Below w.heap.size w W)) (h : w.cell? a = some v) : W.cell? a = some v:=(HB.out.cell (World.block_lt_of_cell? w _ h)).trans h
theorem hd (HB : Aside0 (Below w.heap.size w W)) (h : w.cell? a = some v) (hs : W.cell? a = some v → W'.cell? a = some v:=by exact id) : W'.cell? a = some v:=hs ((HB.out.cell (World.block_lt_of_cell? w _ h)).trans h)
theorem od [Decidable Q] (h : decide Q = true:=by first | (with_reducible assumption) | assumption) : Q:=of_decide_eq_true h
theorem e1 (hb : P) (ha : Q:=by first | rfl | (simp [errW_none,errW_some]<;>rfl) | (simp [*,errW_none,errW_some]<;>rfl)) : Q ∧ P:=⟨ha,hb⟩
theorem e2 (ha : Q:=by first | rfl | (simp;done) | (simp [*];done)) (hb : P:=by repeat (first | exact Drawn0.refl _ | apply Drawn0.step)) : Q ∧ P:=⟨ha,hb⟩
variable {t : TypeId} {l : List Value} {v0 v1 v2 v3 v4 v5 : Value}
theorem c0 (h : Aside0 (W.heap[g]? = some (.cells (List.toArray (v0 :: l)) t (0,0)))) : W.cell? ⟨g,0,none⟩ = some v0:=(blk_cell h.out 0).trans rfl
theorem c1 (h : Aside0 (W.heap[g]? = some (.cells (List.toArray (v0 :: v1 :: l)) t (0,0)))) : W.cell? ⟨g,1,none⟩ = some v1:=(blk_cell h.out 1).trans rfl
theorem c2 (h : Aside0 (W.heap[g]? = some (.cells (List.toArray (v0 :: v1 :: v2 :: l)) t (0,0)))) : W.cell? ⟨g,2,none⟩ = some v2:=(blk_cell h.out 2).trans rfl
theorem c3 (h : Aside0 (W.heap[g]? = some (.cells (List.toArray (v0 :: v1 :: v2 :: v3 :: l)) t (0,0)))) : W.cell? ⟨g,3,none⟩ = some v3:=(blk_cell h.out 3).trans rfl
theorem c4 (h : Aside0 (W.heap[g]? = some (.cells (List.toArray (v0 :: v1 :: v2 :: v3 :: v4 :: l)) t (0,0)))) : W.cell? ⟨g,4,none⟩ = some v4:=(blk_cell h.out 4).trans rfl
theorem c5 (h : Aside0 (W.heap[g]? = some (.cells (List.toArray (v0 :: v1 :: v2 :: v3 :: v4 :: v5 :: l)) t (0,0)))) : W.cell? ⟨g,5,none⟩ = some v5:=(blk_cell h.out 5).trans rfl
end
section
variable {α : Type} {d : Kd α} {w W W' : World} {A : Option Addr} {n : Nat} {xs : List α}
theorem Cx (h : Aside0 (Kd.C d w A n xs)) (hb : Aside0 (Below w.heap.size w W)) (hs : Kd.C d W A n xs → Kd.C d W' A n xs:=by intro h;repeat (first | exact h | (with_reducible refine Kd.C_alloc ?_ _) | (with_reducible refine Kd.C_drewN ?_ _) | (with_reducible refine Kd.C_drew ?_))) : Kd.C d W' A n xs:=hs (Kd.C_below h.out hb.out)
end
section
variable {P Q : Prop} {w W W0 W' : World} {g g' : Nat} {o : Obj} {t : TypeId}
theorem d2 {v0 v1 : Value} (h : Aside0 (W.heap[g]? = some (.cells (List.toArray [v0,v1]) t (0,0)))) : W.cell? ⟨g,0,none⟩ = some v0 ∧ W.cell? ⟨g,1,none⟩ = some v1 ∧ W.frozen? ⟨g,0,none⟩ = false ∧ W.frozen? ⟨g,1,none⟩ = false:=⟨(blk_cell h.out 0).trans rfl,(blk_cell h.out 1).trans rfl,blk_frozen h.out 0,blk_frozen h.out 1⟩
theorem d3 {v0 v1 v2 : Value} (h : Aside0 (W.heap[g]? = some (.cells (List.toArray [v0,v1,v2]) t (0,0)))) : W.cell? ⟨g,0,none⟩ = some v0 ∧ W.cell? ⟨g,1,none⟩ = some v1 ∧ W.cell? ⟨g,2,none⟩ = some v2 ∧ W.frozen? ⟨g,0,none⟩ = false ∧ W.frozen? ⟨g,1,none⟩ = false ∧ W.frozen? ⟨g,2,none⟩ = false:=⟨(blk_cell h.out 0).trans rfl,(blk_cell h.out 1).trans rfl,(blk_cell h.out 2).trans rfl,blk_frozen h.out 0,blk_frozen h.out 1,blk_frozen h.out 2⟩
theorem d4 {v0 v1 v2 v3 : Value} (h : Aside0 (W.heap[g]? = some (.cells (List.toArray [v0,v1,v2,v3]) t (0,0)))) : W.cell? ⟨g,0,none⟩ = some v0 ∧ W.cell? ⟨g,1,none⟩ = some v1 ∧ W.cell? ⟨g,2,none⟩ = some v2 ∧ W.cell? ⟨g,3,none⟩ = some v3 ∧ W.frozen? ⟨g,0,none⟩ = false ∧ W.frozen? ⟨g,1,none⟩ = false ∧ W.frozen? ⟨g,2,none⟩ = false ∧ W.frozen? ⟨g,3,none⟩ = false:=⟨(blk_cell h.out 0).trans rfl,(blk_cell h.out 1).trans rfl,(blk_cell h.out 2).trans rfl,(blk_cell h.out 3).trans rfl,blk_frozen h.out 0,blk_frozen h.out 1,blk_frozen h.out 2,blk_frozen h.out 3⟩
theorem Vf3 {α : Type} {d : Kd α} {e base : Nat} {ok : Nat → Prop} {v : Value} {xs : List α} {u0 u1 u2 : Value} (h : Kd.V d e W base ok v xs) (hn : ∀ k,ok k → k ≠ g) : Kd.V d e (((W.setCell ⟨g,0,none⟩ u0).setCell ⟨g,1,none⟩ u1).setCell ⟨g,2,none⟩ u2) base (fun k=>ok k ∧ k ≠ g) v xs:=Kd.V_far (p:=⟨g,2,none⟩) (Kd.V_far (p:=⟨g,1,none⟩) (Kd.V_far (p:=⟨g,0,none⟩) (Kd.V_mono h (fun k hk=>⟨hk,hn k hk⟩)) (fun _ hk=>hk.2) u0) (fun _ hk=>hk.2) u1) (fun _ hk=>hk.2) u2
theorem Vf5 {α : Type} {d : Kd α} {e base : Nat} {ok : Nat → Prop} {v : Value} {xs : List α} {u0 u1 u2 u3 u4 : Value} (h : Kd.V d e W base ok v xs) (hn : ∀ k,ok k → k ≠ g) : Kd.V d e (((((W.setCell ⟨g,0,none⟩ u0).setCell ⟨g,1,none⟩ u1).setCell ⟨g,2,none⟩ u2).setCell ⟨g,3,none⟩ u3).setCell ⟨g,4,none⟩ u4) base (fun k=>ok k ∧ k ≠ g) v xs:=Kd.V_far (p:=⟨g,4,none⟩) (Kd.V_far (p:=⟨g,3,none⟩) (Kd.V_far (p:=⟨g,2,none⟩) (Kd.V_far (p:=⟨g,1,none⟩) (Kd.V_far (p:=⟨g,0,none⟩) (Kd.V_mono h (fun k hk=>⟨hk,hn k hk⟩)) (fun _ hk=>hk.2) u0) (fun _ hk=>hk.2) u1) (fun _ hk=>hk.2) u2) (fun _ hk=>hk.2) u3) (fun _ hk=>hk.2) u4
theorem Rf3 {α : Type} {d : Kd α} {e base : Nat} {ok : Nat → Prop} {v : Value} {xs : List α} {u0 u1 u2 : Value} (h : d.R e W base ok v xs) (hn : ∀ k,ok k → k ≠ g) : d.R e (((W.setCell ⟨g,0,none⟩ u0).setCell ⟨g,1,none⟩ u1).setCell ⟨g,2,none⟩ u2) base (fun k=>ok k ∧ k ≠ g) v xs:=Kd.R_far (p:=⟨g,2,none⟩) (Kd.R_far (p:=⟨g,1,none⟩) (Kd.R_far (p:=⟨g,0,none⟩) (Kd.R_mono h (fun k hk=>⟨hk,hn k hk⟩)) (fun _ hk=>hk.2) u0) (fun _ hk=>hk.2) u1) (fun _ hk=>hk.2) u2
theorem ip {c : Prop} {_ : Decidable c} {α : Type} {a : Option α} {r : α} (h : (if c then a else none) = some r) : c ∧ a = some r:=by
  by_cases hc : c
  · rw [if_pos hc] at h;exact ⟨hc,h⟩
  · rw [if_neg hc] at h;cases h
theorem bd {α β : Type} {x : Option α} {f : α → Option β} {r : β} (h : x.bind f = some r) : ∃ a,Aside0 (x = some a) ∧ f a = some r:=by
  obtain ⟨a,h1,h2⟩:=Option.bind_eq_some_iff.mp h
  exact ⟨a,⟨h1⟩,h2⟩
end
theorem fin {α : Type} {d : Kd α} {w W : World} {g n c : Nat} {a ad : Addr} {xs : List α} (hk : KeepBut w W g none) (hne : a.block ≠ g) (hlt : a.block < w.heap.size) (hx : W.cell? a = some (.slice (some ad) n c))
    (h : ∀ W',KeepBut w W' g none → ∃ A c,W'.cell? a = some (.slice A n c) ∧ Kd.C d W' A n xs) : ∀ W',KeepBut w W' g none → Kd.C d W' (some ad) n xs:=by
  intro W' hW
  obtain ⟨A,c1,h1,h2⟩:=h W' hW
  have e1 : W'.heap[a.block]? = W.heap[a.block]?:=(hW.2 a.block hlt hne (by simp)).trans (hk.2 a.block hlt hne (by simp)).symm
  have e2 : W'.cell? a = W.cell? a:=by simp [World.cell?,e1]
  rw [e2,hx] at h1
  injection h1 with h1
  injection h1 with h1
  rw [h1]
  exact h2
end Go.Proofs.YtmclgkljmlpfbaaGreatDoor.U
