-- Laid by a program of this session (wip/myprint.py): the kit's print of the functions, contracts of our own among them.
import Derived.Test.YtdgmlakgnbmbbaaDoorOFnValueOkx0
namespace Go.Proofs.YtdgmlakgnbmbbaaDoor.OFnValueOk
open Go.RowKit Go.Proofs.YtdgmlakgnbmbbaaDoorW.PrintWords Go.Proofs.YtdgmlakgnbmbbaaDoorW.PrintLast Go.Proofs.YtdgmlakgnbmbbaaDoorW.PrintMore
attribute [local go_sem] max2_int min2_int max_two min_two max_three min_three max_four min_four   -- for this text's walks alone
set_option linter.unusedVariables false
set_option linter.unusedSimpArgs false

/-- A state of type 79 at block g of W; what its slices lead to came in by w0. -/
def IsS79 (w0 W : World) (g : Nat) (f0 : List Int) (f1 : Int) : Prop:=∃ A0 c0,W.heap[g]? = some (.cells #[.slice A0 f0.length c0,.int .i64 f1] 79 (0,0)) ∧ w0.heap.size ≤ g ∧ Kd.C (Kd.int .u8) w0 A0 f0.length f0
theorem IsS79.grown {w0 W : World} {g : Nat} {f0 : List Int} {f1 : Int} {W1 : World} {row : Option Nat} (h : IsS79 w0 W g f0 f1) (hw : W.grownBy W1 row) (hne : some g ≠ row) : IsS79 w0 W1 g f0 f1:=by
 obtain ⟨A0,c0,hb,hg,hr0⟩:=h
 exact ⟨A0,c0,blk_grown hb hw hne,hg,hr0⟩
theorem IsS79.own_neN {w0 W : World} {g : Nat} {f0 : List Int} {f1 : Int} {α : Type} {d : Kd α} {e : Nat} {base : Nat} {ok : Nat → Prop} {v : Value} {xs : List α} (h : IsS79 w0 W g f0 f1) (ho : Kd.N d e W base ok v xs) (ht : e ≠ 79) : some g ≠ v.ownBlock:=by
 obtain ⟨A0,c0,hb,hg,hr0⟩:=h
 exact Kd.N_ne ho hb ht
theorem IsS79.fresh {w0 W : World} {g : Nat} {f0 : List Int} {f1 : Int} (h : IsS79 w0 W g f0 f1) : ∀ k,W.heap.size ≤ k → k ≠ g:=by
 obtain ⟨A0,c0,hb,hg,hr0⟩:=h
 exact Kd.freshB hb
theorem IsS79.kept {w0 W : World} {g : Nat} {f0 : List Int} {f1 : Int} {W1 : World} {S : Nat → Prop} (h : IsS79 w0 W g f0 f1) (hk : Kept W W1 S) (hne : ¬ S g) : IsS79 w0 W1 g f0 f1:=by
 obtain ⟨A0,c0,hb,hg,hr0⟩:=h
 exact ⟨A0,c0,blk_kept hb hk hne,hg,hr0⟩
theorem IsS79.below {w0 W : World} {g : Nat} {f0 : List Int} {f1 : Int} {W1 : World} (h : IsS79 w0 W g f0 f1) (hw : Below W.heap.size W W1) : IsS79 w0 W1 g f0 f1:=h.grown (grown_of_below hw none) (by simp)
theorem IsS79.alloc {w0 W : World} {g : Nat} {f0 : List Int} {f1 : Int} (h : IsS79 w0 W g f0 f1) (o : Obj) : IsS79 w0 (W.alloc o) g f0 f1:=h.below (below_alloc (Below.refl _ _) o)
theorem IsS79.drewN {w0 W : World} {g : Nat} {f0 : List Int} {f1 : Int} (h : IsS79 w0 W g f0 f1) (m : Nat) : IsS79 w0 (W.drewN m) g f0 f1:=h
theorem IsS79.drew {w0 W : World} {g : Nat} {f0 : List Int} {f1 : Int} (h : IsS79 w0 W g f0 f1) : IsS79 w0 W.drew g f0 f1:=h
theorem IsS79.at_ {w0 W : World} {g : Nat} {f0 : List Int} {f1 : Int} {w' : World} {m : Nat} (hq : W.drewN m = w') (h : IsS79 w0 W g f0 f1) : IsS79 w0 w' g f0 f1:=by subst hq;exact IsS79.drewN h m
theorem IsS79.apart {w0 W : World} {g : Nat} {f0 : List Int} {f1 : Int} {α : Type} {d : Kd α} {e : Nat} {base : Nat} {ok : Nat → Prop} {v : Value} {xs : List α} (h : IsS79 w0 W g f0 f1) (ho : d.R e W base ok v xs) (ht : ∀ q,q ∈ e :: d.E → q ≠ 79) : d.R e W base (fun k => ok k ∧ k ≠ g) v xs:=by
 obtain ⟨A0,c0,hb,hg,hr0⟩:=h
 exact Kd.R_types ho hb ht
theorem IsS79.own_ne {w0 W : World} {g : Nat} {f0 : List Int} {f1 : Int} {α : Type} {d : Kd α} {e : Nat} {base : Nat} {ok : Nat → Prop} {v : Value} {xs : List α} (h : IsS79 w0 W g f0 f1) (ho : d.R e W base ok v xs) (ht : e ≠ 79) : some g ≠ v.ownBlock:=by
 obtain ⟨A0,c0,hb,hg,hr0⟩:=h
 exact Kd.R_ne ho hb ht
theorem IsS79.apartQ {w0 W : World} {g : Nat} {f0 : List Int} {f1 : Int} {α : Type} {d : Kd α} {e : Nat} {base : Nat} {ok : Nat → Prop} {v : Value} {xs : List α} (h : IsS79 w0 W g f0 f1) (ho : d.Q e W base ok v xs) (ht : ∀ q,q ∈ e :: d.E → q ≠ 79) : d.Q e W base (fun k => ok k ∧ k ≠ g) v xs:=by
 obtain ⟨A0,c0,hb,hg,hr0⟩:=h
 exact Kd.Q_types ho hb ht
theorem IsS79.own_neQ {w0 W : World} {g : Nat} {f0 : List Int} {f1 : Int} {α : Type} {d : Kd α} {e : Nat} {base : Nat} {ok : Nat → Prop} {v : Value} {xs : List α} (h : IsS79 w0 W g f0 f1) (ho : d.Q e W base ok v xs) (ht : e ≠ 79) : some g ≠ v.ownBlock:=by
 obtain ⟨A0,c0,hb,hg,hr0⟩:=h
 exact Kd.Q_ne ho hb ht
theorem IsS79.apartS {w0 W : World} {g : Nat} {f0 : List Int} {f1 : Int} {α : Type} {d : Kd α} {e : Nat} {base : Nat} {ok : Nat → Prop} {v : Value} {xs : List α} (h : IsS79 w0 W g f0 f1) (ho : d.S e W base ok v xs) (ht : ∀ q,q ∈ e :: d.E → q ≠ 79) : d.S e W base (fun k => ok k ∧ k ≠ g) v xs:=by
 obtain ⟨A0,c0,hb,hg,hr0⟩:=h
 exact Kd.S_types ho hb ht
theorem IsS79.own_neS {w0 W : World} {g : Nat} {f0 : List Int} {f1 : Int} {α : Type} {d : Kd α} {e : Nat} {base : Nat} {ok : Nat → Prop} {v : Value} {xs : List α} (h : IsS79 w0 W g f0 f1) (ho : d.S e W base ok v xs) (ht : e ≠ 79) : some g ≠ v.ownBlock:=by
 obtain ⟨A0,c0,hb,hg,hr0⟩:=h
 exact Kd.S_ne ho hb ht
theorem IsS79.lt {w0 W : World} {g : Nat} {f0 : List Int} {f1 : Int} (h : IsS79 w0 W g f0 f1) : g < W.heap.size:=by
 obtain ⟨A0,c0,hb,hg,hr0⟩:=h
 exact blk_lt hb
theorem IsS79.ge {w0 W : World} {g : Nat} {f0 : List Int} {f1 : Int} (h : IsS79 w0 W g f0 f1) : w0.heap.size ≤ g:=by
 obtain ⟨A0,c0,hb,hg,hr0⟩:=h
 exact hg
theorem IsS79.ne_blk {w0 W : World} {g : Nat} {f0 : List Int} {f1 : Int} {a : Nat} {cs : Array Value} {t : TypeId} {fr : Nat × Nat} (h : IsS79 w0 W g f0 f1) (hb2 : W.heap[a]? = some (.cells cs t fr)) (ht : t ≠ 79) : g ≠ a:=by
 obtain ⟨A0,c0,hb,hg,hr0⟩:=h
 rintro rfl
 rw [hb] at hb2
 injection hb2 with hb2
 injection hb2 with _ ht2
 exact ht ht2.symm
theorem IsS79.far {w0 W : World} {g : Nat} {f0 : List Int} {f1 : Int} {p : Addr} (h : IsS79 w0 W g f0 f1) (hne : g ≠ p.block) (u : Value) : IsS79 w0 (W.setCell p u) g f0 f1:=by
 obtain ⟨A0,c0,hb,hg,hr0⟩:=h
 exact ⟨A0,c0,blk_far hb hne u,hg,hr0⟩
theorem cellS79_0 {W : World} {g : Nat} {A0 : Option Addr} {c0 : Nat} {f0 : List Int} {f1 : Int} (h : W.heap[g]? = some (.cells #[.slice A0 f0.length c0,.int .i64 f1] 79 (0,0))) : W.cell? ⟨g,0,none⟩ = some (.slice A0 f0.length c0):=(blk_cell h 0).trans rfl
theorem cellS79_1 {W : World} {g : Nat} {A0 : Option Addr} {c0 : Nat} {f0 : List Int} {f1 : Int} (h : W.heap[g]? = some (.cells #[.slice A0 f0.length c0,.int .i64 f1] 79 (0,0))) : W.cell? ⟨g,1,none⟩ = some (.int .i64 f1):=(blk_cell h 1).trans rfl
theorem IsS79.set_1 {w0 W : World} {g : Nat} {f0 : List Int} {f1 : Int} (h : IsS79 w0 W g f0 f1) (x : Int) : IsS79 w0 (W.setCell ⟨g,1,none⟩ (.int .i64 x)) g f0 x:=by
 obtain ⟨A0,c0,hb,hg,hr0⟩:=h
 exact ⟨A0,c0,by simpa using blk_set hb 1 (.int .i64 x),hg,hr0⟩
theorem IsS79.new (w0 W : World) (A0 : Option Addr) (c0 : Nat) (f0 : List Int) (f1 : Int) (hB : Below w0.heap.size w0 W) (hr0 : Kd.C (Kd.int .u8) w0 A0 f0.length f0) : IsS79 w0 (W.alloc (.cells #[.slice A0 f0.length c0,.int .i64 f1] 79)) W.heap.size f0 f1:=⟨A0,c0,by simpa using heap_alloc_new W _,hB.size,hr0⟩

theorem Ip0 {P Q : Prop} (h : Aside0 P) (hs : P → Q := by intro h; repeat (first | (with_reducible first | exact h | apply IsS79.alloc | apply IsS79.drewN | apply IsS79.drew | apply IsS79.set_1) | exact h)) : Q := hs h.out
theorem Ip1 {P Q R : Prop} (h : Aside0 P) (h2 : Aside0 R) (hs : P → R → Q := by intro h h2; repeat (first | (with_reducible first | exact h | apply IsS79.alloc | apply IsS79.drewN | apply IsS79.drew | apply IsS79.set_1 | refine IsS79.far ?_ h2 _) | exact h)) : Q := hs h.out h2.out
/-! ### spec_l6Open: function 23 -/
def spec_l6Open.f (l0 : List Int) : Option (List Int × Int):=if (l0.length : Int) > 2000 then (if 2000 ≤ (l0.length : Int) then (some (l0.take 2000,0)) else (none)) else (some (l0,0))
set_option maxHeartbeats 8000000 in
set_option maxRecDepth 100000 in
theorem spec_l6Open.calls (A0 : Option Addr) (c0 : Nat) (l0 : List Int) (r1 : List Int) (r2 : Int) (w0 w : World) (hB : Below w0.heap.size w0 w) (hr0 : Kd.C (Kd.int .u8) w0 A0 l0.length l0) (hc0 : l0.length ≤ c0) (h : spec_l6Open.f l0 = some (r1,r2)) :
  Calls Tryd.prog 23 #[.slice A0 l0.length c0] w fun e w' => ∃ g_ : Nat,e = .returned (.pointer (some ⟨g_,0,none⟩)) ∧ IsS79 w0 w' g_ r1 r2 ∧ Below w0.heap.size w0 w' ∧ Below w.heap.size w w':=by
 have hu79:=Tryd.underlying79
 have HR0:=Aside0.mk hr0
 have HC0:=Aside0.mk hc0
 clear hr0 hc0
 have HBW:=Aside0.mk (Below.refl w.heap.size w)
 have HW0:=Aside0.mk hB.size
 have HB:=Aside0.mk hB
 clear hB
 have H : (if (l0.length : Int) > 2000 then (if 2000 ≤ (l0.length : Int) then (some (l0.take 2000,0)) else (none)) else (some (l0,0))) = some (r1,r2):=h
 clear h
 by_cases c2 : (l0.length : Int) > 2000
 ·rw [if_pos c2] at H
  have c2b0 : decide (2000 < (l0.length : Int)) = true:=decide_eq_true c2
  have c2b1 : decide (2000 < l0.length) = true:=decide_eq_true (by omega)
  clear c2
  by_cases c3 : 2000 ≤ (l0.length : Int)
  ·rw [if_pos c3] at H
   have c3b0:=eq_true c3
   have c3b1 : decide (2000 ≤ (l0.length : Int)) = true:=decide_eq_true c3
   clear c3
   simp only [Option.some.injEq,Prod.mk.injEq] at H
   obtain ⟨rfl,rfl⟩:=H
   obtain ⟨i04,hi04,_,hsz4,_⟩:=info_parts info5
   obtain ⟨hcut4,hA4,hC4⟩:=print_take_of (P:=Tryd.prog) (Value.int .u8) 0 22 5 .i64 Tryd.underlying22 hi04 hsz4 A0 c0 l0 2000 (by omega) (Up.od) HC0.out
   have HR101:=Aside0.mk (Kd.C_of_reads (h1:=fun _ => rfl) (hA4 _ (Kd.reads_of_C HR0.out)))
   have HC101:=Aside0.mk hC4
   clear hA4 hC4 hi04 hsz4
   go_enter Tryd.func23,Tryd.ntmps23
   go_wp2_with (first | ((with_reducible refine gate_dst (N:=10) rfl ?_);refine Up.bx 10 79 #[.slice A0 (l0.take 2000).length c0,.int .i64 0] ?_;intro gb102 hg w5 hbox hb;have n0_:=Aside0.mk (below_step HBW.out hb);have n1_:=Up.BB HB hb;have n2_:=Aside0.mk (hbox);have n3_:=Up.gw hg HBW;have n4_:=Aside0.mk ((Nat.le_trans HW0.out (by rw [hg];exact (below_size (Up.Bx HBW)) : w.heap.size ≤ gb102) : w0.heap.size ≤ gb102));clear HBW HB;have HBW:=n0_;have HB:=n1_;have BK102:=n2_;have GW102:=n3_;have GE102:=n4_;clear n0_ n1_ n2_ n3_ n4_ hb hbox hg))
   go_ret
   exact ⟨_,rfl,(show IsS79 w0 _ gb102 (l0.take 2000) 0 from ⟨_,_,by (with_reducible repeat (first | refine blk_drewN ?_ _ | refine blk_drew ?_ | refine blk_alloc ?_ _));exact BK102.out,GE102.out,HR101.out⟩),Up.Bx HB,by repeat (first | (with_reducible first | exact HBW.out | apply below_alloc | apply pw_below_drewN | apply below_drew1 | refine below_set ?_ GW102.out) | exact HBW.out)⟩
  ·rw [if_neg c3] at H
   exact absurd H (by simp)
 ·rw [if_neg c2] at H
  have c2b0 : decide (2000 < (l0.length : Int)) = false:=decide_eq_false c2
  have c2b1 : decide (2000 < l0.length) = false:=decide_eq_false (by omega)
  clear c2
  simp only [Option.some.injEq,Prod.mk.injEq] at H
  obtain ⟨rfl,rfl⟩:=H
  go_enter Tryd.func23,Tryd.ntmps23
  go_wp2_with (first | ((with_reducible refine gate_dst (N:=10) rfl ?_);refine Up.bx 10 79 #[.slice A0 l0.length c0,.int .i64 0] ?_;intro gb103 hg w6 hbox hb;have n0_:=Aside0.mk (below_step HBW.out hb);have n1_:=Up.BB HB hb;have n2_:=Aside0.mk (hbox);have n3_:=Up.gw hg HBW;have n4_:=Aside0.mk ((Nat.le_trans HW0.out (by rw [hg];exact (below_size (Up.Bx HBW)) : w.heap.size ≤ gb103) : w0.heap.size ≤ gb103));clear HBW HB;have HBW:=n0_;have HB:=n1_;have BK103:=n2_;have GW103:=n3_;have GE103:=n4_;clear n0_ n1_ n2_ n3_ n4_ hb hbox hg))
  go_ret
  exact ⟨_,rfl,(show IsS79 w0 _ gb103 l0 0 from ⟨_,_,by (with_reducible repeat (first | refine blk_drewN ?_ _ | refine blk_drew ?_ | refine blk_alloc ?_ _));exact BK103.out,GE103.out,HR0.out⟩),Up.Bx HB,by repeat (first | (with_reducible first | exact HBW.out | apply below_alloc | apply pw_below_drewN | apply below_drew1 | refine below_set ?_ GW103.out) | exact HBW.out)⟩

/-! ### spec_l6In: function 59 -/
def spec_l6In.f (a0 : Int) (a1 : Int) (a2 : Int) : Option (Bool):=if a0 ≥ a1 then (some (decide (a0 ≤ a2))) else (some false)
set_option maxHeartbeats 8000000 in
set_option maxRecDepth 100000 in
theorem spec_l6In.calls (a0 : Int) (a1 : Int) (a2 : Int) (r : Bool) (w : World) (h : spec_l6In.f a0 a1 a2 = some r) :
  Calls Tryd.prog 59 #[.int .i64 a0,.int .i64 a1,.int .i64 a2] w fun e w' => e = .returned (.bool r) ∧ Drawn0 w w':=by
 have H : (if a0 ≥ a1 then (some (decide (a0 ≤ a2))) else (some false)) = some r:=h
 clear h
 by_cases c4 : a0 ≥ a1
 ·rw [if_pos c4] at H
  have c4b0 : decide (a1 ≤ a0) = true:=decide_eq_true c4
  clear c4
  obtain rfl:=Option.some.inj H
  go_enter Tryd.func59,Tryd.ntmps59
  go_wp2
  go_ret
  exact Up.e2
 ·rw [if_neg c4] at H
  have c4b0 : decide (a1 ≤ a0) = false:=decide_eq_false c4
  clear c4
  obtain rfl:=Option.some.inj H
  go_enter Tryd.func59,Tryd.ntmps59
  go_wp2
  go_ret
  exact Up.e2

/-! ### spec_l1Kind: function 51 -/
def spec_l1Kind.f (a0 : ByteArray) : Option (Int × Int × Bool):=if (a0.size : Int) = 3 then (if 0 < (a0.size : Int) then (if (bt a0 0) = 83 then (if 1 < (a0.size : Int) then (if (bt a0 1) < 48 then (some (0,0,false)) else (if (bt a0 1) > 57 then (some (0,0,false)) else (if 2 < (a0.size : Int) then (if (bt a0 2) < 48 then (some (0,0,false)) else (if (bt a0 2) > 57 then (some (0,0,false)) else (some (((bt a0 1) - 48) % 256,((bt a0 2) - 48) % 256,true)))) else (none)))) else (none)) else (some (0,0,false))) else (none)) else (some (0,0,false))
set_option maxHeartbeats 8000000 in
set_option maxRecDepth 100000 in
theorem spec_l1Kind.calls (a0 : ByteArray) (r1 : Int) (r2 : Int) (r3 : Bool) (w : World) (h : spec_l1Kind.f a0 = some (r1,r2,r3)) :
  Calls Tryd.prog 51 #[.string a0] w fun e w' => e = .returned (.tuple #[.int .i64 r1,.int .i64 r2,.bool r3]) ∧ Drawn0 w w':=by
 have H : (if (a0.size : Int) = 3 then (if 0 < (a0.size : Int) then (if (bt a0 0) = 83 then (if 1 < (a0.size : Int) then (if (bt a0 1) < 48 then (some (0,0,false)) else (if (bt a0 1) > 57 then (some (0,0,false)) else (if 2 < (a0.size : Int) then (if (bt a0 2) < 48 then (some (0,0,false)) else (if (bt a0 2) > 57 then (some (0,0,false)) else (some (((bt a0 1) - 48) % 256,((bt a0 2) - 48) % 256,true)))) else (none)))) else (none)) else (some (0,0,false))) else (none)) else (some (0,0,false))) = some (r1,r2,r3):=h
 clear h
 by_cases c2 : (a0.size : Int) = 3
 ·rw [if_pos c2] at H
  have c2b0 : ((a0.size : Int) == 3) = true:=beq_iff_eq.mpr c2
  have c2b1 : ((a0.size : Int) != 3) = false:=bne_eq_false_iff_eq.mpr c2
  clear c2
  by_cases c3 : 0 < (a0.size : Int)
  ·rw [if_pos c3] at H
   have c3b0 : decide (0 < (a0.size : Int)) = true:=decide_eq_true c3
   have c3b1 : decide (0 < a0.size) = true:=decide_eq_true (by omega)
   clear c3
   by_cases c5 : (bt a0 0) = 83
   ·rw [if_pos c5] at H
    have c5b0 : ((bt a0 0) == 83) = true:=beq_iff_eq.mpr c5
    have c5b1 : ((bt a0 0) != 83) = false:=bne_eq_false_iff_eq.mpr c5
    clear c5
    by_cases c6 : 1 < (a0.size : Int)
    ·rw [if_pos c6] at H
     have c6b0 : decide (1 < (a0.size : Int)) = true:=decide_eq_true c6
     have c6b1 : decide (1 < a0.size) = true:=decide_eq_true (by omega)
     clear c6
     by_cases c8 : (bt a0 1) < 48
     ·rw [if_pos c8] at H
      have c8b0 : decide ((bt a0 1) < 48) = true:=decide_eq_true c8
      clear c8
      simp only [Option.some.injEq,Prod.mk.injEq] at H
      obtain ⟨rfl,rfl,rfl⟩:=H
      have p4 : 0 ≤ (0 : Int):=(by omega)
      have q4 : 0 < a0.size:=(by have : (0 : Int) < (a0.size : Int):=Up.od;omega)
      have hx4 : ∀ h : 0 < a0.size,((a0[0]'h).toNat : Int) = bt a0 0:=bt_at a0 0
      clear p4
      have qi4 : (0 < (a0.size : Int)) = True:=eq_true (Up.od)
      replace q4:=eq_true q4
      have p7 : 0 ≤ (1 : Int):=(by omega)
      have q7 : 1 < a0.size:=(by have : (1 : Int) < (a0.size : Int):=Up.od;omega)
      have hx7 : ∀ h : 1 < a0.size,((a0[1]'h).toNat : Int) = bt a0 1:=bt_at a0 1
      clear p7
      have qi7 : (1 < (a0.size : Int)) = True:=eq_true (Up.od)
      replace q7:=eq_true q7
      go_enter Tryd.func51,Tryd.ntmps51
      go_wp2
      repeat (go_quiet (fail);try go_wp2)
      go_ret3
      exact Up.e2
     ·rw [if_neg c8] at H
      have c8b0 : decide ((bt a0 1) < 48) = false:=decide_eq_false c8
      clear c8
      by_cases c10 : (bt a0 1) > 57
      ·rw [if_pos c10] at H
       have c10b0 : decide (57 < (bt a0 1)) = true:=decide_eq_true c10
       clear c10
       simp only [Option.some.injEq,Prod.mk.injEq] at H
       obtain ⟨rfl,rfl,rfl⟩:=H
       have p4 : 0 ≤ (0 : Int):=(by omega)
       have q4 : 0 < a0.size:=(by have : (0 : Int) < (a0.size : Int):=Up.od;omega)
       have hx4 : ∀ h : 0 < a0.size,((a0[0]'h).toNat : Int) = bt a0 0:=bt_at a0 0
       clear p4
       have qi4 : (0 < (a0.size : Int)) = True:=eq_true (Up.od)
       replace q4:=eq_true q4
       have p7 : 0 ≤ (1 : Int):=(by omega)
       have q7 : 1 < a0.size:=(by have : (1 : Int) < (a0.size : Int):=Up.od;omega)
       have hx7 : ∀ h : 1 < a0.size,((a0[1]'h).toNat : Int) = bt a0 1:=bt_at a0 1
       clear p7
       have qi7 : (1 < (a0.size : Int)) = True:=eq_true (Up.od)
       replace q7:=eq_true q7
       have p9 : 0 ≤ (1 : Int):=(by omega)
       have q9 : 1 < a0.size:=(by have : (1 : Int) < (a0.size : Int):=Up.od;omega)
       have hx9 : ∀ h : 1 < a0.size,((a0[1]'h).toNat : Int) = bt a0 1:=bt_at a0 1
       clear p9
       have qi9 : (1 < (a0.size : Int)) = True:=eq_true (Up.od)
       replace q9:=eq_true q9
       go_enter Tryd.func51,Tryd.ntmps51
       go_wp2
       repeat (go_quiet (fail);try go_wp2)
       go_ret3
       exact Up.e2
      ·rw [if_neg c10] at H
       have c10b0 : decide (57 < (bt a0 1)) = false:=decide_eq_false c10
       clear c10
       by_cases c11 : 2 < (a0.size : Int)
       ·rw [if_pos c11] at H
        have c11b0 : decide (2 < (a0.size : Int)) = true:=decide_eq_true c11
        have c11b1 : decide (2 < a0.size) = true:=decide_eq_true (by omega)
        clear c11
        by_cases c13 : (bt a0 2) < 48
        ·rw [if_pos c13] at H
         have c13b0 : decide ((bt a0 2) < 48) = true:=decide_eq_true c13
         clear c13
         simp only [Option.some.injEq,Prod.mk.injEq] at H
         obtain ⟨rfl,rfl,rfl⟩:=H
         have p4 : 0 ≤ (0 : Int):=(by omega)
         have q4 : 0 < a0.size:=(by have : (0 : Int) < (a0.size : Int):=Up.od;omega)
         have hx4 : ∀ h : 0 < a0.size,((a0[0]'h).toNat : Int) = bt a0 0:=bt_at a0 0
         clear p4
         have qi4 : (0 < (a0.size : Int)) = True:=eq_true (Up.od)
         replace q4:=eq_true q4
         have p7 : 0 ≤ (1 : Int):=(by omega)
         have q7 : 1 < a0.size:=(by have : (1 : Int) < (a0.size : Int):=Up.od;omega)
         have hx7 : ∀ h : 1 < a0.size,((a0[1]'h).toNat : Int) = bt a0 1:=bt_at a0 1
         clear p7
         have qi7 : (1 < (a0.size : Int)) = True:=eq_true (Up.od)
         replace q7:=eq_true q7
         have p9 : 0 ≤ (1 : Int):=(by omega)
         have q9 : 1 < a0.size:=(by have : (1 : Int) < (a0.size : Int):=Up.od;omega)
         have hx9 : ∀ h : 1 < a0.size,((a0[1]'h).toNat : Int) = bt a0 1:=bt_at a0 1
         clear p9
         have qi9 : (1 < (a0.size : Int)) = True:=eq_true (Up.od)
         replace q9:=eq_true q9
         have p12 : 0 ≤ (2 : Int):=(by omega)
         have q12 : 2 < a0.size:=(by have : (2 : Int) < (a0.size : Int):=Up.od;omega)
         have hx12 : ∀ h : 2 < a0.size,((a0[2]'h).toNat : Int) = bt a0 2:=bt_at a0 2
         clear p12
         have qi12 : (2 < (a0.size : Int)) = True:=eq_true (Up.od)
         replace q12:=eq_true q12
         go_enter Tryd.func51,Tryd.ntmps51
         go_wp2
         repeat (go_quiet (fail);try go_wp2)
         go_ret3
         exact Up.e2
        ·rw [if_neg c13] at H
         have c13b0 : decide ((bt a0 2) < 48) = false:=decide_eq_false c13
         clear c13
         by_cases c15 : (bt a0 2) > 57
         ·rw [if_pos c15] at H
          have c15b0 : decide (57 < (bt a0 2)) = true:=decide_eq_true c15
          clear c15
          simp only [Option.some.injEq,Prod.mk.injEq] at H
          obtain ⟨rfl,rfl,rfl⟩:=H
          have p4 : 0 ≤ (0 : Int):=(by omega)
          have q4 : 0 < a0.size:=(by have : (0 : Int) < (a0.size : Int):=Up.od;omega)
          have hx4 : ∀ h : 0 < a0.size,((a0[0]'h).toNat : Int) = bt a0 0:=bt_at a0 0
          clear p4
          have qi4 : (0 < (a0.size : Int)) = True:=eq_true (Up.od)
          replace q4:=eq_true q4
          have p7 : 0 ≤ (1 : Int):=(by omega)
          have q7 : 1 < a0.size:=(by have : (1 : Int) < (a0.size : Int):=Up.od;omega)
          have hx7 : ∀ h : 1 < a0.size,((a0[1]'h).toNat : Int) = bt a0 1:=bt_at a0 1
          clear p7
          have qi7 : (1 < (a0.size : Int)) = True:=eq_true (Up.od)
          replace q7:=eq_true q7
          have p9 : 0 ≤ (1 : Int):=(by omega)
          have q9 : 1 < a0.size:=(by have : (1 : Int) < (a0.size : Int):=Up.od;omega)
          have hx9 : ∀ h : 1 < a0.size,((a0[1]'h).toNat : Int) = bt a0 1:=bt_at a0 1
          clear p9
          have qi9 : (1 < (a0.size : Int)) = True:=eq_true (Up.od)
          replace q9:=eq_true q9
          have p12 : 0 ≤ (2 : Int):=(by omega)
          have q12 : 2 < a0.size:=(by have : (2 : Int) < (a0.size : Int):=Up.od;omega)
          have hx12 : ∀ h : 2 < a0.size,((a0[2]'h).toNat : Int) = bt a0 2:=bt_at a0 2
          clear p12
          have qi12 : (2 < (a0.size : Int)) = True:=eq_true (Up.od)
          replace q12:=eq_true q12
          have p14 : 0 ≤ (2 : Int):=(by omega)
          have q14 : 2 < a0.size:=(by have : (2 : Int) < (a0.size : Int):=Up.od;omega)
          have hx14 : ∀ h : 2 < a0.size,((a0[2]'h).toNat : Int) = bt a0 2:=bt_at a0 2
          clear p14
          have qi14 : (2 < (a0.size : Int)) = True:=eq_true (Up.od)
          replace q14:=eq_true q14
          go_enter Tryd.func51,Tryd.ntmps51
          go_wp2
          repeat (go_quiet (fail);try go_wp2)
          go_ret3
          exact Up.e2
         ·rw [if_neg c15] at H
          have c15b0 : decide (57 < (bt a0 2)) = false:=decide_eq_false c15
          clear c15
          simp only [Option.some.injEq,Prod.mk.injEq] at H
          obtain ⟨rfl,rfl,rfl⟩:=H
          have p4 : 0 ≤ (0 : Int):=(by omega)
          have q4 : 0 < a0.size:=(by have : (0 : Int) < (a0.size : Int):=Up.od;omega)
          have hx4 : ∀ h : 0 < a0.size,((a0[0]'h).toNat : Int) = bt a0 0:=bt_at a0 0
          clear p4
          have qi4 : (0 < (a0.size : Int)) = True:=eq_true (Up.od)
          replace q4:=eq_true q4
          have p7 : 0 ≤ (1 : Int):=(by omega)
          have q7 : 1 < a0.size:=(by have : (1 : Int) < (a0.size : Int):=Up.od;omega)
          have hx7 : ∀ h : 1 < a0.size,((a0[1]'h).toNat : Int) = bt a0 1:=bt_at a0 1
          clear p7
          have qi7 : (1 < (a0.size : Int)) = True:=eq_true (Up.od)
          replace q7:=eq_true q7
          have p9 : 0 ≤ (1 : Int):=(by omega)
          have q9 : 1 < a0.size:=(by have : (1 : Int) < (a0.size : Int):=Up.od;omega)
          have hx9 : ∀ h : 1 < a0.size,((a0[1]'h).toNat : Int) = bt a0 1:=bt_at a0 1
          clear p9
          have qi9 : (1 < (a0.size : Int)) = True:=eq_true (Up.od)
          replace q9:=eq_true q9
          have p12 : 0 ≤ (2 : Int):=(by omega)
          have q12 : 2 < a0.size:=(by have : (2 : Int) < (a0.size : Int):=Up.od;omega)
          have hx12 : ∀ h : 2 < a0.size,((a0[2]'h).toNat : Int) = bt a0 2:=bt_at a0 2
          clear p12
          have qi12 : (2 < (a0.size : Int)) = True:=eq_true (Up.od)
          replace q12:=eq_true q12
          have p14 : 0 ≤ (2 : Int):=(by omega)
          have q14 : 2 < a0.size:=(by have : (2 : Int) < (a0.size : Int):=Up.od;omega)
          have hx14 : ∀ h : 2 < a0.size,((a0[2]'h).toNat : Int) = bt a0 2:=bt_at a0 2
          clear p14
          have qi14 : (2 < (a0.size : Int)) = True:=eq_true (Up.od)
          replace q14:=eq_true q14
          have p16 : 0 ≤ (1 : Int):=(by omega)
          have q16 : 1 < a0.size:=(by have : (1 : Int) < (a0.size : Int):=Up.od;omega)
          have hx16 : ∀ h : 1 < a0.size,((a0[1]'h).toNat : Int) = bt a0 1:=bt_at a0 1
          clear p16
          have qi16 : (1 < (a0.size : Int)) = True:=eq_true (Up.od)
          replace q16:=eq_true q16
          have p17 : 0 ≤ (2 : Int):=(by omega)
          have q17 : 2 < a0.size:=(by have : (2 : Int) < (a0.size : Int):=Up.od;omega)
          have hx17 : ∀ h : 2 < a0.size,((a0[2]'h).toNat : Int) = bt a0 2:=bt_at a0 2
          clear p17
          have qi17 : (2 < (a0.size : Int)) = True:=eq_true (Up.od)
          replace q17:=eq_true q17
          go_enter Tryd.func51,Tryd.ntmps51
          go_wp2
          repeat (go_quiet (fail);try go_wp2)
          go_ret3
          exact Up.e2
       ·rw [if_neg c11] at H
        exact absurd H (by simp)
    ·rw [if_neg c6] at H
     exact absurd H (by simp)
   ·rw [if_neg c5] at H
    have c5b0 : ((bt a0 0) == 83) = false:=beq_eq_false_iff_ne.mpr c5
    have c5b1 : ((bt a0 0) != 83) = true:=bne_iff_ne.mpr c5
    simp only [Option.some.injEq,Prod.mk.injEq] at H
    obtain ⟨rfl,rfl,rfl⟩:=H
    have p4 : 0 ≤ (0 : Int):=(by omega)
    have q4 : 0 < a0.size:=(by have : (0 : Int) < (a0.size : Int):=Up.od;omega)
    have hx4 : ∀ h : 0 < a0.size,((a0[0]'h).toNat : Int) = bt a0 0:=bt_at a0 0
    clear p4
    have qi4 : (0 < (a0.size : Int)) = True:=eq_true (Up.od)
    replace q4:=eq_true q4
    go_enter Tryd.func51,Tryd.ntmps51
    go_wp2
    repeat (go_quiet (fail);try go_wp2)
    go_ret3
    exact Up.e2
  ·rw [if_neg c3] at H
   exact absurd H (by simp)
 ·rw [if_neg c2] at H
  have c2b0 : ((a0.size : Int) == 3) = false:=beq_eq_false_iff_ne.mpr c2
  have c2b1 : ((a0.size : Int) != 3) = true:=bne_iff_ne.mpr c2
  simp only [Option.some.injEq,Prod.mk.injEq] at H
  obtain ⟨rfl,rfl,rfl⟩:=H
  go_enter Tryd.func51,Tryd.ntmps51
  go_wp2
  repeat (go_quiet (fail);try go_wp2)
  go_ret3
  exact Up.e2

/-! ### spec_l1Has: function 52 -/
def spec_l1Has.f (l0 : List (List (S81))) (a1 : Int) (a2 : Int) : Option (Bool):=if a1 < (l0.length : Int) then (if 0 ≤ a1 then (some (decide (a2 < ((rd_L5 l0 a1).length : Int)))) else (none)) else (some false)
set_option maxHeartbeats 8000000 in
set_option maxRecDepth 100000 in
theorem spec_l1Has.calls (A0 : Option Addr) (c0 : Nat) (l0 : List (List (S81))) (a1 : Int) (a2 : Int) (r : Bool) (w : World) (hr0 : Kd.C (Kd.slice 81 k81) w A0 l0.length l0) (hc0 : l0.length ≤ c0) (h : spec_l1Has.f l0 a1 a2 = some r) :
  Calls Tryd.prog 52 #[.slice A0 l0.length c0,.int .i64 a1,.int .i64 a2] w fun e w' => e = .returned (.bool r) ∧ Drawn0 w w':=by
 have HR0:=Aside0.mk hr0
 have HC0:=Aside0.mk hc0
 clear hr0 hc0
 have H : (if a1 < (l0.length : Int) then (if 0 ≤ a1 then (some (decide (a2 < ((rd_L5 l0 a1).length : Int)))) else (none)) else (some false)) = some r:=h
 clear h
 by_cases c4 : a1 < (l0.length : Int)
 ·rw [if_pos c4] at H
  have c4b0 : decide (a1 < (l0.length : Int)) = true:=decide_eq_true c4
  clear c4
  by_cases c5 : 0 ≤ a1
  ·rw [if_pos c5] at H
   have c5b0 : decide (0 ≤ a1) = true:=decide_eq_true c5
   clear c5
   obtain rfl:=Option.some.inj H
   have p104 : 0 ≤ (a1 : Int):=Up.od
   have q104 : a1 < (l0.length : Int):=Up.od
   obtain ⟨ad104,A104_0,c104_0,e104,hx104_0,hl104_0,hi104_0⟩:=at_L5 HR0.out a1 p104 q104
   cases e104
   have HR104_0:=Aside0.mk hi104_0
   have HC104_0:=Aside0.mk hl104_0
   clear hi104_0 hl104_0
   replace p104:=eq_true p104
   replace q104:=eq_true q104
   go_enter Tryd.func52,Tryd.ntmps52
   go_wp2
   go_ret
   exact Up.e2
  ·rw [if_neg c5] at H
   exact absurd H (by simp)
 ·rw [if_neg c4] at H
  have c4b0 : decide (a1 < (l0.length : Int)) = false:=decide_eq_false c4
  clear c4
  obtain rfl:=Option.some.inj H
  go_enter Tryd.func52,Tryd.ntmps52
  go_wp2
  go_ret
  exact Up.e2

/-! ### spec_l1Base: function 91 -/
def spec_l1Base.f (a0 : ByteArray) : Option (Bool):=if a0.toList = ([110] : List UInt8) then (some true) else (if a0.toList = ([98] : List UInt8) then (some true) else (some (a0.toList == ([111] : List UInt8))))
set_option maxHeartbeats 8000000 in
set_option maxRecDepth 100000 in
theorem spec_l1Base.calls (a0 : ByteArray) (r : Bool) (w : World) (h : spec_l1Base.f a0 = some r) :
  Calls Tryd.prog 91 #[.string a0] w fun e w' => e = .returned (.bool r) ∧ Drawn0 w w':=by
 have H : (if a0.toList = ([110] : List UInt8) then (some true) else (if a0.toList = ([98] : List UInt8) then (some true) else (some (a0.toList == ([111] : List UInt8))))) = some r:=h
 clear h
 by_cases c2 : a0.toList = ([110] : List UInt8)
 ·rw [if_pos c2] at H
  have c2b0 : (a0.toList == ([110] : List UInt8)) = true:=beq_iff_eq.mpr c2
  have c2b1 : (a0.toList != ([110] : List UInt8)) = false:=bne_eq_false_iff_eq.mpr c2
  clear c2
  obtain rfl:=Option.some.inj H
  go_enter Tryd.func91,Tryd.ntmps91
  go_wp2
  go_ret
  exact Up.e2
 ·rw [if_neg c2] at H
  have c2b0 : (a0.toList == ([110] : List UInt8)) = false:=beq_eq_false_iff_ne.mpr c2
  have c2b1 : (a0.toList != ([110] : List UInt8)) = true:=bne_iff_ne.mpr c2
  by_cases c3 : a0.toList = ([98] : List UInt8)
  ·rw [if_pos c3] at H
   have c3b0 : (a0.toList == ([98] : List UInt8)) = true:=beq_iff_eq.mpr c3
   have c3b1 : (a0.toList != ([98] : List UInt8)) = false:=bne_eq_false_iff_eq.mpr c3
   clear c3
   obtain rfl:=Option.some.inj H
   go_enter Tryd.func91,Tryd.ntmps91
   go_wp2
   go_ret
   exact Up.e2
  ·rw [if_neg c3] at H
   have c3b0 : (a0.toList == ([98] : List UInt8)) = false:=beq_eq_false_iff_ne.mpr c3
   have c3b1 : (a0.toList != ([98] : List UInt8)) = true:=bne_iff_ne.mpr c3
   obtain rfl:=Option.some.inj H
   go_enter Tryd.func91,Tryd.ntmps91
   go_wp2
   go_ret
   exact Up.e2

/-! ### spec_l1Field: function 83 -/
def spec_l1Field.f (l0 : List (List (S81))) (a1 : Int) (a2 : Int) (a3 : ByteArray) : Option (Bool):=(spec_l1Kind.f a3).bind fun bt105 => (if bt105.2.2 = true then ((spec_l1Has.f l0 bt105.1 bt105.2.1).bind fun t108 => (if t108 = true then (if bt105.1 < a1 then (some true) else (if bt105.1 = a1 then (some (decide (bt105.2.1 < a2))) else (some false))) else (some false))) else ((spec_l1Base.f a3).bind fun t109 => (some t109)))
set_option maxHeartbeats 8000000 in
set_option maxRecDepth 100000 in
theorem spec_l1Field.calls (A0 : Option Addr) (c0 : Nat) (l0 : List (List (S81))) (a1 : Int) (a2 : Int) (a3 : ByteArray) (r : Bool) (w : World) (hr0 : Kd.C (Kd.slice 81 k81) w A0 l0.length l0) (hc0 : l0.length ≤ c0) (h : spec_l1Field.f l0 a1 a2 a3 = some r) :
  Calls Tryd.prog 83 #[.slice A0 l0.length c0,.int .i64 a1,.int .i64 a2,.string a3] w fun e w' => e = .returned (.bool r) ∧ Drawn0 w w':=by
 have HR0:=Aside0.mk hr0
 have HC0:=Aside0.mk hc0
 clear hr0 hc0
 have H : ((spec_l1Kind.f a3).bind fun bt105 => (if bt105.2.2 = true then ((spec_l1Has.f l0 bt105.1 bt105.2.1).bind fun t108 => (if t108 = true then (if bt105.1 < a1 then (some true) else (if bt105.1 = a1 then (some (decide (bt105.2.1 < a2))) else (some false))) else (some false))) else ((spec_l1Base.f a3).bind fun t109 => (some t109)))) = some r:=h
 clear h
 replace H:=Option.bind_eq_some_iff.mp H
 obtain ⟨⟨t105,t106,t107⟩,A50,H⟩:=H
 replace H : (if t107 = true then ((spec_l1Has.f l0 t105 t106).bind fun t108 => (if t108 = true then (if t105 < a1 then (some true) else (if t105 = a1 then (some (decide (t106 < a2))) else (some false))) else (some false))) else ((spec_l1Base.f a3).bind fun t109 => (some t109))) = some r:=H
 have A5:=Aside0.mk A50
 clear A50
 by_cases c6 : t107 = true
 ·subst c6
  have H1 : ((spec_l1Has.f l0 t105 t106).bind fun t108 => (if t108 = true then (if t105 < a1 then (some true) else (if t105 = a1 then (some (decide (t106 < a2))) else (some false))) else (some false))) = some r:=by rw [if_pos rfl] at H;exact H
  clear H
  have H:=H1
  clear H1
  replace H:=Option.bind_eq_some_iff.mp H
  obtain ⟨t108,A70,H⟩:=H
  replace H : (if t108 = true then (if t105 < a1 then (some true) else (if t105 = a1 then (some (decide (t106 < a2))) else (some false))) else (some false)) = some r:=H
  have A7:=Aside0.mk A70
  clear A70
  by_cases c8 : t108 = true
  ·subst c8
   have H1 : (if t105 < a1 then (some true) else (if t105 = a1 then (some (decide (t106 < a2))) else (some false))) = some r:=by rw [if_pos rfl] at H;exact H
   clear H
   have H:=H1
   clear H1
   by_cases c9 : t105 < a1
   ·rw [if_pos c9] at H
    have c9b0 : decide (t105 < a1) = true:=decide_eq_true c9
    clear c9
    obtain rfl:=Option.some.inj H
    go_enter Tryd.func83,Tryd.ntmps83
    go_wp2_with (first | ((with_reducible refine gate_callee (f:=51) rfl ?_);refine Up.gl (some 14) Tryd.func51 #[.string a3] ?_;(with_reducible refine (spec_l1Kind.calls a3 t105 t106 true _ A5.out).mono ?_);rintro e w' ⟨rfl,⟨nd,rfl⟩⟩;refine ⟨_,rfl,?_⟩) | ((with_reducible refine gate_callee (f:=52) rfl ?_);refine Up.gl (some 25) Tryd.func52 #[.slice A0 l0.length c0,.int .i64 t105,.int .i64 t106] ?_;(with_reducible refine (spec_l1Has.calls _ _ l0 t105 t106 true _ ?side1 ?side2 A7.out).mono ?_);(case side1 => repeat (first | exact HR0.out | (with_reducible refine Kd.C_alloc ?_ _) | (with_reducible refine Kd.C_drewN ?_ _) | (with_reducible refine Kd.C_drew ?_)));(case side2 => exact HC0.out);rintro e w' ⟨rfl,⟨nd,rfl⟩⟩;refine ⟨_,rfl,?_⟩))
    go_ret
    exact Up.e2
   ·rw [if_neg c9] at H
    have c9b0 : decide (t105 < a1) = false:=decide_eq_false c9
    clear c9
    by_cases c10 : t105 = a1
    ·rw [if_pos c10] at H
     have c10b0 : (t105 == a1) = true:=beq_iff_eq.mpr c10
     have c10b1 : (t105 != a1) = false:=bne_eq_false_iff_eq.mpr c10
     clear c10
     obtain rfl:=Option.some.inj H
     go_enter Tryd.func83,Tryd.ntmps83
     go_wp2_with (first | ((with_reducible refine gate_callee (f:=51) rfl ?_);refine Up.gl (some 14) Tryd.func51 #[.string a3] ?_;(with_reducible refine (spec_l1Kind.calls a3 t105 t106 true _ A5.out).mono ?_);rintro e w' ⟨rfl,⟨nd,rfl⟩⟩;refine ⟨_,rfl,?_⟩) | ((with_reducible refine gate_callee (f:=52) rfl ?_);refine Up.gl (some 25) Tryd.func52 #[.slice A0 l0.length c0,.int .i64 t105,.int .i64 t106] ?_;(with_reducible refine (spec_l1Has.calls _ _ l0 t105 t106 true _ ?side1 ?side2 A7.out).mono ?_);(case side1 => repeat (first | exact HR0.out | (with_reducible refine Kd.C_alloc ?_ _) | (with_reducible refine Kd.C_drewN ?_ _) | (with_reducible refine Kd.C_drew ?_)));(case side2 => exact HC0.out);rintro e w' ⟨rfl,⟨nd,rfl⟩⟩;refine ⟨_,rfl,?_⟩))
     go_ret
     exact Up.e2
    ·rw [if_neg c10] at H
     have c10b0 : (t105 == a1) = false:=beq_eq_false_iff_ne.mpr c10
     have c10b1 : (t105 != a1) = true:=bne_iff_ne.mpr c10
     obtain rfl:=Option.some.inj H
     go_enter Tryd.func83,Tryd.ntmps83
     go_wp2_with (first | ((with_reducible refine gate_callee (f:=51) rfl ?_);refine Up.gl (some 14) Tryd.func51 #[.string a3] ?_;(with_reducible refine (spec_l1Kind.calls a3 t105 t106 true _ A5.out).mono ?_);rintro e w' ⟨rfl,⟨nd,rfl⟩⟩;refine ⟨_,rfl,?_⟩) | ((with_reducible refine gate_callee (f:=52) rfl ?_);refine Up.gl (some 25) Tryd.func52 #[.slice A0 l0.length c0,.int .i64 t105,.int .i64 t106] ?_;(with_reducible refine (spec_l1Has.calls _ _ l0 t105 t106 true _ ?side1 ?side2 A7.out).mono ?_);(case side1 => repeat (first | exact HR0.out | (with_reducible refine Kd.C_alloc ?_ _) | (with_reducible refine Kd.C_drewN ?_ _) | (with_reducible refine Kd.C_drew ?_)));(case side2 => exact HC0.out);rintro e w' ⟨rfl,⟨nd,rfl⟩⟩;refine ⟨_,rfl,?_⟩))
     go_ret
     exact Up.e2
  ·replace c8:=Bool.eq_false_iff.mpr c8
   subst c8
   have H1 : (some false) = some r:=by rw [if_neg (show ¬ (false = true) by decide)] at H;exact H
   clear H
   have H:=H1
   clear H1
   obtain rfl:=Option.some.inj H
   go_enter Tryd.func83,Tryd.ntmps83
   go_wp2_with (first | ((with_reducible refine gate_callee (f:=51) rfl ?_);refine Up.gl (some 14) Tryd.func51 #[.string a3] ?_;(with_reducible refine (spec_l1Kind.calls a3 t105 t106 true _ A5.out).mono ?_);rintro e w' ⟨rfl,⟨nd,rfl⟩⟩;refine ⟨_,rfl,?_⟩) | ((with_reducible refine gate_callee (f:=52) rfl ?_);refine Up.gl (some 25) Tryd.func52 #[.slice A0 l0.length c0,.int .i64 t105,.int .i64 t106] ?_;(with_reducible refine (spec_l1Has.calls _ _ l0 t105 t106 false _ ?side1 ?side2 A7.out).mono ?_);(case side1 => repeat (first | exact HR0.out | (with_reducible refine Kd.C_alloc ?_ _) | (with_reducible refine Kd.C_drewN ?_ _) | (with_reducible refine Kd.C_drew ?_)));(case side2 => exact HC0.out);rintro e w' ⟨rfl,⟨nd,rfl⟩⟩;refine ⟨_,rfl,?_⟩))
   go_ret
   exact Up.e2
 ·replace c6:=Bool.eq_false_iff.mpr c6
  subst c6
  have H1 : ((spec_l1Base.f a3).bind fun t109 => (some t109)) = some r:=by rw [if_neg (show ¬ (false = true) by decide)] at H;exact H
  clear H
  have H:=H1
  clear H1
  replace H:=Option.bind_eq_some_iff.mp H
  obtain ⟨t109,A110,H⟩:=H
  replace H : (some t109) = some r:=H
  have A11:=Aside0.mk A110
  clear A110
  obtain rfl:=Option.some.inj H
  go_enter Tryd.func83,Tryd.ntmps83
  go_wp2_with (first | ((with_reducible refine gate_callee (f:=51) rfl ?_);refine Up.gl (some 14) Tryd.func51 #[.string a3] ?_;(with_reducible refine (spec_l1Kind.calls a3 t105 t106 false _ A5.out).mono ?_);rintro e w' ⟨rfl,⟨nd,rfl⟩⟩;refine ⟨_,rfl,?_⟩) | ((with_reducible refine gate_callee (f:=91) rfl ?_);refine Up.gl (some 21) Tryd.func91 #[.string a3] ?_;(with_reducible refine (spec_l1Base.calls a3 t109 _ A11.out).mono ?_);rintro e w' ⟨rfl,⟨nd,rfl⟩⟩;refine ⟨_,rfl,?_⟩))
  go_ret
  exact Up.e2

/-! ### spec_l1Ref: function 92 -/
def spec_l1Ref.f (a0 : ByteArray) : Option (Bool):=if (a0.size : Int) > 0 then (if 0 < (a0.size : Int) then (if (bt a0 0) = 38 then (some true) else (some ((bt a0 0) == 33))) else (none)) else (some false)
set_option maxHeartbeats 8000000 in
set_option maxRecDepth 100000 in
theorem spec_l1Ref.calls (a0 : ByteArray) (r : Bool) (w : World) (h : spec_l1Ref.f a0 = some r) :
  Calls Tryd.prog 92 #[.string a0] w fun e w' => e = .returned (.bool r) ∧ Drawn0 w w':=by
 have H : (if (a0.size : Int) > 0 then (if 0 < (a0.size : Int) then (if (bt a0 0) = 38 then (some true) else (some ((bt a0 0) == 33))) else (none)) else (some false)) = some r:=h
 clear h
 by_cases c2 : (a0.size : Int) > 0
 ·rw [if_pos c2] at H
  have c2b0 : decide (0 < (a0.size : Int)) = true:=decide_eq_true c2
  have c2b1 : decide (0 < a0.size) = true:=decide_eq_true (by omega)
  clear c2
  by_cases c3 : 0 < (a0.size : Int)
  ·rw [if_pos c3] at H
   have c3b0 : decide (0 < (a0.size : Int)) = true:=decide_eq_true c3
   have c3b1 : decide (0 < a0.size) = true:=decide_eq_true (by omega)
   clear c3
   by_cases c5 : (bt a0 0) = 38
   ·rw [if_pos c5] at H
    have c5b0 : ((bt a0 0) == 38) = true:=beq_iff_eq.mpr c5
    have c5b1 : ((bt a0 0) != 38) = false:=bne_eq_false_iff_eq.mpr c5
    clear c5
    obtain rfl:=Option.some.inj H
    have p4 : 0 ≤ (0 : Int):=(by omega)
    have q4 : 0 < a0.size:=(by have : (0 : Int) < (a0.size : Int):=Up.od;omega)
    have hx4 : ∀ h : 0 < a0.size,((a0[0]'h).toNat : Int) = bt a0 0:=bt_at a0 0
    clear p4
    have qi4 : (0 < (a0.size : Int)) = True:=eq_true (Up.od)
    replace q4:=eq_true q4
    go_enter Tryd.func92,Tryd.ntmps92
    go_wp2
    go_ret
    exact Up.e2
   ·rw [if_neg c5] at H
    have c5b0 : ((bt a0 0) == 38) = false:=beq_eq_false_iff_ne.mpr c5
    have c5b1 : ((bt a0 0) != 38) = true:=bne_iff_ne.mpr c5
    obtain rfl:=Option.some.inj H
    have p4 : 0 ≤ (0 : Int):=(by omega)
    have q4 : 0 < a0.size:=(by have : (0 : Int) < (a0.size : Int):=Up.od;omega)
    have hx4 : ∀ h : 0 < a0.size,((a0[0]'h).toNat : Int) = bt a0 0:=bt_at a0 0
    clear p4
    have qi4 : (0 < (a0.size : Int)) = True:=eq_true (Up.od)
    replace q4:=eq_true q4
    have p6 : 0 ≤ (0 : Int):=(by omega)
    have q6 : 0 < a0.size:=(by have : (0 : Int) < (a0.size : Int):=Up.od;omega)
    have hx6 : ∀ h : 0 < a0.size,((a0[0]'h).toNat : Int) = bt a0 0:=bt_at a0 0
    clear p6
    have qi6 : (0 < (a0.size : Int)) = True:=eq_true (Up.od)
    replace q6:=eq_true q6
    go_enter Tryd.func92,Tryd.ntmps92
    go_wp2
    go_ret
    exact Up.e2
  ·rw [if_neg c3] at H
   exact absurd H (by simp)
 ·rw [if_neg c2] at H
  have c2b0 : decide (0 < (a0.size : Int)) = false:=decide_eq_false c2
  have c2b1 : decide (0 < a0.size) = false:=decide_eq_false (by omega)
  clear c2
  obtain rfl:=Option.some.inj H
  go_enter Tryd.func92,Tryd.ntmps92
  go_wp2
  go_ret
  exact Up.e2

/-! ### spec_l1Able: function 84 -/
def spec_l1Able.j0 : Nat → List (List (S81)) → ByteArray → Bool → Option (Int)
 | 0,_,_,_ => none
 | k + 1,x0,x1,x14 => if x14 = true then (some 3) else ((spec_l1Ref.f x1).bind fun t111 => (if t111 = true then (some 2) else ((spec_l1Kind.f x1).bind fun bt112 => (if bt112.2.2 = true then (if 0 ≤ bt112.1 then (if bt112.1 < (x0.length : Int) then (if 0 ≤ bt112.2.1 then (if bt112.2.1 < ((rd_L5 x0 bt112.1).length : Int) then (some ((rd_T81 (rd_L5 x0 bt112.1) bt112.2.1).f0)) else (none)) else (none)) else (none)) else (none)) else (some 7)))))
def spec_l1Able.f (k : Nat) (l0 : List (List (S81))) (a1 : ByteArray) : Option (Int):=(spec_l1Ref.f a1).bind fun t110 => (if t110 = true then (if 0 < (a1.size : Int) then (spec_l1Able.j0 k l0 a1 ((bt a1 0) == 38)) else (none)) else (spec_l1Able.j0 k l0 a1 false))
theorem spec_l1Able.mono_l : ∀ k,(∀ y0 y1 y2,LeO (spec_l1Able.j0 k y0 y1 y2) (spec_l1Able.j0 (k + 1) y0 y1 y2))
 | 0 => fun _ _ _ r h => by simp [spec_l1Able.j0] at h
 | k + 1 => by
  have ih0:=spec_l1Able.mono_l k
  ·intro y0 y1 y2
   unfold spec_l1Able.j0
   repeat' first
   | (with_reducible exact ih0 _ _ _)
   | (with_reducible exact LeO.refl _)
   | (with_reducible exact LeO.none _)
   | (with_reducible refine LeO.ite ?_ ?_)
   | (with_reducible refine LeO.bind ?_ (fun _ => ?_))
   | exact ih0 _ _ _
   | exact LeO.none _
   | refine LeO.ite ?_ ?_
   | refine LeO.bind ?_ (fun _ => ?_)
theorem spec_l1Able.mono : ∀ a0 a1 k,LeO (spec_l1Able.f k a0 a1) (spec_l1Able.f (k + 1) a0 a1):=by
 intro a0 a1 k
 have ih0:=spec_l1Able.mono_l k
 unfold spec_l1Able.f
 repeat' first
   | (with_reducible exact ih0 _ _ _)
   | (with_reducible exact LeO.refl _)
   | (with_reducible exact LeO.none _)
   | (with_reducible refine LeO.ite ?_ ?_)
   | (with_reducible refine LeO.bind ?_ (fun _ => ?_))
   | exact ih0 _ _ _
   | exact LeO.none _
   | refine LeO.ite ?_ ?_
   | refine LeO.bind ?_ (fun _ => ?_)
set_option maxHeartbeats 8000000 in
set_option maxRecDepth 100000 in
theorem spec_l1Able.calls (k : Nat) (A0 : Option Addr) (c0 : Nat) (l0 : List (List (S81))) (a1 : ByteArray) (r : Int) (w : World) (hr0 : Kd.C (Kd.slice 81 k81) w A0 l0.length l0) (hc0 : l0.length ≤ c0) (h : spec_l1Able.f k l0 a1 = some r) :
  Calls Tryd.prog 84 #[.slice A0 l0.length c0,.string a1] w fun e w' => e = .returned (.int .i64 r) ∧ Drawn0 w w':=by
 have HR0:=Aside0.mk hr0
 have HC0:=Aside0.mk hc0
 clear hr0 hc0
 have H : ((spec_l1Ref.f a1).bind fun t110 => (if t110 = true then (if 0 < (a1.size : Int) then (spec_l1Able.j0 k l0 a1 ((bt a1 0) == 38)) else (none)) else (spec_l1Able.j0 k l0 a1 false))) = some r:=h
 clear h
 have HC3:=Aside0.mk H
 clear H
 go_enter Tryd.func84,Tryd.ntmps84
 go_upto_region 1 with (fail)
 go_cut [14] (fun v14 wc => ∃ (kq : Nat) (x14_2 : Bool),v14 = .bool x14_2 ∧ Aside0 (spec_l1Able.j0 kq l0 a1 x14_2 = some r) ∧ Aside0 (kq ≤ k) ∧ Drawn0 w wc)
 case first =>
  have H:=HC3.out
  clear HC3
  replace H:=Option.bind_eq_some_iff.mp H
  obtain ⟨t110,A40,H⟩:=H
  replace H : (if t110 = true then (if 0 < (a1.size : Int) then (spec_l1Able.j0 k l0 a1 ((bt a1 0) == 38)) else (none)) else (spec_l1Able.j0 k l0 a1 false)) = some r:=H
  have A4:=Aside0.mk A40
  clear A40
  by_cases c5 : t110 = true
  ·subst c5
   have H1 : (if 0 < (a1.size : Int) then (spec_l1Able.j0 k l0 a1 ((bt a1 0) == 38)) else (none)) = some r:=by rw [if_pos rfl] at H;exact H
   clear H
   have H:=H1
   clear H1
   by_cases c6 : 0 < (a1.size : Int)
   ·rw [if_pos c6] at H
    have c6b0 : decide (0 < (a1.size : Int)) = true:=decide_eq_true c6
    have c6b1 : decide (0 < a1.size) = true:=decide_eq_true (by omega)
    clear c6
    (first | rw [c6b0] | (simp only [i64_w,i32_w];rw [c6b0]) | skip)
    have H':=Aside0.mk H
    clear H
    go_wp2_with (first | ((with_reducible refine gate_callee (f:=92) rfl ?_);refine Up.gl (some 9) Tryd.func92 #[.string a1] ?_;(with_reducible refine (spec_l1Ref.calls a1 true _ A4.out).mono ?_);rintro e w' ⟨rfl,⟨nd,rfl⟩⟩;refine ⟨_,rfl,?_⟩;have p7 : 0 ≤ (0 : Int):=(by omega);have q7 : 0 < a1.size:=(by have : (0 : Int) < (a1.size : Int):=Up.od;omega);have hx7 : ∀ h : 0 < a1.size,((a1[0]'h).toNat : Int) = bt a1 0:=bt_at a1 0;clear p7;have qi7 : (0 < (a1.size : Int)) = True:=eq_true (Up.od);replace q7:=eq_true q7))
    go_meet
    case rel => exact ⟨_,(((bt a1 0) == 38)),(by first | rfl | (simp;done) | (simp [*];done)),H',⟨by first | omega | exact Nat.le_refl _⟩,by repeat (first | exact Drawn0.refl _ | apply Drawn0.step)⟩
   ·rw [if_neg c6] at H
    exact absurd H (by simp)
  ·replace c5:=Bool.eq_false_iff.mpr c5
   subst c5
   have H1 : (spec_l1Able.j0 k l0 a1 false) = some r:=by rw [if_neg (show ¬ (false = true) by decide)] at H;exact H
   clear H
   have H:=H1
   clear H1
   have H':=Aside0.mk H
   clear H
   go_wp2_with (first | ((with_reducible refine gate_callee (f:=92) rfl ?_);refine Up.gl (some 9) Tryd.func92 #[.string a1] ?_;(with_reducible refine (spec_l1Ref.calls a1 false _ A4.out).mono ?_);rintro e w' ⟨rfl,⟨nd,rfl⟩⟩;refine ⟨_,rfl,?_⟩))
   go_meet
   case rel => exact ⟨_,(false),(by first | rfl | (simp;done) | (simp [*];done)),H',⟨by first | omega | exact Nat.le_refl _⟩,by repeat (first | exact Drawn0.refl _ | apply Drawn0.step)⟩
 case rest =>
  clear HC3
  try clear p2
  try clear c5
  try clear c6
  try clear c6b0
  try clear c6b1
  try clear p7
  try clear q7
  try clear hx7
  try clear qi7
  try clear p7
  try clear q7
  obtain ⟨kq,x14_2,rfl,HA,HJ2,⟨mc2,rfl⟩⟩:=hcut
  cases kq with
  | zero => exact absurd HA.out (by simp [spec_l1Able.j0])
  | succ kj2 =>
   have H:=HA.out
   clear HA
   simp only [spec_l1Able.j0] at H
   by_cases c8 : x14_2 = true
   ·subst c8
    have H1 : (some 3) = some r:=by rw [if_pos rfl] at H;exact H
    clear H
    have H:=H1
    clear H1
    obtain rfl:=Option.some.inj H
    go_wp2
    go_ret
    exact Up.e2
   ·replace c8:=Bool.eq_false_iff.mpr c8
    subst c8
    have H1 : ((spec_l1Ref.f a1).bind fun t111 => (if t111 = true then (some 2) else ((spec_l1Kind.f a1).bind fun bt112 => (if bt112.2.2 = true then (if 0 ≤ bt112.1 then (if bt112.1 < (l0.length : Int) then (if 0 ≤ bt112.2.1 then (if bt112.2.1 < ((rd_L5 l0 bt112.1).length : Int) then (some ((rd_T81 (rd_L5 l0 bt112.1) bt112.2.1).f0)) else (none)) else (none)) else (none)) else (none)) else (some 7))))) = some r:=by rw [if_neg (show ¬ (false = true) by decide)] at H;exact H
    clear H
    have H:=H1
    clear H1
    replace H:=Option.bind_eq_some_iff.mp H
    obtain ⟨t111,A90,H⟩:=H
    replace H : (if t111 = true then (some 2) else ((spec_l1Kind.f a1).bind fun bt112 => (if bt112.2.2 = true then (if 0 ≤ bt112.1 then (if bt112.1 < (l0.length : Int) then (if 0 ≤ bt112.2.1 then (if bt112.2.1 < ((rd_L5 l0 bt112.1).length : Int) then (some ((rd_T81 (rd_L5 l0 bt112.1) bt112.2.1).f0)) else (none)) else (none)) else (none)) else (none)) else (some 7)))) = some r:=H
    have A9:=Aside0.mk A90
    clear A90
    by_cases c10 : t111 = true
    ·subst c10
     have H1 : (some 2) = some r:=by rw [if_pos rfl] at H;exact H
     clear H
     have H:=H1
     clear H1
     obtain rfl:=Option.some.inj H
     go_wp2_with (first | ((with_reducible refine gate_callee (f:=92) rfl ?_);refine Up.gl (some 16) Tryd.func92 #[.string a1] ?_;(with_reducible refine (spec_l1Ref.calls a1 true _ A9.out).mono ?_);rintro e w' ⟨rfl,⟨nd,rfl⟩⟩;refine ⟨_,rfl,?_⟩))
     go_ret
     exact Up.e2
    ·replace c10:=Bool.eq_false_iff.mpr c10
     subst c10
     have H1 : ((spec_l1Kind.f a1).bind fun bt112 => (if bt112.2.2 = true then (if 0 ≤ bt112.1 then (if bt112.1 < (l0.length : Int) then (if 0 ≤ bt112.2.1 then (if bt112.2.1 < ((rd_L5 l0 bt112.1).length : Int) then (some ((rd_T81 (rd_L5 l0 bt112.1) bt112.2.1).f0)) else (none)) else (none)) else (none)) else (none)) else (some 7))) = some r:=by rw [if_neg (show ¬ (false = true) by decide)] at H;exact H
     clear H
     have H:=H1
     clear H1
     replace H:=Option.bind_eq_some_iff.mp H
     obtain ⟨⟨t112,t113,t114⟩,A110,H⟩:=H
     replace H : (if t114 = true then (if 0 ≤ t112 then (if t112 < (l0.length : Int) then (if 0 ≤ t113 then (if t113 < ((rd_L5 l0 t112).length : Int) then (some ((rd_T81 (rd_L5 l0 t112) t113).f0)) else (none)) else (none)) else (none)) else (none)) else (some 7)) = some r:=H
     have A11:=Aside0.mk A110
     clear A110
     by_cases c12 : t114 = true
     ·subst c12
      have H1 : (if 0 ≤ t112 then (if t112 < (l0.length : Int) then (if 0 ≤ t113 then (if t113 < ((rd_L5 l0 t112).length : Int) then (some ((rd_T81 (rd_L5 l0 t112) t113).f0)) else (none)) else (none)) else (none)) else (none)) = some r:=by rw [if_pos rfl] at H;exact H
      clear H
      have H:=H1
      clear H1
      by_cases c13 : 0 ≤ t112
      ·rw [if_pos c13] at H
       have c13b0 : decide (0 ≤ t112) = true:=decide_eq_true c13
       clear c13
       by_cases c14 : t112 < (l0.length : Int)
       ·rw [if_pos c14] at H
        have c14b0 : decide (t112 < (l0.length : Int)) = true:=decide_eq_true c14
        clear c14
        by_cases c15 : 0 ≤ t113
        ·rw [if_pos c15] at H
         have c15b0 : decide (0 ≤ t113) = true:=decide_eq_true c15
         clear c15
         by_cases c16 : t113 < ((rd_L5 l0 t112).length : Int)
         ·rw [if_pos c16] at H
          have c16b0 : decide (t113 < ((rd_L5 l0 t112).length : Int)) = true:=decide_eq_true c16
          clear c16
          obtain rfl:=Option.some.inj H
          go_wp2_with (first | ((with_reducible refine gate_callee (f:=92) rfl ?_);refine Up.gl (some 16) Tryd.func92 #[.string a1] ?_;(with_reducible refine (spec_l1Ref.calls a1 false _ A9.out).mono ?_);rintro e w' ⟨rfl,⟨nd,rfl⟩⟩;refine ⟨_,rfl,?_⟩) | ((with_reducible refine gate_callee (f:=51) rfl ?_);refine Up.gl (some 19) Tryd.func51 #[.string a1] ?_;(with_reducible refine (spec_l1Kind.calls a1 t112 t113 true _ A11.out).mono ?_);rintro e w' ⟨rfl,⟨nd,rfl⟩⟩;refine ⟨_,rfl,?_⟩;have p115 : 0 ≤ (t112 : Int):=Up.od;have q115 : t112 < (l0.length : Int):=Up.od;obtain ⟨ad115,A115_0,c115_0,e115,hx115_0,hl115_0,hi115_0⟩:=at_L5 HR0.out t112 p115 q115;cases e115;have HR115_0:=Aside0.mk hi115_0;have HC115_0:=Aside0.mk hl115_0;clear hi115_0 hl115_0;replace p115:=eq_true p115;replace q115:=eq_true q115;have p116 : 0 ≤ (t113 : Int):=Up.od;have q116 : t113 < ((rd_L5 l0 t112).length : Int):=Up.od;obtain ⟨ad116,A116_1,c116_1,e116,hx116_0,hx116_1,hl116_1,hi116_1⟩:=at_T81 HR115_0.out t113 p116 q116;cases e116;have HR116_1:=Aside0.mk hi116_1;have HC116_1:=Aside0.mk hl116_1;clear hi116_1 hl116_1;replace p116:=eq_true p116;replace q116:=eq_true q116))
          go_ret
          exact Up.e2
         ·rw [if_neg c16] at H
          exact absurd H (by simp)
        ·rw [if_neg c15] at H
         exact absurd H (by simp)
       ·rw [if_neg c14] at H
        exact absurd H (by simp)
      ·rw [if_neg c13] at H
       exact absurd H (by simp)
     ·replace c12:=Bool.eq_false_iff.mpr c12
      subst c12
      have H1 : (some 7) = some r:=by rw [if_neg (show ¬ (false = true) by decide)] at H;exact H
      clear H
      have H:=H1
      clear H1
      obtain rfl:=Option.some.inj H
      go_wp2_with (first | ((with_reducible refine gate_callee (f:=92) rfl ?_);refine Up.gl (some 16) Tryd.func92 #[.string a1] ?_;(with_reducible refine (spec_l1Ref.calls a1 false _ A9.out).mono ?_);rintro e w' ⟨rfl,⟨nd,rfl⟩⟩;refine ⟨_,rfl,?_⟩) | ((with_reducible refine gate_callee (f:=51) rfl ?_);refine Up.gl (some 19) Tryd.func51 #[.string a1] ?_;(with_reducible refine (spec_l1Kind.calls a1 t112 t113 false _ A11.out).mono ?_);rintro e w' ⟨rfl,⟨nd,rfl⟩⟩;refine ⟨_,rfl,?_⟩))
      go_ret
      exact Up.e2

/-! ### spec_l1Can: function 85 -/
def spec_l1Can.f (a0 : Int) (a1 : Int) : Option (Bool):=if a1 = 0 then (none) else (some ((Int.tmod (wrap64 (Int.tdiv a0 a1)) 2) == 1))
set_option maxHeartbeats 8000000 in
set_option maxRecDepth 100000 in
theorem spec_l1Can.calls (a0 : Int) (a1 : Int) (r : Bool) (w : World) (h : spec_l1Can.f a0 a1 = some r) :
  Calls Tryd.prog 85 #[.int .i64 a0,.int .i64 a1] w fun e w' => e = .returned (.bool r) ∧ Drawn0 w w':=by
 have H : (if a1 = 0 then (none) else (some ((Int.tmod (wrap64 (Int.tdiv a0 a1)) 2) == 1))) = some r:=h
 clear h
 by_cases c3 : a1 = 0
 ·rw [if_pos c3] at H
  exact absurd H (by simp)
 ·rw [if_neg c3] at H
  have c3b0 : (a1 == 0) = false:=beq_eq_false_iff_ne.mpr c3
  have c3b1 : (a1 != 0) = true:=bne_iff_ne.mpr c3
  obtain rfl:=Option.some.inj H
  go_enter Tryd.func85,Tryd.ntmps85
  go_wp2
  go_ret
  exact Up.e2

end Go.Proofs.YtdgmlakgnbmbbaaDoor.OFnValueOk
