-- Laid by a program of this session (wip/myprint.py): the kit's print of the functions, contracts of our own among them.
import Derived.Test.YtdgmlakgnbmbbaaDoorOFnValueOkx0
import Derived.Test.YtdgmlakgnbmbbaaDoorOFnValueOkx1
namespace Go.Proofs.YtdgmlakgnbmbbaaDoor.OFnValueOk
open Go.RowKit Go.Proofs.YtdgmlakgnbmbbaaDoorW.PrintWords Go.Proofs.YtdgmlakgnbmbbaaDoorW.PrintLast Go.Proofs.YtdgmlakgnbmbbaaDoorW.PrintMore
attribute [local go_sem] max2_int min2_int max_two min_two max_three min_three max_four min_four   -- for this text's walks alone
set_option linter.unusedVariables false
set_option linter.unusedSimpArgs false

/-! ### spec_l1Record: function 72 -/
mutual
def spec_l1Record.j0 : Nat → List (List (S81)) → Int → Int → Bool → Int → List ByteArray → Option (Bool)
 | 0,_,_,_,_,_,_ => none
 | k + 1,x0,x1,x2,x26,x120000,x120001 => if x26 = true then (some false) else (spec_l1Record.l0 k x0 x1 x2 0 x120000 x120001)
def spec_l1Record.l0 : Nat → List (List (S81)) → Int → Int → Int → Int → List ByteArray → Option (Bool)
 | 0,_,_,_,_,_,_ => none
 | k + 1,x0,x1,x2,x8,x120000,x120001 => if x8 < (x120001.length : Int) then (if 0 ≤ x8 then ((spec_l1Field.f x0 x1 x2 (rdOf ByteArray.empty x120001 x8)).bind fun t122 => (if t122 = true then ((spec_l1Able.f k x0 (rdOf ByteArray.empty x120001 x8)).bind fun t124 => ((spec_l1Can.f x120000 1).bind fun t125 => (if t125 = true then ((spec_l1Can.f t124 1).bind fun t126 => (if t126 = true then ((spec_l1Can.f x120000 2).bind fun t127 => (if t127 = true then ((spec_l1Can.f t124 2).bind fun t128 => (spec_l1Record.j2 k x0 x1 x2 x8 t124 (!t128) x120000 x120001)) else (spec_l1Record.j2 k x0 x1 x2 x8 t124 false x120000 x120001))) else (spec_l1Record.j2 k x0 x1 x2 x8 t124 true x120000 x120001))) else ((spec_l1Can.f x120000 2).bind fun t129 => (if t129 = true then ((spec_l1Can.f t124 2).bind fun t130 => (spec_l1Record.j2 k x0 x1 x2 x8 t124 (!t130) x120000 x120001)) else (spec_l1Record.j2 k x0 x1 x2 x8 t124 false x120000 x120001)))))) else (some false))) else (none)) else (some true)
def spec_l1Record.j2 : Nat → List (List (S81)) → Int → Int → Int → Int → Bool → Int → List ByteArray → Option (Bool)
 | 0,_,_,_,_,_,_,_,_ => none
 | k + 1,x0,x1,x2,x8,x9,x68,x120000,x120001 => if x68 = true then (some false) else (if x120000 ≥ 4 then ((spec_l1Can.f x9 4).bind fun t131 => (if t131 = true then (spec_l1Record.l0 k x0 x1 x2 (wrap64 (x8 + 1)) x120000 x120001) else (some false))) else (spec_l1Record.l0 k x0 x1 x2 (wrap64 (x8 + 1)) x120000 x120001))
end
def spec_l1Record.f (k : Nat) (l0 : List (List (S81))) (a1 : Int) (a2 : Int) : Option (Bool):=if 0 ≤ a1 then (if a1 < (l0.length : Int) then (if 0 ≤ a2 then (if a2 < ((rd_L5 l0 a1).length : Int) then ((spec_l6In.f ((rd_T81 (rd_L5 l0 a1) a2).f0) 0 15).bind fun t120 => (if t120 = true then (spec_l1Record.j0 k l0 a1 a2 (decide ((((rd_T81 (rd_L5 l0 a1) a2).f1).length : Int) > 3)) ((rd_T81 (rd_L5 l0 a1) a2).f0) ((rd_T81 (rd_L5 l0 a1) a2).f1)) else (spec_l1Record.j0 k l0 a1 a2 true ((rd_T81 (rd_L5 l0 a1) a2).f0) ((rd_T81 (rd_L5 l0 a1) a2).f1)))) else (none)) else (none)) else (none)) else (none)
theorem spec_l1Record.mono_l : ∀ k,(∀ y0 y1 y2 y3 y4 y5,LeO (spec_l1Record.j0 k y0 y1 y2 y3 y4 y5) (spec_l1Record.j0 (k + 1) y0 y1 y2 y3 y4 y5)) ∧ (∀ y0 y1 y2 y3 y4 y5,LeO (spec_l1Record.l0 k y0 y1 y2 y3 y4 y5) (spec_l1Record.l0 (k + 1) y0 y1 y2 y3 y4 y5)) ∧ (∀ y0 y1 y2 y3 y4 y5 y6 y7,LeO (spec_l1Record.j2 k y0 y1 y2 y3 y4 y5 y6 y7) (spec_l1Record.j2 (k + 1) y0 y1 y2 y3 y4 y5 y6 y7))
 | 0 => ⟨fun _ _ _ _ _ _ r h => by simp [spec_l1Record.j0] at h,fun _ _ _ _ _ _ r h => by simp [spec_l1Record.l0] at h,fun _ _ _ _ _ _ _ _ r h => by simp [spec_l1Record.j2] at h⟩
 | k + 1 => by
  obtain ⟨ih0,ih1,ih2⟩:=spec_l1Record.mono_l k
  refine ⟨?_,?_,?_⟩
  ·intro y0 y1 y2 y3 y4 y5
   unfold spec_l1Record.j0
   repeat' first
   | (with_reducible exact ih0 _ _ _ _ _ _)
   | (with_reducible exact ih1 _ _ _ _ _ _)
   | (with_reducible exact ih2 _ _ _ _ _ _ _ _)
   | (with_reducible exact spec_l1Able.mono _ _ _)
   | (with_reducible exact LeO.refl _)
   | (with_reducible exact LeO.none _)
   | (with_reducible refine LeO.ite ?_ ?_)
   | (with_reducible refine LeO.bind ?_ (fun _ => ?_))
   | exact ih0 _ _ _ _ _ _
   | exact ih1 _ _ _ _ _ _
   | exact ih2 _ _ _ _ _ _ _ _
   | exact spec_l1Able.mono _ _ _
   | exact LeO.none _
   | refine LeO.ite ?_ ?_
   | refine LeO.bind ?_ (fun _ => ?_)
  ·intro y0 y1 y2 y3 y4 y5
   unfold spec_l1Record.l0
   repeat' first
   | (with_reducible exact ih0 _ _ _ _ _ _)
   | (with_reducible exact ih1 _ _ _ _ _ _)
   | (with_reducible exact ih2 _ _ _ _ _ _ _ _)
   | (with_reducible exact spec_l1Able.mono _ _ _)
   | (with_reducible exact LeO.refl _)
   | (with_reducible exact LeO.none _)
   | (with_reducible refine LeO.ite ?_ ?_)
   | (with_reducible refine LeO.bind ?_ (fun _ => ?_))
   | exact ih0 _ _ _ _ _ _
   | exact ih1 _ _ _ _ _ _
   | exact ih2 _ _ _ _ _ _ _ _
   | exact spec_l1Able.mono _ _ _
   | exact LeO.none _
   | refine LeO.ite ?_ ?_
   | refine LeO.bind ?_ (fun _ => ?_)
  ·intro y0 y1 y2 y3 y4 y5 y6 y7
   unfold spec_l1Record.j2
   repeat' first
   | (with_reducible exact ih0 _ _ _ _ _ _)
   | (with_reducible exact ih1 _ _ _ _ _ _)
   | (with_reducible exact ih2 _ _ _ _ _ _ _ _)
   | (with_reducible exact spec_l1Able.mono _ _ _)
   | (with_reducible exact LeO.refl _)
   | (with_reducible exact LeO.none _)
   | (with_reducible refine LeO.ite ?_ ?_)
   | (with_reducible refine LeO.bind ?_ (fun _ => ?_))
   | exact ih0 _ _ _ _ _ _
   | exact ih1 _ _ _ _ _ _
   | exact ih2 _ _ _ _ _ _ _ _
   | exact spec_l1Able.mono _ _ _
   | exact LeO.none _
   | refine LeO.ite ?_ ?_
   | refine LeO.bind ?_ (fun _ => ?_)
theorem spec_l1Record.mono : ∀ a0 a1 a2 k,LeO (spec_l1Record.f k a0 a1 a2) (spec_l1Record.f (k + 1) a0 a1 a2):=by
 intro a0 a1 a2 k
 obtain ⟨ih0,ih1,ih2⟩:=spec_l1Record.mono_l k
 unfold spec_l1Record.f
 repeat' first
   | (with_reducible exact ih0 _ _ _ _ _ _)
   | (with_reducible exact ih1 _ _ _ _ _ _)
   | (with_reducible exact ih2 _ _ _ _ _ _ _ _)
   | (with_reducible exact spec_l1Able.mono _ _ _)
   | (with_reducible exact LeO.refl _)
   | (with_reducible exact LeO.none _)
   | (with_reducible refine LeO.ite ?_ ?_)
   | (with_reducible refine LeO.bind ?_ (fun _ => ?_))
   | exact ih0 _ _ _ _ _ _
   | exact ih1 _ _ _ _ _ _
   | exact ih2 _ _ _ _ _ _ _ _
   | exact spec_l1Able.mono _ _ _
   | exact LeO.none _
   | refine LeO.ite ?_ ?_
   | refine LeO.bind ?_ (fun _ => ?_)
set_option maxHeartbeats 8000000 in
set_option maxRecDepth 100000 in
theorem spec_l1Record.calls (k : Nat) (A0 : Option Addr) (c0 : Nat) (l0 : List (List (S81))) (a1 : Int) (a2 : Int) (r : Bool) (w : World) (hr0 : Kd.C (Kd.slice 81 k81) w A0 l0.length l0) (hc0 : l0.length ≤ c0) (h : spec_l1Record.f k l0 a1 a2 = some r) :
  Calls Tryd.prog 72 #[.slice A0 l0.length c0,.int .i64 a1,.int .i64 a2] w fun e w' => e = .returned (.bool r) ∧ Below w.heap.size w w':=by
 have hu81:=Tryd.underlying81
 have HR0:=Aside0.mk hr0
 have HC0:=Aside0.mk hc0
 clear hr0 hc0
 have HB:=Aside0.mk (Below.refl w.heap.size w)
 have H : (if 0 ≤ a1 then (if a1 < (l0.length : Int) then (if 0 ≤ a2 then (if a2 < ((rd_L5 l0 a1).length : Int) then ((spec_l6In.f ((rd_T81 (rd_L5 l0 a1) a2).f0) 0 15).bind fun t120 => (if t120 = true then (spec_l1Record.j0 k l0 a1 a2 (decide ((((rd_T81 (rd_L5 l0 a1) a2).f1).length : Int) > 3)) ((rd_T81 (rd_L5 l0 a1) a2).f0) ((rd_T81 (rd_L5 l0 a1) a2).f1)) else (spec_l1Record.j0 k l0 a1 a2 true ((rd_T81 (rd_L5 l0 a1) a2).f0) ((rd_T81 (rd_L5 l0 a1) a2).f1)))) else (none)) else (none)) else (none)) else (none)) = some r:=h
 clear h
 by_cases c4 : 0 ≤ a1
 ·rw [if_pos c4] at H
  have c4b0 : decide (0 ≤ a1) = true:=decide_eq_true c4
  clear c4
  by_cases c5 : a1 < (l0.length : Int)
  ·rw [if_pos c5] at H
   have c5b0 : decide (a1 < (l0.length : Int)) = true:=decide_eq_true c5
   clear c5
   by_cases c6 : 0 ≤ a2
   ·rw [if_pos c6] at H
    have c6b0 : decide (0 ≤ a2) = true:=decide_eq_true c6
    clear c6
    by_cases c7 : a2 < ((rd_L5 l0 a1).length : Int)
    ·rw [if_pos c7] at H
     have c7b0 : decide (a2 < ((rd_L5 l0 a1).length : Int)) = true:=decide_eq_true c7
     clear c7
     have HC8:=Aside0.mk H
     clear H
     have p117 : 0 ≤ (a1 : Int):=Up.od
     have q117 : a1 < (l0.length : Int):=Up.od
     obtain ⟨ad117,A117_0,c117_0,e117,hx117_0,hl117_0,hi117_0⟩:=at_L5 HR0.out a1 p117 q117
     cases e117
     have HR117_0:=Aside0.mk hi117_0
     have HC117_0:=Aside0.mk hl117_0
     clear hi117_0 hl117_0
     replace p117:=eq_true p117
     replace q117:=eq_true q117
     have p118 : 0 ≤ (a2 : Int):=Up.od
     have q118 : a2 < ((rd_L5 l0 a1).length : Int):=Up.od
     obtain ⟨ad118,A118_1,c118_1,e118,hx118_0,hx118_1,hl118_1,hi118_1⟩:=at_T81 HR117_0.out a2 p118 q118
     cases e118
     have HR118_1:=Aside0.mk hi118_1
     have HC118_1:=Aside0.mk hl118_1
     clear hi118_1 hl118_1
     replace p118:=eq_true p118
     replace q118:=eq_true q118
     go_enter Tryd.func72,Tryd.ntmps72
     go_upto_region 2 with (first | ((with_reducible refine gate_dst (N:=7) rfl ?_);(try (refine gate_guard (by rfl) ?_;dsimp only));refine Up.bx 7 81 #[.int .i64 0,.slice none 0 0] ?_;intro gb119 hg w9 hbox hb;have n0_:=Up.BB HB hb;have n1_:=Aside0.mk (hbox);have n2_:=Up.gw hg HB;have n3_:=Up.gw hg HB;clear HB;have HB:=n0_;have BK119:=n1_;have GW119:=n2_;have GE119:=n3_;clear n0_ n1_ n2_ n3_ hb hbox hg;have hcz10_0:=Up.c0 BK119;have hcz10_1:=Up.c1 BK119;have hfz10_0:=blk_frozen BK119.out 0;have hfz10_1:=blk_frozen BK119.out 1))
     (try simp only [Act.put,List.setIfInBounds_toArray,List.set_cons_zero,List.set_cons_succ])
     go_cut [26] (fun v26 wc => ∃ (kq : Nat) (x26_7 : Bool),v26 = .bool x26_7 ∧ Aside0 (spec_l1Record.j0 kq l0 a1 a2 x26_7 ((rd_T81 (rd_L5 l0 a1) a2).f0) ((rd_T81 (rd_L5 l0 a1) a2).f1) = some r) ∧ Aside0 (kq ≤ k) ∧ Aside0 (wc.heap[gb119]? = some (.cells #[.int .i64 ((rd_T81 (rd_L5 l0 a1) a2).f0),(.slice A118_1 ((rd_T81 (rd_L5 l0 a1) a2).f1).length c118_1)] 81 (0,0))) ∧ Aside0 (Below w.heap.size w wc))
     case first =>
      have H:=HC8.out
      clear HC8
      replace H:=Option.bind_eq_some_iff.mp H
      obtain ⟨t120,A110,H⟩:=H
      replace H : (if t120 = true then (spec_l1Record.j0 k l0 a1 a2 (decide ((((rd_T81 (rd_L5 l0 a1) a2).f1).length : Int) > 3)) ((rd_T81 (rd_L5 l0 a1) a2).f0) ((rd_T81 (rd_L5 l0 a1) a2).f1)) else (spec_l1Record.j0 k l0 a1 a2 true ((rd_T81 (rd_L5 l0 a1) a2).f0) ((rd_T81 (rd_L5 l0 a1) a2).f1))) = some r:=H
      have A11:=Aside0.mk A110
      clear A110
      by_cases c12 : t120 = true
      ·subst c12
       have H1 : (spec_l1Record.j0 k l0 a1 a2 (decide ((((rd_T81 (rd_L5 l0 a1) a2).f1).length : Int) > 3)) ((rd_T81 (rd_L5 l0 a1) a2).f0) ((rd_T81 (rd_L5 l0 a1) a2).f1)) = some r:=by rw [if_pos rfl] at H;exact H
       clear H
       have H:=H1
       clear H1
       have H':=Aside0.mk H
       clear H
       have hcz13_0:=Up.c0 BK119
       have hcz13_1:=Up.c1 BK119
       have hfz13_0:=blk_frozen BK119.out 0
       have hfz13_1:=blk_frozen BK119.out 1
       go_wp2_with (first | ((with_reducible refine gate_callee (f:=59) rfl ?_);refine Up.gl (some 19) Tryd.func59 #[.int .i64 ((rd_T81 (rd_L5 l0 a1) a2).f0),.int .i64 0,.int .i64 15] ?_;(with_reducible refine (spec_l6In.calls ((rd_T81 (rd_L5 l0 a1) a2).f0) 0 15 true _ A11.out).mono ?_);rintro e w' ⟨rfl,⟨nd,rfl⟩⟩;refine ⟨_,rfl,?_⟩))
       go_meet
       case rel => exact ⟨_,(decide ((((rd_T81 (rd_L5 l0 a1) a2).f1).length : Int) > 3)),(by first | rfl | (simp;done) | (simp [*];done)),H',⟨by first | omega | exact Nat.le_refl _⟩,⟨by (with_reducible repeat (first | refine blk_drewN ?_ _ | refine blk_drew ?_ | refine blk_alloc ?_ _));refine blk_put (cs:=#[.int .i64 ((rd_T81 (rd_L5 l0 a1) a2).f0),.slice none 0 0]) ?_ 1 _ rfl;(with_reducible repeat (first | refine blk_drewN ?_ _ | refine blk_drew ?_ | refine blk_alloc ?_ _));refine blk_put (cs:=#[.int .i64 0,.slice none 0 0]) ?_ 0 _ rfl;(with_reducible repeat (first | refine blk_drewN ?_ _ | refine blk_drew ?_ | refine blk_alloc ?_ _));exact BK119.out⟩,⟨Up.Bx HB⟩⟩
      ·replace c12:=Bool.eq_false_iff.mpr c12
       subst c12
       have H1 : (spec_l1Record.j0 k l0 a1 a2 true ((rd_T81 (rd_L5 l0 a1) a2).f0) ((rd_T81 (rd_L5 l0 a1) a2).f1)) = some r:=by rw [if_neg (show ¬ (false = true) by decide)] at H;exact H
       clear H
       have H:=H1
       clear H1
       have H':=Aside0.mk H
       clear H
       have hcz14_0:=Up.c0 BK119
       have hcz14_1:=Up.c1 BK119
       have hfz14_0:=blk_frozen BK119.out 0
       have hfz14_1:=blk_frozen BK119.out 1
       go_wp2_with (first | ((with_reducible refine gate_callee (f:=59) rfl ?_);refine Up.gl (some 19) Tryd.func59 #[.int .i64 ((rd_T81 (rd_L5 l0 a1) a2).f0),.int .i64 0,.int .i64 15] ?_;(with_reducible refine (spec_l6In.calls ((rd_T81 (rd_L5 l0 a1) a2).f0) 0 15 false _ A11.out).mono ?_);rintro e w' ⟨rfl,⟨nd,rfl⟩⟩;refine ⟨_,rfl,?_⟩))
       go_meet
       case rel => exact ⟨_,(true),(by first | rfl | (simp;done) | (simp [*];done)),H',⟨by first | omega | exact Nat.le_refl _⟩,⟨by (with_reducible repeat (first | refine blk_drewN ?_ _ | refine blk_drew ?_ | refine blk_alloc ?_ _));refine blk_put (cs:=#[.int .i64 ((rd_T81 (rd_L5 l0 a1) a2).f0),.slice none 0 0]) ?_ 1 _ rfl;(with_reducible repeat (first | refine blk_drewN ?_ _ | refine blk_drew ?_ | refine blk_alloc ?_ _));refine blk_put (cs:=#[.int .i64 0,.slice none 0 0]) ?_ 0 _ rfl;(with_reducible repeat (first | refine blk_drewN ?_ _ | refine blk_drew ?_ | refine blk_alloc ?_ _));exact BK119.out⟩,⟨Up.Bx HB⟩⟩
     case rest =>
      clear HC8
      try clear c1
      try clear p1
      try clear q1
      try clear hx1
      try clear p2
      try clear c4
      try clear c4b0
      try clear c5
      try clear c5b0
      try clear c6
      try clear c6b0
      try clear c7
      try clear c7b0
      try clear c11
      try clear p11
      try clear q11
      try clear hx11
      try clear c12
      try clear hcz10_0
      try clear hcz10_1
      try clear hcz13_0
      try clear hcz13_1
      try clear hcz14_0
      try clear hcz14_1
      try clear hfz10_0
      try clear hfz10_1
      try clear hfz13_0
      try clear hfz13_1
      try clear hfz14_0
      try clear hfz14_1
      try clear hx117_0
      try clear hx118_0
      try clear hx118_1
      try clear p117
      try clear p118
      try clear q117
      try clear q118
      obtain ⟨kq,x26_7,rfl,HA,HJ7,BK119,HB⟩:=hcut
      cases kq with
      | zero => exact absurd HA.out (by simp [spec_l1Record.j0])
      | succ kj7 =>
       have H:=HA.out
       clear HA
       simp only [spec_l1Record.j0] at H
       by_cases c15 : x26_7 = true
       ·subst c15
        have H1 : (some false) = some r:=by rw [if_pos rfl] at H;exact H
        clear H
        have H:=H1
        clear H1
        obtain rfl:=Option.some.inj H
        go_wp2
        go_ret
        exact Up.e1 (Up.Bx HB)
       ·replace c15:=Bool.eq_false_iff.mpr c15
        subst c15
        have H1 : (spec_l1Record.l0 kj7 l0 a1 a2 0 ((rd_T81 (rd_L5 l0 a1) a2).f0) ((rd_T81 (rd_L5 l0 a1) a2).f1)) = some r:=by rw [if_neg (show ¬ (false = true) by decide)] at H;exact H
        clear H
        have H:=H1
        clear H1
        have H':=Aside0.mk H
        clear H
        go_wp2
        go_loopg [8] kj7 (fun kq v8 w' => ∃ (x8_2 : Int),v8 = .int .i64 x8_2 ∧ Aside0 (spec_l1Record.l0 kq l0 a1 a2 x8_2 ((rd_T81 (rd_L5 l0 a1) a2).f0) ((rd_T81 (rd_L5 l0 a1) a2).f1) = some r) ∧ Aside0 (kq ≤ kj7) ∧ Aside0 (w'.heap[gb119]? = some (.cells #[.int .i64 ((rd_T81 (rd_L5 l0 a1) a2).f0),(.slice A118_1 ((rd_T81 (rd_L5 l0 a1) a2).f1).length c118_1)] 81 (0,0))) ∧ Aside0 (Below w.heap.size w w'))
        case atStart => exact ⟨(0),(by first | rfl | (simp;done) | (simp [*];done)),H',⟨Nat.le_refl _⟩,⟨by (with_reducible repeat (first | refine blk_drewN ?_ _ | refine blk_drew ?_ | refine blk_alloc ?_ _));exact BK119.out⟩,⟨Up.Bx HB⟩⟩
        case round =>
         clear H'
         try clear c1
         try clear p1
         try clear q1
         try clear hx1
         try clear p2
         try clear c4
         try clear c4b0
         try clear c5
         try clear c5b0
         try clear c6
         try clear c6b0
         try clear c7
         try clear c7b0
         try clear c11
         try clear p11
         try clear q11
         try clear hx11
         try clear c12
         try clear c15
         try clear hcz10_0
         try clear hcz10_1
         try clear hcz13_0
         try clear hcz13_1
         try clear hcz14_0
         try clear hcz14_1
         try clear hfz10_0
         try clear hfz10_1
         try clear hfz13_0
         try clear hfz13_1
         try clear hfz14_0
         try clear hfz14_1
         try clear hx117_0
         try clear hx118_0
         try clear hx118_1
         try clear p1
         try clear p11
         try clear p117
         try clear p118
         try clear p2
         try clear q1
         try clear q11
         try clear q117
         try clear q118
         obtain ⟨x8_2,rfl,HA,HK2,BK119,HB⟩:=hrel
         cases gk with
         | zero => exact absurd HA.out (by simp [spec_l1Record.l0])
         | succ k2 =>
          have H:=HA.out
          clear HA
          simp only [spec_l1Record.l0] at H
          by_cases c16 : x8_2 < (((rd_T81 (rd_L5 l0 a1) a2).f1).length : Int)
          ·rw [if_pos c16] at H
           have c16b0 : decide (x8_2 < (((rd_T81 (rd_L5 l0 a1) a2).f1).length : Int)) = true:=decide_eq_true c16
           clear c16
           by_cases c17 : 0 ≤ x8_2
           ·rw [if_pos c17] at H
            have c17b0 : decide (0 ≤ x8_2) = true:=decide_eq_true c17
            clear c17
            replace H:=Option.bind_eq_some_iff.mp H
            obtain ⟨t122,A180,H⟩:=H
            replace H : (if t122 = true then ((spec_l1Able.f k2 l0 (rdOf ByteArray.empty ((rd_T81 (rd_L5 l0 a1) a2).f1) x8_2)).bind fun t124 => ((spec_l1Can.f ((rd_T81 (rd_L5 l0 a1) a2).f0) 1).bind fun t125 => (if t125 = true then ((spec_l1Can.f t124 1).bind fun t126 => (if t126 = true then ((spec_l1Can.f ((rd_T81 (rd_L5 l0 a1) a2).f0) 2).bind fun t127 => (if t127 = true then ((spec_l1Can.f t124 2).bind fun t128 => (spec_l1Record.j2 k2 l0 a1 a2 x8_2 t124 (!t128) ((rd_T81 (rd_L5 l0 a1) a2).f0) ((rd_T81 (rd_L5 l0 a1) a2).f1))) else (spec_l1Record.j2 k2 l0 a1 a2 x8_2 t124 false ((rd_T81 (rd_L5 l0 a1) a2).f0) ((rd_T81 (rd_L5 l0 a1) a2).f1)))) else (spec_l1Record.j2 k2 l0 a1 a2 x8_2 t124 true ((rd_T81 (rd_L5 l0 a1) a2).f0) ((rd_T81 (rd_L5 l0 a1) a2).f1)))) else ((spec_l1Can.f ((rd_T81 (rd_L5 l0 a1) a2).f0) 2).bind fun t129 => (if t129 = true then ((spec_l1Can.f t124 2).bind fun t130 => (spec_l1Record.j2 k2 l0 a1 a2 x8_2 t124 (!t130) ((rd_T81 (rd_L5 l0 a1) a2).f0) ((rd_T81 (rd_L5 l0 a1) a2).f1))) else (spec_l1Record.j2 k2 l0 a1 a2 x8_2 t124 false ((rd_T81 (rd_L5 l0 a1) a2).f0) ((rd_T81 (rd_L5 l0 a1) a2).f1))))))) else (some false)) = some r:=H
            have A18:=Aside0.mk A180
            clear A180
            by_cases c19 : t122 = true
            ·subst c19
             have H1 : ((spec_l1Able.f k2 l0 (rdOf ByteArray.empty ((rd_T81 (rd_L5 l0 a1) a2).f1) x8_2)).bind fun t124 => ((spec_l1Can.f ((rd_T81 (rd_L5 l0 a1) a2).f0) 1).bind fun t125 => (if t125 = true then ((spec_l1Can.f t124 1).bind fun t126 => (if t126 = true then ((spec_l1Can.f ((rd_T81 (rd_L5 l0 a1) a2).f0) 2).bind fun t127 => (if t127 = true then ((spec_l1Can.f t124 2).bind fun t128 => (spec_l1Record.j2 k2 l0 a1 a2 x8_2 t124 (!t128) ((rd_T81 (rd_L5 l0 a1) a2).f0) ((rd_T81 (rd_L5 l0 a1) a2).f1))) else (spec_l1Record.j2 k2 l0 a1 a2 x8_2 t124 false ((rd_T81 (rd_L5 l0 a1) a2).f0) ((rd_T81 (rd_L5 l0 a1) a2).f1)))) else (spec_l1Record.j2 k2 l0 a1 a2 x8_2 t124 true ((rd_T81 (rd_L5 l0 a1) a2).f0) ((rd_T81 (rd_L5 l0 a1) a2).f1)))) else ((spec_l1Can.f ((rd_T81 (rd_L5 l0 a1) a2).f0) 2).bind fun t129 => (if t129 = true then ((spec_l1Can.f t124 2).bind fun t130 => (spec_l1Record.j2 k2 l0 a1 a2 x8_2 t124 (!t130) ((rd_T81 (rd_L5 l0 a1) a2).f0) ((rd_T81 (rd_L5 l0 a1) a2).f1))) else (spec_l1Record.j2 k2 l0 a1 a2 x8_2 t124 false ((rd_T81 (rd_L5 l0 a1) a2).f0) ((rd_T81 (rd_L5 l0 a1) a2).f1))))))) = some r:=by rw [if_pos rfl] at H;exact H
             clear H
             have H:=H1
             clear H1
             replace H:=Option.bind_eq_some_iff.mp H
             obtain ⟨t124,A200,H⟩:=H
             replace H : ((spec_l1Can.f ((rd_T81 (rd_L5 l0 a1) a2).f0) 1).bind fun t125 => (if t125 = true then ((spec_l1Can.f t124 1).bind fun t126 => (if t126 = true then ((spec_l1Can.f ((rd_T81 (rd_L5 l0 a1) a2).f0) 2).bind fun t127 => (if t127 = true then ((spec_l1Can.f t124 2).bind fun t128 => (spec_l1Record.j2 k2 l0 a1 a2 x8_2 t124 (!t128) ((rd_T81 (rd_L5 l0 a1) a2).f0) ((rd_T81 (rd_L5 l0 a1) a2).f1))) else (spec_l1Record.j2 k2 l0 a1 a2 x8_2 t124 false ((rd_T81 (rd_L5 l0 a1) a2).f0) ((rd_T81 (rd_L5 l0 a1) a2).f1)))) else (spec_l1Record.j2 k2 l0 a1 a2 x8_2 t124 true ((rd_T81 (rd_L5 l0 a1) a2).f0) ((rd_T81 (rd_L5 l0 a1) a2).f1)))) else ((spec_l1Can.f ((rd_T81 (rd_L5 l0 a1) a2).f0) 2).bind fun t129 => (if t129 = true then ((spec_l1Can.f t124 2).bind fun t130 => (spec_l1Record.j2 k2 l0 a1 a2 x8_2 t124 (!t130) ((rd_T81 (rd_L5 l0 a1) a2).f0) ((rd_T81 (rd_L5 l0 a1) a2).f1))) else (spec_l1Record.j2 k2 l0 a1 a2 x8_2 t124 false ((rd_T81 (rd_L5 l0 a1) a2).f0) ((rd_T81 (rd_L5 l0 a1) a2).f1)))))) = some r:=H
             have A20:=Aside0.mk A200
             clear A200
             have HC21:=Aside0.mk H
             clear H
             have hcz22_0 : wr.cell? ⟨gb119,0,none⟩ = some (.int .i64 ((rd_T81 (rd_L5 l0 a1) a2).f0)):=(blk_cell BK119.out 0).trans rfl
             have hcz22_1 : wr.cell? ⟨gb119,1,none⟩ = some (.slice A118_1 ((rd_T81 (rd_L5 l0 a1) a2).f1).length c118_1):=(blk_cell BK119.out 1).trans rfl
             have hfz22_0:=blk_frozen BK119.out 0
             have hfz22_1:=blk_frozen BK119.out 1
             have p121 : 0 ≤ (x8_2 : Int):=Up.od
             have q121 : x8_2 < (((rd_T81 (rd_L5 l0 a1) a2).f1).length : Int):=Up.od
             obtain ⟨ad121,e121,hx121_0⟩:=Kd.at_string HR118_1.out x8_2 p121 q121
             cases e121
             replace hx121_0:=Up.hc HB hx121_0
             replace p121:=eq_true p121
             replace q121:=eq_true q121
             go_upto_region 10 with (first | ((with_reducible refine gate_callee (f:=83) rfl ?_);refine Up.gl (some 42) Tryd.func83 #[.slice (some ad117) l0.length c0,.int .i64 a1,.int .i64 a2,.string (rdOf ByteArray.empty ((rd_T81 (rd_L5 l0 a1) a2).f1) x8_2)] ?_;(with_reducible refine (spec_l1Field.calls _ _ l0 a1 a2 (rdOf ByteArray.empty ((rd_T81 (rd_L5 l0 a1) a2).f1) x8_2) true _ ?side1 ?side2 A18.out).mono ?_);(case side1 => exact Up.Cx HR0 HB);(case side2 => exact HC0.out);rintro e w' ⟨rfl,⟨nd,rfl⟩⟩;refine ⟨_,rfl,?_⟩;have p123 : 0 ≤ (x8_2 : Int):=Up.od;have q123 : x8_2 < (((rd_T81 (rd_L5 l0 a1) a2).f1).length : Int):=Up.od;obtain ⟨ad123,e123,hx123_0⟩:=Kd.at_string HR118_1.out x8_2 p123 q123;obtain rfl : ad121 = ad123:=(by injection e123);replace hx123_0:=Up.hc HB hx123_0;replace p123:=eq_true p123;replace q123:=eq_true q123) | ((with_reducible refine gate_callee (f:=84) rfl ?_);refine Up.gl (some 50) Tryd.func84 #[.slice (some ad117) l0.length c0,.string (rdOf ByteArray.empty ((rd_T81 (rd_L5 l0 a1) a2).f1) x8_2)] ?_;(with_reducible refine (spec_l1Able.calls k2 _ _ l0 (rdOf ByteArray.empty ((rd_T81 (rd_L5 l0 a1) a2).f1) x8_2) t124 _ ?side1 ?side2 A20.out).mono ?_);(case side1 => repeat (first | exact (Kd.C_below HR0.out (Up.Bx HB)) | (with_reducible refine Kd.C_alloc ?_ _) | (with_reducible refine Kd.C_drewN ?_ _) | (with_reducible refine Kd.C_drew ?_)));(case side2 => exact HC0.out);rintro e w' ⟨rfl,⟨nd,rfl⟩⟩;refine ⟨_,rfl,?_⟩))
             (try simp only [Act.put,List.setIfInBounds_toArray,List.set_cons_zero,List.set_cons_succ])
             go_cut [68] (fun v68 wc => ∃ (kq : Nat) (x68_20 : Bool),v68 = .bool x68_20 ∧ Aside0 (spec_l1Record.j2 kq l0 a1 a2 x8_2 t124 x68_20 ((rd_T81 (rd_L5 l0 a1) a2).f0) ((rd_T81 (rd_L5 l0 a1) a2).f1) = some r) ∧ Aside0 (kq ≤ k2) ∧ Aside0 (wc.heap[gb119]? = some (.cells #[.int .i64 ((rd_T81 (rd_L5 l0 a1) a2).f0),(.slice (some ad121) ((rd_T81 (rd_L5 l0 a1) a2).f1).length c118_1)] 81 (0,0))) ∧ Aside0 (Below w.heap.size w wc))
             case first =>
              have H:=HC21.out
              clear HC21
              replace H:=Option.bind_eq_some_iff.mp H
              obtain ⟨t125,A230,H⟩:=H
              replace H : (if t125 = true then ((spec_l1Can.f t124 1).bind fun t126 => (if t126 = true then ((spec_l1Can.f ((rd_T81 (rd_L5 l0 a1) a2).f0) 2).bind fun t127 => (if t127 = true then ((spec_l1Can.f t124 2).bind fun t128 => (spec_l1Record.j2 k2 l0 a1 a2 x8_2 t124 (!t128) ((rd_T81 (rd_L5 l0 a1) a2).f0) ((rd_T81 (rd_L5 l0 a1) a2).f1))) else (spec_l1Record.j2 k2 l0 a1 a2 x8_2 t124 false ((rd_T81 (rd_L5 l0 a1) a2).f0) ((rd_T81 (rd_L5 l0 a1) a2).f1)))) else (spec_l1Record.j2 k2 l0 a1 a2 x8_2 t124 true ((rd_T81 (rd_L5 l0 a1) a2).f0) ((rd_T81 (rd_L5 l0 a1) a2).f1)))) else ((spec_l1Can.f ((rd_T81 (rd_L5 l0 a1) a2).f0) 2).bind fun t129 => (if t129 = true then ((spec_l1Can.f t124 2).bind fun t130 => (spec_l1Record.j2 k2 l0 a1 a2 x8_2 t124 (!t130) ((rd_T81 (rd_L5 l0 a1) a2).f0) ((rd_T81 (rd_L5 l0 a1) a2).f1))) else (spec_l1Record.j2 k2 l0 a1 a2 x8_2 t124 false ((rd_T81 (rd_L5 l0 a1) a2).f0) ((rd_T81 (rd_L5 l0 a1) a2).f1))))) = some r:=H
              have A23:=Aside0.mk A230
              clear A230
              by_cases c24 : t125 = true
              ·subst c24
               have H1 : ((spec_l1Can.f t124 1).bind fun t126 => (if t126 = true then ((spec_l1Can.f ((rd_T81 (rd_L5 l0 a1) a2).f0) 2).bind fun t127 => (if t127 = true then ((spec_l1Can.f t124 2).bind fun t128 => (spec_l1Record.j2 k2 l0 a1 a2 x8_2 t124 (!t128) ((rd_T81 (rd_L5 l0 a1) a2).f0) ((rd_T81 (rd_L5 l0 a1) a2).f1))) else (spec_l1Record.j2 k2 l0 a1 a2 x8_2 t124 false ((rd_T81 (rd_L5 l0 a1) a2).f0) ((rd_T81 (rd_L5 l0 a1) a2).f1)))) else (spec_l1Record.j2 k2 l0 a1 a2 x8_2 t124 true ((rd_T81 (rd_L5 l0 a1) a2).f0) ((rd_T81 (rd_L5 l0 a1) a2).f1)))) = some r:=by rw [if_pos rfl] at H;exact H
               clear H
               have H:=H1
               clear H1
               replace H:=Option.bind_eq_some_iff.mp H
               obtain ⟨t126,A250,H⟩:=H
               replace H : (if t126 = true then ((spec_l1Can.f ((rd_T81 (rd_L5 l0 a1) a2).f0) 2).bind fun t127 => (if t127 = true then ((spec_l1Can.f t124 2).bind fun t128 => (spec_l1Record.j2 k2 l0 a1 a2 x8_2 t124 (!t128) ((rd_T81 (rd_L5 l0 a1) a2).f0) ((rd_T81 (rd_L5 l0 a1) a2).f1))) else (spec_l1Record.j2 k2 l0 a1 a2 x8_2 t124 false ((rd_T81 (rd_L5 l0 a1) a2).f0) ((rd_T81 (rd_L5 l0 a1) a2).f1)))) else (spec_l1Record.j2 k2 l0 a1 a2 x8_2 t124 true ((rd_T81 (rd_L5 l0 a1) a2).f0) ((rd_T81 (rd_L5 l0 a1) a2).f1))) = some r:=H
               have A25:=Aside0.mk A250
               clear A250
               by_cases c26 : t126 = true
               ·subst c26
                have H1 : ((spec_l1Can.f ((rd_T81 (rd_L5 l0 a1) a2).f0) 2).bind fun t127 => (if t127 = true then ((spec_l1Can.f t124 2).bind fun t128 => (spec_l1Record.j2 k2 l0 a1 a2 x8_2 t124 (!t128) ((rd_T81 (rd_L5 l0 a1) a2).f0) ((rd_T81 (rd_L5 l0 a1) a2).f1))) else (spec_l1Record.j2 k2 l0 a1 a2 x8_2 t124 false ((rd_T81 (rd_L5 l0 a1) a2).f0) ((rd_T81 (rd_L5 l0 a1) a2).f1)))) = some r:=by rw [if_pos rfl] at H;exact H
                clear H
                have H:=H1
                clear H1
                replace H:=Option.bind_eq_some_iff.mp H
                obtain ⟨t127,A270,H⟩:=H
                replace H : (if t127 = true then ((spec_l1Can.f t124 2).bind fun t128 => (spec_l1Record.j2 k2 l0 a1 a2 x8_2 t124 (!t128) ((rd_T81 (rd_L5 l0 a1) a2).f0) ((rd_T81 (rd_L5 l0 a1) a2).f1))) else (spec_l1Record.j2 k2 l0 a1 a2 x8_2 t124 false ((rd_T81 (rd_L5 l0 a1) a2).f0) ((rd_T81 (rd_L5 l0 a1) a2).f1))) = some r:=H
                have A27:=Aside0.mk A270
                clear A270
                by_cases c28 : t127 = true
                ·subst c28
                 have H1 : ((spec_l1Can.f t124 2).bind fun t128 => (spec_l1Record.j2 k2 l0 a1 a2 x8_2 t124 (!t128) ((rd_T81 (rd_L5 l0 a1) a2).f0) ((rd_T81 (rd_L5 l0 a1) a2).f1))) = some r:=by rw [if_pos rfl] at H;exact H
                 clear H
                 have H:=H1
                 clear H1
                 replace H:=Option.bind_eq_some_iff.mp H
                 obtain ⟨t128,A290,H⟩:=H
                 replace H : (spec_l1Record.j2 k2 l0 a1 a2 x8_2 t124 (!t128) ((rd_T81 (rd_L5 l0 a1) a2).f0) ((rd_T81 (rd_L5 l0 a1) a2).f1)) = some r:=H
                 have A29:=Aside0.mk A290
                 clear A290
                 have H':=Aside0.mk H
                 clear H
                 have hcz30_0 : wr.cell? ⟨gb119,0,none⟩ = some (.int .i64 ((rd_T81 (rd_L5 l0 a1) a2).f0)):=(blk_cell BK119.out 0).trans rfl
                 have hcz30_1 : wr.cell? ⟨gb119,1,none⟩ = some (.slice (some ad121) ((rd_T81 (rd_L5 l0 a1) a2).f1).length c118_1):=(blk_cell BK119.out 1).trans rfl
                 have hfz30_0:=blk_frozen BK119.out 0
                 have hfz30_1:=blk_frozen BK119.out 1
                 go_wp2_with (first | ((with_reducible refine gate_callee (f:=85) rfl ?_);refine Up.gl (some 53) Tryd.func85 #[.int .i64 ((rd_T81 (rd_L5 l0 a1) a2).f0),.int .i64 1] ?_;(with_reducible refine (spec_l1Can.calls ((rd_T81 (rd_L5 l0 a1) a2).f0) 1 true _ A23.out).mono ?_);rintro e w' ⟨rfl,⟨nd,rfl⟩⟩;refine ⟨_,rfl,?_⟩) | (go_at_call 85;(with_reducible refine (spec_l1Can.calls t124 1 true _ A25.out).mono ?_);rintro e w' ⟨rfl,⟨nd,rfl⟩⟩) | (go_at_call 85;(with_reducible refine (spec_l1Can.calls ((rd_T81 (rd_L5 l0 a1) a2).f0) 2 true _ A27.out).mono ?_);rintro e w' ⟨rfl,⟨nd,rfl⟩⟩) | (go_at_call 85;(with_reducible refine (spec_l1Can.calls t124 2 t128 _ A29.out).mono ?_);rintro e w' ⟨rfl,⟨nd,rfl⟩⟩))
                 go_meet
                 case rel => exact ⟨_,(!t128),(by first | rfl | (simp;done) | (simp [*];done)),H',⟨by have:=HJ7.out;have:=HK2.out;first | omega | exact Nat.le_refl _⟩,⟨by (with_reducible repeat (first | refine blk_drewN ?_ _ | refine blk_drew ?_ | refine blk_alloc ?_ _));exact BK119.out⟩,⟨Up.Bx HB⟩⟩
                ·replace c28:=Bool.eq_false_iff.mpr c28
                 subst c28
                 have H1 : (spec_l1Record.j2 k2 l0 a1 a2 x8_2 t124 false ((rd_T81 (rd_L5 l0 a1) a2).f0) ((rd_T81 (rd_L5 l0 a1) a2).f1)) = some r:=by rw [if_neg (show ¬ (false = true) by decide)] at H;exact H
                 clear H
                 have H:=H1
                 clear H1
                 have H':=Aside0.mk H
                 clear H
                 have hcz31_0 : wr.cell? ⟨gb119,0,none⟩ = some (.int .i64 ((rd_T81 (rd_L5 l0 a1) a2).f0)):=(blk_cell BK119.out 0).trans rfl
                 have hcz31_1 : wr.cell? ⟨gb119,1,none⟩ = some (.slice (some ad121) ((rd_T81 (rd_L5 l0 a1) a2).f1).length c118_1):=(blk_cell BK119.out 1).trans rfl
                 have hfz31_0:=blk_frozen BK119.out 0
                 have hfz31_1:=blk_frozen BK119.out 1
                 go_wp2_with (first | ((with_reducible refine gate_callee (f:=85) rfl ?_);refine Up.gl (some 53) Tryd.func85 #[.int .i64 ((rd_T81 (rd_L5 l0 a1) a2).f0),.int .i64 1] ?_;(with_reducible refine (spec_l1Can.calls ((rd_T81 (rd_L5 l0 a1) a2).f0) 1 true _ A23.out).mono ?_);rintro e w' ⟨rfl,⟨nd,rfl⟩⟩;refine ⟨_,rfl,?_⟩) | (go_at_call 85;(with_reducible refine (spec_l1Can.calls t124 1 true _ A25.out).mono ?_);rintro e w' ⟨rfl,⟨nd,rfl⟩⟩) | (go_at_call 85;(with_reducible refine (spec_l1Can.calls ((rd_T81 (rd_L5 l0 a1) a2).f0) 2 false _ A27.out).mono ?_);rintro e w' ⟨rfl,⟨nd,rfl⟩⟩))
                 go_meet
                 case rel => exact ⟨_,(false),(by first | rfl | (simp;done) | (simp [*];done)),H',⟨by have:=HJ7.out;have:=HK2.out;first | omega | exact Nat.le_refl _⟩,⟨by (with_reducible repeat (first | refine blk_drewN ?_ _ | refine blk_drew ?_ | refine blk_alloc ?_ _));exact BK119.out⟩,⟨Up.Bx HB⟩⟩
               ·replace c26:=Bool.eq_false_iff.mpr c26
                subst c26
                have H1 : (spec_l1Record.j2 k2 l0 a1 a2 x8_2 t124 true ((rd_T81 (rd_L5 l0 a1) a2).f0) ((rd_T81 (rd_L5 l0 a1) a2).f1)) = some r:=by rw [if_neg (show ¬ (false = true) by decide)] at H;exact H
                clear H
                have H:=H1
                clear H1
                have H':=Aside0.mk H
                clear H
                have hcz32_0 : wr.cell? ⟨gb119,0,none⟩ = some (.int .i64 ((rd_T81 (rd_L5 l0 a1) a2).f0)):=(blk_cell BK119.out 0).trans rfl
                have hcz32_1 : wr.cell? ⟨gb119,1,none⟩ = some (.slice (some ad121) ((rd_T81 (rd_L5 l0 a1) a2).f1).length c118_1):=(blk_cell BK119.out 1).trans rfl
                have hfz32_0:=blk_frozen BK119.out 0
                have hfz32_1:=blk_frozen BK119.out 1
                go_wp2_with (first | ((with_reducible refine gate_callee (f:=85) rfl ?_);refine Up.gl (some 53) Tryd.func85 #[.int .i64 ((rd_T81 (rd_L5 l0 a1) a2).f0),.int .i64 1] ?_;(with_reducible refine (spec_l1Can.calls ((rd_T81 (rd_L5 l0 a1) a2).f0) 1 true _ A23.out).mono ?_);rintro e w' ⟨rfl,⟨nd,rfl⟩⟩;refine ⟨_,rfl,?_⟩) | (go_at_call 85;(with_reducible refine (spec_l1Can.calls t124 1 false _ A25.out).mono ?_);rintro e w' ⟨rfl,⟨nd,rfl⟩⟩))
                go_meet
                case rel => exact ⟨_,(true),(by first | rfl | (simp;done) | (simp [*];done)),H',⟨by have:=HJ7.out;have:=HK2.out;first | omega | exact Nat.le_refl _⟩,⟨by (with_reducible repeat (first | refine blk_drewN ?_ _ | refine blk_drew ?_ | refine blk_alloc ?_ _));exact BK119.out⟩,⟨Up.Bx HB⟩⟩
              ·replace c24:=Bool.eq_false_iff.mpr c24
               subst c24
               have H1 : ((spec_l1Can.f ((rd_T81 (rd_L5 l0 a1) a2).f0) 2).bind fun t129 => (if t129 = true then ((spec_l1Can.f t124 2).bind fun t130 => (spec_l1Record.j2 k2 l0 a1 a2 x8_2 t124 (!t130) ((rd_T81 (rd_L5 l0 a1) a2).f0) ((rd_T81 (rd_L5 l0 a1) a2).f1))) else (spec_l1Record.j2 k2 l0 a1 a2 x8_2 t124 false ((rd_T81 (rd_L5 l0 a1) a2).f0) ((rd_T81 (rd_L5 l0 a1) a2).f1)))) = some r:=by rw [if_neg (show ¬ (false = true) by decide)] at H;exact H
               clear H
               have H:=H1
               clear H1
               replace H:=Option.bind_eq_some_iff.mp H
               obtain ⟨t129,A330,H⟩:=H
               replace H : (if t129 = true then ((spec_l1Can.f t124 2).bind fun t130 => (spec_l1Record.j2 k2 l0 a1 a2 x8_2 t124 (!t130) ((rd_T81 (rd_L5 l0 a1) a2).f0) ((rd_T81 (rd_L5 l0 a1) a2).f1))) else (spec_l1Record.j2 k2 l0 a1 a2 x8_2 t124 false ((rd_T81 (rd_L5 l0 a1) a2).f0) ((rd_T81 (rd_L5 l0 a1) a2).f1))) = some r:=H
               have A33:=Aside0.mk A330
               clear A330
               by_cases c34 : t129 = true
               ·subst c34
                have H1 : ((spec_l1Can.f t124 2).bind fun t130 => (spec_l1Record.j2 k2 l0 a1 a2 x8_2 t124 (!t130) ((rd_T81 (rd_L5 l0 a1) a2).f0) ((rd_T81 (rd_L5 l0 a1) a2).f1))) = some r:=by rw [if_pos rfl] at H;exact H
                clear H
                have H:=H1
                clear H1
                replace H:=Option.bind_eq_some_iff.mp H
                obtain ⟨t130,A350,H⟩:=H
                replace H : (spec_l1Record.j2 k2 l0 a1 a2 x8_2 t124 (!t130) ((rd_T81 (rd_L5 l0 a1) a2).f0) ((rd_T81 (rd_L5 l0 a1) a2).f1)) = some r:=H
                have A35:=Aside0.mk A350
                clear A350
                have H':=Aside0.mk H
                clear H
                have hcz36_0 : wr.cell? ⟨gb119,0,none⟩ = some (.int .i64 ((rd_T81 (rd_L5 l0 a1) a2).f0)):=(blk_cell BK119.out 0).trans rfl
                have hcz36_1 : wr.cell? ⟨gb119,1,none⟩ = some (.slice (some ad121) ((rd_T81 (rd_L5 l0 a1) a2).f1).length c118_1):=(blk_cell BK119.out 1).trans rfl
                have hfz36_0:=blk_frozen BK119.out 0
                have hfz36_1:=blk_frozen BK119.out 1
                go_wp2_with (first | ((with_reducible refine gate_callee (f:=85) rfl ?_);refine Up.gl (some 53) Tryd.func85 #[.int .i64 ((rd_T81 (rd_L5 l0 a1) a2).f0),.int .i64 1] ?_;(with_reducible refine (spec_l1Can.calls ((rd_T81 (rd_L5 l0 a1) a2).f0) 1 false _ A23.out).mono ?_);rintro e w' ⟨rfl,⟨nd,rfl⟩⟩;refine ⟨_,rfl,?_⟩) | (go_at_call 85;(with_reducible refine (spec_l1Can.calls ((rd_T81 (rd_L5 l0 a1) a2).f0) 2 true _ A33.out).mono ?_);rintro e w' ⟨rfl,⟨nd,rfl⟩⟩) | (go_at_call 85;(with_reducible refine (spec_l1Can.calls t124 2 t130 _ A35.out).mono ?_);rintro e w' ⟨rfl,⟨nd,rfl⟩⟩))
                go_meet
                case rel => exact ⟨_,(!t130),(by first | rfl | (simp;done) | (simp [*];done)),H',⟨by have:=HJ7.out;have:=HK2.out;first | omega | exact Nat.le_refl _⟩,⟨by (with_reducible repeat (first | refine blk_drewN ?_ _ | refine blk_drew ?_ | refine blk_alloc ?_ _));exact BK119.out⟩,⟨Up.Bx HB⟩⟩
               ·replace c34:=Bool.eq_false_iff.mpr c34
                subst c34
                have H1 : (spec_l1Record.j2 k2 l0 a1 a2 x8_2 t124 false ((rd_T81 (rd_L5 l0 a1) a2).f0) ((rd_T81 (rd_L5 l0 a1) a2).f1)) = some r:=by rw [if_neg (show ¬ (false = true) by decide)] at H;exact H
                clear H
                have H:=H1
                clear H1
                have H':=Aside0.mk H
                clear H
                have hcz37_0 : wr.cell? ⟨gb119,0,none⟩ = some (.int .i64 ((rd_T81 (rd_L5 l0 a1) a2).f0)):=(blk_cell BK119.out 0).trans rfl
                have hcz37_1 : wr.cell? ⟨gb119,1,none⟩ = some (.slice (some ad121) ((rd_T81 (rd_L5 l0 a1) a2).f1).length c118_1):=(blk_cell BK119.out 1).trans rfl
                have hfz37_0:=blk_frozen BK119.out 0
                have hfz37_1:=blk_frozen BK119.out 1
                go_wp2_with (first | ((with_reducible refine gate_callee (f:=85) rfl ?_);refine Up.gl (some 53) Tryd.func85 #[.int .i64 ((rd_T81 (rd_L5 l0 a1) a2).f0),.int .i64 1] ?_;(with_reducible refine (spec_l1Can.calls ((rd_T81 (rd_L5 l0 a1) a2).f0) 1 false _ A23.out).mono ?_);rintro e w' ⟨rfl,⟨nd,rfl⟩⟩;refine ⟨_,rfl,?_⟩) | (go_at_call 85;(with_reducible refine (spec_l1Can.calls ((rd_T81 (rd_L5 l0 a1) a2).f0) 2 false _ A33.out).mono ?_);rintro e w' ⟨rfl,⟨nd,rfl⟩⟩))
                go_meet
                case rel => exact ⟨_,(false),(by first | rfl | (simp;done) | (simp [*];done)),H',⟨by have:=HJ7.out;have:=HK2.out;first | omega | exact Nat.le_refl _⟩,⟨by (with_reducible repeat (first | refine blk_drewN ?_ _ | refine blk_drew ?_ | refine blk_alloc ?_ _));exact BK119.out⟩,⟨Up.Bx HB⟩⟩
             case rest =>
              clear HC21
              try clear c1
              try clear p1
              try clear q1
              try clear hx1
              try clear c2
              try clear p2
              try clear c3
              try clear c4
              try clear c4b0
              try clear c5
              try clear c5b0
              try clear c6
              try clear c6b0
              try clear c7
              try clear c7b0
              try clear c8
              try clear c11
              try clear p11
              try clear q11
              try clear hx11
              try clear c12
              try clear p12
              try clear q12
              try clear hx12
              try clear c15
              try clear c16
              try clear c16b0
              try clear c17
              try clear c17b0
              try clear c19
              try clear c24
              try clear c26
              try clear c28
              try clear c34
              try clear hcz10_0
              try clear hcz10_1
              try clear hcz13_0
              try clear hcz13_1
              try clear hcz14_0
              try clear hcz14_1
              try clear hcz22_0
              try clear hcz22_1
              try clear hcz30_0
              try clear hcz30_1
              try clear hcz31_0
              try clear hcz31_1
              try clear hcz32_0
              try clear hcz32_1
              try clear hcz36_0
              try clear hcz36_1
              try clear hcz37_0
              try clear hcz37_1
              try clear hfz10_0
              try clear hfz10_1
              try clear hfz13_0
              try clear hfz13_1
              try clear hfz14_0
              try clear hfz14_1
              try clear hfz22_0
              try clear hfz22_1
              try clear hfz30_0
              try clear hfz30_1
              try clear hfz31_0
              try clear hfz31_1
              try clear hfz32_0
              try clear hfz32_1
              try clear hfz36_0
              try clear hfz36_1
              try clear hfz37_0
              try clear hfz37_1
              try clear hx117_0
              try clear hx118_0
              try clear hx118_1
              try clear hx121_0
              try clear hx123_0
              try clear p1
              try clear p11
              try clear p117
              try clear p118
              try clear p121
              try clear p123
              try clear p2
              try clear q1
              try clear q11
              try clear q117
              try clear q118
              try clear q121
              try clear q123
              obtain ⟨kq,x68_20,rfl,HA,HJ20,BK119,HB⟩:=hcut
              cases kq with
              | zero => exact absurd HA.out (by simp [spec_l1Record.j2])
              | succ kj20 =>
               have H:=HA.out
               clear HA
               simp only [spec_l1Record.j2] at H
               by_cases c38 : x68_20 = true
               ·subst c38
                have H1 : (some false) = some r:=by rw [if_pos rfl] at H;exact H
                clear H
                have H:=H1
                clear H1
                obtain rfl:=Option.some.inj H
                go_wp2
                go_ret
                exact Up.e1 (Up.Bx HB)
               ·replace c38:=Bool.eq_false_iff.mpr c38
                subst c38
                have H1 : (if ((rd_T81 (rd_L5 l0 a1) a2).f0) ≥ 4 then ((spec_l1Can.f t124 4).bind fun t131 => (if t131 = true then (spec_l1Record.l0 kj20 l0 a1 a2 (wrap64 (x8_2 + 1)) ((rd_T81 (rd_L5 l0 a1) a2).f0) ((rd_T81 (rd_L5 l0 a1) a2).f1)) else (some false))) else (spec_l1Record.l0 kj20 l0 a1 a2 (wrap64 (x8_2 + 1)) ((rd_T81 (rd_L5 l0 a1) a2).f0) ((rd_T81 (rd_L5 l0 a1) a2).f1))) = some r:=by rw [if_neg (show ¬ (false = true) by decide)] at H;exact H
                clear H
                have H:=H1
                clear H1
                by_cases c39 : ((rd_T81 (rd_L5 l0 a1) a2).f0) ≥ 4
                ·rw [if_pos c39] at H
                 have c39b0 : decide (4 ≤ ((rd_T81 (rd_L5 l0 a1) a2).f0)) = true:=decide_eq_true c39
                 clear c39
                 replace H:=Option.bind_eq_some_iff.mp H
                 obtain ⟨t131,A400,H⟩:=H
                 replace H : (if t131 = true then (spec_l1Record.l0 kj20 l0 a1 a2 (wrap64 (x8_2 + 1)) ((rd_T81 (rd_L5 l0 a1) a2).f0) ((rd_T81 (rd_L5 l0 a1) a2).f1)) else (some false)) = some r:=H
                 have A40:=Aside0.mk A400
                 clear A400
                 by_cases c41 : t131 = true
                 ·subst c41
                  have H1 : (spec_l1Record.l0 kj20 l0 a1 a2 (wrap64 (x8_2 + 1)) ((rd_T81 (rd_L5 l0 a1) a2).f0) ((rd_T81 (rd_L5 l0 a1) a2).f1)) = some r:=by rw [if_pos rfl] at H;exact H
                  clear H
                  have H:=H1
                  clear H1
                  have H':=Aside0.mk H
                  clear H
                  have hcz42_0 : wc.cell? ⟨gb119,0,none⟩ = some (.int .i64 ((rd_T81 (rd_L5 l0 a1) a2).f0)):=(blk_cell BK119.out 0).trans rfl
                  have hcz42_1 : wc.cell? ⟨gb119,1,none⟩ = some (.slice (some ad121) ((rd_T81 (rd_L5 l0 a1) a2).f1).length c118_1):=(blk_cell BK119.out 1).trans rfl
                  have hfz42_0:=blk_frozen BK119.out 0
                  have hfz42_1:=blk_frozen BK119.out 1
                  go_wp2_with (first | (go_at_call 85;(with_reducible refine (spec_l1Can.calls t124 4 true _ A40.out).mono ?_);rintro e w' ⟨rfl,⟨nd,rfl⟩⟩))
                  go_roundg kj20
                  case measure => have:=HJ7.out;have:=HK2.out;have:=HJ20.out;omega
                  case rel => exact ⟨(wrap64 (x8_2 + 1)),(by first | rfl | (simp;done) | (simp [*];done)),H',⟨by have:=HJ7.out;have:=HK2.out;have:=HJ20.out;omega⟩,⟨by (with_reducible repeat (first | refine blk_drewN ?_ _ | refine blk_drew ?_ | refine blk_alloc ?_ _));exact BK119.out⟩,⟨Up.Bx HB⟩⟩
                 ·replace c41:=Bool.eq_false_iff.mpr c41
                  subst c41
                  have H1 : (some false) = some r:=by rw [if_neg (show ¬ (false = true) by decide)] at H;exact H
                  clear H
                  have H:=H1
                  clear H1
                  obtain rfl:=Option.some.inj H
                  have hcz43_0 : wc.cell? ⟨gb119,0,none⟩ = some (.int .i64 ((rd_T81 (rd_L5 l0 a1) a2).f0)):=(blk_cell BK119.out 0).trans rfl
                  have hcz43_1 : wc.cell? ⟨gb119,1,none⟩ = some (.slice (some ad121) ((rd_T81 (rd_L5 l0 a1) a2).f1).length c118_1):=(blk_cell BK119.out 1).trans rfl
                  have hfz43_0:=blk_frozen BK119.out 0
                  have hfz43_1:=blk_frozen BK119.out 1
                  go_wp2_with (first | (go_at_call 85;(with_reducible refine (spec_l1Can.calls t124 4 false _ A40.out).mono ?_);rintro e w' ⟨rfl,⟨nd,rfl⟩⟩))
                  go_ret
                  exact Up.e1 (Up.Bx HB)
                ·rw [if_neg c39] at H
                 have c39b0 : decide (4 ≤ ((rd_T81 (rd_L5 l0 a1) a2).f0)) = false:=decide_eq_false c39
                 clear c39
                 have H':=Aside0.mk H
                 clear H
                 have hcz44_0 : wc.cell? ⟨gb119,0,none⟩ = some (.int .i64 ((rd_T81 (rd_L5 l0 a1) a2).f0)):=(blk_cell BK119.out 0).trans rfl
                 have hcz44_1 : wc.cell? ⟨gb119,1,none⟩ = some (.slice (some ad121) ((rd_T81 (rd_L5 l0 a1) a2).f1).length c118_1):=(blk_cell BK119.out 1).trans rfl
                 have hfz44_0:=blk_frozen BK119.out 0
                 have hfz44_1:=blk_frozen BK119.out 1
                 go_wp2
                 go_roundg kj20
                 case measure => have:=HJ7.out;have:=HK2.out;have:=HJ20.out;omega
                 case rel => exact ⟨(wrap64 (x8_2 + 1)),(by first | rfl | (simp;done) | (simp [*];done)),H',⟨by have:=HJ7.out;have:=HK2.out;have:=HJ20.out;omega⟩,⟨by (with_reducible repeat (first | refine blk_drewN ?_ _ | refine blk_drew ?_ | refine blk_alloc ?_ _));exact BK119.out⟩,⟨Up.Bx HB⟩⟩
            ·replace c19:=Bool.eq_false_iff.mpr c19
             subst c19
             have H1 : (some false) = some r:=by rw [if_neg (show ¬ (false = true) by decide)] at H;exact H
             clear H
             have H:=H1
             clear H1
             obtain rfl:=Option.some.inj H
             have hcz45_0 : wr.cell? ⟨gb119,0,none⟩ = some (.int .i64 ((rd_T81 (rd_L5 l0 a1) a2).f0)):=(blk_cell BK119.out 0).trans rfl
             have hcz45_1 : wr.cell? ⟨gb119,1,none⟩ = some (.slice A118_1 ((rd_T81 (rd_L5 l0 a1) a2).f1).length c118_1):=(blk_cell BK119.out 1).trans rfl
             have hfz45_0:=blk_frozen BK119.out 0
             have hfz45_1:=blk_frozen BK119.out 1
             have p121 : 0 ≤ (x8_2 : Int):=Up.od
             have q121 : x8_2 < (((rd_T81 (rd_L5 l0 a1) a2).f1).length : Int):=Up.od
             obtain ⟨ad121,e121,hx121_0⟩:=Kd.at_string HR118_1.out x8_2 p121 q121
             cases e121
             replace hx121_0:=Up.hc HB hx121_0
             replace p121:=eq_true p121
             replace q121:=eq_true q121
             go_wp2_with (first | ((with_reducible refine gate_callee (f:=83) rfl ?_);refine Up.gl (some 42) Tryd.func83 #[.slice (some ad117) l0.length c0,.int .i64 a1,.int .i64 a2,.string (rdOf ByteArray.empty ((rd_T81 (rd_L5 l0 a1) a2).f1) x8_2)] ?_;(with_reducible refine (spec_l1Field.calls _ _ l0 a1 a2 (rdOf ByteArray.empty ((rd_T81 (rd_L5 l0 a1) a2).f1) x8_2) false _ ?side1 ?side2 A18.out).mono ?_);(case side1 => exact Up.Cx HR0 HB);(case side2 => exact HC0.out);rintro e w' ⟨rfl,⟨nd,rfl⟩⟩;refine ⟨_,rfl,?_⟩))
             go_ret
             exact Up.e1 (Up.Bx HB)
           ·rw [if_neg c17] at H
            exact absurd H (by simp)
          ·rw [if_neg c16] at H
           have c16b0 : decide (x8_2 < (((rd_T81 (rd_L5 l0 a1) a2).f1).length : Int)) = false:=decide_eq_false c16
           clear c16
           obtain rfl:=Option.some.inj H
           have hcz46_0 : wr.cell? ⟨gb119,0,none⟩ = some (.int .i64 ((rd_T81 (rd_L5 l0 a1) a2).f0)):=(blk_cell BK119.out 0).trans rfl
           have hcz46_1 : wr.cell? ⟨gb119,1,none⟩ = some (.slice A118_1 ((rd_T81 (rd_L5 l0 a1) a2).f1).length c118_1):=(blk_cell BK119.out 1).trans rfl
           have hfz46_0:=blk_frozen BK119.out 0
           have hfz46_1:=blk_frozen BK119.out 1
           go_wp2
           go_ret
           exact Up.e1 (Up.Bx HB)
    ·rw [if_neg c7] at H
     exact absurd H (by simp)
   ·rw [if_neg c6] at H
    exact absurd H (by simp)
  ·rw [if_neg c5] at H
   exact absurd H (by simp)
 ·rw [if_neg c4] at H
  exact absurd H (by simp)

end Go.Proofs.YtdgmlakgnbmbbaaDoor.OFnValueOk
