-- Laid by a program of this session (wip/myprint.py): the kit's print of the functions, contracts of our own among them.
import Derived.Test.YtdgmlakgnbmbbaaDoorOFnExactValueTextx0
import Derived.Test.YtdgmlakgnbmbbaaDoorOFnExactValueTextx4
import Derived.Test.YtdgmlakgnbmbbaaDoorOFnExactValueTextx5
namespace Go.Proofs.YtdgmlakgnbmbbaaDoor.OFnExactValueText
open Go.RowKit Go.Proofs.YtdgmlakgnbmbbaaDoorW.PrintWords Go.Proofs.YtdgmlakgnbmbbaaDoorW.PrintLast Go.Proofs.YtdgmlakgnbmbbaaDoorW.PrintMore
attribute [local go_sem] max2_int min2_int max_two min_two max_three min_three max_four min_four   -- for this text's walks alone
set_option linter.unusedVariables false
set_option linter.unusedSimpArgs false

/-! ### spec_l1Record: function 72 -/
mutual
def spec_l1Record.j0 : Nat → List (List (S81)) → Int → Int → Bool → Int → List ByteArray → Option (Bool)
 | 0,_,_,_,_,_,_ => none
 | k + 1,x0,x1,x2,x26,x183000,x183001 => if x26 = true then (some false) else (spec_l1Record.l0 k x0 x1 x2 0 x183000 x183001)
def spec_l1Record.l0 : Nat → List (List (S81)) → Int → Int → Int → Int → List ByteArray → Option (Bool)
 | 0,_,_,_,_,_,_ => none
 | k + 1,x0,x1,x2,x8,x183000,x183001 => if x8 < (x183001.length : Int) then (if 0 ≤ x8 then ((spec_l1Field.f x0 x1 x2 (rdOf ByteArray.empty x183001 x8)).bind fun t185 => (if t185 = true then ((spec_l1Able.f k x0 (rdOf ByteArray.empty x183001 x8)).bind fun t187 => ((spec_l1Can.f x183000 1).bind fun t188 => (if t188 = true then ((spec_l1Can.f t187 1).bind fun t189 => (if t189 = true then ((spec_l1Can.f x183000 2).bind fun t190 => (if t190 = true then ((spec_l1Can.f t187 2).bind fun t191 => (spec_l1Record.j2 k x0 x1 x2 x8 t187 (!t191) x183000 x183001)) else (spec_l1Record.j2 k x0 x1 x2 x8 t187 false x183000 x183001))) else (spec_l1Record.j2 k x0 x1 x2 x8 t187 true x183000 x183001))) else ((spec_l1Can.f x183000 2).bind fun t192 => (if t192 = true then ((spec_l1Can.f t187 2).bind fun t193 => (spec_l1Record.j2 k x0 x1 x2 x8 t187 (!t193) x183000 x183001)) else (spec_l1Record.j2 k x0 x1 x2 x8 t187 false x183000 x183001)))))) else (some false))) else (none)) else (some true)
def spec_l1Record.j2 : Nat → List (List (S81)) → Int → Int → Int → Int → Bool → Int → List ByteArray → Option (Bool)
 | 0,_,_,_,_,_,_,_,_ => none
 | k + 1,x0,x1,x2,x8,x9,x68,x183000,x183001 => if x68 = true then (some false) else (if x183000 ≥ 4 then ((spec_l1Can.f x9 4).bind fun t194 => (if t194 = true then (spec_l1Record.l0 k x0 x1 x2 (wrap64 (x8 + 1)) x183000 x183001) else (some false))) else (spec_l1Record.l0 k x0 x1 x2 (wrap64 (x8 + 1)) x183000 x183001))
end
def spec_l1Record.f (k : Nat) (l0 : List (List (S81))) (a1 : Int) (a2 : Int) : Option (Bool):=if 0 ≤ a1 then (if a1 < (l0.length : Int) then (if 0 ≤ a2 then (if a2 < ((rd_L4 l0 a1).length : Int) then ((spec_l6In.f ((rd_T81 (rd_L4 l0 a1) a2).f0) 0 15).bind fun t183 => (if t183 = true then (spec_l1Record.j0 k l0 a1 a2 (decide ((((rd_T81 (rd_L4 l0 a1) a2).f1).length : Int) > 3)) ((rd_T81 (rd_L4 l0 a1) a2).f0) ((rd_T81 (rd_L4 l0 a1) a2).f1)) else (spec_l1Record.j0 k l0 a1 a2 true ((rd_T81 (rd_L4 l0 a1) a2).f0) ((rd_T81 (rd_L4 l0 a1) a2).f1)))) else (none)) else (none)) else (none)) else (none)
theorem spec_l1Record.mono_l : ∀ k,(∀ y0 y1 y2 y3 y4 y5,LeO (spec_l1Record.j0 k y0 y1 y2 y3 y4 y5) (spec_l1Record.j0 (k + 1) y0 y1 y2 y3 y4 y5)) ∧ (∀ y0 y1 y2 y3 y4 y5,LeO (spec_l1Record.l0 k y0 y1 y2 y3 y4 y5) (spec_l1Record.l0 (k + 1) y0 y1 y2 y3 y4 y5)) ∧ (∀ y0 y1 y2 y3 y4 y5 y6 y7,LeO (spec_l1Record.j2 k y0 y1 y2 y3 y4 y5 y6 y7) (spec_l1Record.j2 (k + 1) y0 y1 y2 y3 y4 y5 y6 y7))
 | 0 => ⟨fun _ _ _ _ _ _ r h => by simp [spec_l1Record.j0] at h,fun _ _ _ _ _ _ r h => by simp [spec_l1Record.l0] at h,fun _ _ _ _ _ _ _ _ r h => by simp [spec_l1Record.j2] at h⟩
 | k + 1 => by
  obtain ⟨ih0,ih1,ih2⟩:=spec_l1Record.mono_l k
  refine ⟨?_,?_,?_⟩
  ·intro y0 y1 y2 y3 y4 y5
   unfold spec_l1Record.j0
   repeat' first
   | (with_reducible exact ih0 _ _ _ _ _ _)
   | (with_reducible exact ih1 _ _ _ _ _ _)
   | (with_reducible exact ih2 _ _ _ _ _ _ _ _)
   | (with_reducible exact spec_l1Able.mono _ _ _)
   | (with_reducible exact LeO.refl _)
   | (with_reducible exact LeO.none _)
   | (with_reducible refine LeO.ite ?_ ?_)
   | (with_reducible refine LeO.bind ?_ (fun _ => ?_))
   | exact ih0 _ _ _ _ _ _
   | exact ih1 _ _ _ _ _ _
   | exact ih2 _ _ _ _ _ _ _ _
   | exact spec_l1Able.mono _ _ _
   | exact LeO.none _
   | refine LeO.ite ?_ ?_
   | refine LeO.bind ?_ (fun _ => ?_)
  ·intro y0 y1 y2 y3 y4 y5
   unfold spec_l1Record.l0
   repeat' first
   | (with_reducible exact ih0 _ _ _ _ _ _)
   | (with_reducible exact ih1 _ _ _ _ _ _)
   | (with_reducible exact ih2 _ _ _ _ _ _ _ _)
   | (with_reducible exact spec_l1Able.mono _ _ _)
   | (with_reducible exact LeO.refl _)
   | (with_reducible exact LeO.none _)
   | (with_reducible refine LeO.ite ?_ ?_)
   | (with_reducible refine LeO.bind ?_ (fun _ => ?_))
   | exact ih0 _ _ _ _ _ _
   | exact ih1 _ _ _ _ _ _
   | exact ih2 _ _ _ _ _ _ _ _
   | exact spec_l1Able.mono _ _ _
   | exact LeO.none _
   | refine LeO.ite ?_ ?_
   | refine LeO.bind ?_ (fun _ => ?_)
  ·intro y0 y1 y2 y3 y4 y5 y6 y7
   unfold spec_l1Record.j2
   repeat' first
   | (with_reducible exact ih0 _ _ _ _ _ _)
   | (with_reducible exact ih1 _ _ _ _ _ _)
   | (with_reducible exact ih2 _ _ _ _ _ _ _ _)
   | (with_reducible exact spec_l1Able.mono _ _ _)
   | (with_reducible exact LeO.refl _)
   | (with_reducible exact LeO.none _)
   | (with_reducible refine LeO.ite ?_ ?_)
   | (with_reducible refine LeO.bind ?_ (fun _ => ?_))
   | exact ih0 _ _ _ _ _ _
   | exact ih1 _ _ _ _ _ _
   | exact ih2 _ _ _ _ _ _ _ _
   | exact spec_l1Able.mono _ _ _
   | exact LeO.none _
   | refine LeO.ite ?_ ?_
   | refine LeO.bind ?_ (fun _ => ?_)
theorem spec_l1Record.mono : ∀ a0 a1 a2 k,LeO (spec_l1Record.f k a0 a1 a2) (spec_l1Record.f (k + 1) a0 a1 a2):=by
 intro a0 a1 a2 k
 obtain ⟨ih0,ih1,ih2⟩:=spec_l1Record.mono_l k
 unfold spec_l1Record.f
 repeat' first
   | (with_reducible exact ih0 _ _ _ _ _ _)
   | (with_reducible exact ih1 _ _ _ _ _ _)
   | (with_reducible exact ih2 _ _ _ _ _ _ _ _)
   | (with_reducible exact spec_l1Able.mono _ _ _)
   | (with_reducible exact LeO.refl _)
   | (with_reducible exact LeO.none _)
   | (with_reducible refine LeO.ite ?_ ?_)
   | (with_reducible refine LeO.bind ?_ (fun _ => ?_))
   | exact ih0 _ _ _ _ _ _
   | exact ih1 _ _ _ _ _ _
   | exact ih2 _ _ _ _ _ _ _ _
   | exact spec_l1Able.mono _ _ _
   | exact LeO.none _
   | refine LeO.ite ?_ ?_
   | refine LeO.bind ?_ (fun _ => ?_)
set_option maxHeartbeats 8000000 in
set_option maxRecDepth 100000 in
theorem spec_l1Record.calls (k : Nat) (A0 : Option Addr) (c0 : Nat) (l0 : List (List (S81))) (a1 : Int) (a2 : Int) (r : Bool) (w : World) (hr0 : Kd.C (Kd.slice 81 k81) w A0 l0.length l0) (hc0 : l0.length ≤ c0) (h : spec_l1Record.f k l0 a1 a2 = some r) :
  Calls Tryd.prog 72 #[.slice A0 l0.length c0,.int .i64 a1,.int .i64 a2] w fun e w' => e = .returned (.bool r) ∧ Below w.heap.size w w':=by
 have hu81:=Tryd.underlying81
 have HR0:=Aside0.mk hr0
 have HC0:=Aside0.mk hc0
 clear hr0 hc0
 have HB:=Aside0.mk (Below.refl w.heap.size w)
 have H : (if 0 ≤ a1 then (if a1 < (l0.length : Int) then (if 0 ≤ a2 then (if a2 < ((rd_L4 l0 a1).length : Int) then ((spec_l6In.f ((rd_T81 (rd_L4 l0 a1) a2).f0) 0 15).bind fun t183 => (if t183 = true then (spec_l1Record.j0 k l0 a1 a2 (decide ((((rd_T81 (rd_L4 l0 a1) a2).f1).length : Int) > 3)) ((rd_T81 (rd_L4 l0 a1) a2).f0) ((rd_T81 (rd_L4 l0 a1) a2).f1)) else (spec_l1Record.j0 k l0 a1 a2 true ((rd_T81 (rd_L4 l0 a1) a2).f0) ((rd_T81 (rd_L4 l0 a1) a2).f1)))) else (none)) else (none)) else (none)) else (none)) = some r:=h
 clear h
 by_cases c4 : 0 ≤ a1
 ·rw [if_pos c4] at H
  have c4b0 : decide (0 ≤ a1) = true:=decide_eq_true c4
  clear c4
  by_cases c5 : a1 < (l0.length : Int)
  ·rw [if_pos c5] at H
   have c5b0 : decide (a1 < (l0.length : Int)) = true:=decide_eq_true c5
   clear c5
   by_cases c6 : 0 ≤ a2
   ·rw [if_pos c6] at H
    have c6b0 : decide (0 ≤ a2) = true:=decide_eq_true c6
    clear c6
    by_cases c7 : a2 < ((rd_L4 l0 a1).length : Int)
    ·rw [if_pos c7] at H
     have c7b0 : decide (a2 < ((rd_L4 l0 a1).length : Int)) = true:=decide_eq_true c7
     clear c7
     have HC8:=Aside0.mk H
     clear H
     have p180 : 0 ≤ (a1 : Int):=Up.od
     have q180 : a1 < (l0.length : Int):=Up.od
     obtain ⟨ad180,A180_0,c180_0,e180,hx180_0,hl180_0,hi180_0⟩:=at_L4 HR0.out a1 p180 q180
     cases e180
     have HR180_0:=Aside0.mk hi180_0
     have HC180_0:=Aside0.mk hl180_0
     clear hi180_0 hl180_0
     replace p180:=eq_true p180
     replace q180:=eq_true q180
     have p181 : 0 ≤ (a2 : Int):=Up.od
     have q181 : a2 < ((rd_L4 l0 a1).length : Int):=Up.od
     obtain ⟨ad181,A181_1,c181_1,e181,hx181_0,hx181_1,hl181_1,hi181_1⟩:=at_T81 HR180_0.out a2 p181 q181
     cases e181
     have HR181_1:=Aside0.mk hi181_1
     have HC181_1:=Aside0.mk hl181_1
     clear hi181_1 hl181_1
     replace p181:=eq_true p181
     replace q181:=eq_true q181
     go_enter Tryd.func72,Tryd.ntmps72
     go_upto_region 2 with (first | ((with_reducible refine gate_dst (N:=7) rfl ?_);(try (refine gate_guard (by rfl) ?_;dsimp only));refine Up.bx 7 81 #[.int .i64 0,.slice none 0 0] ?_;intro gb182 hg w9 hbox hb;have n0_:=Up.BB HB hb;have n1_:=Aside0.mk (hbox);have n2_:=Up.gw hg HB;have n3_:=Up.gw hg HB;clear HB;have HB:=n0_;have BK182:=n1_;have GW182:=n2_;have GE182:=n3_;clear n0_ n1_ n2_ n3_ hb hbox hg;have hcz10_0:=Up.c0 BK182;have hcz10_1:=Up.c1 BK182;have hfz10_0:=blk_frozen BK182.out 0;have hfz10_1:=blk_frozen BK182.out 1))
     (try simp only [Act.put,List.setIfInBounds_toArray,List.set_cons_zero,List.set_cons_succ])
     go_cut [26] (fun v26 wc => ∃ (kq : Nat) (x26_7 : Bool),v26 = .bool x26_7 ∧ Aside0 (spec_l1Record.j0 kq l0 a1 a2 x26_7 ((rd_T81 (rd_L4 l0 a1) a2).f0) ((rd_T81 (rd_L4 l0 a1) a2).f1) = some r) ∧ Aside0 (kq ≤ k) ∧ Aside0 (wc.heap[gb182]? = some (.cells #[.int .i64 ((rd_T81 (rd_L4 l0 a1) a2).f0),(.slice A181_1 ((rd_T81 (rd_L4 l0 a1) a2).f1).length c181_1)] 81 (0,0))) ∧ Aside0 (Below w.heap.size w wc))
     case first =>
      have H:=HC8.out
      clear HC8
      replace H:=Option.bind_eq_some_iff.mp H
      obtain ⟨t183,A110,H⟩:=H
      replace H : (if t183 = true then (spec_l1Record.j0 k l0 a1 a2 (decide ((((rd_T81 (rd_L4 l0 a1) a2).f1).length : Int) > 3)) ((rd_T81 (rd_L4 l0 a1) a2).f0) ((rd_T81 (rd_L4 l0 a1) a2).f1)) else (spec_l1Record.j0 k l0 a1 a2 true ((rd_T81 (rd_L4 l0 a1) a2).f0) ((rd_T81 (rd_L4 l0 a1) a2).f1))) = some r:=H
      have A11:=Aside0.mk A110
      clear A110
      by_cases c12 : t183 = true
      ·subst c12
       have H1 : (spec_l1Record.j0 k l0 a1 a2 (decide ((((rd_T81 (rd_L4 l0 a1) a2).f1).length : Int) > 3)) ((rd_T81 (rd_L4 l0 a1) a2).f0) ((rd_T81 (rd_L4 l0 a1) a2).f1)) = some r:=by rw [if_pos rfl] at H;exact H
       clear H
       have H:=H1
       clear H1
       have H':=Aside0.mk H
       clear H
       have hcz13_0:=Up.c0 BK182
       have hcz13_1:=Up.c1 BK182
       have hfz13_0:=blk_frozen BK182.out 0
       have hfz13_1:=blk_frozen BK182.out 1
       go_wp2_with (first | ((with_reducible refine gate_callee (f:=59) rfl ?_);refine Up.gl (some 19) Tryd.func59 #[.int .i64 ((rd_T81 (rd_L4 l0 a1) a2).f0),.int .i64 0,.int .i64 15] ?_;(with_reducible refine (spec_l6In.calls ((rd_T81 (rd_L4 l0 a1) a2).f0) 0 15 true _ A11.out).mono ?_);rintro e w' ⟨rfl,⟨nd,rfl⟩⟩;refine ⟨_,rfl,?_⟩))
       go_meet
       case rel => exact ⟨_,(decide ((((rd_T81 (rd_L4 l0 a1) a2).f1).length : Int) > 3)),(by first | rfl | (simp;done) | (simp [*];done)),H',⟨by first | omega | exact Nat.le_refl _⟩,⟨by (with_reducible repeat (first | refine blk_drewN ?_ _ | refine blk_drew ?_ | refine blk_alloc ?_ _));refine blk_put (cs:=#[.int .i64 ((rd_T81 (rd_L4 l0 a1) a2).f0),.slice none 0 0]) ?_ 1 _ rfl;(with_reducible repeat (first | refine blk_drewN ?_ _ | refine blk_drew ?_ | refine blk_alloc ?_ _));refine blk_put (cs:=#[.int .i64 0,.slice none 0 0]) ?_ 0 _ rfl;(with_reducible repeat (first | refine blk_drewN ?_ _ | refine blk_drew ?_ | refine blk_alloc ?_ _));exact BK182.out⟩,⟨Up.Bx HB⟩⟩
      ·replace c12:=Bool.eq_false_iff.mpr c12
       subst c12
       have H1 : (spec_l1Record.j0 k l0 a1 a2 true ((rd_T81 (rd_L4 l0 a1) a2).f0) ((rd_T81 (rd_L4 l0 a1) a2).f1)) = some r:=by rw [if_neg (show ¬ (false = true) by decide)] at H;exact H
       clear H
       have H:=H1
       clear H1
       have H':=Aside0.mk H
       clear H
       have hcz14_0:=Up.c0 BK182
       have hcz14_1:=Up.c1 BK182
       have hfz14_0:=blk_frozen BK182.out 0
       have hfz14_1:=blk_frozen BK182.out 1
       go_wp2_with (first | ((with_reducible refine gate_callee (f:=59) rfl ?_);refine Up.gl (some 19) Tryd.func59 #[.int .i64 ((rd_T81 (rd_L4 l0 a1) a2).f0),.int .i64 0,.int .i64 15] ?_;(with_reducible refine (spec_l6In.calls ((rd_T81 (rd_L4 l0 a1) a2).f0) 0 15 false _ A11.out).mono ?_);rintro e w' ⟨rfl,⟨nd,rfl⟩⟩;refine ⟨_,rfl,?_⟩))
       go_meet
       case rel => exact ⟨_,(true),(by first | rfl | (simp;done) | (simp [*];done)),H',⟨by first | omega | exact Nat.le_refl _⟩,⟨by (with_reducible repeat (first | refine blk_drewN ?_ _ | refine blk_drew ?_ | refine blk_alloc ?_ _));refine blk_put (cs:=#[.int .i64 ((rd_T81 (rd_L4 l0 a1) a2).f0),.slice none 0 0]) ?_ 1 _ rfl;(with_reducible repeat (first | refine blk_drewN ?_ _ | refine blk_drew ?_ | refine blk_alloc ?_ _));refine blk_put (cs:=#[.int .i64 0,.slice none 0 0]) ?_ 0 _ rfl;(with_reducible repeat (first | refine blk_drewN ?_ _ | refine blk_drew ?_ | refine blk_alloc ?_ _));exact BK182.out⟩,⟨Up.Bx HB⟩⟩
     case rest =>
      clear HC8
      try clear c1
      try clear p1
      try clear q1
      try clear hx1
      try clear p2
      try clear c4
      try clear c4b0
      try clear c5
      try clear c5b0
      try clear c6
      try clear c6b0
      try clear c7
      try clear c7b0
      try clear c12
      try clear hcz10_0
      try clear hcz10_1
      try clear hcz13_0
      try clear hcz13_1
      try clear hcz14_0
      try clear hcz14_1
      try clear hfz10_0
      try clear hfz10_1
      try clear hfz13_0
      try clear hfz13_1
      try clear hfz14_0
      try clear hfz14_1
      try clear hx180_0
      try clear hx181_0
      try clear hx181_1
      try clear p180
      try clear p181
      try clear q180
      try clear q181
      obtain ⟨kq,x26_7,rfl,HA,HJ7,BK182,HB⟩:=hcut
      cases kq with
      | zero => exact absurd HA.out (by simp [spec_l1Record.j0])
      | succ kj7 =>
       have H:=HA.out
       clear HA
       simp only [spec_l1Record.j0] at H
       by_cases c15 : x26_7 = true
       ·subst c15
        have H1 : (some false) = some r:=by rw [if_pos rfl] at H;exact H
        clear H
        have H:=H1
        clear H1
        obtain rfl:=Option.some.inj H
        go_wp2
        go_ret
        exact Up.e1 (Up.Bx HB)
       ·replace c15:=Bool.eq_false_iff.mpr c15
        subst c15
        have H1 : (spec_l1Record.l0 kj7 l0 a1 a2 0 ((rd_T81 (rd_L4 l0 a1) a2).f0) ((rd_T81 (rd_L4 l0 a1) a2).f1)) = some r:=by rw [if_neg (show ¬ (false = true) by decide)] at H;exact H
        clear H
        have H:=H1
        clear H1
        have H':=Aside0.mk H
        clear H
        go_wp2
        go_loopg [8] kj7 (fun kq v8 w' => ∃ (x8_2 : Int),v8 = .int .i64 x8_2 ∧ Aside0 (spec_l1Record.l0 kq l0 a1 a2 x8_2 ((rd_T81 (rd_L4 l0 a1) a2).f0) ((rd_T81 (rd_L4 l0 a1) a2).f1) = some r) ∧ Aside0 (kq ≤ kj7) ∧ Aside0 (w'.heap[gb182]? = some (.cells #[.int .i64 ((rd_T81 (rd_L4 l0 a1) a2).f0),(.slice A181_1 ((rd_T81 (rd_L4 l0 a1) a2).f1).length c181_1)] 81 (0,0))) ∧ Aside0 (Below w.heap.size w w'))
        case atStart => exact ⟨(0),(by first | rfl | (simp;done) | (simp [*];done)),H',⟨Nat.le_refl _⟩,⟨by (with_reducible repeat (first | refine blk_drewN ?_ _ | refine blk_drew ?_ | refine blk_alloc ?_ _));exact BK182.out⟩,⟨Up.Bx HB⟩⟩
        case round =>
         clear H'
         try clear c1
         try clear p1
         try clear q1
         try clear hx1
         try clear p2
         try clear c4
         try clear c4b0
         try clear c5
         try clear c5b0
         try clear c6
         try clear c6b0
         try clear c7
         try clear c7b0
         try clear c12
         try clear c15
         try clear hcz10_0
         try clear hcz10_1
         try clear hcz13_0
         try clear hcz13_1
         try clear hcz14_0
         try clear hcz14_1
         try clear hfz10_0
         try clear hfz10_1
         try clear hfz13_0
         try clear hfz13_1
         try clear hfz14_0
         try clear hfz14_1
         try clear hx180_0
         try clear hx181_0
         try clear hx181_1
         try clear p1
         try clear p180
         try clear p181
         try clear p2
         try clear q1
         try clear q180
         try clear q181
         obtain ⟨x8_2,rfl,HA,HK2,BK182,HB⟩:=hrel
         cases gk with
         | zero => exact absurd HA.out (by simp [spec_l1Record.l0])
         | succ k2 =>
          have H:=HA.out
          clear HA
          simp only [spec_l1Record.l0] at H
          by_cases c16 : x8_2 < (((rd_T81 (rd_L4 l0 a1) a2).f1).length : Int)
          ·rw [if_pos c16] at H
           have c16b0 : decide (x8_2 < (((rd_T81 (rd_L4 l0 a1) a2).f1).length : Int)) = true:=decide_eq_true c16
           clear c16
           by_cases c17 : 0 ≤ x8_2
           ·rw [if_pos c17] at H
            have c17b0 : decide (0 ≤ x8_2) = true:=decide_eq_true c17
            clear c17
            replace H:=Option.bind_eq_some_iff.mp H
            obtain ⟨t185,A180,H⟩:=H
            replace H : (if t185 = true then ((spec_l1Able.f k2 l0 (rdOf ByteArray.empty ((rd_T81 (rd_L4 l0 a1) a2).f1) x8_2)).bind fun t187 => ((spec_l1Can.f ((rd_T81 (rd_L4 l0 a1) a2).f0) 1).bind fun t188 => (if t188 = true then ((spec_l1Can.f t187 1).bind fun t189 => (if t189 = true then ((spec_l1Can.f ((rd_T81 (rd_L4 l0 a1) a2).f0) 2).bind fun t190 => (if t190 = true then ((spec_l1Can.f t187 2).bind fun t191 => (spec_l1Record.j2 k2 l0 a1 a2 x8_2 t187 (!t191) ((rd_T81 (rd_L4 l0 a1) a2).f0) ((rd_T81 (rd_L4 l0 a1) a2).f1))) else (spec_l1Record.j2 k2 l0 a1 a2 x8_2 t187 false ((rd_T81 (rd_L4 l0 a1) a2).f0) ((rd_T81 (rd_L4 l0 a1) a2).f1)))) else (spec_l1Record.j2 k2 l0 a1 a2 x8_2 t187 true ((rd_T81 (rd_L4 l0 a1) a2).f0) ((rd_T81 (rd_L4 l0 a1) a2).f1)))) else ((spec_l1Can.f ((rd_T81 (rd_L4 l0 a1) a2).f0) 2).bind fun t192 => (if t192 = true then ((spec_l1Can.f t187 2).bind fun t193 => (spec_l1Record.j2 k2 l0 a1 a2 x8_2 t187 (!t193) ((rd_T81 (rd_L4 l0 a1) a2).f0) ((rd_T81 (rd_L4 l0 a1) a2).f1))) else (spec_l1Record.j2 k2 l0 a1 a2 x8_2 t187 false ((rd_T81 (rd_L4 l0 a1) a2).f0) ((rd_T81 (rd_L4 l0 a1) a2).f1))))))) else (some false)) = some r:=H
            have A18:=Aside0.mk A180
            clear A180
            by_cases c19 : t185 = true
            ·subst c19
             have H1 : ((spec_l1Able.f k2 l0 (rdOf ByteArray.empty ((rd_T81 (rd_L4 l0 a1) a2).f1) x8_2)).bind fun t187 => ((spec_l1Can.f ((rd_T81 (rd_L4 l0 a1) a2).f0) 1).bind fun t188 => (if t188 = true then ((spec_l1Can.f t187 1).bind fun t189 => (if t189 = true then ((spec_l1Can.f ((rd_T81 (rd_L4 l0 a1) a2).f0) 2).bind fun t190 => (if t190 = true then ((spec_l1Can.f t187 2).bind fun t191 => (spec_l1Record.j2 k2 l0 a1 a2 x8_2 t187 (!t191) ((rd_T81 (rd_L4 l0 a1) a2).f0) ((rd_T81 (rd_L4 l0 a1) a2).f1))) else (spec_l1Record.j2 k2 l0 a1 a2 x8_2 t187 false ((rd_T81 (rd_L4 l0 a1) a2).f0) ((rd_T81 (rd_L4 l0 a1) a2).f1)))) else (spec_l1Record.j2 k2 l0 a1 a2 x8_2 t187 true ((rd_T81 (rd_L4 l0 a1) a2).f0) ((rd_T81 (rd_L4 l0 a1) a2).f1)))) else ((spec_l1Can.f ((rd_T81 (rd_L4 l0 a1) a2).f0) 2).bind fun t192 => (if t192 = true then ((spec_l1Can.f t187 2).bind fun t193 => (spec_l1Record.j2 k2 l0 a1 a2 x8_2 t187 (!t193) ((rd_T81 (rd_L4 l0 a1) a2).f0) ((rd_T81 (rd_L4 l0 a1) a2).f1))) else (spec_l1Record.j2 k2 l0 a1 a2 x8_2 t187 false ((rd_T81 (rd_L4 l0 a1) a2).f0) ((rd_T81 (rd_L4 l0 a1) a2).f1))))))) = some r:=by rw [if_pos rfl] at H;exact H
             clear H
             have H:=H1
             clear H1
             replace H:=Option.bind_eq_some_iff.mp H
             obtain ⟨t187,A200,H⟩:=H
             replace H : ((spec_l1Can.f ((rd_T81 (rd_L4 l0 a1) a2).f0) 1).bind fun t188 => (if t188 = true then ((spec_l1Can.f t187 1).bind fun t189 => (if t189 = true then ((spec_l1Can.f ((rd_T81 (rd_L4 l0 a1) a2).f0) 2).bind fun t190 => (if t190 = true then ((spec_l1Can.f t187 2).bind fun t191 => (spec_l1Record.j2 k2 l0 a1 a2 x8_2 t187 (!t191) ((rd_T81 (rd_L4 l0 a1) a2).f0) ((rd_T81 (rd_L4 l0 a1) a2).f1))) else (spec_l1Record.j2 k2 l0 a1 a2 x8_2 t187 false ((rd_T81 (rd_L4 l0 a1) a2).f0) ((rd_T81 (rd_L4 l0 a1) a2).f1)))) else (spec_l1Record.j2 k2 l0 a1 a2 x8_2 t187 true ((rd_T81 (rd_L4 l0 a1) a2).f0) ((rd_T81 (rd_L4 l0 a1) a2).f1)))) else ((spec_l1Can.f ((rd_T81 (rd_L4 l0 a1) a2).f0) 2).bind fun t192 => (if t192 = true then ((spec_l1Can.f t187 2).bind fun t193 => (spec_l1Record.j2 k2 l0 a1 a2 x8_2 t187 (!t193) ((rd_T81 (rd_L4 l0 a1) a2).f0) ((rd_T81 (rd_L4 l0 a1) a2).f1))) else (spec_l1Record.j2 k2 l0 a1 a2 x8_2 t187 false ((rd_T81 (rd_L4 l0 a1) a2).f0) ((rd_T81 (rd_L4 l0 a1) a2).f1)))))) = some r:=H
             have A20:=Aside0.mk A200
             clear A200
             have HC21:=Aside0.mk H
             clear H
             have hcz22_0 : wr.cell? ⟨gb182,0,none⟩ = some (.int .i64 ((rd_T81 (rd_L4 l0 a1) a2).f0)):=(blk_cell BK182.out 0).trans rfl
             have hcz22_1 : wr.cell? ⟨gb182,1,none⟩ = some (.slice A181_1 ((rd_T81 (rd_L4 l0 a1) a2).f1).length c181_1):=(blk_cell BK182.out 1).trans rfl
             have hfz22_0:=blk_frozen BK182.out 0
             have hfz22_1:=blk_frozen BK182.out 1
             have p184 : 0 ≤ (x8_2 : Int):=Up.od
             have q184 : x8_2 < (((rd_T81 (rd_L4 l0 a1) a2).f1).length : Int):=Up.od
             obtain ⟨ad184,e184,hx184_0⟩:=Kd.at_string HR181_1.out x8_2 p184 q184
             cases e184
             replace hx184_0:=Up.hc HB hx184_0
             replace p184:=eq_true p184
             replace q184:=eq_true q184
             go_upto_region 10 with (first | ((with_reducible refine gate_callee (f:=83) rfl ?_);refine Up.gl (some 42) Tryd.func83 #[.slice (some ad180) l0.length c0,.int .i64 a1,.int .i64 a2,.string (rdOf ByteArray.empty ((rd_T81 (rd_L4 l0 a1) a2).f1) x8_2)] ?_;(with_reducible refine (spec_l1Field.calls _ _ l0 a1 a2 (rdOf ByteArray.empty ((rd_T81 (rd_L4 l0 a1) a2).f1) x8_2) true _ ?side1 ?side2 A18.out).mono ?_);(case side1 => exact Up.Cx HR0 HB);(case side2 => exact HC0.out);rintro e w' ⟨rfl,⟨nd,rfl⟩⟩;refine ⟨_,rfl,?_⟩;have p186 : 0 ≤ (x8_2 : Int):=Up.od;have q186 : x8_2 < (((rd_T81 (rd_L4 l0 a1) a2).f1).length : Int):=Up.od;obtain ⟨ad186,e186,hx186_0⟩:=Kd.at_string HR181_1.out x8_2 p186 q186;obtain rfl : ad184 = ad186:=(by injection e186);replace hx186_0:=Up.hc HB hx186_0;replace p186:=eq_true p186;replace q186:=eq_true q186) | ((with_reducible refine gate_callee (f:=84) rfl ?_);refine Up.gl (some 50) Tryd.func84 #[.slice (some ad180) l0.length c0,.string (rdOf ByteArray.empty ((rd_T81 (rd_L4 l0 a1) a2).f1) x8_2)] ?_;(with_reducible refine (spec_l1Able.calls k2 _ _ l0 (rdOf ByteArray.empty ((rd_T81 (rd_L4 l0 a1) a2).f1) x8_2) t187 _ ?side1 ?side2 A20.out).mono ?_);(case side1 => repeat (first | exact (Kd.C_below HR0.out (Up.Bx HB)) | (with_reducible refine Kd.C_alloc ?_ _) | (with_reducible refine Kd.C_drewN ?_ _) | (with_reducible refine Kd.C_drew ?_)));(case side2 => exact HC0.out);rintro e w' ⟨rfl,⟨nd,rfl⟩⟩;refine ⟨_,rfl,?_⟩))
             (try simp only [Act.put,List.setIfInBounds_toArray,List.set_cons_zero,List.set_cons_succ])
             go_cut [68] (fun v68 wc => ∃ (kq : Nat) (x68_20 : Bool),v68 = .bool x68_20 ∧ Aside0 (spec_l1Record.j2 kq l0 a1 a2 x8_2 t187 x68_20 ((rd_T81 (rd_L4 l0 a1) a2).f0) ((rd_T81 (rd_L4 l0 a1) a2).f1) = some r) ∧ Aside0 (kq ≤ k2) ∧ Aside0 (wc.heap[gb182]? = some (.cells #[.int .i64 ((rd_T81 (rd_L4 l0 a1) a2).f0),(.slice (some ad184) ((rd_T81 (rd_L4 l0 a1) a2).f1).length c181_1)] 81 (0,0))) ∧ Aside0 (Below w.heap.size w wc))
             case first =>
              have H:=HC21.out
              clear HC21
              replace H:=Option.bind_eq_some_iff.mp H
              obtain ⟨t188,A230,H⟩:=H
              replace H : (if t188 = true then ((spec_l1Can.f t187 1).bind fun t189 => (if t189 = true then ((spec_l1Can.f ((rd_T81 (rd_L4 l0 a1) a2).f0) 2).bind fun t190 => (if t190 = true then ((spec_l1Can.f t187 2).bind fun t191 => (spec_l1Record.j2 k2 l0 a1 a2 x8_2 t187 (!t191) ((rd_T81 (rd_L4 l0 a1) a2).f0) ((rd_T81 (rd_L4 l0 a1) a2).f1))) else (spec_l1Record.j2 k2 l0 a1 a2 x8_2 t187 false ((rd_T81 (rd_L4 l0 a1) a2).f0) ((rd_T81 (rd_L4 l0 a1) a2).f1)))) else (spec_l1Record.j2 k2 l0 a1 a2 x8_2 t187 true ((rd_T81 (rd_L4 l0 a1) a2).f0) ((rd_T81 (rd_L4 l0 a1) a2).f1)))) else ((spec_l1Can.f ((rd_T81 (rd_L4 l0 a1) a2).f0) 2).bind fun t192 => (if t192 = true then ((spec_l1Can.f t187 2).bind fun t193 => (spec_l1Record.j2 k2 l0 a1 a2 x8_2 t187 (!t193) ((rd_T81 (rd_L4 l0 a1) a2).f0) ((rd_T81 (rd_L4 l0 a1) a2).f1))) else (spec_l1Record.j2 k2 l0 a1 a2 x8_2 t187 false ((rd_T81 (rd_L4 l0 a1) a2).f0) ((rd_T81 (rd_L4 l0 a1) a2).f1))))) = some r:=H
              have A23:=Aside0.mk A230
              clear A230
              by_cases c24 : t188 = true
              ·subst c24
               have H1 : ((spec_l1Can.f t187 1).bind fun t189 => (if t189 = true then ((spec_l1Can.f ((rd_T81 (rd_L4 l0 a1) a2).f0) 2).bind fun t190 => (if t190 = true then ((spec_l1Can.f t187 2).bind fun t191 => (spec_l1Record.j2 k2 l0 a1 a2 x8_2 t187 (!t191) ((rd_T81 (rd_L4 l0 a1) a2).f0) ((rd_T81 (rd_L4 l0 a1) a2).f1))) else (spec_l1Record.j2 k2 l0 a1 a2 x8_2 t187 false ((rd_T81 (rd_L4 l0 a1) a2).f0) ((rd_T81 (rd_L4 l0 a1) a2).f1)))) else (spec_l1Record.j2 k2 l0 a1 a2 x8_2 t187 true ((rd_T81 (rd_L4 l0 a1) a2).f0) ((rd_T81 (rd_L4 l0 a1) a2).f1)))) = some r:=by rw [if_pos rfl] at H;exact H
               clear H
               have H:=H1
               clear H1
               replace H:=Option.bind_eq_some_iff.mp H
               obtain ⟨t189,A250,H⟩:=H
               replace H : (if t189 = true then ((spec_l1Can.f ((rd_T81 (rd_L4 l0 a1) a2).f0) 2).bind fun t190 => (if t190 = true then ((spec_l1Can.f t187 2).bind fun t191 => (spec_l1Record.j2 k2 l0 a1 a2 x8_2 t187 (!t191) ((rd_T81 (rd_L4 l0 a1) a2).f0) ((rd_T81 (rd_L4 l0 a1) a2).f1))) else (spec_l1Record.j2 k2 l0 a1 a2 x8_2 t187 false ((rd_T81 (rd_L4 l0 a1) a2).f0) ((rd_T81 (rd_L4 l0 a1) a2).f1)))) else (spec_l1Record.j2 k2 l0 a1 a2 x8_2 t187 true ((rd_T81 (rd_L4 l0 a1) a2).f0) ((rd_T81 (rd_L4 l0 a1) a2).f1))) = some r:=H
               have A25:=Aside0.mk A250
               clear A250
               by_cases c26 : t189 = true
               ·subst c26
                have H1 : ((spec_l1Can.f ((rd_T81 (rd_L4 l0 a1) a2).f0) 2).bind fun t190 => (if t190 = true then ((spec_l1Can.f t187 2).bind fun t191 => (spec_l1Record.j2 k2 l0 a1 a2 x8_2 t187 (!t191) ((rd_T81 (rd_L4 l0 a1) a2).f0) ((rd_T81 (rd_L4 l0 a1) a2).f1))) else (spec_l1Record.j2 k2 l0 a1 a2 x8_2 t187 false ((rd_T81 (rd_L4 l0 a1) a2).f0) ((rd_T81 (rd_L4 l0 a1) a2).f1)))) = some r:=by rw [if_pos rfl] at H;exact H
                clear H
                have H:=H1
                clear H1
                replace H:=Option.bind_eq_some_iff.mp H
                obtain ⟨t190,A270,H⟩:=H
                replace H : (if t190 = true then ((spec_l1Can.f t187 2).bind fun t191 => (spec_l1Record.j2 k2 l0 a1 a2 x8_2 t187 (!t191) ((rd_T81 (rd_L4 l0 a1) a2).f0) ((rd_T81 (rd_L4 l0 a1) a2).f1))) else (spec_l1Record.j2 k2 l0 a1 a2 x8_2 t187 false ((rd_T81 (rd_L4 l0 a1) a2).f0) ((rd_T81 (rd_L4 l0 a1) a2).f1))) = some r:=H
                have A27:=Aside0.mk A270
                clear A270
                by_cases c28 : t190 = true
                ·subst c28
                 have H1 : ((spec_l1Can.f t187 2).bind fun t191 => (spec_l1Record.j2 k2 l0 a1 a2 x8_2 t187 (!t191) ((rd_T81 (rd_L4 l0 a1) a2).f0) ((rd_T81 (rd_L4 l0 a1) a2).f1))) = some r:=by rw [if_pos rfl] at H;exact H
                 clear H
                 have H:=H1
                 clear H1
                 replace H:=Option.bind_eq_some_iff.mp H
                 obtain ⟨t191,A290,H⟩:=H
                 replace H : (spec_l1Record.j2 k2 l0 a1 a2 x8_2 t187 (!t191) ((rd_T81 (rd_L4 l0 a1) a2).f0) ((rd_T81 (rd_L4 l0 a1) a2).f1)) = some r:=H
                 have A29:=Aside0.mk A290
                 clear A290
                 have H':=Aside0.mk H
                 clear H
                 have hcz30_0 : wr.cell? ⟨gb182,0,none⟩ = some (.int .i64 ((rd_T81 (rd_L4 l0 a1) a2).f0)):=(blk_cell BK182.out 0).trans rfl
                 have hcz30_1 : wr.cell? ⟨gb182,1,none⟩ = some (.slice (some ad184) ((rd_T81 (rd_L4 l0 a1) a2).f1).length c181_1):=(blk_cell BK182.out 1).trans rfl
                 have hfz30_0:=blk_frozen BK182.out 0
                 have hfz30_1:=blk_frozen BK182.out 1
                 go_wp2_with (first | ((with_reducible refine gate_callee (f:=85) rfl ?_);refine Up.gl (some 53) Tryd.func85 #[.int .i64 ((rd_T81 (rd_L4 l0 a1) a2).f0),.int .i64 1] ?_;(with_reducible refine (spec_l1Can.calls ((rd_T81 (rd_L4 l0 a1) a2).f0) 1 true _ A23.out).mono ?_);rintro e w' ⟨rfl,⟨nd,rfl⟩⟩;refine ⟨_,rfl,?_⟩) | (go_at_call 85;(with_reducible refine (spec_l1Can.calls t187 1 true _ A25.out).mono ?_);rintro e w' ⟨rfl,⟨nd,rfl⟩⟩) | (go_at_call 85;(with_reducible refine (spec_l1Can.calls ((rd_T81 (rd_L4 l0 a1) a2).f0) 2 true _ A27.out).mono ?_);rintro e w' ⟨rfl,⟨nd,rfl⟩⟩) | (go_at_call 85;(with_reducible refine (spec_l1Can.calls t187 2 t191 _ A29.out).mono ?_);rintro e w' ⟨rfl,⟨nd,rfl⟩⟩))
                 go_meet
                 case rel => exact ⟨_,(!t191),(by first | rfl | (simp;done) | (simp [*];done)),H',⟨by have:=HJ7.out;have:=HK2.out;first | omega | exact Nat.le_refl _⟩,⟨by (with_reducible repeat (first | refine blk_drewN ?_ _ | refine blk_drew ?_ | refine blk_alloc ?_ _));exact BK182.out⟩,⟨Up.Bx HB⟩⟩
                ·replace c28:=Bool.eq_false_iff.mpr c28
                 subst c28
                 have H1 : (spec_l1Record.j2 k2 l0 a1 a2 x8_2 t187 false ((rd_T81 (rd_L4 l0 a1) a2).f0) ((rd_T81 (rd_L4 l0 a1) a2).f1)) = some r:=by rw [if_neg (show ¬ (false = true) by decide)] at H;exact H
                 clear H
                 have H:=H1
                 clear H1
                 have H':=Aside0.mk H
                 clear H
                 have hcz31_0 : wr.cell? ⟨gb182,0,none⟩ = some (.int .i64 ((rd_T81 (rd_L4 l0 a1) a2).f0)):=(blk_cell BK182.out 0).trans rfl
                 have hcz31_1 : wr.cell? ⟨gb182,1,none⟩ = some (.slice (some ad184) ((rd_T81 (rd_L4 l0 a1) a2).f1).length c181_1):=(blk_cell BK182.out 1).trans rfl
                 have hfz31_0:=blk_frozen BK182.out 0
                 have hfz31_1:=blk_frozen BK182.out 1
                 go_wp2_with (first | ((with_reducible refine gate_callee (f:=85) rfl ?_);refine Up.gl (some 53) Tryd.func85 #[.int .i64 ((rd_T81 (rd_L4 l0 a1) a2).f0),.int .i64 1] ?_;(with_reducible refine (spec_l1Can.calls ((rd_T81 (rd_L4 l0 a1) a2).f0) 1 true _ A23.out).mono ?_);rintro e w' ⟨rfl,⟨nd,rfl⟩⟩;refine ⟨_,rfl,?_⟩) | (go_at_call 85;(with_reducible refine (spec_l1Can.calls t187 1 true _ A25.out).mono ?_);rintro e w' ⟨rfl,⟨nd,rfl⟩⟩) | (go_at_call 85;(with_reducible refine (spec_l1Can.calls ((rd_T81 (rd_L4 l0 a1) a2).f0) 2 false _ A27.out).mono ?_);rintro e w' ⟨rfl,⟨nd,rfl⟩⟩))
                 go_meet
                 case rel => exact ⟨_,(false),(by first | rfl | (simp;done) | (simp [*];done)),H',⟨by have:=HJ7.out;have:=HK2.out;first | omega | exact Nat.le_refl _⟩,⟨by (with_reducible repeat (first | refine blk_drewN ?_ _ | refine blk_drew ?_ | refine blk_alloc ?_ _));exact BK182.out⟩,⟨Up.Bx HB⟩⟩
               ·replace c26:=Bool.eq_false_iff.mpr c26
                subst c26
                have H1 : (spec_l1Record.j2 k2 l0 a1 a2 x8_2 t187 true ((rd_T81 (rd_L4 l0 a1) a2).f0) ((rd_T81 (rd_L4 l0 a1) a2).f1)) = some r:=by rw [if_neg (show ¬ (false = true) by decide)] at H;exact H
                clear H
                have H:=H1
                clear H1
                have H':=Aside0.mk H
                clear H
                have hcz32_0 : wr.cell? ⟨gb182,0,none⟩ = some (.int .i64 ((rd_T81 (rd_L4 l0 a1) a2).f0)):=(blk_cell BK182.out 0).trans rfl
                have hcz32_1 : wr.cell? ⟨gb182,1,none⟩ = some (.slice (some ad184) ((rd_T81 (rd_L4 l0 a1) a2).f1).length c181_1):=(blk_cell BK182.out 1).trans rfl
                have hfz32_0:=blk_frozen BK182.out 0
                have hfz32_1:=blk_frozen BK182.out 1
                go_wp2_with (first | ((with_reducible refine gate_callee (f:=85) rfl ?_);refine Up.gl (some 53) Tryd.func85 #[.int .i64 ((rd_T81 (rd_L4 l0 a1) a2).f0),.int .i64 1] ?_;(with_reducible refine (spec_l1Can.calls ((rd_T81 (rd_L4 l0 a1) a2).f0) 1 true _ A23.out).mono ?_);rintro e w' ⟨rfl,⟨nd,rfl⟩⟩;refine ⟨_,rfl,?_⟩) | (go_at_call 85;(with_reducible refine (spec_l1Can.calls t187 1 false _ A25.out).mono ?_);rintro e w' ⟨rfl,⟨nd,rfl⟩⟩))
                go_meet
                case rel => exact ⟨_,(true),(by first | rfl | (simp;done) | (simp [*];done)),H',⟨by have:=HJ7.out;have:=HK2.out;first | omega | exact Nat.le_refl _⟩,⟨by (with_reducible repeat (first | refine blk_drewN ?_ _ | refine blk_drew ?_ | refine blk_alloc ?_ _));exact BK182.out⟩,⟨Up.Bx HB⟩⟩
              ·replace c24:=Bool.eq_false_iff.mpr c24
               subst c24
               have H1 : ((spec_l1Can.f ((rd_T81 (rd_L4 l0 a1) a2).f0) 2).bind fun t192 => (if t192 = true then ((spec_l1Can.f t187 2).bind fun t193 => (spec_l1Record.j2 k2 l0 a1 a2 x8_2 t187 (!t193) ((rd_T81 (rd_L4 l0 a1) a2).f0) ((rd_T81 (rd_L4 l0 a1) a2).f1))) else (spec_l1Record.j2 k2 l0 a1 a2 x8_2 t187 false ((rd_T81 (rd_L4 l0 a1) a2).f0) ((rd_T81 (rd_L4 l0 a1) a2).f1)))) = some r:=by rw [if_neg (show ¬ (false = true) by decide)] at H;exact H
               clear H
               have H:=H1
               clear H1
               replace H:=Option.bind_eq_some_iff.mp H
               obtain ⟨t192,A330,H⟩:=H
               replace H : (if t192 = true then ((spec_l1Can.f t187 2).bind fun t193 => (spec_l1Record.j2 k2 l0 a1 a2 x8_2 t187 (!t193) ((rd_T81 (rd_L4 l0 a1) a2).f0) ((rd_T81 (rd_L4 l0 a1) a2).f1))) else (spec_l1Record.j2 k2 l0 a1 a2 x8_2 t187 false ((rd_T81 (rd_L4 l0 a1) a2).f0) ((rd_T81 (rd_L4 l0 a1) a2).f1))) = some r:=H
               have A33:=Aside0.mk A330
               clear A330
               by_cases c34 : t192 = true
               ·subst c34
                have H1 : ((spec_l1Can.f t187 2).bind fun t193 => (spec_l1Record.j2 k2 l0 a1 a2 x8_2 t187 (!t193) ((rd_T81 (rd_L4 l0 a1) a2).f0) ((rd_T81 (rd_L4 l0 a1) a2).f1))) = some r:=by rw [if_pos rfl] at H;exact H
                clear H
                have H:=H1
                clear H1
                replace H:=Option.bind_eq_some_iff.mp H
                obtain ⟨t193,A350,H⟩:=H
                replace H : (spec_l1Record.j2 k2 l0 a1 a2 x8_2 t187 (!t193) ((rd_T81 (rd_L4 l0 a1) a2).f0) ((rd_T81 (rd_L4 l0 a1) a2).f1)) = some r:=H
                have A35:=Aside0.mk A350
                clear A350
                have H':=Aside0.mk H
                clear H
                have hcz36_0 : wr.cell? ⟨gb182,0,none⟩ = some (.int .i64 ((rd_T81 (rd_L4 l0 a1) a2).f0)):=(blk_cell BK182.out 0).trans rfl
                have hcz36_1 : wr.cell? ⟨gb182,1,none⟩ = some (.slice (some ad184) ((rd_T81 (rd_L4 l0 a1) a2).f1).length c181_1):=(blk_cell BK182.out 1).trans rfl
                have hfz36_0:=blk_frozen BK182.out 0
                have hfz36_1:=blk_frozen BK182.out 1
                go_wp2_with (first | ((with_reducible refine gate_callee (f:=85) rfl ?_);refine Up.gl (some 53) Tryd.func85 #[.int .i64 ((rd_T81 (rd_L4 l0 a1) a2).f0),.int .i64 1] ?_;(with_reducible refine (spec_l1Can.calls ((rd_T81 (rd_L4 l0 a1) a2).f0) 1 false _ A23.out).mono ?_);rintro e w' ⟨rfl,⟨nd,rfl⟩⟩;refine ⟨_,rfl,?_⟩) | (go_at_call 85;(with_reducible refine (spec_l1Can.calls ((rd_T81 (rd_L4 l0 a1) a2).f0) 2 true _ A33.out).mono ?_);rintro e w' ⟨rfl,⟨nd,rfl⟩⟩) | (go_at_call 85;(with_reducible refine (spec_l1Can.calls t187 2 t193 _ A35.out).mono ?_);rintro e w' ⟨rfl,⟨nd,rfl⟩⟩))
                go_meet
                case rel => exact ⟨_,(!t193),(by first | rfl | (simp;done) | (simp [*];done)),H',⟨by have:=HJ7.out;have:=HK2.out;first | omega | exact Nat.le_refl _⟩,⟨by (with_reducible repeat (first | refine blk_drewN ?_ _ | refine blk_drew ?_ | refine blk_alloc ?_ _));exact BK182.out⟩,⟨Up.Bx HB⟩⟩
               ·replace c34:=Bool.eq_false_iff.mpr c34
                subst c34
                have H1 : (spec_l1Record.j2 k2 l0 a1 a2 x8_2 t187 false ((rd_T81 (rd_L4 l0 a1) a2).f0) ((rd_T81 (rd_L4 l0 a1) a2).f1)) = some r:=by rw [if_neg (show ¬ (false = true) by decide)] at H;exact H
                clear H
                have H:=H1
                clear H1
                have H':=Aside0.mk H
                clear H
                have hcz37_0 : wr.cell? ⟨gb182,0,none⟩ = some (.int .i64 ((rd_T81 (rd_L4 l0 a1) a2).f0)):=(blk_cell BK182.out 0).trans rfl
                have hcz37_1 : wr.cell? ⟨gb182,1,none⟩ = some (.slice (some ad184) ((rd_T81 (rd_L4 l0 a1) a2).f1).length c181_1):=(blk_cell BK182.out 1).trans rfl
                have hfz37_0:=blk_frozen BK182.out 0
                have hfz37_1:=blk_frozen BK182.out 1
                go_wp2_with (first | ((with_reducible refine gate_callee (f:=85) rfl ?_);refine Up.gl (some 53) Tryd.func85 #[.int .i64 ((rd_T81 (rd_L4 l0 a1) a2).f0),.int .i64 1] ?_;(with_reducible refine (spec_l1Can.calls ((rd_T81 (rd_L4 l0 a1) a2).f0) 1 false _ A23.out).mono ?_);rintro e w' ⟨rfl,⟨nd,rfl⟩⟩;refine ⟨_,rfl,?_⟩) | (go_at_call 85;(with_reducible refine (spec_l1Can.calls ((rd_T81 (rd_L4 l0 a1) a2).f0) 2 false _ A33.out).mono ?_);rintro e w' ⟨rfl,⟨nd,rfl⟩⟩))
                go_meet
                case rel => exact ⟨_,(false),(by first | rfl | (simp;done) | (simp [*];done)),H',⟨by have:=HJ7.out;have:=HK2.out;first | omega | exact Nat.le_refl _⟩,⟨by (with_reducible repeat (first | refine blk_drewN ?_ _ | refine blk_drew ?_ | refine blk_alloc ?_ _));exact BK182.out⟩,⟨Up.Bx HB⟩⟩
             case rest =>
              clear HC21
              try clear c1
              try clear p1
              try clear q1
              try clear hx1
              try clear c2
              try clear p2
              try clear c3
              try clear c4
              try clear c4b0
              try clear c5
              try clear c5b0
              try clear c6
              try clear c6b0
              try clear c7
              try clear c7b0
              try clear c8
              try clear c12
              try clear c15
              try clear c16
              try clear c16b0
              try clear c17
              try clear c17b0
              try clear c18
              try clear p18
              try clear q18
              try clear hx18
              try clear c19
              try clear c24
              try clear c26
              try clear c28
              try clear c34
              try clear hcz10_0
              try clear hcz10_1
              try clear hcz13_0
              try clear hcz13_1
              try clear hcz14_0
              try clear hcz14_1
              try clear hcz22_0
              try clear hcz22_1
              try clear hcz30_0
              try clear hcz30_1
              try clear hcz31_0
              try clear hcz31_1
              try clear hcz32_0
              try clear hcz32_1
              try clear hcz36_0
              try clear hcz36_1
              try clear hcz37_0
              try clear hcz37_1
              try clear hfz10_0
              try clear hfz10_1
              try clear hfz13_0
              try clear hfz13_1
              try clear hfz14_0
              try clear hfz14_1
              try clear hfz22_0
              try clear hfz22_1
              try clear hfz30_0
              try clear hfz30_1
              try clear hfz31_0
              try clear hfz31_1
              try clear hfz32_0
              try clear hfz32_1
              try clear hfz36_0
              try clear hfz36_1
              try clear hfz37_0
              try clear hfz37_1
              try clear hx180_0
              try clear hx181_0
              try clear hx181_1
              try clear hx184_0
              try clear hx186_0
              try clear p1
              try clear p180
              try clear p181
              try clear p184
              try clear p186
              try clear p2
              try clear q1
              try clear q180
              try clear q181
              try clear q184
              try clear q186
              obtain ⟨kq,x68_20,rfl,HA,HJ20,BK182,HB⟩:=hcut
              cases kq with
              | zero => exact absurd HA.out (by simp [spec_l1Record.j2])
              | succ kj20 =>
               have H:=HA.out
               clear HA
               simp only [spec_l1Record.j2] at H
               by_cases c38 : x68_20 = true
               ·subst c38
                have H1 : (some false) = some r:=by rw [if_pos rfl] at H;exact H
                clear H
                have H:=H1
                clear H1
                obtain rfl:=Option.some.inj H
                go_wp2
                go_ret
                exact Up.e1 (Up.Bx HB)
               ·replace c38:=Bool.eq_false_iff.mpr c38
                subst c38
                have H1 : (if ((rd_T81 (rd_L4 l0 a1) a2).f0) ≥ 4 then ((spec_l1Can.f t187 4).bind fun t194 => (if t194 = true then (spec_l1Record.l0 kj20 l0 a1 a2 (wrap64 (x8_2 + 1)) ((rd_T81 (rd_L4 l0 a1) a2).f0) ((rd_T81 (rd_L4 l0 a1) a2).f1)) else (some false))) else (spec_l1Record.l0 kj20 l0 a1 a2 (wrap64 (x8_2 + 1)) ((rd_T81 (rd_L4 l0 a1) a2).f0) ((rd_T81 (rd_L4 l0 a1) a2).f1))) = some r:=by rw [if_neg (show ¬ (false = true) by decide)] at H;exact H
                clear H
                have H:=H1
                clear H1
                by_cases c39 : ((rd_T81 (rd_L4 l0 a1) a2).f0) ≥ 4
                ·rw [if_pos c39] at H
                 have c39b0 : decide (4 ≤ ((rd_T81 (rd_L4 l0 a1) a2).f0)) = true:=decide_eq_true c39
                 clear c39
                 replace H:=Option.bind_eq_some_iff.mp H
                 obtain ⟨t194,A400,H⟩:=H
                 replace H : (if t194 = true then (spec_l1Record.l0 kj20 l0 a1 a2 (wrap64 (x8_2 + 1)) ((rd_T81 (rd_L4 l0 a1) a2).f0) ((rd_T81 (rd_L4 l0 a1) a2).f1)) else (some false)) = some r:=H
                 have A40:=Aside0.mk A400
                 clear A400
                 by_cases c41 : t194 = true
                 ·subst c41
                  have H1 : (spec_l1Record.l0 kj20 l0 a1 a2 (wrap64 (x8_2 + 1)) ((rd_T81 (rd_L4 l0 a1) a2).f0) ((rd_T81 (rd_L4 l0 a1) a2).f1)) = some r:=by rw [if_pos rfl] at H;exact H
                  clear H
                  have H:=H1
                  clear H1
                  have H':=Aside0.mk H
                  clear H
                  have hcz42_0 : wc.cell? ⟨gb182,0,none⟩ = some (.int .i64 ((rd_T81 (rd_L4 l0 a1) a2).f0)):=(blk_cell BK182.out 0).trans rfl
                  have hcz42_1 : wc.cell? ⟨gb182,1,none⟩ = some (.slice (some ad184) ((rd_T81 (rd_L4 l0 a1) a2).f1).length c181_1):=(blk_cell BK182.out 1).trans rfl
                  have hfz42_0:=blk_frozen BK182.out 0
                  have hfz42_1:=blk_frozen BK182.out 1
                  go_wp2_with (first | (go_at_call 85;(with_reducible refine (spec_l1Can.calls t187 4 true _ A40.out).mono ?_);rintro e w' ⟨rfl,⟨nd,rfl⟩⟩))
                  go_roundg kj20
                  case measure => have:=HJ7.out;have:=HK2.out;have:=HJ20.out;omega
                  case rel => exact ⟨(wrap64 (x8_2 + 1)),(by first | rfl | (simp;done) | (simp [*];done)),H',⟨by have:=HJ7.out;have:=HK2.out;have:=HJ20.out;omega⟩,⟨by (with_reducible repeat (first | refine blk_drewN ?_ _ | refine blk_drew ?_ | refine blk_alloc ?_ _));exact BK182.out⟩,⟨Up.Bx HB⟩⟩
                 ·replace c41:=Bool.eq_false_iff.mpr c41
                  subst c41
                  have H1 : (some false) = some r:=by rw [if_neg (show ¬ (false = true) by decide)] at H;exact H
                  clear H
                  have H:=H1
                  clear H1
                  obtain rfl:=Option.some.inj H
                  have hcz43_0 : wc.cell? ⟨gb182,0,none⟩ = some (.int .i64 ((rd_T81 (rd_L4 l0 a1) a2).f0)):=(blk_cell BK182.out 0).trans rfl
                  have hcz43_1 : wc.cell? ⟨gb182,1,none⟩ = some (.slice (some ad184) ((rd_T81 (rd_L4 l0 a1) a2).f1).length c181_1):=(blk_cell BK182.out 1).trans rfl
                  have hfz43_0:=blk_frozen BK182.out 0
                  have hfz43_1:=blk_frozen BK182.out 1
                  go_wp2_with (first | (go_at_call 85;(with_reducible refine (spec_l1Can.calls t187 4 false _ A40.out).mono ?_);rintro e w' ⟨rfl,⟨nd,rfl⟩⟩))
                  go_ret
                  exact Up.e1 (Up.Bx HB)
                ·rw [if_neg c39] at H
                 have c39b0 : decide (4 ≤ ((rd_T81 (rd_L4 l0 a1) a2).f0)) = false:=decide_eq_false c39
                 clear c39
                 have H':=Aside0.mk H
                 clear H
                 have hcz44_0 : wc.cell? ⟨gb182,0,none⟩ = some (.int .i64 ((rd_T81 (rd_L4 l0 a1) a2).f0)):=(blk_cell BK182.out 0).trans rfl
                 have hcz44_1 : wc.cell? ⟨gb182,1,none⟩ = some (.slice (some ad184) ((rd_T81 (rd_L4 l0 a1) a2).f1).length c181_1):=(blk_cell BK182.out 1).trans rfl
                 have hfz44_0:=blk_frozen BK182.out 0
                 have hfz44_1:=blk_frozen BK182.out 1
                 go_wp2
                 go_roundg kj20
                 case measure => have:=HJ7.out;have:=HK2.out;have:=HJ20.out;omega
                 case rel => exact ⟨(wrap64 (x8_2 + 1)),(by first | rfl | (simp;done) | (simp [*];done)),H',⟨by have:=HJ7.out;have:=HK2.out;have:=HJ20.out;omega⟩,⟨by (with_reducible repeat (first | refine blk_drewN ?_ _ | refine blk_drew ?_ | refine blk_alloc ?_ _));exact BK182.out⟩,⟨Up.Bx HB⟩⟩
            ·replace c19:=Bool.eq_false_iff.mpr c19
             subst c19
             have H1 : (some false) = some r:=by rw [if_neg (show ¬ (false = true) by decide)] at H;exact H
             clear H
             have H:=H1
             clear H1
             obtain rfl:=Option.some.inj H
             have hcz45_0 : wr.cell? ⟨gb182,0,none⟩ = some (.int .i64 ((rd_T81 (rd_L4 l0 a1) a2).f0)):=(blk_cell BK182.out 0).trans rfl
             have hcz45_1 : wr.cell? ⟨gb182,1,none⟩ = some (.slice A181_1 ((rd_T81 (rd_L4 l0 a1) a2).f1).length c181_1):=(blk_cell BK182.out 1).trans rfl
             have hfz45_0:=blk_frozen BK182.out 0
             have hfz45_1:=blk_frozen BK182.out 1
             have p184 : 0 ≤ (x8_2 : Int):=Up.od
             have q184 : x8_2 < (((rd_T81 (rd_L4 l0 a1) a2).f1).length : Int):=Up.od
             obtain ⟨ad184,e184,hx184_0⟩:=Kd.at_string HR181_1.out x8_2 p184 q184
             cases e184
             replace hx184_0:=Up.hc HB hx184_0
             replace p184:=eq_true p184
             replace q184:=eq_true q184
             go_wp2_with (first | ((with_reducible refine gate_callee (f:=83) rfl ?_);refine Up.gl (some 42) Tryd.func83 #[.slice (some ad180) l0.length c0,.int .i64 a1,.int .i64 a2,.string (rdOf ByteArray.empty ((rd_T81 (rd_L4 l0 a1) a2).f1) x8_2)] ?_;(with_reducible refine (spec_l1Field.calls _ _ l0 a1 a2 (rdOf ByteArray.empty ((rd_T81 (rd_L4 l0 a1) a2).f1) x8_2) false _ ?side1 ?side2 A18.out).mono ?_);(case side1 => exact Up.Cx HR0 HB);(case side2 => exact HC0.out);rintro e w' ⟨rfl,⟨nd,rfl⟩⟩;refine ⟨_,rfl,?_⟩))
             go_ret
             exact Up.e1 (Up.Bx HB)
           ·rw [if_neg c17] at H
            exact absurd H (by simp)
          ·rw [if_neg c16] at H
           have c16b0 : decide (x8_2 < (((rd_T81 (rd_L4 l0 a1) a2).f1).length : Int)) = false:=decide_eq_false c16
           clear c16
           obtain rfl:=Option.some.inj H
           have hcz46_0 : wr.cell? ⟨gb182,0,none⟩ = some (.int .i64 ((rd_T81 (rd_L4 l0 a1) a2).f0)):=(blk_cell BK182.out 0).trans rfl
           have hcz46_1 : wr.cell? ⟨gb182,1,none⟩ = some (.slice A181_1 ((rd_T81 (rd_L4 l0 a1) a2).f1).length c181_1):=(blk_cell BK182.out 1).trans rfl
           have hfz46_0:=blk_frozen BK182.out 0
           have hfz46_1:=blk_frozen BK182.out 1
           go_wp2
           go_ret
           exact Up.e1 (Up.Bx HB)
    ·rw [if_neg c7] at H
     exact absurd H (by simp)
   ·rw [if_neg c6] at H
    exact absurd H (by simp)
  ·rw [if_neg c5] at H
   exact absurd H (by simp)
 ·rw [if_neg c4] at H
  exact absurd H (by simp)

end Go.Proofs.YtdgmlakgnbmbbaaDoor.OFnExactValueText
