-- Laid by a program of this session (wip/myprint.py): the kit's print of the functions, contracts of our own among them.
import Derived.Test.YtdgmlakgnbmbbaaDoorOFnValueOkx0
import Derived.Test.YtdgmlakgnbmbbaaDoorOFnValueOkx8
namespace Go.Proofs.YtdgmlakgnbmbbaaDoor.OFnValueOk
open Go.RowKit Go.Proofs.YtdgmlakgnbmbbaaDoorW.PrintWords Go.Proofs.YtdgmlakgnbmbbaaDoorW.PrintLast Go.Proofs.YtdgmlakgnbmbbaaDoorW.PrintMore
attribute [local go_sem] max2_int min2_int max_two min_two max_three min_three max_four min_four   -- for this text's walks alone
set_option linter.unusedVariables false
set_option linter.unusedSimpArgs false

/-! ### impl_recordOk: function 70 -/
mutual
def impl_recordOk.j0 : Nat → List (List (S81)) → Int → Int → Bool → Int → List ByteArray → Option (Bool)
 | 0,_,_,_,_,_,_ => none
 | k + 1,x0,x1,x2,x34,x377000,x377001 => if x34 = true then (some false) else (impl_recordOk.l0 k x0 x1 x2 x377001 (x377001.length : Int) 0 x377000 x377001)
def impl_recordOk.l0 : Nat → List (List (S81)) → Int → Int → List ByteArray → Int → Int → Int → List ByteArray → Option (Bool)
 | 0,_,_,_,_,_,_,_,_ => none
 | k + 1,x0,x1,x2,x36,x37,x38,x377000,x377001 => if x38 < x37 then (if 0 ≤ x38 then (if x38 < (x36.length : Int) then ((impl_kindAt.f (rdOf ByteArray.empty x36 x38)).bind fun bt378 => (if bt378.2.2 = true then (if bt378.1 > x1 then (impl_recordOk.j2 k x0 x1 x2 (rdOf ByteArray.empty x36 x38) x36 x37 x38 true x377000 x377001) else (if bt378.1 = x1 then (if bt378.2.1 ≥ x2 then (impl_recordOk.j2 k x0 x1 x2 (rdOf ByteArray.empty x36 x38) x36 x37 x38 true x377000 x377001) else ((impl_plainOk.f x0 (rdOf ByteArray.empty x36 x38)).bind fun t381 => (impl_recordOk.j2 k x0 x1 x2 (rdOf ByteArray.empty x36 x38) x36 x37 x38 (!t381) x377000 x377001))) else ((impl_plainOk.f x0 (rdOf ByteArray.empty x36 x38)).bind fun t382 => (impl_recordOk.j2 k x0 x1 x2 (rdOf ByteArray.empty x36 x38) x36 x37 x38 (!t382) x377000 x377001)))) else ((impl_plainOk.f x0 (rdOf ByteArray.empty x36 x38)).bind fun t383 => (impl_recordOk.j2 k x0 x1 x2 (rdOf ByteArray.empty x36 x38) x36 x37 x38 (!t383) x377000 x377001)))) else (none)) else (none)) else (some true)
def impl_recordOk.j2 : Nat → List (List (S81)) → Int → Int → ByteArray → List ByteArray → Int → Int → Bool → Int → List ByteArray → Option (Bool)
 | 0,_,_,_,_,_,_,_,_,_,_ => none
 | k + 1,x0,x1,x2,x9,x36,x37,x38,x69,x377000,x377001 => if x69 = true then (some false) else ((impl_ableOf.f x0 x9).bind fun t384 => (if (Go.bits .andNot .i64 (Go.bits .and .i64 x377000 7) t384) = 0 then (if (Go.bits .and .i64 x377000 8) = 0 then (impl_recordOk.l0 k x0 x1 x2 x36 x37 (wrap64 (x38 + 1)) x377000 x377001) else (if (Go.bits .and .i64 t384 4) = 0 then (some false) else (impl_recordOk.l0 k x0 x1 x2 x36 x37 (wrap64 (x38 + 1)) x377000 x377001))) else (some false)))
end
def impl_recordOk.f (k : Nat) (l0 : List (List (S81))) (a1 : Int) (a2 : Int) : Option (Bool):=if 0 ≤ a1 then (if a1 < (l0.length : Int) then (if 0 ≤ a2 then (if a2 < ((rd_L5 l0 a1).length : Int) then (if ((rd_T81 (rd_L5 l0 a1) a2).f0) < 0 then (impl_recordOk.j0 k l0 a1 a2 true ((rd_T81 (rd_L5 l0 a1) a2).f0) ((rd_T81 (rd_L5 l0 a1) a2).f1)) else (if ((rd_T81 (rd_L5 l0 a1) a2).f0) > 15 then (impl_recordOk.j0 k l0 a1 a2 true ((rd_T81 (rd_L5 l0 a1) a2).f0) ((rd_T81 (rd_L5 l0 a1) a2).f1)) else (impl_recordOk.j0 k l0 a1 a2 (decide ((((rd_T81 (rd_L5 l0 a1) a2).f1).length : Int) > 3)) ((rd_T81 (rd_L5 l0 a1) a2).f0) ((rd_T81 (rd_L5 l0 a1) a2).f1)))) else (none)) else (none)) else (none)) else (none)
theorem impl_recordOk.mono_l : ∀ k,(∀ y0 y1 y2 y3 y4 y5,LeO (impl_recordOk.j0 k y0 y1 y2 y3 y4 y5) (impl_recordOk.j0 (k + 1) y0 y1 y2 y3 y4 y5)) ∧ (∀ y0 y1 y2 y3 y4 y5 y6 y7,LeO (impl_recordOk.l0 k y0 y1 y2 y3 y4 y5 y6 y7) (impl_recordOk.l0 (k + 1) y0 y1 y2 y3 y4 y5 y6 y7)) ∧ (∀ y0 y1 y2 y3 y4 y5 y6 y7 y8 y9,LeO (impl_recordOk.j2 k y0 y1 y2 y3 y4 y5 y6 y7 y8 y9) (impl_recordOk.j2 (k + 1) y0 y1 y2 y3 y4 y5 y6 y7 y8 y9))
 | 0 => ⟨fun _ _ _ _ _ _ r h => by simp [impl_recordOk.j0] at h,fun _ _ _ _ _ _ _ _ r h => by simp [impl_recordOk.l0] at h,fun _ _ _ _ _ _ _ _ _ _ r h => by simp [impl_recordOk.j2] at h⟩
 | k + 1 => by
  obtain ⟨ih0,ih1,ih2⟩:=impl_recordOk.mono_l k
  refine ⟨?_,?_,?_⟩
  ·intro y0 y1 y2 y3 y4 y5
   unfold impl_recordOk.j0
   repeat' first
   | (with_reducible exact ih0 _ _ _ _ _ _)
   | (with_reducible exact ih1 _ _ _ _ _ _ _ _)
   | (with_reducible exact ih2 _ _ _ _ _ _ _ _ _ _)
   | (with_reducible exact LeO.refl _)
   | (with_reducible exact LeO.none _)
   | (with_reducible refine LeO.ite ?_ ?_)
   | (with_reducible refine LeO.bind ?_ (fun _ => ?_))
   | exact ih0 _ _ _ _ _ _
   | exact ih1 _ _ _ _ _ _ _ _
   | exact ih2 _ _ _ _ _ _ _ _ _ _
   | exact LeO.none _
   | refine LeO.ite ?_ ?_
   | refine LeO.bind ?_ (fun _ => ?_)
  ·intro y0 y1 y2 y3 y4 y5 y6 y7
   unfold impl_recordOk.l0
   repeat' first
   | (with_reducible exact ih0 _ _ _ _ _ _)
   | (with_reducible exact ih1 _ _ _ _ _ _ _ _)
   | (with_reducible exact ih2 _ _ _ _ _ _ _ _ _ _)
   | (with_reducible exact LeO.refl _)
   | (with_reducible exact LeO.none _)
   | (with_reducible refine LeO.ite ?_ ?_)
   | (with_reducible refine LeO.bind ?_ (fun _ => ?_))
   | exact ih0 _ _ _ _ _ _
   | exact ih1 _ _ _ _ _ _ _ _
   | exact ih2 _ _ _ _ _ _ _ _ _ _
   | exact LeO.none _
   | refine LeO.ite ?_ ?_
   | refine LeO.bind ?_ (fun _ => ?_)
  ·intro y0 y1 y2 y3 y4 y5 y6 y7 y8 y9
   unfold impl_recordOk.j2
   repeat' first
   | (with_reducible exact ih0 _ _ _ _ _ _)
   | (with_reducible exact ih1 _ _ _ _ _ _ _ _)
   | (with_reducible exact ih2 _ _ _ _ _ _ _ _ _ _)
   | (with_reducible exact LeO.refl _)
   | (with_reducible exact LeO.none _)
   | (with_reducible refine LeO.ite ?_ ?_)
   | (with_reducible refine LeO.bind ?_ (fun _ => ?_))
   | exact ih0 _ _ _ _ _ _
   | exact ih1 _ _ _ _ _ _ _ _
   | exact ih2 _ _ _ _ _ _ _ _ _ _
   | exact LeO.none _
   | refine LeO.ite ?_ ?_
   | refine LeO.bind ?_ (fun _ => ?_)
theorem impl_recordOk.mono : ∀ a0 a1 a2 k,LeO (impl_recordOk.f k a0 a1 a2) (impl_recordOk.f (k + 1) a0 a1 a2):=by
 intro a0 a1 a2 k
 obtain ⟨ih0,ih1,ih2⟩:=impl_recordOk.mono_l k
 unfold impl_recordOk.f
 repeat' first
   | (with_reducible exact ih0 _ _ _ _ _ _)
   | (with_reducible exact ih1 _ _ _ _ _ _ _ _)
   | (with_reducible exact ih2 _ _ _ _ _ _ _ _ _ _)
   | (with_reducible exact LeO.refl _)
   | (with_reducible exact LeO.none _)
   | (with_reducible refine LeO.ite ?_ ?_)
   | (with_reducible refine LeO.bind ?_ (fun _ => ?_))
   | exact ih0 _ _ _ _ _ _
   | exact ih1 _ _ _ _ _ _ _ _
   | exact ih2 _ _ _ _ _ _ _ _ _ _
   | exact LeO.none _
   | refine LeO.ite ?_ ?_
   | refine LeO.bind ?_ (fun _ => ?_)
set_option maxHeartbeats 8000000 in
set_option maxRecDepth 100000 in
theorem impl_recordOk.calls (k : Nat) (A0 : Option Addr) (c0 : Nat) (l0 : List (List (S81))) (a1 : Int) (a2 : Int) (r : Bool) (w : World) (hr0 : Kd.C (Kd.slice 81 k81) w A0 l0.length l0) (hc0 : l0.length ≤ c0) (h : impl_recordOk.f k l0 a1 a2 = some r) :
  Calls Tryd.prog 70 #[.slice A0 l0.length c0,.int .i64 a1,.int .i64 a2] w fun e w' => e = .returned (.bool r) ∧ Below w.heap.size w w':=by
 have hu81:=Tryd.underlying81
 have HR0:=Aside0.mk hr0
 have HC0:=Aside0.mk hc0
 clear hr0 hc0
 have HB:=Aside0.mk (Below.refl w.heap.size w)
 have H : (if 0 ≤ a1 then (if a1 < (l0.length : Int) then (if 0 ≤ a2 then (if a2 < ((rd_L5 l0 a1).length : Int) then (if ((rd_T81 (rd_L5 l0 a1) a2).f0) < 0 then (impl_recordOk.j0 k l0 a1 a2 true ((rd_T81 (rd_L5 l0 a1) a2).f0) ((rd_T81 (rd_L5 l0 a1) a2).f1)) else (if ((rd_T81 (rd_L5 l0 a1) a2).f0) > 15 then (impl_recordOk.j0 k l0 a1 a2 true ((rd_T81 (rd_L5 l0 a1) a2).f0) ((rd_T81 (rd_L5 l0 a1) a2).f1)) else (impl_recordOk.j0 k l0 a1 a2 (decide ((((rd_T81 (rd_L5 l0 a1) a2).f1).length : Int) > 3)) ((rd_T81 (rd_L5 l0 a1) a2).f0) ((rd_T81 (rd_L5 l0 a1) a2).f1)))) else (none)) else (none)) else (none)) else (none)) = some r:=h
 clear h
 by_cases c4 : 0 ≤ a1
 ·rw [if_pos c4] at H
  have c4b0 : decide (0 ≤ a1) = true:=decide_eq_true c4
  clear c4
  by_cases c5 : a1 < (l0.length : Int)
  ·rw [if_pos c5] at H
   have c5b0 : decide (a1 < (l0.length : Int)) = true:=decide_eq_true c5
   clear c5
   by_cases c6 : 0 ≤ a2
   ·rw [if_pos c6] at H
    have c6b0 : decide (0 ≤ a2) = true:=decide_eq_true c6
    clear c6
    by_cases c7 : a2 < ((rd_L5 l0 a1).length : Int)
    ·rw [if_pos c7] at H
     have c7b0 : decide (a2 < ((rd_L5 l0 a1).length : Int)) = true:=decide_eq_true c7
     clear c7
     have HC8:=Aside0.mk H
     clear H
     have p374 : 0 ≤ (a1 : Int):=Up.od
     have q374 : a1 < (l0.length : Int):=Up.od
     obtain ⟨ad374,A374_0,c374_0,e374,hx374_0,hl374_0,hi374_0⟩:=at_L5 HR0.out a1 p374 q374
     cases e374
     have HR374_0:=Aside0.mk hi374_0
     have HC374_0:=Aside0.mk hl374_0
     clear hi374_0 hl374_0
     replace p374:=eq_true p374
     replace q374:=eq_true q374
     have p375 : 0 ≤ (a2 : Int):=Up.od
     have q375 : a2 < ((rd_L5 l0 a1).length : Int):=Up.od
     obtain ⟨ad375,A375_1,c375_1,e375,hx375_0,hx375_1,hl375_1,hi375_1⟩:=at_T81 HR374_0.out a2 p375 q375
     cases e375
     have HR375_1:=Aside0.mk hi375_1
     have HC375_1:=Aside0.mk hl375_1
     clear hi375_1 hl375_1
     replace p375:=eq_true p375
     replace q375:=eq_true q375
     go_enter Tryd.func70,Tryd.ntmps70
     go_upto_region 2 with (first | ((with_reducible refine gate_dst (N:=7) rfl ?_);(try (refine gate_guard (by rfl) ?_;dsimp only));refine Up.bx 7 81 #[.int .i64 0,.slice none 0 0] ?_;intro gb376 hg w9 hbox hb;have n0_:=Up.BB HB hb;have n1_:=Aside0.mk (hbox);have n2_:=Up.gw hg HB;have n3_:=Up.gw hg HB;clear HB;have HB:=n0_;have BK376:=n1_;have GW376:=n2_;have GE376:=n3_;clear n0_ n1_ n2_ n3_ hb hbox hg;have hcz10_0:=Up.c0 BK376;have hcz10_1:=Up.c1 BK376;have hfz10_0:=blk_frozen BK376.out 0;have hfz10_1:=blk_frozen BK376.out 1))
     (try simp only [Act.put,List.setIfInBounds_toArray,List.set_cons_zero,List.set_cons_succ])
     go_cut [34] (fun v34 wc => ∃ (kq : Nat) (x34_7 : Bool),v34 = .bool x34_7 ∧ Aside0 (impl_recordOk.j0 kq l0 a1 a2 x34_7 ((rd_T81 (rd_L5 l0 a1) a2).f0) ((rd_T81 (rd_L5 l0 a1) a2).f1) = some r) ∧ Aside0 (kq ≤ k) ∧ Aside0 (wc.heap[gb376]? = some (.cells #[.int .i64 ((rd_T81 (rd_L5 l0 a1) a2).f0),(.slice A375_1 ((rd_T81 (rd_L5 l0 a1) a2).f1).length c375_1)] 81 (0,0))) ∧ Aside0 (Below w.heap.size w wc))
     case first =>
      have H:=HC8.out
      clear HC8
      by_cases c11 : ((rd_T81 (rd_L5 l0 a1) a2).f0) < 0
      ·rw [if_pos c11] at H
       have c11b0 : decide (((rd_T81 (rd_L5 l0 a1) a2).f0) < 0) = true:=decide_eq_true c11
       clear c11
       (first | rw [c11b0] | (simp only [i64_w,i32_w];rw [c11b0]) | skip)
       have H':=Aside0.mk H
       clear H
       have hcz12_0:=Up.c0 BK376
       have hcz12_1:=Up.c1 BK376
       have hfz12_0:=blk_frozen BK376.out 0
       have hfz12_1:=blk_frozen BK376.out 1
       go_wp2
       go_meet
       case rel => exact ⟨_,(true),(by first | rfl | (simp;done) | (simp [*];done)),H',⟨by first | omega | exact Nat.le_refl _⟩,⟨by (with_reducible repeat (first | refine blk_drewN ?_ _ | refine blk_drew ?_ | refine blk_alloc ?_ _));refine blk_put (cs:=#[.int .i64 ((rd_T81 (rd_L5 l0 a1) a2).f0),.slice none 0 0]) ?_ 1 _ rfl;(with_reducible repeat (first | refine blk_drewN ?_ _ | refine blk_drew ?_ | refine blk_alloc ?_ _));refine blk_put (cs:=#[.int .i64 0,.slice none 0 0]) ?_ 0 _ rfl;(with_reducible repeat (first | refine blk_drewN ?_ _ | refine blk_drew ?_ | refine blk_alloc ?_ _));exact BK376.out⟩,⟨Up.Bx HB⟩⟩
      ·rw [if_neg c11] at H
       have c11b0 : decide (((rd_T81 (rd_L5 l0 a1) a2).f0) < 0) = false:=decide_eq_false c11
       clear c11
       (first | rw [c11b0] | (simp only [i64_w,i32_w];rw [c11b0]) | skip)
       by_cases c13 : ((rd_T81 (rd_L5 l0 a1) a2).f0) > 15
       ·rw [if_pos c13] at H
        have c13b0 : decide (15 < ((rd_T81 (rd_L5 l0 a1) a2).f0)) = true:=decide_eq_true c13
        clear c13
        have H':=Aside0.mk H
        clear H
        have hcz14_0:=Up.c0 BK376
        have hcz14_1:=Up.c1 BK376
        have hfz14_0:=blk_frozen BK376.out 0
        have hfz14_1:=blk_frozen BK376.out 1
        go_wp2
        go_meet
        case rel => exact ⟨_,(true),(by first | rfl | (simp;done) | (simp [*];done)),H',⟨by first | omega | exact Nat.le_refl _⟩,⟨by (with_reducible repeat (first | refine blk_drewN ?_ _ | refine blk_drew ?_ | refine blk_alloc ?_ _));refine blk_put (cs:=#[.int .i64 ((rd_T81 (rd_L5 l0 a1) a2).f0),.slice none 0 0]) ?_ 1 _ rfl;(with_reducible repeat (first | refine blk_drewN ?_ _ | refine blk_drew ?_ | refine blk_alloc ?_ _));refine blk_put (cs:=#[.int .i64 0,.slice none 0 0]) ?_ 0 _ rfl;(with_reducible repeat (first | refine blk_drewN ?_ _ | refine blk_drew ?_ | refine blk_alloc ?_ _));exact BK376.out⟩,⟨Up.Bx HB⟩⟩
       ·rw [if_neg c13] at H
        have c13b0 : decide (15 < ((rd_T81 (rd_L5 l0 a1) a2).f0)) = false:=decide_eq_false c13
        clear c13
        have H':=Aside0.mk H
        clear H
        have hcz15_0:=Up.c0 BK376
        have hcz15_1:=Up.c1 BK376
        have hfz15_0:=blk_frozen BK376.out 0
        have hfz15_1:=blk_frozen BK376.out 1
        go_wp2
        go_meet
        case rel => exact ⟨_,(decide ((((rd_T81 (rd_L5 l0 a1) a2).f1).length : Int) > 3)),(by first | rfl | (simp;done) | (simp [*];done)),H',⟨by first | omega | exact Nat.le_refl _⟩,⟨by (with_reducible repeat (first | refine blk_drewN ?_ _ | refine blk_drew ?_ | refine blk_alloc ?_ _));refine blk_put (cs:=#[.int .i64 ((rd_T81 (rd_L5 l0 a1) a2).f0),.slice none 0 0]) ?_ 1 _ rfl;(with_reducible repeat (first | refine blk_drewN ?_ _ | refine blk_drew ?_ | refine blk_alloc ?_ _));refine blk_put (cs:=#[.int .i64 0,.slice none 0 0]) ?_ 0 _ rfl;(with_reducible repeat (first | refine blk_drewN ?_ _ | refine blk_drew ?_ | refine blk_alloc ?_ _));exact BK376.out⟩,⟨Up.Bx HB⟩⟩
     case rest =>
      clear HC8
      try clear c1
      try clear p2
      try clear c3
      try clear p3
      try clear q3
      try clear hx3
      try clear c4
      try clear c4b0
      try clear c5
      try clear c5b0
      try clear c6
      try clear c6b0
      try clear c7
      try clear c7b0
      try clear c11
      try clear c11b0
      try clear c13
      try clear c13b0
      try clear hcz10_0
      try clear hcz10_1
      try clear hcz12_0
      try clear hcz12_1
      try clear hcz14_0
      try clear hcz14_1
      try clear hcz15_0
      try clear hcz15_1
      try clear hfz10_0
      try clear hfz10_1
      try clear hfz12_0
      try clear hfz12_1
      try clear hfz14_0
      try clear hfz14_1
      try clear hfz15_0
      try clear hfz15_1
      try clear hx374_0
      try clear hx375_0
      try clear hx375_1
      try clear p374
      try clear p375
      try clear q374
      try clear q375
      obtain ⟨kq,x34_7,rfl,HA,HJ7,BK376,HB⟩:=hcut
      cases kq with
      | zero => exact absurd HA.out (by simp [impl_recordOk.j0])
      | succ kj7 =>
       have H:=HA.out
       clear HA
       simp only [impl_recordOk.j0] at H
       by_cases c16 : x34_7 = true
       ·subst c16
        have H1 : (some false) = some r:=by rw [if_pos rfl] at H;exact H
        clear H
        have H:=H1
        clear H1
        obtain rfl:=Option.some.inj H
        go_wp2
        go_ret
        exact Up.e1 (Up.Bx HB)
       ·replace c16:=Bool.eq_false_iff.mpr c16
        subst c16
        have H1 : (impl_recordOk.l0 kj7 l0 a1 a2 ((rd_T81 (rd_L5 l0 a1) a2).f1) (((rd_T81 (rd_L5 l0 a1) a2).f1).length : Int) 0 ((rd_T81 (rd_L5 l0 a1) a2).f0) ((rd_T81 (rd_L5 l0 a1) a2).f1)) = some r:=by rw [if_neg (show ¬ (false = true) by decide)] at H;exact H
        clear H
        have H:=H1
        clear H1
        have H':=Aside0.mk H
        clear H
        have hcz17_0 : wc.cell? ⟨gb376,0,none⟩ = some (.int .i64 ((rd_T81 (rd_L5 l0 a1) a2).f0)):=(blk_cell BK376.out 0).trans rfl
        have hcz17_1 : wc.cell? ⟨gb376,1,none⟩ = some (.slice A375_1 ((rd_T81 (rd_L5 l0 a1) a2).f1).length c375_1):=(blk_cell BK376.out 1).trans rfl
        have hfz17_0:=blk_frozen BK376.out 0
        have hfz17_1:=blk_frozen BK376.out 1
        go_wp2
        go_loopg [38] kj7 (fun kq v38 w' => ∃ (x38_2 : Int),v38 = .int .i64 x38_2 ∧ Aside0 (impl_recordOk.l0 kq l0 a1 a2 ((rd_T81 (rd_L5 l0 a1) a2).f1) (((rd_T81 (rd_L5 l0 a1) a2).f1).length : Int) x38_2 ((rd_T81 (rd_L5 l0 a1) a2).f0) ((rd_T81 (rd_L5 l0 a1) a2).f1) = some r) ∧ Aside0 (kq ≤ kj7) ∧ Aside0 (w'.heap[gb376]? = some (.cells #[.int .i64 ((rd_T81 (rd_L5 l0 a1) a2).f0),(.slice A375_1 ((rd_T81 (rd_L5 l0 a1) a2).f1).length c375_1)] 81 (0,0))) ∧ Aside0 (Below w.heap.size w w'))
        case atStart => exact ⟨(0),(by first | rfl | (simp;done) | (simp [*];done)),H',⟨Nat.le_refl _⟩,⟨by (with_reducible repeat (first | refine blk_drewN ?_ _ | refine blk_drew ?_ | refine blk_alloc ?_ _));exact BK376.out⟩,⟨Up.Bx HB⟩⟩
        case round =>
         clear H'
         try clear c1
         try clear p2
         try clear c3
         try clear p3
         try clear q3
         try clear hx3
         try clear c4
         try clear c4b0
         try clear c5
         try clear c5b0
         try clear c6
         try clear c6b0
         try clear c7
         try clear c7b0
         try clear c11
         try clear c11b0
         try clear c13
         try clear c13b0
         try clear c16
         try clear hcz10_0
         try clear hcz10_1
         try clear hcz12_0
         try clear hcz12_1
         try clear hcz14_0
         try clear hcz14_1
         try clear hcz15_0
         try clear hcz15_1
         try clear hcz17_0
         try clear hcz17_1
         try clear hfz10_0
         try clear hfz10_1
         try clear hfz12_0
         try clear hfz12_1
         try clear hfz14_0
         try clear hfz14_1
         try clear hfz15_0
         try clear hfz15_1
         try clear hfz17_0
         try clear hfz17_1
         try clear hx374_0
         try clear hx375_0
         try clear hx375_1
         try clear p2
         try clear p3
         try clear p374
         try clear p375
         try clear q3
         try clear q374
         try clear q375
         obtain ⟨x38_2,rfl,HA,HK2,BK376,HB⟩:=hrel
         cases gk with
         | zero => exact absurd HA.out (by simp [impl_recordOk.l0])
         | succ k2 =>
          have H:=HA.out
          clear HA
          simp only [impl_recordOk.l0] at H
          by_cases c18 : x38_2 < (((rd_T81 (rd_L5 l0 a1) a2).f1).length : Int)
          ·rw [if_pos c18] at H
           have c18b0 : decide (x38_2 < (((rd_T81 (rd_L5 l0 a1) a2).f1).length : Int)) = true:=decide_eq_true c18
           clear c18
           by_cases c19 : 0 ≤ x38_2
           ·rw [if_pos c19] at H
            have c19b0 : decide (0 ≤ x38_2) = true:=decide_eq_true c19
            clear c19
            by_cases c20 : x38_2 < (((rd_T81 (rd_L5 l0 a1) a2).f1).length : Int)
            ·rw [if_pos c20] at H
             have c20b0 : decide (x38_2 < (((rd_T81 (rd_L5 l0 a1) a2).f1).length : Int)) = true:=decide_eq_true c20
             clear c20
             replace H:=Option.bind_eq_some_iff.mp H
             obtain ⟨⟨t378,t379,t380⟩,A210,H⟩:=H
             replace H : (if t380 = true then (if t378 > a1 then (impl_recordOk.j2 k2 l0 a1 a2 (rdOf ByteArray.empty ((rd_T81 (rd_L5 l0 a1) a2).f1) x38_2) ((rd_T81 (rd_L5 l0 a1) a2).f1) (((rd_T81 (rd_L5 l0 a1) a2).f1).length : Int) x38_2 true ((rd_T81 (rd_L5 l0 a1) a2).f0) ((rd_T81 (rd_L5 l0 a1) a2).f1)) else (if t378 = a1 then (if t379 ≥ a2 then (impl_recordOk.j2 k2 l0 a1 a2 (rdOf ByteArray.empty ((rd_T81 (rd_L5 l0 a1) a2).f1) x38_2) ((rd_T81 (rd_L5 l0 a1) a2).f1) (((rd_T81 (rd_L5 l0 a1) a2).f1).length : Int) x38_2 true ((rd_T81 (rd_L5 l0 a1) a2).f0) ((rd_T81 (rd_L5 l0 a1) a2).f1)) else ((impl_plainOk.f l0 (rdOf ByteArray.empty ((rd_T81 (rd_L5 l0 a1) a2).f1) x38_2)).bind fun t381 => (impl_recordOk.j2 k2 l0 a1 a2 (rdOf ByteArray.empty ((rd_T81 (rd_L5 l0 a1) a2).f1) x38_2) ((rd_T81 (rd_L5 l0 a1) a2).f1) (((rd_T81 (rd_L5 l0 a1) a2).f1).length : Int) x38_2 (!t381) ((rd_T81 (rd_L5 l0 a1) a2).f0) ((rd_T81 (rd_L5 l0 a1) a2).f1)))) else ((impl_plainOk.f l0 (rdOf ByteArray.empty ((rd_T81 (rd_L5 l0 a1) a2).f1) x38_2)).bind fun t382 => (impl_recordOk.j2 k2 l0 a1 a2 (rdOf ByteArray.empty ((rd_T81 (rd_L5 l0 a1) a2).f1) x38_2) ((rd_T81 (rd_L5 l0 a1) a2).f1) (((rd_T81 (rd_L5 l0 a1) a2).f1).length : Int) x38_2 (!t382) ((rd_T81 (rd_L5 l0 a1) a2).f0) ((rd_T81 (rd_L5 l0 a1) a2).f1))))) else ((impl_plainOk.f l0 (rdOf ByteArray.empty ((rd_T81 (rd_L5 l0 a1) a2).f1) x38_2)).bind fun t383 => (impl_recordOk.j2 k2 l0 a1 a2 (rdOf ByteArray.empty ((rd_T81 (rd_L5 l0 a1) a2).f1) x38_2) ((rd_T81 (rd_L5 l0 a1) a2).f1) (((rd_T81 (rd_L5 l0 a1) a2).f1).length : Int) x38_2 (!t383) ((rd_T81 (rd_L5 l0 a1) a2).f0) ((rd_T81 (rd_L5 l0 a1) a2).f1)))) = some r:=H
             have A21:=Aside0.mk A210
             clear A210
             have HC22:=Aside0.mk H
             clear H
             have p377 : 0 ≤ (x38_2 : Int):=Up.od
             have q377 : x38_2 < (((rd_T81 (rd_L5 l0 a1) a2).f1).length : Int):=Up.od
             obtain ⟨ad377,e377,hx377_0⟩:=Kd.at_string HR375_1.out x38_2 p377 q377
             cases e377
             replace hx377_0:=Up.hc HB hx377_0
             replace p377:=eq_true p377
             replace q377:=eq_true q377
             go_upto_region 8 with (first | ((with_reducible refine gate_callee (f:=71) rfl ?_);refine Up.gl (some 44) Tryd.func71 #[.string (rdOf ByteArray.empty ((rd_T81 (rd_L5 l0 a1) a2).f1) x38_2)] ?_;(with_reducible refine (impl_kindAt.calls (rdOf ByteArray.empty ((rd_T81 (rd_L5 l0 a1) a2).f1) x38_2) t378 t379 t380 _ A21.out).mono ?_);rintro e w' ⟨rfl,⟨nd,rfl⟩⟩;refine ⟨_,rfl,?_⟩))
             (try simp only [Act.put,List.setIfInBounds_toArray,List.set_cons_zero,List.set_cons_succ])
             go_cut [69] (fun v69 wc => ∃ (kq : Nat) (x69_21 : Bool),v69 = .bool x69_21 ∧ Aside0 (impl_recordOk.j2 kq l0 a1 a2 (rdOf ByteArray.empty ((rd_T81 (rd_L5 l0 a1) a2).f1) x38_2) ((rd_T81 (rd_L5 l0 a1) a2).f1) (((rd_T81 (rd_L5 l0 a1) a2).f1).length : Int) x38_2 x69_21 ((rd_T81 (rd_L5 l0 a1) a2).f0) ((rd_T81 (rd_L5 l0 a1) a2).f1) = some r) ∧ Aside0 (kq ≤ k2) ∧ Aside0 (wc.heap[gb376]? = some (.cells #[.int .i64 ((rd_T81 (rd_L5 l0 a1) a2).f0),(.slice (some ad377) ((rd_T81 (rd_L5 l0 a1) a2).f1).length c375_1)] 81 (0,0))) ∧ Aside0 (Below w.heap.size w wc))
             case first =>
              have H:=HC22.out
              clear HC22
              by_cases c23 : t380 = true
              ·subst c23
               have H1 : (if t378 > a1 then (impl_recordOk.j2 k2 l0 a1 a2 (rdOf ByteArray.empty ((rd_T81 (rd_L5 l0 a1) a2).f1) x38_2) ((rd_T81 (rd_L5 l0 a1) a2).f1) (((rd_T81 (rd_L5 l0 a1) a2).f1).length : Int) x38_2 true ((rd_T81 (rd_L5 l0 a1) a2).f0) ((rd_T81 (rd_L5 l0 a1) a2).f1)) else (if t378 = a1 then (if t379 ≥ a2 then (impl_recordOk.j2 k2 l0 a1 a2 (rdOf ByteArray.empty ((rd_T81 (rd_L5 l0 a1) a2).f1) x38_2) ((rd_T81 (rd_L5 l0 a1) a2).f1) (((rd_T81 (rd_L5 l0 a1) a2).f1).length : Int) x38_2 true ((rd_T81 (rd_L5 l0 a1) a2).f0) ((rd_T81 (rd_L5 l0 a1) a2).f1)) else ((impl_plainOk.f l0 (rdOf ByteArray.empty ((rd_T81 (rd_L5 l0 a1) a2).f1) x38_2)).bind fun t381 => (impl_recordOk.j2 k2 l0 a1 a2 (rdOf ByteArray.empty ((rd_T81 (rd_L5 l0 a1) a2).f1) x38_2) ((rd_T81 (rd_L5 l0 a1) a2).f1) (((rd_T81 (rd_L5 l0 a1) a2).f1).length : Int) x38_2 (!t381) ((rd_T81 (rd_L5 l0 a1) a2).f0) ((rd_T81 (rd_L5 l0 a1) a2).f1)))) else ((impl_plainOk.f l0 (rdOf ByteArray.empty ((rd_T81 (rd_L5 l0 a1) a2).f1) x38_2)).bind fun t382 => (impl_recordOk.j2 k2 l0 a1 a2 (rdOf ByteArray.empty ((rd_T81 (rd_L5 l0 a1) a2).f1) x38_2) ((rd_T81 (rd_L5 l0 a1) a2).f1) (((rd_T81 (rd_L5 l0 a1) a2).f1).length : Int) x38_2 (!t382) ((rd_T81 (rd_L5 l0 a1) a2).f0) ((rd_T81 (rd_L5 l0 a1) a2).f1))))) = some r:=by rw [if_pos rfl] at H;exact H
               clear H
               have H:=H1
               clear H1
               by_cases c24 : t378 > a1
               ·rw [if_pos c24] at H
                have c24b0 : decide (a1 < t378) = true:=decide_eq_true c24
                clear c24
                (first | rw [c24b0] | (simp only [i64_w,i32_w];rw [c24b0]) | skip)
                have H':=Aside0.mk H
                clear H
                go_wp2
                go_meet
                case rel => exact ⟨_,(true),(by first | rfl | (simp;done) | (simp [*];done)),H',⟨by have:=HJ7.out;have:=HK2.out;first | omega | exact Nat.le_refl _⟩,⟨by (with_reducible repeat (first | refine blk_drewN ?_ _ | refine blk_drew ?_ | refine blk_alloc ?_ _));exact BK376.out⟩,⟨Up.Bx HB⟩⟩
               ·rw [if_neg c24] at H
                have c24b0 : decide (a1 < t378) = false:=decide_eq_false c24
                clear c24
                (first | rw [c24b0] | (simp only [i64_w,i32_w];rw [c24b0]) | skip)
                by_cases c25 : t378 = a1
                ·rw [if_pos c25] at H
                 have c25b0 : (t378 == a1) = true:=beq_iff_eq.mpr c25
                 have c25b1 : (t378 != a1) = false:=bne_eq_false_iff_eq.mpr c25
                 clear c25
                 by_cases c26 : t379 ≥ a2
                 ·rw [if_pos c26] at H
                  have c26b0 : decide (a2 ≤ t379) = true:=decide_eq_true c26
                  clear c26
                  have H':=Aside0.mk H
                  clear H
                  go_wp2
                  go_meet
                  case rel => exact ⟨_,(true),(by first | rfl | (simp;done) | (simp [*];done)),H',⟨by have:=HJ7.out;have:=HK2.out;first | omega | exact Nat.le_refl _⟩,⟨by (with_reducible repeat (first | refine blk_drewN ?_ _ | refine blk_drew ?_ | refine blk_alloc ?_ _));exact BK376.out⟩,⟨Up.Bx HB⟩⟩
                 ·rw [if_neg c26] at H
                  have c26b0 : decide (a2 ≤ t379) = false:=decide_eq_false c26
                  clear c26
                  replace H:=Option.bind_eq_some_iff.mp H
                  obtain ⟨t381,A270,H⟩:=H
                  replace H : (impl_recordOk.j2 k2 l0 a1 a2 (rdOf ByteArray.empty ((rd_T81 (rd_L5 l0 a1) a2).f1) x38_2) ((rd_T81 (rd_L5 l0 a1) a2).f1) (((rd_T81 (rd_L5 l0 a1) a2).f1).length : Int) x38_2 (!t381) ((rd_T81 (rd_L5 l0 a1) a2).f0) ((rd_T81 (rd_L5 l0 a1) a2).f1)) = some r:=H
                  have A27:=Aside0.mk A270
                  clear A270
                  have H':=Aside0.mk H
                  clear H
                  go_wp2_with (first | (go_at_call 55;(with_reducible refine (impl_plainOk.calls _ _ l0 (rdOf ByteArray.empty ((rd_T81 (rd_L5 l0 a1) a2).f1) x38_2) t381 _ ?side1 ?side2 A27.out).mono ?_);(case side1 => exact Up.Cx HR0 HB);(case side2 => exact HC0.out);rintro e w' ⟨rfl,⟨nd,rfl⟩⟩))
                  go_meet
                  case rel => exact ⟨_,(!t381),(by first | rfl | (simp;done) | (simp [*];done)),H',⟨by have:=HJ7.out;have:=HK2.out;first | omega | exact Nat.le_refl _⟩,⟨by (with_reducible repeat (first | refine blk_drewN ?_ _ | refine blk_drew ?_ | refine blk_alloc ?_ _));exact BK376.out⟩,⟨Up.Bx HB⟩⟩
                ·rw [if_neg c25] at H
                 have c25b0 : (t378 == a1) = false:=beq_eq_false_iff_ne.mpr c25
                 have c25b1 : (t378 != a1) = true:=bne_iff_ne.mpr c25
                 replace H:=Option.bind_eq_some_iff.mp H
                 obtain ⟨t382,A280,H⟩:=H
                 replace H : (impl_recordOk.j2 k2 l0 a1 a2 (rdOf ByteArray.empty ((rd_T81 (rd_L5 l0 a1) a2).f1) x38_2) ((rd_T81 (rd_L5 l0 a1) a2).f1) (((rd_T81 (rd_L5 l0 a1) a2).f1).length : Int) x38_2 (!t382) ((rd_T81 (rd_L5 l0 a1) a2).f0) ((rd_T81 (rd_L5 l0 a1) a2).f1)) = some r:=H
                 have A28:=Aside0.mk A280
                 clear A280
                 have H':=Aside0.mk H
                 clear H
                 go_wp2_with (first | (go_at_call 55;(with_reducible refine (impl_plainOk.calls _ _ l0 (rdOf ByteArray.empty ((rd_T81 (rd_L5 l0 a1) a2).f1) x38_2) t382 _ ?side1 ?side2 A28.out).mono ?_);(case side1 => exact Up.Cx HR0 HB);(case side2 => exact HC0.out);rintro e w' ⟨rfl,⟨nd,rfl⟩⟩))
                 go_meet
                 case rel => exact ⟨_,(!t382),(by first | rfl | (simp;done) | (simp [*];done)),H',⟨by have:=HJ7.out;have:=HK2.out;first | omega | exact Nat.le_refl _⟩,⟨by (with_reducible repeat (first | refine blk_drewN ?_ _ | refine blk_drew ?_ | refine blk_alloc ?_ _));exact BK376.out⟩,⟨Up.Bx HB⟩⟩
              ·replace c23:=Bool.eq_false_iff.mpr c23
               subst c23
               have H1 : ((impl_plainOk.f l0 (rdOf ByteArray.empty ((rd_T81 (rd_L5 l0 a1) a2).f1) x38_2)).bind fun t383 => (impl_recordOk.j2 k2 l0 a1 a2 (rdOf ByteArray.empty ((rd_T81 (rd_L5 l0 a1) a2).f1) x38_2) ((rd_T81 (rd_L5 l0 a1) a2).f1) (((rd_T81 (rd_L5 l0 a1) a2).f1).length : Int) x38_2 (!t383) ((rd_T81 (rd_L5 l0 a1) a2).f0) ((rd_T81 (rd_L5 l0 a1) a2).f1))) = some r:=by rw [if_neg (show ¬ (false = true) by decide)] at H;exact H
               clear H
               have H:=H1
               clear H1
               replace H:=Option.bind_eq_some_iff.mp H
               obtain ⟨t383,A290,H⟩:=H
               replace H : (impl_recordOk.j2 k2 l0 a1 a2 (rdOf ByteArray.empty ((rd_T81 (rd_L5 l0 a1) a2).f1) x38_2) ((rd_T81 (rd_L5 l0 a1) a2).f1) (((rd_T81 (rd_L5 l0 a1) a2).f1).length : Int) x38_2 (!t383) ((rd_T81 (rd_L5 l0 a1) a2).f0) ((rd_T81 (rd_L5 l0 a1) a2).f1)) = some r:=H
               have A29:=Aside0.mk A290
               clear A290
               have H':=Aside0.mk H
               clear H
               go_wp2_with (first | (go_at_call 55;(with_reducible refine (impl_plainOk.calls _ _ l0 (rdOf ByteArray.empty ((rd_T81 (rd_L5 l0 a1) a2).f1) x38_2) t383 _ ?side1 ?side2 A29.out).mono ?_);(case side1 => exact Up.Cx HR0 HB);(case side2 => exact HC0.out);rintro e w' ⟨rfl,⟨nd,rfl⟩⟩))
               go_meet
               case rel => exact ⟨_,(!t383),(by first | rfl | (simp;done) | (simp [*];done)),H',⟨by have:=HJ7.out;have:=HK2.out;first | omega | exact Nat.le_refl _⟩,⟨by (with_reducible repeat (first | refine blk_drewN ?_ _ | refine blk_drew ?_ | refine blk_alloc ?_ _));exact BK376.out⟩,⟨Up.Bx HB⟩⟩
             case rest =>
              clear HC22
              try clear c1
              try clear c2
              try clear p2
              try clear c3
              try clear p3
              try clear q3
              try clear hx3
              try clear c4
              try clear c4b0
              try clear c5
              try clear c5b0
              try clear c6
              try clear c6b0
              try clear c7
              try clear c7b0
              try clear c11
              try clear c11b0
              try clear c13
              try clear c13b0
              try clear c16
              try clear c18
              try clear c18b0
              try clear c19
              try clear c19b0
              try clear c20
              try clear c20b0
              try clear c23
              try clear c24
              try clear c24b0
              try clear c25
              try clear c25b0
              try clear c25b1
              try clear c26
              try clear c26b0
              try clear hcz10_0
              try clear hcz10_1
              try clear hcz12_0
              try clear hcz12_1
              try clear hcz14_0
              try clear hcz14_1
              try clear hcz15_0
              try clear hcz15_1
              try clear hcz17_0
              try clear hcz17_1
              try clear hfz10_0
              try clear hfz10_1
              try clear hfz12_0
              try clear hfz12_1
              try clear hfz14_0
              try clear hfz14_1
              try clear hfz15_0
              try clear hfz15_1
              try clear hfz17_0
              try clear hfz17_1
              try clear hx374_0
              try clear hx375_0
              try clear hx375_1
              try clear hx377_0
              try clear p2
              try clear p3
              try clear p374
              try clear p375
              try clear p377
              try clear q3
              try clear q374
              try clear q375
              try clear q377
              obtain ⟨kq,x69_21,rfl,HA,HJ21,BK376,HB⟩:=hcut
              cases kq with
              | zero => exact absurd HA.out (by simp [impl_recordOk.j2])
              | succ kj21 =>
               have H:=HA.out
               clear HA
               simp only [impl_recordOk.j2] at H
               by_cases c30 : x69_21 = true
               ·subst c30
                have H1 : (some false) = some r:=by rw [if_pos rfl] at H;exact H
                clear H
                have H:=H1
                clear H1
                obtain rfl:=Option.some.inj H
                go_wp2
                go_ret
                exact Up.e1 (Up.Bx HB)
               ·replace c30:=Bool.eq_false_iff.mpr c30
                subst c30
                have H1 : ((impl_ableOf.f l0 (rdOf ByteArray.empty ((rd_T81 (rd_L5 l0 a1) a2).f1) x38_2)).bind fun t384 => (if (Go.bits .andNot .i64 (Go.bits .and .i64 ((rd_T81 (rd_L5 l0 a1) a2).f0) 7) t384) = 0 then (if (Go.bits .and .i64 ((rd_T81 (rd_L5 l0 a1) a2).f0) 8) = 0 then (impl_recordOk.l0 kj21 l0 a1 a2 ((rd_T81 (rd_L5 l0 a1) a2).f1) (((rd_T81 (rd_L5 l0 a1) a2).f1).length : Int) (wrap64 (x38_2 + 1)) ((rd_T81 (rd_L5 l0 a1) a2).f0) ((rd_T81 (rd_L5 l0 a1) a2).f1)) else (if (Go.bits .and .i64 t384 4) = 0 then (some false) else (impl_recordOk.l0 kj21 l0 a1 a2 ((rd_T81 (rd_L5 l0 a1) a2).f1) (((rd_T81 (rd_L5 l0 a1) a2).f1).length : Int) (wrap64 (x38_2 + 1)) ((rd_T81 (rd_L5 l0 a1) a2).f0) ((rd_T81 (rd_L5 l0 a1) a2).f1)))) else (some false))) = some r:=by rw [if_neg (show ¬ (false = true) by decide)] at H;exact H
                clear H
                have H:=H1
                clear H1
                replace H:=Option.bind_eq_some_iff.mp H
                obtain ⟨t384,A310,H⟩:=H
                replace H : (if (Go.bits .andNot .i64 (Go.bits .and .i64 ((rd_T81 (rd_L5 l0 a1) a2).f0) 7) t384) = 0 then (if (Go.bits .and .i64 ((rd_T81 (rd_L5 l0 a1) a2).f0) 8) = 0 then (impl_recordOk.l0 kj21 l0 a1 a2 ((rd_T81 (rd_L5 l0 a1) a2).f1) (((rd_T81 (rd_L5 l0 a1) a2).f1).length : Int) (wrap64 (x38_2 + 1)) ((rd_T81 (rd_L5 l0 a1) a2).f0) ((rd_T81 (rd_L5 l0 a1) a2).f1)) else (if (Go.bits .and .i64 t384 4) = 0 then (some false) else (impl_recordOk.l0 kj21 l0 a1 a2 ((rd_T81 (rd_L5 l0 a1) a2).f1) (((rd_T81 (rd_L5 l0 a1) a2).f1).length : Int) (wrap64 (x38_2 + 1)) ((rd_T81 (rd_L5 l0 a1) a2).f0) ((rd_T81 (rd_L5 l0 a1) a2).f1)))) else (some false)) = some r:=H
                have A31:=Aside0.mk A310
                clear A310
                by_cases c32 : (Go.bits .andNot .i64 (Go.bits .and .i64 ((rd_T81 (rd_L5 l0 a1) a2).f0) 7) t384) = 0
                ·rw [if_pos c32] at H
                 have c32b0 : ((Go.bits .andNot .i64 (Go.bits .and .i64 ((rd_T81 (rd_L5 l0 a1) a2).f0) 7) t384) == 0) = true:=beq_iff_eq.mpr c32
                 have c32b1 : ((Go.bits .andNot .i64 (Go.bits .and .i64 ((rd_T81 (rd_L5 l0 a1) a2).f0) 7) t384) != 0) = false:=bne_eq_false_iff_eq.mpr c32
                 clear c32
                 by_cases c33 : (Go.bits .and .i64 ((rd_T81 (rd_L5 l0 a1) a2).f0) 8) = 0
                 ·rw [if_pos c33] at H
                  have c33b0 : ((Go.bits .and .i64 ((rd_T81 (rd_L5 l0 a1) a2).f0) 8) == 0) = true:=beq_iff_eq.mpr c33
                  have c33b1 : ((Go.bits .and .i64 ((rd_T81 (rd_L5 l0 a1) a2).f0) 8) != 0) = false:=bne_eq_false_iff_eq.mpr c33
                  clear c33
                  have H':=Aside0.mk H
                  clear H
                  go_wp2_with (first | ((with_reducible refine gate_callee (f:=82) rfl ?_);refine Up.gl (some 72) Tryd.func82 #[.slice (some ad374) l0.length c0,.string (rdOf ByteArray.empty ((rd_T81 (rd_L5 l0 a1) a2).f1) x38_2)] ?_;(with_reducible refine (impl_ableOf.calls _ _ l0 (rdOf ByteArray.empty ((rd_T81 (rd_L5 l0 a1) a2).f1) x38_2) t384 _ ?side1 ?side2 A31.out).mono ?_);(case side1 => exact Up.Cx HR0 HB);(case side2 => exact HC0.out);rintro e w34 ⟨rfl,hb⟩;refine ⟨_,rfl,?_⟩;have n0_:=Aside0.mk (blk_below (g:=gb376) (o:=.cells #[.int .i64 ((rd_T81 (rd_L5 l0 a1) a2).f0),.slice (some ad377) ((rd_T81 (rd_L5 l0 a1) a2).f1).length c375_1] 81 (0,0)) (Up.Kup BK376) hb);have n1_:=Aside0.mk (below_step (Up.Bx HB) hb);clear BK376 HB;have BK376:=n0_;have HB:=n1_;clear n0_ n1_;(try clear hb);(try clear hb2);(try clear hk);(try clear hi);have hcz35_0 : w34.cell? ⟨gb376,0,none⟩ = some (.int .i64 ((rd_T81 (rd_L5 l0 a1) a2).f0)):=(blk_cell BK376.out 0).trans rfl;have hcz35_1 : w34.cell? ⟨gb376,1,none⟩ = some (.slice (some ad377) ((rd_T81 (rd_L5 l0 a1) a2).f1).length c375_1):=(blk_cell BK376.out 1).trans rfl;have hfz35_0:=blk_frozen BK376.out 0;have hfz35_1:=blk_frozen BK376.out 1))
                  go_roundg kj21
                  case measure => have:=HJ7.out;have:=HK2.out;have:=HJ21.out;omega
                  case rel => exact ⟨(wrap64 (x38_2 + 1)),(by first | rfl | (simp;done) | (simp [*];done)),H',⟨by have:=HJ7.out;have:=HK2.out;have:=HJ21.out;omega⟩,⟨by (with_reducible repeat (first | refine blk_drewN ?_ _ | refine blk_drew ?_ | refine blk_alloc ?_ _));exact BK376.out⟩,⟨Up.Bx HB⟩⟩
                 ·rw [if_neg c33] at H
                  have c33b0 : ((Go.bits .and .i64 ((rd_T81 (rd_L5 l0 a1) a2).f0) 8) == 0) = false:=beq_eq_false_iff_ne.mpr c33
                  have c33b1 : ((Go.bits .and .i64 ((rd_T81 (rd_L5 l0 a1) a2).f0) 8) != 0) = true:=bne_iff_ne.mpr c33
                  by_cases c36 : (Go.bits .and .i64 t384 4) = 0
                  ·rw [if_pos c36] at H
                   have c36b0 : ((Go.bits .and .i64 t384 4) == 0) = true:=beq_iff_eq.mpr c36
                   have c36b1 : ((Go.bits .and .i64 t384 4) != 0) = false:=bne_eq_false_iff_eq.mpr c36
                   clear c36
                   obtain rfl:=Option.some.inj H
                   go_wp2_with (first | ((with_reducible refine gate_callee (f:=82) rfl ?_);refine Up.gl (some 72) Tryd.func82 #[.slice (some ad374) l0.length c0,.string (rdOf ByteArray.empty ((rd_T81 (rd_L5 l0 a1) a2).f1) x38_2)] ?_;(with_reducible refine (impl_ableOf.calls _ _ l0 (rdOf ByteArray.empty ((rd_T81 (rd_L5 l0 a1) a2).f1) x38_2) t384 _ ?side1 ?side2 A31.out).mono ?_);(case side1 => exact Up.Cx HR0 HB);(case side2 => exact HC0.out);rintro e w37 ⟨rfl,hb⟩;refine ⟨_,rfl,?_⟩;have n0_:=Aside0.mk (blk_below (g:=gb376) (o:=.cells #[.int .i64 ((rd_T81 (rd_L5 l0 a1) a2).f0),.slice (some ad377) ((rd_T81 (rd_L5 l0 a1) a2).f1).length c375_1] 81 (0,0)) (Up.Kup BK376) hb);have n1_:=Aside0.mk (below_step (Up.Bx HB) hb);clear BK376 HB;have BK376:=n0_;have HB:=n1_;clear n0_ n1_;(try clear hb);(try clear hb2);(try clear hk);(try clear hi);have hcz38_0 : w37.cell? ⟨gb376,0,none⟩ = some (.int .i64 ((rd_T81 (rd_L5 l0 a1) a2).f0)):=(blk_cell BK376.out 0).trans rfl;have hcz38_1 : w37.cell? ⟨gb376,1,none⟩ = some (.slice (some ad377) ((rd_T81 (rd_L5 l0 a1) a2).f1).length c375_1):=(blk_cell BK376.out 1).trans rfl;have hfz38_0:=blk_frozen BK376.out 0;have hfz38_1:=blk_frozen BK376.out 1))
                   go_ret
                   exact Up.e1 (Up.Bx HB)
                  ·rw [if_neg c36] at H
                   have c36b0 : ((Go.bits .and .i64 t384 4) == 0) = false:=beq_eq_false_iff_ne.mpr c36
                   have c36b1 : ((Go.bits .and .i64 t384 4) != 0) = true:=bne_iff_ne.mpr c36
                   have H':=Aside0.mk H
                   clear H
                   go_wp2_with (first | ((with_reducible refine gate_callee (f:=82) rfl ?_);refine Up.gl (some 72) Tryd.func82 #[.slice (some ad374) l0.length c0,.string (rdOf ByteArray.empty ((rd_T81 (rd_L5 l0 a1) a2).f1) x38_2)] ?_;(with_reducible refine (impl_ableOf.calls _ _ l0 (rdOf ByteArray.empty ((rd_T81 (rd_L5 l0 a1) a2).f1) x38_2) t384 _ ?side1 ?side2 A31.out).mono ?_);(case side1 => exact Up.Cx HR0 HB);(case side2 => exact HC0.out);rintro e w39 ⟨rfl,hb⟩;refine ⟨_,rfl,?_⟩;have n0_:=Aside0.mk (blk_below (g:=gb376) (o:=.cells #[.int .i64 ((rd_T81 (rd_L5 l0 a1) a2).f0),.slice (some ad377) ((rd_T81 (rd_L5 l0 a1) a2).f1).length c375_1] 81 (0,0)) (Up.Kup BK376) hb);have n1_:=Aside0.mk (below_step (Up.Bx HB) hb);clear BK376 HB;have BK376:=n0_;have HB:=n1_;clear n0_ n1_;(try clear hb);(try clear hb2);(try clear hk);(try clear hi);have hcz40_0 : w39.cell? ⟨gb376,0,none⟩ = some (.int .i64 ((rd_T81 (rd_L5 l0 a1) a2).f0)):=(blk_cell BK376.out 0).trans rfl;have hcz40_1 : w39.cell? ⟨gb376,1,none⟩ = some (.slice (some ad377) ((rd_T81 (rd_L5 l0 a1) a2).f1).length c375_1):=(blk_cell BK376.out 1).trans rfl;have hfz40_0:=blk_frozen BK376.out 0;have hfz40_1:=blk_frozen BK376.out 1))
                   go_roundg kj21
                   case measure => have:=HJ7.out;have:=HK2.out;have:=HJ21.out;omega
                   case rel => exact ⟨(wrap64 (x38_2 + 1)),(by first | rfl | (simp;done) | (simp [*];done)),H',⟨by have:=HJ7.out;have:=HK2.out;have:=HJ21.out;omega⟩,⟨by (with_reducible repeat (first | refine blk_drewN ?_ _ | refine blk_drew ?_ | refine blk_alloc ?_ _));exact BK376.out⟩,⟨Up.Bx HB⟩⟩
                ·rw [if_neg c32] at H
                 have c32b0 : ((Go.bits .andNot .i64 (Go.bits .and .i64 ((rd_T81 (rd_L5 l0 a1) a2).f0) 7) t384) == 0) = false:=beq_eq_false_iff_ne.mpr c32
                 have c32b1 : ((Go.bits .andNot .i64 (Go.bits .and .i64 ((rd_T81 (rd_L5 l0 a1) a2).f0) 7) t384) != 0) = true:=bne_iff_ne.mpr c32
                 obtain rfl:=Option.some.inj H
                 go_wp2_with (first | ((with_reducible refine gate_callee (f:=82) rfl ?_);refine Up.gl (some 72) Tryd.func82 #[.slice (some ad374) l0.length c0,.string (rdOf ByteArray.empty ((rd_T81 (rd_L5 l0 a1) a2).f1) x38_2)] ?_;(with_reducible refine (impl_ableOf.calls _ _ l0 (rdOf ByteArray.empty ((rd_T81 (rd_L5 l0 a1) a2).f1) x38_2) t384 _ ?side1 ?side2 A31.out).mono ?_);(case side1 => exact Up.Cx HR0 HB);(case side2 => exact HC0.out);rintro e w41 ⟨rfl,hb⟩;refine ⟨_,rfl,?_⟩;have n0_:=Aside0.mk (blk_below (g:=gb376) (o:=.cells #[.int .i64 ((rd_T81 (rd_L5 l0 a1) a2).f0),.slice (some ad377) ((rd_T81 (rd_L5 l0 a1) a2).f1).length c375_1] 81 (0,0)) (Up.Kup BK376) hb);have n1_:=Aside0.mk (below_step (Up.Bx HB) hb);clear BK376 HB;have BK376:=n0_;have HB:=n1_;clear n0_ n1_;(try clear hb);(try clear hb2);(try clear hk);(try clear hi);have hcz42_0 : w41.cell? ⟨gb376,0,none⟩ = some (.int .i64 ((rd_T81 (rd_L5 l0 a1) a2).f0)):=(blk_cell BK376.out 0).trans rfl;have hcz42_1 : w41.cell? ⟨gb376,1,none⟩ = some (.slice (some ad377) ((rd_T81 (rd_L5 l0 a1) a2).f1).length c375_1):=(blk_cell BK376.out 1).trans rfl;have hfz42_0:=blk_frozen BK376.out 0;have hfz42_1:=blk_frozen BK376.out 1))
                 go_ret
                 exact Up.e1 (Up.Bx HB)
            ·rw [if_neg c20] at H
             exact absurd H (by simp)
           ·rw [if_neg c19] at H
            exact absurd H (by simp)
          ·rw [if_neg c18] at H
           have c18b0 : decide (x38_2 < (((rd_T81 (rd_L5 l0 a1) a2).f1).length : Int)) = false:=decide_eq_false c18
           clear c18
           obtain rfl:=Option.some.inj H
           go_wp2
           go_ret
           exact Up.e1 (Up.Bx HB)
    ·rw [if_neg c7] at H
     exact absurd H (by simp)
   ·rw [if_neg c6] at H
    exact absurd H (by simp)
  ·rw [if_neg c5] at H
   exact absurd H (by simp)
 ·rw [if_neg c4] at H
  exact absurd H (by simp)

/-! ### impl_KindsBad: function 54 -/
mutual
def impl_KindsBad.l0 : Nat → List (List (S81)) → List (List (S81)) → Int → Int → Option (Int × Int)
 | 0,_,_,_,_ => none
 | k + 1,x0,x10,x11,x12 => if x12 < x11 then (if 0 ≤ x12 then (if x12 < (x10.length : Int) then (if ((rd_L5 x10 x12).length : Int) > 3 then (some (x12,3)) else (impl_KindsBad.l1 k x0 x12 x10 x11 x12 ((rd_L5 x10 x12).length : Int) 0)) else (none)) else (none)) else (some ((-1),(-1)))
def impl_KindsBad.l1 : Nat → List (List (S81)) → Int → List (List (S81)) → Int → Int → Int → Int → Option (Int × Int)
 | 0,_,_,_,_,_,_,_ => none
 | k + 1,x0,x4,x10,x11,x12,x22,x23 => if x23 < x22 then ((impl_recordOk.f k x0 x4 x23).bind fun t386 => (if t386 = true then (impl_KindsBad.l1 k x0 x4 x10 x11 x12 x22 (wrap64 (x23 + 1))) else (some (x4,x23)))) else (impl_KindsBad.l0 k x0 x10 x11 (wrap64 (x12 + 1)))
end
def impl_KindsBad.f (k : Nat) (l0 : List (List (S81))) : Option (Int × Int):=if (l0.length : Int) > 3 then (some (3,0)) else (impl_KindsBad.l0 k l0 l0 (l0.length : Int) 0)
theorem impl_KindsBad.mono_l : ∀ k,(∀ y0 y1 y2 y3,LeO (impl_KindsBad.l0 k y0 y1 y2 y3) (impl_KindsBad.l0 (k + 1) y0 y1 y2 y3)) ∧ (∀ y0 y1 y2 y3 y4 y5 y6,LeO (impl_KindsBad.l1 k y0 y1 y2 y3 y4 y5 y6) (impl_KindsBad.l1 (k + 1) y0 y1 y2 y3 y4 y5 y6))
 | 0 => ⟨fun _ _ _ _ r h => by simp [impl_KindsBad.l0] at h,fun _ _ _ _ _ _ _ r h => by simp [impl_KindsBad.l1] at h⟩
 | k + 1 => by
  obtain ⟨ih0,ih1⟩:=impl_KindsBad.mono_l k
  refine ⟨?_,?_⟩
  ·intro y0 y1 y2 y3
   unfold impl_KindsBad.l0
   repeat' first
   | (with_reducible exact ih0 _ _ _ _)
   | (with_reducible exact ih1 _ _ _ _ _ _ _)
   | (with_reducible exact impl_recordOk.mono _ _ _ _)
   | (with_reducible exact LeO.refl _)
   | (with_reducible exact LeO.none _)
   | (with_reducible refine LeO.ite ?_ ?_)
   | (with_reducible refine LeO.bind ?_ (fun _ => ?_))
   | exact ih0 _ _ _ _
   | exact ih1 _ _ _ _ _ _ _
   | exact impl_recordOk.mono _ _ _ _
   | exact LeO.none _
   | refine LeO.ite ?_ ?_
   | refine LeO.bind ?_ (fun _ => ?_)
  ·intro y0 y1 y2 y3 y4 y5 y6
   unfold impl_KindsBad.l1
   repeat' first
   | (with_reducible exact ih0 _ _ _ _)
   | (with_reducible exact ih1 _ _ _ _ _ _ _)
   | (with_reducible exact impl_recordOk.mono _ _ _ _)
   | (with_reducible exact LeO.refl _)
   | (with_reducible exact LeO.none _)
   | (with_reducible refine LeO.ite ?_ ?_)
   | (with_reducible refine LeO.bind ?_ (fun _ => ?_))
   | exact ih0 _ _ _ _
   | exact ih1 _ _ _ _ _ _ _
   | exact impl_recordOk.mono _ _ _ _
   | exact LeO.none _
   | refine LeO.ite ?_ ?_
   | refine LeO.bind ?_ (fun _ => ?_)
theorem impl_KindsBad.mono : ∀ a0 k,LeO (impl_KindsBad.f k a0) (impl_KindsBad.f (k + 1) a0):=by
 intro a0 k
 obtain ⟨ih0,ih1⟩:=impl_KindsBad.mono_l k
 unfold impl_KindsBad.f
 repeat' first
   | (with_reducible exact ih0 _ _ _ _)
   | (with_reducible exact ih1 _ _ _ _ _ _ _)
   | (with_reducible exact impl_recordOk.mono _ _ _ _)
   | (with_reducible exact LeO.refl _)
   | (with_reducible exact LeO.none _)
   | (with_reducible refine LeO.ite ?_ ?_)
   | (with_reducible refine LeO.bind ?_ (fun _ => ?_))
   | exact ih0 _ _ _ _
   | exact ih1 _ _ _ _ _ _ _
   | exact impl_recordOk.mono _ _ _ _
   | exact LeO.none _
   | refine LeO.ite ?_ ?_
   | refine LeO.bind ?_ (fun _ => ?_)
set_option maxHeartbeats 8000000 in
set_option maxRecDepth 100000 in
theorem impl_KindsBad.calls (k : Nat) (A0 : Option Addr) (c0 : Nat) (l0 : List (List (S81))) (r1 : Int) (r2 : Int) (w : World) (hr0 : Kd.C (Kd.slice 81 k81) w A0 l0.length l0) (hc0 : l0.length ≤ c0) (h : impl_KindsBad.f k l0 = some (r1,r2)) :
  Calls Tryd.prog 54 #[.slice A0 l0.length c0] w fun e w' => e = .returned (.tuple #[.int .i64 r1,.int .i64 r2]) ∧ Below w.heap.size w w':=by
 have HR0:=Aside0.mk hr0
 have HC0:=Aside0.mk hc0
 clear hr0 hc0
 have HB:=Aside0.mk (Below.refl w.heap.size w)
 have H : (if (l0.length : Int) > 3 then (some (3,0)) else (impl_KindsBad.l0 k l0 l0 (l0.length : Int) 0)) = some (r1,r2):=h
 clear h
 by_cases c2 : (l0.length : Int) > 3
 ·rw [if_pos c2] at H
  have c2b0 : decide (3 < (l0.length : Int)) = true:=decide_eq_true c2
  have c2b1 : decide (3 < l0.length) = true:=decide_eq_true (by omega)
  clear c2
  simp only [Option.some.injEq,Prod.mk.injEq] at H
  obtain ⟨rfl,rfl⟩:=H
  go_enter Tryd.func54,Tryd.ntmps54
  go_wp2
  go_ret2
  exact Up.e1 (Up.Bup HB)
 ·rw [if_neg c2] at H
  have c2b0 : decide (3 < (l0.length : Int)) = false:=decide_eq_false c2
  have c2b1 : decide (3 < l0.length) = false:=decide_eq_false (by omega)
  clear c2
  have H':=Aside0.mk H
  clear H
  go_enter Tryd.func54,Tryd.ntmps54
  go_wp2
  go_loopg [12] k (fun kq v12 w' => ∃ (x12_1 : Int),v12 = .int .i64 x12_1 ∧ Aside0 (impl_KindsBad.l0 kq l0 l0 (l0.length : Int) x12_1 = some (r1,r2)) ∧ Aside0 (kq ≤ k) ∧ Aside0 (Below w.heap.size w w'))
  case atStart => exact ⟨(0),(by first | rfl | (simp;done) | (simp [*];done)),H',⟨Nat.le_refl _⟩,⟨Up.Bup HB⟩⟩
  case round =>
   clear H'
   try clear c2
   try clear c2b0
   try clear c2b1
   try clear p2
   obtain ⟨x12_1,rfl,HA,HK1,HB⟩:=hrel
   cases gk with
   | zero => exact absurd HA.out (by simp [impl_KindsBad.l0])
   | succ k1 =>
    have H:=HA.out
    clear HA
    simp only [impl_KindsBad.l0] at H
    by_cases c3 : x12_1 < (l0.length : Int)
    ·rw [if_pos c3] at H
     have c3b0 : decide (x12_1 < (l0.length : Int)) = true:=decide_eq_true c3
     clear c3
     by_cases c4 : 0 ≤ x12_1
     ·rw [if_pos c4] at H
      have c4b0 : decide (0 ≤ x12_1) = true:=decide_eq_true c4
      clear c4
      by_cases c5 : x12_1 < (l0.length : Int)
      ·rw [if_pos c5] at H
       have c5b0 : decide (x12_1 < (l0.length : Int)) = true:=decide_eq_true c5
       clear c5
       by_cases c6 : ((rd_L5 l0 x12_1).length : Int) > 3
       ·rw [if_pos c6] at H
        have c6b0 : decide (3 < ((rd_L5 l0 x12_1).length : Int)) = true:=decide_eq_true c6
        have c6b1 : decide (3 < (rd_L5 l0 x12_1).length) = true:=decide_eq_true (by omega)
        clear c6
        simp only [Option.some.injEq,Prod.mk.injEq] at H
        obtain ⟨rfl,rfl⟩:=H
        have p385 : 0 ≤ (x12_1 : Int):=Up.od
        have q385 : x12_1 < (l0.length : Int):=Up.od
        obtain ⟨ad385,A385_0,c385_0,e385,hx385_0,hl385_0,hi385_0⟩:=at_L5 HR0.out x12_1 p385 q385
        cases e385
        replace hx385_0:=Up.hc HB hx385_0
        have HR385_0:=Aside0.mk hi385_0
        have HC385_0:=Aside0.mk hl385_0
        clear hi385_0 hl385_0
        replace p385:=eq_true p385
        replace q385:=eq_true q385
        go_wp2
        go_ret2
        exact Up.e1 (Up.Bup HB)
       ·rw [if_neg c6] at H
        have c6b0 : decide (3 < ((rd_L5 l0 x12_1).length : Int)) = false:=decide_eq_false c6
        have c6b1 : decide (3 < (rd_L5 l0 x12_1).length) = false:=decide_eq_false (by omega)
        clear c6
        have H':=Aside0.mk H
        clear H
        have p385 : 0 ≤ (x12_1 : Int):=Up.od
        have q385 : x12_1 < (l0.length : Int):=Up.od
        obtain ⟨ad385,A385_0,c385_0,e385,hx385_0,hl385_0,hi385_0⟩:=at_L5 HR0.out x12_1 p385 q385
        cases e385
        replace hx385_0:=Up.hc HB hx385_0
        have HR385_0:=Aside0.mk hi385_0
        have HC385_0:=Aside0.mk hl385_0
        clear hi385_0 hl385_0
        replace p385:=eq_true p385
        replace q385:=eq_true q385
        go_wp2
        go_loopg [23] k1 (fun kq v23 w' => ∃ (x23_2 : Int),v23 = .int .i64 x23_2 ∧ Aside0 (impl_KindsBad.l1 kq l0 x12_1 l0 (l0.length : Int) x12_1 ((rd_L5 l0 x12_1).length : Int) x23_2 = some (r1,r2)) ∧ Aside0 (kq ≤ k1) ∧ Aside0 (Below w.heap.size w w'))
        case atStart => exact ⟨(0),(by first | rfl | (simp;done) | (simp [*];done)),H',⟨Nat.le_refl _⟩,⟨Up.Bup HB⟩⟩
        case round =>
         clear H'
         try clear c2
         try clear c2b0
         try clear c2b1
         try clear p2
         try clear c3
         try clear c3b0
         try clear p3
         try clear q3
         try clear hx3
         try clear c4
         try clear c4b0
         try clear c5
         try clear c5b0
         try clear c6
         try clear c6b0
         try clear c6b1
         try clear hx385_0
         try clear p2
         try clear p385
         try clear q385
         obtain ⟨x23_2,rfl,HA,HK2,HB⟩:=hrel
         cases gk with
         | zero => exact absurd HA.out (by simp [impl_KindsBad.l1])
         | succ k2 =>
          have H:=HA.out
          clear HA
          simp only [impl_KindsBad.l1] at H
          by_cases c7 : x23_2 < ((rd_L5 l0 x12_1).length : Int)
          ·rw [if_pos c7] at H
           have c7b0 : decide (x23_2 < ((rd_L5 l0 x12_1).length : Int)) = true:=decide_eq_true c7
           clear c7
           replace H:=Option.bind_eq_some_iff.mp H
           obtain ⟨t386,A80,H⟩:=H
           replace H : (if t386 = true then (impl_KindsBad.l1 k2 l0 x12_1 l0 (l0.length : Int) x12_1 ((rd_L5 l0 x12_1).length : Int) (wrap64 (x23_2 + 1))) else (some (x12_1,x23_2))) = some (r1,r2):=H
           have A8:=Aside0.mk A80
           clear A80
           by_cases c9 : t386 = true
           ·subst c9
            have H1 : (impl_KindsBad.l1 k2 l0 x12_1 l0 (l0.length : Int) x12_1 ((rd_L5 l0 x12_1).length : Int) (wrap64 (x23_2 + 1))) = some (r1,r2):=by rw [if_pos rfl] at H;exact H
            clear H
            have H:=H1
            clear H1
            have H':=Aside0.mk H
            clear H
            go_wp2_with (first | ((with_reducible refine gate_callee (f:=70) rfl ?_);refine Up.gl (some 29) Tryd.func70 #[.slice (some ad385) l0.length c0,.int .i64 x12_1,.int .i64 x23_2] ?_;(with_reducible refine (impl_recordOk.calls k2 _ _ l0 x12_1 x23_2 true _ ?side1 ?side2 A8.out).mono ?_);(case side1 => exact Up.Cx HR0 HB);(case side2 => exact HC0.out);rintro e w10 ⟨rfl,hb⟩;refine ⟨_,rfl,?_⟩;have n0_:=Up.BB HB hb;clear HB;have HB:=n0_;clear n0_;(try clear hb);(try clear hb2);(try clear hk);(try clear hi)))
            go_roundg k2
            case measure => have:=HK1.out;have:=HK2.out;omega
            case rel => exact ⟨(wrap64 (x23_2 + 1)),(by first | rfl | (simp;done) | (simp [*];done)),H',⟨by have:=HK1.out;have:=HK2.out;omega⟩,⟨Up.Bup HB⟩⟩
           ·replace c9:=Bool.eq_false_iff.mpr c9
            subst c9
            have H1 : (some (x12_1,x23_2)) = some (r1,r2):=by rw [if_neg (show ¬ (false = true) by decide)] at H;exact H
            clear H
            have H:=H1
            clear H1
            simp only [Option.some.injEq,Prod.mk.injEq] at H
            obtain ⟨rfl,rfl⟩:=H
            go_wp2_with (first | ((with_reducible refine gate_callee (f:=70) rfl ?_);refine Up.gl (some 29) Tryd.func70 #[.slice (some ad385) l0.length c0,.int .i64 x12_1,.int .i64 x23_2] ?_;(with_reducible refine (impl_recordOk.calls k2 _ _ l0 x12_1 x23_2 false _ ?side1 ?side2 A8.out).mono ?_);(case side1 => exact Up.Cx HR0 HB);(case side2 => exact HC0.out);rintro e w11 ⟨rfl,hb⟩;refine ⟨_,rfl,?_⟩;have n0_:=Up.BB HB hb;clear HB;have HB:=n0_;clear n0_;(try clear hb);(try clear hb2);(try clear hk);(try clear hi)))
            go_ret2
            exact Up.e1 (Up.Bup HB)
          ·rw [if_neg c7] at H
           have c7b0 : decide (x23_2 < ((rd_L5 l0 x12_1).length : Int)) = false:=decide_eq_false c7
           clear c7
           have H':=Aside0.mk H
           clear H
           go_wp2
           go_roundg k2
           case measure => have:=HK1.out;have:=HK2.out;omega
           case rel => exact ⟨(wrap64 (x12_1 + 1)),(by first | rfl | (simp;done) | (simp [*];done)),H',⟨by have:=HK1.out;have:=HK2.out;omega⟩,⟨Up.Bup HB⟩⟩
      ·rw [if_neg c5] at H
       exact absurd H (by simp)
     ·rw [if_neg c4] at H
      exact absurd H (by simp)
    ·rw [if_neg c3] at H
     have c3b0 : decide (x12_1 < (l0.length : Int)) = false:=decide_eq_false c3
     clear c3
     simp only [Option.some.injEq,Prod.mk.injEq] at H
     obtain ⟨rfl,rfl⟩:=H
     go_wp2
     go_ret2
     exact Up.e1 (Up.Bup HB)

/-! ### impl_KindsOk: function 28 -/
def impl_KindsOk.f (k : Nat) (l0 : List (List (S81))) : Option (Bool):=(impl_KindsBad.f k l0).bind fun bt387 => (some (bt387.1 == (-1)))
theorem impl_KindsOk.mono : ∀ a0 k,LeO (impl_KindsOk.f k a0) (impl_KindsOk.f (k + 1) a0):=by
 intro a0 k
 unfold impl_KindsOk.f
 repeat' first
   | (with_reducible exact impl_KindsBad.mono _ _)
   | (with_reducible exact LeO.refl _)
   | (with_reducible exact LeO.none _)
   | (with_reducible refine LeO.ite ?_ ?_)
   | (with_reducible refine LeO.bind ?_ (fun _ => ?_))
   | exact impl_KindsBad.mono _ _
   | exact LeO.none _
   | refine LeO.ite ?_ ?_
   | refine LeO.bind ?_ (fun _ => ?_)
set_option maxHeartbeats 8000000 in
set_option maxRecDepth 100000 in
theorem impl_KindsOk.calls (k : Nat) (A0 : Option Addr) (c0 : Nat) (l0 : List (List (S81))) (r : Bool) (w : World) (hr0 : Kd.C (Kd.slice 81 k81) w A0 l0.length l0) (hc0 : l0.length ≤ c0) (h : impl_KindsOk.f k l0 = some r) :
  Calls Tryd.prog 28 #[.slice A0 l0.length c0] w fun e w' => e = .returned (.bool r) ∧ Below w.heap.size w w':=by
 have HR0:=Aside0.mk hr0
 have HC0:=Aside0.mk hc0
 clear hr0 hc0
 have HB:=Aside0.mk (Below.refl w.heap.size w)
 have H : ((impl_KindsBad.f k l0).bind fun bt387 => (some (bt387.1 == (-1)))) = some r:=h
 clear h
 replace H:=Option.bind_eq_some_iff.mp H
 obtain ⟨⟨t387,t388⟩,A20,H⟩:=H
 replace H : (some (t387 == (-1))) = some r:=H
 have A2:=Aside0.mk A20
 clear A20
 obtain rfl:=Option.some.inj H
 go_enter Tryd.func28,Tryd.ntmps28
 go_wp2_with (first | ((with_reducible refine gate_callee (f:=54) rfl ?_);refine Up.gl (some 7) Tryd.func54 #[.slice A0 l0.length c0] ?_;(with_reducible refine (impl_KindsBad.calls k _ _ l0 t387 t388 _ ?side1 ?side2 A2.out).mono ?_);(case side1 => repeat (first | exact HR0.out | (with_reducible refine Kd.C_alloc ?_ _) | (with_reducible refine Kd.C_drewN ?_ _) | (with_reducible refine Kd.C_drew ?_)));(case side2 => exact HC0.out);rintro e w3 ⟨rfl,hb⟩;refine ⟨_,rfl,?_⟩;have n0_:=Up.BB HB hb;clear HB;have HB:=n0_;clear n0_;(try clear hb);(try clear hb2);(try clear hk);(try clear hi)))
 go_ret
 exact Up.e1 (Up.Bup HB)

end Go.Proofs.YtdgmlakgnbmbbaaDoor.OFnValueOk
