-- Laid by a program of this session (wip/myprint.py): the kit's print of the functions, contracts of our own among them.
import Derived.Test.YtdgmlakgnbmbbaaOFnValueCountx0
import Derived.Test.YtdgmlakgnbmbbaaOFnValueCountx8
import Derived.Test.YtdgmlakgnbmbbaaOFnValueCountx10
import Derived.Test.YtdgmlakgnbmbbaaOFnValueCountx11
namespace Go.Proofs.Ytdgmlakgnbmbbaa.OFnValueCount
open Go.RowKit Go.Proofs.YtdgmlakgnbmbbaaW.PrintWords Go.Proofs.YtdgmlakgnbmbbaaW.PrintLast Go.Proofs.YtdgmlakgnbmbbaaW.PrintMore
attribute [local go_sem] max2_int min2_int max_two min_two max_three min_three max_four min_four   -- for this text's walks alone
set_option linter.unusedVariables false
set_option linter.unusedSimpArgs false

/-! ### impl_ValueOk: function 14 -/
def impl_ValueOk.f (k : Nat) (l0 : List (List (S113))) (a1_0 : ByteArray) (a1_1 : Int) (l1_2 : List (S27)) (l1_3 : List Int) : Option (Bool):=(impl_KindsOk.f k l0).bind fun t411 => (if t411 = true then ((impl_valueFits.f k l0 a1_0 a1_1 l1_2 l1_3).bind fun t412 => (some t412)) else (some false))
theorem impl_ValueOk.mono : ∀ a0 a1 a2 a3 a4 k,LeO (impl_ValueOk.f k a0 a1 a2 a3 a4) (impl_ValueOk.f (k + 1) a0 a1 a2 a3 a4):=by
 intro a0 a1 a2 a3 a4 k
 unfold impl_ValueOk.f
 repeat' first
   | (with_reducible exact impl_KindsOk.mono _ _)
   | (with_reducible exact impl_valueFits.mono _ _ _ _ _ _)
   | (with_reducible exact LeO.refl _)
   | (with_reducible exact LeO.none _)
   | (with_reducible refine LeO.ite ?_ ?_)
   | (with_reducible refine LeO.bind ?_ (fun _ => ?_))
   | exact impl_KindsOk.mono _ _
   | exact impl_valueFits.mono _ _ _ _ _ _
   | exact LeO.none _
   | refine LeO.ite ?_ ?_
   | refine LeO.bind ?_ (fun _ => ?_)
set_option maxHeartbeats 8000000 in
set_option maxRecDepth 100000 in
theorem impl_ValueOk.calls (k : Nat) (A0 : Option Addr) (c0 : Nat) (l0 : List (List (S113))) (a1_0 : ByteArray) (a1_1 : Int) (A1_2 : Option Addr) (c1_2 : Nat) (l1_2 : List (S27)) (A1_3 : Option Addr) (c1_3 : Nat) (l1_3 : List Int) (r : Bool) (w : World) (hr0 : Kd.C (Kd.slice 113 k113) w A0 l0.length l0) (hc0 : l0.length ≤ c0) (hr1_2 : Kd.C k27 w A1_2 l1_2.length l1_2) (hc1_2 : l1_2.length ≤ c1_2) (hr1_3 : Kd.C (Kd.int .i64) w A1_3 l1_3.length l1_3) (hc1_3 : l1_3.length ≤ c1_3) (h : impl_ValueOk.f k l0 a1_0 a1_1 l1_2 l1_3 = some r) :
  Calls Try.prog 14 #[.slice A0 l0.length c0,.agg #[.string a1_0,.int .i64 a1_1,.slice A1_2 l1_2.length c1_2,.slice A1_3 l1_3.length c1_3]] w fun e w' => e = .returned (.bool r) ∧ Below w.heap.size w w':=by
 have hu27:=Try.underlying27
 have HR0:=Aside0.mk hr0
 have HC0:=Aside0.mk hc0
 clear hr0 hc0
 have HR1_2:=Aside0.mk hr1_2
 have HC1_2:=Aside0.mk hc1_2
 clear hr1_2 hc1_2
 have HR1_3:=Aside0.mk hr1_3
 have HC1_3:=Aside0.mk hc1_3
 clear hr1_3 hc1_3
 have HB:=Aside0.mk (Below.refl w.heap.size w)
 have H : ((impl_KindsOk.f k l0).bind fun t411 => (if t411 = true then ((impl_valueFits.f k l0 a1_0 a1_1 l1_2 l1_3).bind fun t412 => (some t412)) else (some false))) = some r:=h
 clear h
 replace H:=Option.bind_eq_some_iff.mp H
 obtain ⟨t411,A30,H⟩:=H
 replace H : (if t411 = true then ((impl_valueFits.f k l0 a1_0 a1_1 l1_2 l1_3).bind fun t412 => (some t412)) else (some false)) = some r:=H
 have A3:=Aside0.mk A30
 clear A30
 by_cases c4 : t411 = true
 ·subst c4
  have H1 : ((impl_valueFits.f k l0 a1_0 a1_1 l1_2 l1_3).bind fun t412 => (some t412)) = some r:=by rw [if_pos rfl] at H;exact H
  clear H
  have H:=H1
  clear H1
  replace H:=Option.bind_eq_some_iff.mp H
  obtain ⟨t412,A50,H⟩:=H
  replace H : (some t412) = some r:=H
  have A5:=Aside0.mk A50
  clear A50
  obtain rfl:=Option.some.inj H
  go_enter Try.func14,Try.ntmps14
  go_wp2_with (first | ((with_reducible refine gate_dst (N:=3) rfl ?_);refine Up.bx 3 27 #[.string a1_0,.int .i64 a1_1,.slice A1_2 l1_2.length c1_2,.slice A1_3 l1_3.length c1_3] ?_;intro gb410 hg w6 hbox hb;have n0_:=Up.BB HB hb;have n1_:=Aside0.mk (hbox);have n2_:=Up.gw hg HB;have n3_:=Up.gw hg HB;clear HB;have HB:=n0_;have BK410:=n1_;have GW410:=n2_;have GE410:=n3_;clear n0_ n1_ n2_ n3_ hb hbox hg) | ((with_reducible refine gate_callee (f:=45) rfl ?_);refine Up.gl (some 6) Try.func45 #[.slice A0 l0.length c0] ?_;(with_reducible refine (impl_KindsOk.calls k _ _ l0 true _ ?side1 ?side2 A3.out).mono ?_);(case side1 => exact Up.Cx HR0 HB);(case side2 => exact HC0.out);rintro e w7 ⟨rfl,hb⟩;refine ⟨_,rfl,?_⟩;have n0_:=Up.KB BK410 hb;have n1_:=Aside0.mk (below_step (Up.Bx HB) hb);clear BK410 HB;have BK410:=n0_;have HB:=n1_;clear n0_ n1_;(try clear hb);(try clear hb2);(try clear hk);(try clear hi);have hcz8_0:=Up.c0 BK410;have hcz8_1:=Up.c1 BK410;have hcz8_2:=Up.c2 BK410;have hcz8_3:=Up.c3 BK410;have hfz8_0:=blk_frozen BK410.out 0;have hfz8_1:=blk_frozen BK410.out 1;have hfz8_2:=blk_frozen BK410.out 2;have hfz8_3:=blk_frozen BK410.out 3) | (go_at_call 46;(with_reducible refine (impl_valueFits.calls k _ _ l0 a1_0 a1_1 _ _ l1_2 _ _ l1_3 t412 _ ?side1 ?side2 ?side3 ?side4 ?side5 ?side6 A5.out).mono ?_);(case side1 => exact Up.Cx HR0 HB);(case side2 => exact HC0.out);(case side3 => exact Up.Cx HR1_2 HB);(case side4 => exact HC1_2.out);(case side5 => exact Up.Cx HR1_3 HB);(case side6 => exact HC1_3.out);rintro e w9 ⟨rfl,hb⟩;have n0_:=Up.KB BK410 hb;have n1_:=Aside0.mk (below_step (Up.Bx HB) hb);clear BK410 HB;have BK410:=n0_;have HB:=n1_;clear n0_ n1_;(try clear hb);(try clear hb2);(try clear hk);(try clear hi)))
  go_ret
  exact Up.e1 (Up.Bx HB)
 ·replace c4:=Bool.eq_false_iff.mpr c4
  subst c4
  have H1 : (some false) = some r:=by rw [if_neg (show ¬ (false = true) by decide)] at H;exact H
  clear H
  have H:=H1
  clear H1
  obtain rfl:=Option.some.inj H
  go_enter Try.func14,Try.ntmps14
  go_wp2_with (first | ((with_reducible refine gate_dst (N:=3) rfl ?_);refine Up.bx 3 27 #[.string a1_0,.int .i64 a1_1,.slice A1_2 l1_2.length c1_2,.slice A1_3 l1_3.length c1_3] ?_;intro gb410 hg w10 hbox hb;have n0_:=Up.BB HB hb;have n1_:=Aside0.mk (hbox);have n2_:=Up.gw hg HB;have n3_:=Up.gw hg HB;clear HB;have HB:=n0_;have BK410:=n1_;have GW410:=n2_;have GE410:=n3_;clear n0_ n1_ n2_ n3_ hb hbox hg) | ((with_reducible refine gate_callee (f:=45) rfl ?_);refine Up.gl (some 6) Try.func45 #[.slice A0 l0.length c0] ?_;(with_reducible refine (impl_KindsOk.calls k _ _ l0 false _ ?side1 ?side2 A3.out).mono ?_);(case side1 => exact Up.Cx HR0 HB);(case side2 => exact HC0.out);rintro e w11 ⟨rfl,hb⟩;refine ⟨_,rfl,?_⟩;have n0_:=Up.KB BK410 hb;have n1_:=Aside0.mk (below_step (Up.Bx HB) hb);clear BK410 HB;have BK410:=n0_;have HB:=n1_;clear n0_ n1_;(try clear hb);(try clear hb2);(try clear hk);(try clear hi)))
  go_ret
  exact Up.e1 (Up.Bx HB)

/-! ### impl_countIn: function 49 -/
mutual
def impl_countIn.j0 : Nat → ByteArray → Int → ByteArray → Int → List (S27) → List Int → Option (Int)
 | 0,_,_,_,_,_,_ => none
 | k + 1,x1,x5,x414000,x414001,x414002,x414003 => impl_countIn.l0 k x1 x5 x414002 (x414002.length : Int) 0
def impl_countIn.l0 : Nat → ByteArray → Int → List (S27) → Int → Int → Option (Int)
 | 0,_,_,_,_,_ => none
 | k + 1,x1,x5,x13,x14,x15 => if x15 < x14 then (if 0 ≤ x15 then (if x15 < (x13.length : Int) then ((impl_countIn.f k ((rd_T27 x13 x15).f0) ((rd_T27 x13 x15).f1) ((rd_T27 x13 x15).f2) ((rd_T27 x13 x15).f3) x1).bind fun t416 => (impl_countIn.l0 k x1 (wrap64 (x5 + t416)) x13 x14 (wrap64 (x15 + 1)))) else (none)) else (none)) else (some x5)
def impl_countIn.f : Nat → ByteArray → Int → List (S27) → List Int → ByteArray → Option (Int)
 | 0,_,_,_,_,_ => none
 | k + 1,a0_0,a0_1,l0_2,l0_3,a1 => if a0_0.toList = a1.toList then (impl_countIn.j0 k a1 1 a0_0 a0_1 l0_2 l0_3) else (impl_countIn.j0 k a1 0 a0_0 a0_1 l0_2 l0_3)
end
theorem impl_countIn.mono_l : ∀ k,(∀ y0 y1 y2 y3 y4,LeO (impl_countIn.f k y0 y1 y2 y3 y4) (impl_countIn.f (k + 1) y0 y1 y2 y3 y4)) ∧ (∀ y0 y1 y2 y3 y4 y5,LeO (impl_countIn.j0 k y0 y1 y2 y3 y4 y5) (impl_countIn.j0 (k + 1) y0 y1 y2 y3 y4 y5)) ∧ (∀ y0 y1 y2 y3 y4,LeO (impl_countIn.l0 k y0 y1 y2 y3 y4) (impl_countIn.l0 (k + 1) y0 y1 y2 y3 y4))
 | 0 => ⟨fun _ _ _ _ _ r h => by simp [impl_countIn.f] at h,fun _ _ _ _ _ _ r h => by simp [impl_countIn.j0] at h,fun _ _ _ _ _ r h => by simp [impl_countIn.l0] at h⟩
 | k + 1 => by
  obtain ⟨ih0,ih1,ih2⟩:=impl_countIn.mono_l k
  refine ⟨?_,?_,?_⟩
  ·intro y0 y1 y2 y3 y4
   unfold impl_countIn.f
   repeat' first
   | (with_reducible exact ih0 _ _ _ _ _)
   | (with_reducible exact ih1 _ _ _ _ _ _)
   | (with_reducible exact ih2 _ _ _ _ _)
   | (with_reducible exact LeO.refl _)
   | (with_reducible exact LeO.none _)
   | (with_reducible refine LeO.ite ?_ ?_)
   | (with_reducible refine LeO.bind ?_ (fun _ => ?_))
   | exact ih0 _ _ _ _ _
   | exact ih1 _ _ _ _ _ _
   | exact ih2 _ _ _ _ _
   | exact LeO.none _
   | refine LeO.ite ?_ ?_
   | refine LeO.bind ?_ (fun _ => ?_)
  ·intro y0 y1 y2 y3 y4 y5
   unfold impl_countIn.j0
   repeat' first
   | (with_reducible exact ih0 _ _ _ _ _)
   | (with_reducible exact ih1 _ _ _ _ _ _)
   | (with_reducible exact ih2 _ _ _ _ _)
   | (with_reducible exact LeO.refl _)
   | (with_reducible exact LeO.none _)
   | (with_reducible refine LeO.ite ?_ ?_)
   | (with_reducible refine LeO.bind ?_ (fun _ => ?_))
   | exact ih0 _ _ _ _ _
   | exact ih1 _ _ _ _ _ _
   | exact ih2 _ _ _ _ _
   | exact LeO.none _
   | refine LeO.ite ?_ ?_
   | refine LeO.bind ?_ (fun _ => ?_)
  ·intro y0 y1 y2 y3 y4
   unfold impl_countIn.l0
   repeat' first
   | (with_reducible exact ih0 _ _ _ _ _)
   | (with_reducible exact ih1 _ _ _ _ _ _)
   | (with_reducible exact ih2 _ _ _ _ _)
   | (with_reducible exact LeO.refl _)
   | (with_reducible exact LeO.none _)
   | (with_reducible refine LeO.ite ?_ ?_)
   | (with_reducible refine LeO.bind ?_ (fun _ => ?_))
   | exact ih0 _ _ _ _ _
   | exact ih1 _ _ _ _ _ _
   | exact ih2 _ _ _ _ _
   | exact LeO.none _
   | refine LeO.ite ?_ ?_
   | refine LeO.bind ?_ (fun _ => ?_)
theorem impl_countIn.mono : ∀ a0 a1 a2 a3 a4 k,LeO (impl_countIn.f k a0 a1 a2 a3 a4) (impl_countIn.f (k + 1) a0 a1 a2 a3 a4):=by
 intro a0 a1 a2 a3 a4 k
 obtain ⟨ih0,ih1,ih2⟩:=impl_countIn.mono_l k
 exact ih0 a0 a1 a2 a3 a4
set_option maxHeartbeats 8000000 in
set_option maxRecDepth 100000 in
theorem impl_countIn.calls (k : Nat) : ∀ (a0_0 : ByteArray) (a0_1 : Int) (A0_2 : Option Addr) (c0_2 : Nat) (l0_2 : List (S27)) (A0_3 : Option Addr) (c0_3 : Nat) (l0_3 : List Int) (a1 : ByteArray) (r : Int) (w : World) (hr0_2 : Kd.C k27 w A0_2 l0_2.length l0_2) (hc0_2 : l0_2.length ≤ c0_2) (hr0_3 : Kd.C (Kd.int .i64) w A0_3 l0_3.length l0_3) (hc0_3 : l0_3.length ≤ c0_3) (h : impl_countIn.f k a0_0 a0_1 l0_2 l0_3 a1 = some r),
  Calls Try.prog 49 #[.agg #[.string a0_0,.int .i64 a0_1,.slice A0_2 l0_2.length c0_2,.slice A0_3 l0_3.length c0_3],.string a1] w fun e w' => e = .returned (.int .i64 r) ∧ Below w.heap.size w w':=by
 induction k using Nat.strongRecOn with
 | _ k ih =>
 intro a0_0 a0_1 A0_2 c0_2 l0_2 A0_3 c0_3 l0_3 a1 r w hr0_2 hc0_2 hr0_3 hc0_3 h
 cases k with
 | zero => exact absurd h (by simp [impl_countIn.f])
 | succ k =>
 simp only [impl_countIn.f] at h
 have hu27:=Try.underlying27
 have HR0_2:=Aside0.mk hr0_2
 have HC0_2:=Aside0.mk hc0_2
 clear hr0_2 hc0_2
 have HR0_3:=Aside0.mk hr0_3
 have HC0_3:=Aside0.mk hc0_3
 clear hr0_3 hc0_3
 have HB:=Aside0.mk (Below.refl w.heap.size w)
 have H : (if a0_0.toList = a1.toList then (impl_countIn.j0 k a1 1 a0_0 a0_1 l0_2 l0_3) else (impl_countIn.j0 k a1 0 a0_0 a0_1 l0_2 l0_3)) = some r:=h
 clear h
 have HC3:=Aside0.mk H
 clear H
 go_enter Try.func49,Try.ntmps49
 go_upto_if 11 with (first | ((with_reducible refine gate_dst (N:=2) rfl ?_);refine Up.bx 2 27 #[.string a0_0,.int .i64 a0_1,.slice A0_2 l0_2.length c0_2,.slice A0_3 l0_3.length c0_3] ?_;intro gb413 hg w4 hbox hb;have n0_:=Up.BB HB hb;have n1_:=Aside0.mk (hbox);have n2_:=Up.gw hg HB;have n3_:=Up.gw hg HB;clear HB;have HB:=n0_;have BK413:=n1_;have GW413:=n2_;have GE413:=n3_;clear n0_ n1_ n2_ n3_ hb hbox hg;have hcz5_0:=Up.c0 BK413;have hcz5_1:=Up.c1 BK413;have hcz5_2:=Up.c2 BK413;have hcz5_3:=Up.c3 BK413;have hfz5_0:=blk_frozen BK413.out 0;have hfz5_1:=blk_frozen BK413.out 1;have hfz5_2:=blk_frozen BK413.out 2;have hfz5_3:=blk_frozen BK413.out 3))
 (try simp only [Act.put,List.setIfInBounds_toArray,List.set_cons_zero,List.set_cons_succ])
 go_cut [5] (fun v5 wc => ∃ (kq : Nat) (x5_2 : Int),v5 = .int .i64 x5_2 ∧ Aside0 (impl_countIn.j0 kq a1 x5_2 a0_0 a0_1 l0_2 l0_3 = some r) ∧ Aside0 (kq ≤ k) ∧ Aside0 (wc.heap[gb413]? = some (.cells #[.string a0_0,.int .i64 a0_1,(.slice A0_2 l0_2.length c0_2),(.slice A0_3 l0_3.length c0_3)] 27 (0,0))) ∧ Aside0 (Below w.heap.size w wc))
 case first =>
  have H:=HC3.out
  clear HC3
  by_cases c6 : a0_0.toList = a1.toList
  ·rw [if_pos c6] at H
   have c6b0 : (a0_0.toList == a1.toList) = true:=beq_iff_eq.mpr c6
   have c6b1 : (a0_0.toList != a1.toList) = false:=bne_eq_false_iff_eq.mpr c6
   clear c6
   (first | rw [c6b0] | (simp only [i64_w,i32_w];rw [c6b0]) | skip)
   have H':=Aside0.mk H
   clear H
   go_wp2
   go_meet
   case rel => exact ⟨_,(1),(by first | rfl | (simp;done) | (simp [*];done)),H',⟨by first | omega | exact Nat.le_refl _⟩,⟨by (with_reducible repeat (first | refine blk_drewN ?_ _ | refine blk_drew ?_ | refine blk_alloc ?_ _));exact BK413.out⟩,⟨Up.Bx HB⟩⟩
  ·rw [if_neg c6] at H
   have c6b0 : (a0_0.toList == a1.toList) = false:=beq_eq_false_iff_ne.mpr c6
   have c6b1 : (a0_0.toList != a1.toList) = true:=bne_iff_ne.mpr c6
   (first | rw [c6b0] | (simp only [i64_w,i32_w];rw [c6b0]) | skip)
   have H':=Aside0.mk H
   clear H
   go_wp2
   go_meet
   case rel => exact ⟨_,(0),(by first | rfl | (simp;done) | (simp [*];done)),H',⟨by first | omega | exact Nat.le_refl _⟩,⟨by (with_reducible repeat (first | refine blk_drewN ?_ _ | refine blk_drew ?_ | refine blk_alloc ?_ _));exact BK413.out⟩,⟨Up.Bx HB⟩⟩
 case rest =>
  clear HC3
  try clear p2
  try clear c4
  try clear c6
  try clear c6b0
  try clear c6b1
  try clear hcz5_0
  try clear hcz5_1
  try clear hcz5_2
  try clear hcz5_3
  try clear hfz5_0
  try clear hfz5_1
  try clear hfz5_2
  try clear hfz5_3
  obtain ⟨kq,x5_2,rfl,HA,HJ2,BK413,HB⟩:=hcut
  cases kq with
  | zero => exact absurd HA.out (by simp [impl_countIn.j0])
  | succ kj2 =>
   have H:=HA.out
   clear HA
   simp only [impl_countIn.j0] at H
   have H':=Aside0.mk H
   clear H
   have hcz7_0:=Up.c0 BK413
   have hcz7_1:=Up.c1 BK413
   have hcz7_2:=Up.c2 BK413
   have hcz7_3:=Up.c3 BK413
   have hfz7_0:=blk_frozen BK413.out 0
   have hfz7_1:=blk_frozen BK413.out 1
   have hfz7_2:=blk_frozen BK413.out 2
   have hfz7_3:=blk_frozen BK413.out 3
   go_wp2
   go_loopg [5,15] kj2 (fun kq v5 v15 w' => ∃ (x5_2 : Int) (x15_2 : Int),v5 = .int .i64 x5_2 ∧ v15 = .int .i64 x15_2 ∧ Aside0 (impl_countIn.l0 kq a1 x5_2 l0_2 (l0_2.length : Int) x15_2 = some r) ∧ Aside0 (kq ≤ kj2) ∧ Aside0 (w'.heap[gb413]? = some (.cells #[.string a0_0,.int .i64 a0_1,(.slice A0_2 l0_2.length c0_2),(.slice A0_3 l0_3.length c0_3)] 27 (0,0))) ∧ Aside0 (Below w.heap.size w w'))
   case atStart => exact ⟨(x5_2),(0),(by first | rfl | (simp;done) | (simp [*];done)),(by first | rfl | (simp;done) | (simp [*];done)),H',⟨Nat.le_refl _⟩,⟨by (with_reducible repeat (first | refine blk_drewN ?_ _ | refine blk_drew ?_ | refine blk_alloc ?_ _));exact BK413.out⟩,⟨Up.Bx HB⟩⟩
   case round =>
    clear H'
    try clear p2
    try clear c4
    try clear c6
    try clear c6b0
    try clear c6b1
    try clear hcz5_0
    try clear hcz5_1
    try clear hcz5_2
    try clear hcz5_3
    try clear hcz7_0
    try clear hcz7_1
    try clear hcz7_2
    try clear hcz7_3
    try clear hfz5_0
    try clear hfz5_1
    try clear hfz5_2
    try clear hfz5_3
    try clear hfz7_0
    try clear hfz7_1
    try clear hfz7_2
    try clear hfz7_3
    try clear p2
    obtain ⟨x5_2,x15_2,rfl,rfl,HA,HK2,BK413,HB⟩:=hrel
    cases gk with
    | zero => exact absurd HA.out (by simp [impl_countIn.l0])
    | succ k2 =>
     have H:=HA.out
     clear HA
     simp only [impl_countIn.l0] at H
     by_cases c8 : x15_2 < (l0_2.length : Int)
     ·rw [if_pos c8] at H
      have c8b0 : decide (x15_2 < (l0_2.length : Int)) = true:=decide_eq_true c8
      clear c8
      by_cases c9 : 0 ≤ x15_2
      ·rw [if_pos c9] at H
       have c9b0 : decide (0 ≤ x15_2) = true:=decide_eq_true c9
       clear c9
       by_cases c10 : x15_2 < (l0_2.length : Int)
       ·rw [if_pos c10] at H
        have c10b0 : decide (x15_2 < (l0_2.length : Int)) = true:=decide_eq_true c10
        clear c10
        replace H:=Option.bind_eq_some_iff.mp H
        obtain ⟨t416,A110,H⟩:=H
        replace H : (impl_countIn.l0 k2 a1 (wrap64 (x5_2 + t416)) l0_2 (l0_2.length : Int) (wrap64 (x15_2 + 1))) = some r:=H
        have A11:=Aside0.mk A110
        clear A110
        have H':=Aside0.mk H
        clear H
        have p414 : 0 ≤ (x15_2 : Int):=Up.od
        have q414 : x15_2 < (l0_2.length : Int):=Up.od
        obtain ⟨ad414,A414_2,c414_2,A414_3,c414_3,e414,hx414_0,hx414_1,hx414_2,hx414_3,hl414_2,hi414_2,hl414_3,hi414_3⟩:=at_T27 HR0_2.out x15_2 p414 q414
        cases e414
        replace hx414_0:=Up.hc HB hx414_0
        replace hx414_1:=Up.hc HB hx414_1
        replace hx414_2:=Up.hc HB hx414_2
        replace hx414_3:=Up.hc HB hx414_3
        have HR414_2:=Aside0.mk hi414_2
        have HC414_2:=Aside0.mk hl414_2
        clear hi414_2 hl414_2
        have HR414_3:=Aside0.mk hi414_3
        have HC414_3:=Aside0.mk hl414_3
        clear hi414_3 hl414_3
        replace p414:=eq_true p414
        replace q414:=eq_true q414
        go_wp2_with (first | ((with_reducible refine gate_dst (N:=7) rfl ?_);refine Up.bx 7 27 #[.string (⟨#[]⟩ : ByteArray),.int .i64 0,.slice none 0 0,.slice none 0 0] ?_;intro gb415 hg w12 hbox hb;have n0_:=Up.KB BK413 hb;have n1_:=Aside0.mk (below_step (Up.Bx HB) hb);have n2_:=Aside0.mk (hbox);have n3_:=Up.gw hg HB;have n4_:=Up.gw hg HB;have n5_:=Up.nl hg BK413;have n6_:=Up.ng hg BK413;clear BK413 HB;have BK413:=n0_;have HB:=n1_;have BK415:=n2_;have GW415:=n3_;have GE415:=n4_;have NB413_415:=n5_;have NB415_413:=n6_;clear n0_ n1_ n2_ n3_ n4_ n5_ n6_ hb hbox hg;have hnb13:=NB415_413.out;have hnc13:=NB413_415.out;have hcz14_0:=Up.c0 BK415;have hcz14_1:=Up.c1 BK415;have hcz14_2:=Up.c2 BK415;have hcz14_3:=Up.c3 BK415;have hfz14_0:=blk_frozen BK415.out 0;have hfz14_1:=blk_frozen BK415.out 1;have hfz14_2:=blk_frozen BK415.out 2;have hfz14_3:=blk_frozen BK415.out 3) | ((with_reducible refine gate_callee (f:=49) rfl ?_);refine Up.gl (some 22) Try.func49 #[.agg #[.string ((rd_T27 l0_2 x15_2).f0),.int .i64 ((rd_T27 l0_2 x15_2).f1),.slice A414_2 ((rd_T27 l0_2 x15_2).f2).length c414_2,.slice A414_3 ((rd_T27 l0_2 x15_2).f3).length c414_3],.string a1] ?_;(with_reducible refine (ih k2 (by have:=HJ2.out;have:=HK2.out;omega) ((rd_T27 l0_2 x15_2).f0) ((rd_T27 l0_2 x15_2).f1) _ _ ((rd_T27 l0_2 x15_2).f2) _ _ ((rd_T27 l0_2 x15_2).f3) a1 t416 _ ?side1 ?side2 ?side3 ?side4 A11.out).mono ?_);(case side1 => exact Kd.C_below HR414_2.out (Up.Bx HB));(case side2 => exact HC414_2.out);(case side3 => exact Kd.C_below HR414_3.out (Up.Bx HB));(case side4 => exact HC414_3.out);rintro e w15 ⟨rfl,hb⟩;refine ⟨_,rfl,?_⟩;have n0_:=Aside0.mk (blk_below (g:=gb413) (o:=.cells #[.string a0_0,.int .i64 a0_1,.slice (some ad414) l0_2.length c0_2,.slice A0_3 l0_3.length c0_3] 27 (0,0)) (Up.Kx BK413) hb);have n1_:=Aside0.mk (blk_below (g:=gb415) (o:=.cells #[.string ((rd_T27 l0_2 x15_2).f0),.int .i64 ((rd_T27 l0_2 x15_2).f1),.slice A414_2 ((rd_T27 l0_2 x15_2).f2).length c414_2,.slice A414_3 ((rd_T27 l0_2 x15_2).f3).length c414_3] 27 (0,0)) (Up.Kx BK415) hb);have n2_:=Aside0.mk (below_step (Up.Bx HB) hb);clear BK413 BK415 HB;have BK413:=n0_;have BK415:=n1_;have HB:=n2_;clear n0_ n1_ n2_;(try clear hb);(try clear hb2);(try clear hk);(try clear hi)))
        go_roundg k2
        case measure => have:=HJ2.out;have:=HK2.out;omega
        case rel => exact ⟨(wrap64 (x5_2 + t416)),(wrap64 (x15_2 + 1)),(by first | rfl | (simp;done) | (simp [*];done)),(by first | rfl | (simp;done) | (simp [*];done)),H',⟨by have:=HJ2.out;have:=HK2.out;omega⟩,⟨by (with_reducible repeat (first | refine blk_drewN ?_ _ | refine blk_drew ?_ | refine blk_alloc ?_ _));exact BK413.out⟩,⟨Up.Bx HB⟩⟩
       ·rw [if_neg c10] at H
        exact absurd H (by simp)
      ·rw [if_neg c9] at H
       exact absurd H (by simp)
     ·rw [if_neg c8] at H
      have c8b0 : decide (x15_2 < (l0_2.length : Int)) = false:=decide_eq_false c8
      clear c8
      obtain rfl:=Option.some.inj H
      go_wp2
      go_ret
      exact Up.e1 (Up.Bx HB)

/-! ### impl_ValueCount: function 16 -/
def impl_ValueCount.f (k : Nat) (l0 : List (List (S113))) (a1_0 : ByteArray) (a1_1 : Int) (l1_2 : List (S27)) (l1_3 : List Int) (a2 : ByteArray) : Option (Int):=(impl_ValueOk.f k l0 a1_0 a1_1 l1_2 l1_3).bind fun t418 => (if t418 = true then ((impl_kindIn.f l0 a2).bind fun t419 => (if t419 = true then ((impl_countIn.f k a1_0 a1_1 l1_2 l1_3 a2).bind fun t420 => (some t420)) else (some (-1)))) else (some (-1)))
theorem impl_ValueCount.mono : ∀ a0 a1 a2 a3 a4 a5 k,LeO (impl_ValueCount.f k a0 a1 a2 a3 a4 a5) (impl_ValueCount.f (k + 1) a0 a1 a2 a3 a4 a5):=by
 intro a0 a1 a2 a3 a4 a5 k
 unfold impl_ValueCount.f
 repeat' first
   | (with_reducible exact impl_ValueOk.mono _ _ _ _ _ _)
   | (with_reducible exact impl_countIn.mono _ _ _ _ _ _)
   | (with_reducible exact LeO.refl _)
   | (with_reducible exact LeO.none _)
   | (with_reducible refine LeO.ite ?_ ?_)
   | (with_reducible refine LeO.bind ?_ (fun _ => ?_))
   | exact impl_ValueOk.mono _ _ _ _ _ _
   | exact impl_countIn.mono _ _ _ _ _ _
   | exact LeO.none _
   | refine LeO.ite ?_ ?_
   | refine LeO.bind ?_ (fun _ => ?_)
set_option maxHeartbeats 8000000 in
set_option maxRecDepth 100000 in
theorem impl_ValueCount.calls (k : Nat) (A0 : Option Addr) (c0 : Nat) (l0 : List (List (S113))) (a1_0 : ByteArray) (a1_1 : Int) (A1_2 : Option Addr) (c1_2 : Nat) (l1_2 : List (S27)) (A1_3 : Option Addr) (c1_3 : Nat) (l1_3 : List Int) (a2 : ByteArray) (r : Int) (w : World) (hr0 : Kd.C (Kd.slice 113 k113) w A0 l0.length l0) (hc0 : l0.length ≤ c0) (hr1_2 : Kd.C k27 w A1_2 l1_2.length l1_2) (hc1_2 : l1_2.length ≤ c1_2) (hr1_3 : Kd.C (Kd.int .i64) w A1_3 l1_3.length l1_3) (hc1_3 : l1_3.length ≤ c1_3) (h : impl_ValueCount.f k l0 a1_0 a1_1 l1_2 l1_3 a2 = some r) :
  Calls Try.prog 16 #[.slice A0 l0.length c0,.agg #[.string a1_0,.int .i64 a1_1,.slice A1_2 l1_2.length c1_2,.slice A1_3 l1_3.length c1_3],.string a2] w fun e w' => e = .returned (.int .i64 r) ∧ Below w.heap.size w w':=by
 have hu27:=Try.underlying27
 have HR0:=Aside0.mk hr0
 have HC0:=Aside0.mk hc0
 clear hr0 hc0
 have HR1_2:=Aside0.mk hr1_2
 have HC1_2:=Aside0.mk hc1_2
 clear hr1_2 hc1_2
 have HR1_3:=Aside0.mk hr1_3
 have HC1_3:=Aside0.mk hc1_3
 clear hr1_3 hc1_3
 have HB:=Aside0.mk (Below.refl w.heap.size w)
 have H : ((impl_ValueOk.f k l0 a1_0 a1_1 l1_2 l1_3).bind fun t418 => (if t418 = true then ((impl_kindIn.f l0 a2).bind fun t419 => (if t419 = true then ((impl_countIn.f k a1_0 a1_1 l1_2 l1_3 a2).bind fun t420 => (some t420)) else (some (-1)))) else (some (-1)))) = some r:=h
 clear h
 replace H:=Option.bind_eq_some_iff.mp H
 obtain ⟨t418,A40,H⟩:=H
 replace H : (if t418 = true then ((impl_kindIn.f l0 a2).bind fun t419 => (if t419 = true then ((impl_countIn.f k a1_0 a1_1 l1_2 l1_3 a2).bind fun t420 => (some t420)) else (some (-1)))) else (some (-1))) = some r:=H
 have A4:=Aside0.mk A40
 clear A40
 by_cases c5 : t418 = true
 ·subst c5
  have H1 : ((impl_kindIn.f l0 a2).bind fun t419 => (if t419 = true then ((impl_countIn.f k a1_0 a1_1 l1_2 l1_3 a2).bind fun t420 => (some t420)) else (some (-1)))) = some r:=by rw [if_pos rfl] at H;exact H
  clear H
  have H:=H1
  clear H1
  replace H:=Option.bind_eq_some_iff.mp H
  obtain ⟨t419,A60,H⟩:=H
  replace H : (if t419 = true then ((impl_countIn.f k a1_0 a1_1 l1_2 l1_3 a2).bind fun t420 => (some t420)) else (some (-1))) = some r:=H
  have A6:=Aside0.mk A60
  clear A60
  by_cases c7 : t419 = true
  ·subst c7
   have H1 : ((impl_countIn.f k a1_0 a1_1 l1_2 l1_3 a2).bind fun t420 => (some t420)) = some r:=by rw [if_pos rfl] at H;exact H
   clear H
   have H:=H1
   clear H1
   replace H:=Option.bind_eq_some_iff.mp H
   obtain ⟨t420,A80,H⟩:=H
   replace H : (some t420) = some r:=H
   have A8:=Aside0.mk A80
   clear A80
   obtain rfl:=Option.some.inj H
   go_enter Try.func16,Try.ntmps16
   go_wp2_with (first | ((with_reducible refine gate_dst (N:=4) rfl ?_);refine Up.bx 4 27 #[.string a1_0,.int .i64 a1_1,.slice A1_2 l1_2.length c1_2,.slice A1_3 l1_3.length c1_3] ?_;intro gb417 hg w9 hbox hb;have n0_:=Up.BB HB hb;have n1_:=Aside0.mk (hbox);have n2_:=Up.gw hg HB;have n3_:=Up.gw hg HB;clear HB;have HB:=n0_;have BK417:=n1_;have GW417:=n2_;have GE417:=n3_;clear n0_ n1_ n2_ n3_ hb hbox hg;have hcz10_0:=Up.c0 BK417;have hcz10_1:=Up.c1 BK417;have hcz10_2:=Up.c2 BK417;have hcz10_3:=Up.c3 BK417;have hfz10_0:=blk_frozen BK417.out 0;have hfz10_1:=blk_frozen BK417.out 1;have hfz10_2:=blk_frozen BK417.out 2;have hfz10_3:=blk_frozen BK417.out 3) | ((with_reducible refine gate_callee (f:=14) rfl ?_);refine Up.gl (some 9) Try.func14 #[.slice A0 l0.length c0,.agg #[.string a1_0,.int .i64 a1_1,.slice A1_2 l1_2.length c1_2,.slice A1_3 l1_3.length c1_3]] ?_;(with_reducible refine (impl_ValueOk.calls k _ _ l0 a1_0 a1_1 _ _ l1_2 _ _ l1_3 true _ ?side1 ?side2 ?side3 ?side4 ?side5 ?side6 A4.out).mono ?_);(case side1 => exact Up.Cx HR0 HB);(case side2 => exact HC0.out);(case side3 => exact Up.Cx HR1_2 HB);(case side4 => exact HC1_2.out);(case side5 => exact Up.Cx HR1_3 HB);(case side6 => exact HC1_3.out);rintro e w11 ⟨rfl,hb⟩;refine ⟨_,rfl,?_⟩;have n0_:=Up.KB BK417 hb;have n1_:=Aside0.mk (below_step (Up.Bx HB) hb);clear BK417 HB;have BK417:=n0_;have HB:=n1_;clear n0_ n1_;(try clear hb);(try clear hb2);(try clear hk);(try clear hi)) | (go_at_call 48;(with_reducible refine (impl_kindIn.calls _ _ l0 a2 true _ ?side1 ?side2 A6.out).mono ?_);(case side1 => exact Up.Cx HR0 HB);(case side2 => exact HC0.out);rintro e w' ⟨rfl,⟨nd,rfl⟩⟩;have hcz12_0:=Up.c0 BK417;have hcz12_1:=Up.c1 BK417;have hcz12_2:=Up.c2 BK417;have hcz12_3:=Up.c3 BK417;have hfz12_0:=blk_frozen BK417.out 0;have hfz12_1:=blk_frozen BK417.out 1;have hfz12_2:=blk_frozen BK417.out 2;have hfz12_3:=blk_frozen BK417.out 3) | ((with_reducible refine gate_callee (f:=49) rfl ?_);refine Up.gl (some 19) Try.func49 #[.agg #[.string a1_0,.int .i64 a1_1,.slice A1_2 l1_2.length c1_2,.slice A1_3 l1_3.length c1_3],.string a2] ?_;(with_reducible refine (impl_countIn.calls k a1_0 a1_1 _ _ l1_2 _ _ l1_3 a2 t420 _ ?side1 ?side2 ?side3 ?side4 A8.out).mono ?_);(case side1 => repeat (first | exact (Kd.C_below HR1_2.out (Up.Bx HB)) | (with_reducible refine Kd.C_alloc ?_ _) | (with_reducible refine Kd.C_drewN ?_ _) | (with_reducible refine Kd.C_drew ?_)));(case side2 => exact HC1_2.out);(case side3 => repeat (first | exact (Kd.C_below HR1_3.out (Up.Bx HB)) | (with_reducible refine Kd.C_alloc ?_ _) | (with_reducible refine Kd.C_drewN ?_ _) | (with_reducible refine Kd.C_drew ?_)));(case side4 => exact HC1_3.out);rintro e w13 ⟨rfl,hb⟩;refine ⟨_,rfl,?_⟩;have n0_:=Up.KB BK417 hb;have n1_:=Aside0.mk (below_step (Up.Bx HB) hb);clear BK417 HB;have BK417:=n0_;have HB:=n1_;clear n0_ n1_;(try clear hb);(try clear hb2);(try clear hk);(try clear hi)))
   go_ret
   exact Up.e1 (Up.Bx HB)
  ·replace c7:=Bool.eq_false_iff.mpr c7
   subst c7
   have H1 : (some (-1)) = some r:=by rw [if_neg (show ¬ (false = true) by decide)] at H;exact H
   clear H
   have H:=H1
   clear H1
   obtain rfl:=Option.some.inj H
   go_enter Try.func16,Try.ntmps16
   go_wp2_with (first | ((with_reducible refine gate_dst (N:=4) rfl ?_);refine Up.bx 4 27 #[.string a1_0,.int .i64 a1_1,.slice A1_2 l1_2.length c1_2,.slice A1_3 l1_3.length c1_3] ?_;intro gb417 hg w14 hbox hb;have n0_:=Up.BB HB hb;have n1_:=Aside0.mk (hbox);have n2_:=Up.gw hg HB;have n3_:=Up.gw hg HB;clear HB;have HB:=n0_;have BK417:=n1_;have GW417:=n2_;have GE417:=n3_;clear n0_ n1_ n2_ n3_ hb hbox hg;have hcz15_0:=Up.c0 BK417;have hcz15_1:=Up.c1 BK417;have hcz15_2:=Up.c2 BK417;have hcz15_3:=Up.c3 BK417;have hfz15_0:=blk_frozen BK417.out 0;have hfz15_1:=blk_frozen BK417.out 1;have hfz15_2:=blk_frozen BK417.out 2;have hfz15_3:=blk_frozen BK417.out 3) | ((with_reducible refine gate_callee (f:=14) rfl ?_);refine Up.gl (some 9) Try.func14 #[.slice A0 l0.length c0,.agg #[.string a1_0,.int .i64 a1_1,.slice A1_2 l1_2.length c1_2,.slice A1_3 l1_3.length c1_3]] ?_;(with_reducible refine (impl_ValueOk.calls k _ _ l0 a1_0 a1_1 _ _ l1_2 _ _ l1_3 true _ ?side1 ?side2 ?side3 ?side4 ?side5 ?side6 A4.out).mono ?_);(case side1 => exact Up.Cx HR0 HB);(case side2 => exact HC0.out);(case side3 => exact Up.Cx HR1_2 HB);(case side4 => exact HC1_2.out);(case side5 => exact Up.Cx HR1_3 HB);(case side6 => exact HC1_3.out);rintro e w16 ⟨rfl,hb⟩;refine ⟨_,rfl,?_⟩;have n0_:=Up.KB BK417 hb;have n1_:=Aside0.mk (below_step (Up.Bx HB) hb);clear BK417 HB;have BK417:=n0_;have HB:=n1_;clear n0_ n1_;(try clear hb);(try clear hb2);(try clear hk);(try clear hi)) | (go_at_call 48;(with_reducible refine (impl_kindIn.calls _ _ l0 a2 false _ ?side1 ?side2 A6.out).mono ?_);(case side1 => exact Up.Cx HR0 HB);(case side2 => exact HC0.out);rintro e w' ⟨rfl,⟨nd,rfl⟩⟩))
   go_ret
   exact Up.e1 (Up.Bx HB)
 ·replace c5:=Bool.eq_false_iff.mpr c5
  subst c5
  have H1 : (some (-1)) = some r:=by rw [if_neg (show ¬ (false = true) by decide)] at H;exact H
  clear H
  have H:=H1
  clear H1
  obtain rfl:=Option.some.inj H
  go_enter Try.func16,Try.ntmps16
  go_wp2_with (first | ((with_reducible refine gate_dst (N:=4) rfl ?_);refine Up.bx 4 27 #[.string a1_0,.int .i64 a1_1,.slice A1_2 l1_2.length c1_2,.slice A1_3 l1_3.length c1_3] ?_;intro gb417 hg w17 hbox hb;have n0_:=Up.BB HB hb;have n1_:=Aside0.mk (hbox);have n2_:=Up.gw hg HB;have n3_:=Up.gw hg HB;clear HB;have HB:=n0_;have BK417:=n1_;have GW417:=n2_;have GE417:=n3_;clear n0_ n1_ n2_ n3_ hb hbox hg;have hcz18_0:=Up.c0 BK417;have hcz18_1:=Up.c1 BK417;have hcz18_2:=Up.c2 BK417;have hcz18_3:=Up.c3 BK417;have hfz18_0:=blk_frozen BK417.out 0;have hfz18_1:=blk_frozen BK417.out 1;have hfz18_2:=blk_frozen BK417.out 2;have hfz18_3:=blk_frozen BK417.out 3) | ((with_reducible refine gate_callee (f:=14) rfl ?_);refine Up.gl (some 9) Try.func14 #[.slice A0 l0.length c0,.agg #[.string a1_0,.int .i64 a1_1,.slice A1_2 l1_2.length c1_2,.slice A1_3 l1_3.length c1_3]] ?_;(with_reducible refine (impl_ValueOk.calls k _ _ l0 a1_0 a1_1 _ _ l1_2 _ _ l1_3 false _ ?side1 ?side2 ?side3 ?side4 ?side5 ?side6 A4.out).mono ?_);(case side1 => exact Up.Cx HR0 HB);(case side2 => exact HC0.out);(case side3 => exact Up.Cx HR1_2 HB);(case side4 => exact HC1_2.out);(case side5 => exact Up.Cx HR1_3 HB);(case side6 => exact HC1_3.out);rintro e w19 ⟨rfl,hb⟩;refine ⟨_,rfl,?_⟩;have n0_:=Up.KB BK417 hb;have n1_:=Aside0.mk (below_step (Up.Bx HB) hb);clear BK417 HB;have BK417:=n0_;have HB:=n1_;clear n0_ n1_;(try clear hb);(try clear hb2);(try clear hk);(try clear hi)))
  go_ret
  exact Up.e1 (Up.Bx HB)

/-! ### spec_l2Plain: function 96 -/
def spec_l2Plain.f (a0_0 : ByteArray) (a0_1 : Int) (l0_2 : List (S27)) (l0_3 : List Int) : Option (Bool):=if (l0_2.length : Int) = 0 then (some ((l0_3.length : Int) == 0)) else (some false)
set_option maxHeartbeats 8000000 in
set_option maxRecDepth 100000 in
theorem spec_l2Plain.calls (a0_0 : ByteArray) (a0_1 : Int) (A0_2 : Option Addr) (c0_2 : Nat) (l0_2 : List (S27)) (A0_3 : Option Addr) (c0_3 : Nat) (l0_3 : List Int) (r : Bool) (w : World) (hr0_2 : Kd.C k27 w A0_2 l0_2.length l0_2) (hc0_2 : l0_2.length ≤ c0_2) (hr0_3 : Kd.C (Kd.int .i64) w A0_3 l0_3.length l0_3) (hc0_3 : l0_3.length ≤ c0_3) (h : spec_l2Plain.f a0_0 a0_1 l0_2 l0_3 = some r) :
  Calls Try.prog 96 #[.agg #[.string a0_0,.int .i64 a0_1,.slice A0_2 l0_2.length c0_2,.slice A0_3 l0_3.length c0_3]] w fun e w' => e = .returned (.bool r) ∧ Below w.heap.size w w':=by
 have hu27:=Try.underlying27
 have HR0_2:=Aside0.mk hr0_2
 have HC0_2:=Aside0.mk hc0_2
 clear hr0_2 hc0_2
 have HR0_3:=Aside0.mk hr0_3
 have HC0_3:=Aside0.mk hc0_3
 clear hr0_3 hc0_3
 have HB:=Aside0.mk (Below.refl w.heap.size w)
 have H : (if (l0_2.length : Int) = 0 then (some ((l0_3.length : Int) == 0)) else (some false)) = some r:=h
 clear h
 by_cases c2 : (l0_2.length : Int) = 0
 ·rw [if_pos c2] at H
  have c2b0 : ((l0_2.length : Int) == 0) = true:=beq_iff_eq.mpr c2
  have c2b1 : ((l0_2.length : Int) != 0) = false:=bne_eq_false_iff_eq.mpr c2
  clear c2
  obtain rfl:=Option.some.inj H
  go_enter Try.func96,Try.ntmps96
  go_wp2_with (first | ((with_reducible refine gate_dst (N:=1) rfl ?_);(try (refine gate_guard (by rfl) ?_;dsimp only));refine Up.bx 1 27 #[.string a0_0,.int .i64 a0_1,.slice A0_2 l0_2.length c0_2,.slice A0_3 l0_3.length c0_3] ?_;intro gb421 hg w3 hbox hb;have n0_:=Up.BB HB hb;have n1_:=Aside0.mk (hbox);have n2_:=Up.gw hg HB;have n3_:=Up.gw hg HB;clear HB;have HB:=n0_;have BK421:=n1_;have GW421:=n2_;have GE421:=n3_;clear n0_ n1_ n2_ n3_ hb hbox hg;have hcz4_0:=Up.c0 BK421;have hcz4_1:=Up.c1 BK421;have hcz4_2:=Up.c2 BK421;have hcz4_3:=Up.c3 BK421;have hfz4_0:=blk_frozen BK421.out 0;have hfz4_1:=blk_frozen BK421.out 1;have hfz4_2:=blk_frozen BK421.out 2;have hfz4_3:=blk_frozen BK421.out 3))
  go_ret
  exact Up.e1 (Up.Bx HB)
 ·rw [if_neg c2] at H
  have c2b0 : ((l0_2.length : Int) == 0) = false:=beq_eq_false_iff_ne.mpr c2
  have c2b1 : ((l0_2.length : Int) != 0) = true:=bne_iff_ne.mpr c2
  have c2b2 : ¬ (l0_2 = []):=fun h_ => c2 (by rw [h_];rfl)
  obtain rfl:=Option.some.inj H
  go_enter Try.func96,Try.ntmps96
  go_wp2_with (first | ((with_reducible refine gate_dst (N:=1) rfl ?_);(try (refine gate_guard (by rfl) ?_;dsimp only));refine Up.bx 1 27 #[.string a0_0,.int .i64 a0_1,.slice A0_2 l0_2.length c0_2,.slice A0_3 l0_3.length c0_3] ?_;intro gb421 hg w5 hbox hb;have n0_:=Up.BB HB hb;have n1_:=Aside0.mk (hbox);have n2_:=Up.gw hg HB;have n3_:=Up.gw hg HB;clear HB;have HB:=n0_;have BK421:=n1_;have GW421:=n2_;have GE421:=n3_;clear n0_ n1_ n2_ n3_ hb hbox hg;have hcz6_0:=Up.c0 BK421;have hcz6_1:=Up.c1 BK421;have hcz6_2:=Up.c2 BK421;have hcz6_3:=Up.c3 BK421;have hfz6_0:=blk_frozen BK421.out 0;have hfz6_1:=blk_frozen BK421.out 1;have hfz6_2:=blk_frozen BK421.out 2;have hfz6_3:=blk_frozen BK421.out 3))
  go_ret
  exact Up.e1 (Up.Bx HB)

end Go.Proofs.Ytdgmlakgnbmbbaa.OFnValueCount
