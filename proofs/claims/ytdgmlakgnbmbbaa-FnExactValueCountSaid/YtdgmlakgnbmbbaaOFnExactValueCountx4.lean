-- Laid by a program of this session (wip/myprint.py): the kit's print of the functions, contracts of our own among them.
import Derived.Test.YtdgmlakgnbmbbaaOFnExactValueCountx0
import Derived.Test.YtdgmlakgnbmbbaaOFnExactValueCountx1
import Derived.Test.YtdgmlakgnbmbbaaOFnExactValueCountx2
import Derived.Test.YtdgmlakgnbmbbaaOFnExactValueCountx3
namespace Go.Proofs.Ytdgmlakgnbmbbaa.OFnExactValueCount
open Go.RowKit Go.Proofs.YtdgmlakgnbmbbaaW.PrintWords Go.Proofs.YtdgmlakgnbmbbaaW.PrintLast Go.Proofs.YtdgmlakgnbmbbaaW.PrintMore
attribute [local go_sem] max2_int min2_int max_two min_two max_three min_three max_four min_four   -- for this text's walks alone
set_option linter.unusedVariables false
set_option linter.unusedSimpArgs false

/-! ### impl_ValueOk: function 14 -/
def impl_ValueOk.f (k : Nat) (l0 : List (List (S113))) (a1_0 : ByteArray) (a1_1 : Int) (l1_2 : List (S27)) (l1_3 : List Int) : Option (Bool):=(impl_KindsOk.f k l0).bind fun t145 => (if t145 = true then ((impl_valueFits.f k l0 a1_0 a1_1 l1_2 l1_3).bind fun t146 => (some t146)) else (some false))
theorem impl_ValueOk.mono : ∀ a0 a1 a2 a3 a4 k,LeO (impl_ValueOk.f k a0 a1 a2 a3 a4) (impl_ValueOk.f (k + 1) a0 a1 a2 a3 a4):=by
 intro a0 a1 a2 a3 a4 k
 unfold impl_ValueOk.f
 repeat' first
   | (with_reducible exact impl_KindsOk.mono _ _)
   | (with_reducible exact impl_valueFits.mono _ _ _ _ _ _)
   | (with_reducible exact LeO.refl _)
   | (with_reducible exact LeO.none _)
   | (with_reducible refine LeO.ite ?_ ?_)
   | (with_reducible refine LeO.bind ?_ (fun _ => ?_))
   | exact impl_KindsOk.mono _ _
   | exact impl_valueFits.mono _ _ _ _ _ _
   | exact LeO.none _
   | refine LeO.ite ?_ ?_
   | refine LeO.bind ?_ (fun _ => ?_)
set_option maxHeartbeats 8000000 in
set_option maxRecDepth 100000 in
theorem impl_ValueOk.calls (k : Nat) (A0 : Option Addr) (c0 : Nat) (l0 : List (List (S113))) (a1_0 : ByteArray) (a1_1 : Int) (A1_2 : Option Addr) (c1_2 : Nat) (l1_2 : List (S27)) (A1_3 : Option Addr) (c1_3 : Nat) (l1_3 : List Int) (r : Bool) (w : World) (hr0 : Kd.C (Kd.slice 113 k113) w A0 l0.length l0) (hc0 : l0.length ≤ c0) (hr1_2 : Kd.C k27 w A1_2 l1_2.length l1_2) (hc1_2 : l1_2.length ≤ c1_2) (hr1_3 : Kd.C (Kd.int .i64) w A1_3 l1_3.length l1_3) (hc1_3 : l1_3.length ≤ c1_3) (h : impl_ValueOk.f k l0 a1_0 a1_1 l1_2 l1_3 = some r) :
  Calls Try.prog 14 #[.slice A0 l0.length c0,.agg #[.string a1_0,.int .i64 a1_1,.slice A1_2 l1_2.length c1_2,.slice A1_3 l1_3.length c1_3]] w fun e w' => e = .returned (.bool r) ∧ Below w.heap.size w w':=by
 have hu27:=Try.underlying27
 have HR0:=Aside0.mk hr0
 have HC0:=Aside0.mk hc0
 clear hr0 hc0
 have HR1_2:=Aside0.mk hr1_2
 have HC1_2:=Aside0.mk hc1_2
 clear hr1_2 hc1_2
 have HR1_3:=Aside0.mk hr1_3
 have HC1_3:=Aside0.mk hc1_3
 clear hr1_3 hc1_3
 have HB:=Aside0.mk (Below.refl w.heap.size w)
 have H : ((impl_KindsOk.f k l0).bind fun t145 => (if t145 = true then ((impl_valueFits.f k l0 a1_0 a1_1 l1_2 l1_3).bind fun t146 => (some t146)) else (some false))) = some r:=h
 clear h
 replace H:=Option.bind_eq_some_iff.mp H
 obtain ⟨t145,A30,H⟩:=H
 replace H : (if t145 = true then ((impl_valueFits.f k l0 a1_0 a1_1 l1_2 l1_3).bind fun t146 => (some t146)) else (some false)) = some r:=H
 have A3:=Aside0.mk A30
 clear A30
 by_cases c4 : t145 = true
 ·subst c4
  have H1 : ((impl_valueFits.f k l0 a1_0 a1_1 l1_2 l1_3).bind fun t146 => (some t146)) = some r:=by rw [if_pos rfl] at H;exact H
  clear H
  have H:=H1
  clear H1
  replace H:=Option.bind_eq_some_iff.mp H
  obtain ⟨t146,A50,H⟩:=H
  replace H : (some t146) = some r:=H
  have A5:=Aside0.mk A50
  clear A50
  obtain rfl:=Option.some.inj H
  go_enter Try.func14,Try.ntmps14
  go_wp2_with (first | ((with_reducible refine gate_dst (N:=3) rfl ?_);refine Up.bx 3 27 #[.string a1_0,.int .i64 a1_1,.slice A1_2 l1_2.length c1_2,.slice A1_3 l1_3.length c1_3] ?_;intro gb144 hg w6 hbox hb;have n0_:=Up.BB HB hb;have n1_:=Aside0.mk (hbox);have n2_:=Up.gw hg HB;have n3_:=Up.gw hg HB;clear HB;have HB:=n0_;have BK144:=n1_;have GW144:=n2_;have GE144:=n3_;clear n0_ n1_ n2_ n3_ hb hbox hg) | ((with_reducible refine gate_callee (f:=45) rfl ?_);refine Up.gl (some 6) Try.func45 #[.slice A0 l0.length c0] ?_;(with_reducible refine (impl_KindsOk.calls k _ _ l0 true _ ?side1 ?side2 A3.out).mono ?_);(case side1 => exact Up.Cx HR0 HB);(case side2 => exact HC0.out);rintro e w7 ⟨rfl,hb⟩;refine ⟨_,rfl,?_⟩;have n0_:=Up.KB BK144 hb;have n1_:=Aside0.mk (below_step (Up.Bx HB) hb);clear BK144 HB;have BK144:=n0_;have HB:=n1_;clear n0_ n1_;(try clear hb);(try clear hb2);(try clear hk);(try clear hi);have hcz8_0:=Up.c0 BK144;have hcz8_1:=Up.c1 BK144;have hcz8_2:=Up.c2 BK144;have hcz8_3:=Up.c3 BK144;have hfz8_0:=blk_frozen BK144.out 0;have hfz8_1:=blk_frozen BK144.out 1;have hfz8_2:=blk_frozen BK144.out 2;have hfz8_3:=blk_frozen BK144.out 3) | (go_at_call 46;(with_reducible refine (impl_valueFits.calls k _ _ l0 a1_0 a1_1 _ _ l1_2 _ _ l1_3 t146 _ ?side1 ?side2 ?side3 ?side4 ?side5 ?side6 A5.out).mono ?_);(case side1 => exact Up.Cx HR0 HB);(case side2 => exact HC0.out);(case side3 => exact Up.Cx HR1_2 HB);(case side4 => exact HC1_2.out);(case side5 => exact Up.Cx HR1_3 HB);(case side6 => exact HC1_3.out);rintro e w9 ⟨rfl,hb⟩;have n0_:=Up.KB BK144 hb;have n1_:=Aside0.mk (below_step (Up.Bx HB) hb);clear BK144 HB;have BK144:=n0_;have HB:=n1_;clear n0_ n1_;(try clear hb);(try clear hb2);(try clear hk);(try clear hi)))
  go_ret
  exact Up.e1 (Up.Bx HB)
 ·replace c4:=Bool.eq_false_iff.mpr c4
  subst c4
  have H1 : (some false) = some r:=by rw [if_neg (show ¬ (false = true) by decide)] at H;exact H
  clear H
  have H:=H1
  clear H1
  obtain rfl:=Option.some.inj H
  go_enter Try.func14,Try.ntmps14
  go_wp2_with (first | ((with_reducible refine gate_dst (N:=3) rfl ?_);refine Up.bx 3 27 #[.string a1_0,.int .i64 a1_1,.slice A1_2 l1_2.length c1_2,.slice A1_3 l1_3.length c1_3] ?_;intro gb144 hg w10 hbox hb;have n0_:=Up.BB HB hb;have n1_:=Aside0.mk (hbox);have n2_:=Up.gw hg HB;have n3_:=Up.gw hg HB;clear HB;have HB:=n0_;have BK144:=n1_;have GW144:=n2_;have GE144:=n3_;clear n0_ n1_ n2_ n3_ hb hbox hg) | ((with_reducible refine gate_callee (f:=45) rfl ?_);refine Up.gl (some 6) Try.func45 #[.slice A0 l0.length c0] ?_;(with_reducible refine (impl_KindsOk.calls k _ _ l0 false _ ?side1 ?side2 A3.out).mono ?_);(case side1 => exact Up.Cx HR0 HB);(case side2 => exact HC0.out);rintro e w11 ⟨rfl,hb⟩;refine ⟨_,rfl,?_⟩;have n0_:=Up.KB BK144 hb;have n1_:=Aside0.mk (below_step (Up.Bx HB) hb);clear BK144 HB;have BK144:=n0_;have HB:=n1_;clear n0_ n1_;(try clear hb);(try clear hb2);(try clear hk);(try clear hi)))
  go_ret
  exact Up.e1 (Up.Bx HB)

/-! ### impl_countIn: function 49 -/
mutual
def impl_countIn.j0 : Nat → ByteArray → Int → ByteArray → Int → List (S27) → List Int → Option (Int)
 | 0,_,_,_,_,_,_ => none
 | k + 1,x1,x5,x148000,x148001,x148002,x148003 => impl_countIn.l0 k x1 x5 x148002 (x148002.length : Int) 0
def impl_countIn.l0 : Nat → ByteArray → Int → List (S27) → Int → Int → Option (Int)
 | 0,_,_,_,_,_ => none
 | k + 1,x1,x5,x13,x14,x15 => if x15 < x14 then (if 0 ≤ x15 then (if x15 < (x13.length : Int) then ((impl_countIn.f k ((rd_T27 x13 x15).f0) ((rd_T27 x13 x15).f1) ((rd_T27 x13 x15).f2) ((rd_T27 x13 x15).f3) x1).bind fun t150 => (impl_countIn.l0 k x1 (wrap64 (x5 + t150)) x13 x14 (wrap64 (x15 + 1)))) else (none)) else (none)) else (some x5)
def impl_countIn.f : Nat → ByteArray → Int → List (S27) → List Int → ByteArray → Option (Int)
 | 0,_,_,_,_,_ => none
 | k + 1,a0_0,a0_1,l0_2,l0_3,a1 => if a0_0.toList = a1.toList then (impl_countIn.j0 k a1 1 a0_0 a0_1 l0_2 l0_3) else (impl_countIn.j0 k a1 0 a0_0 a0_1 l0_2 l0_3)
end
theorem impl_countIn.mono_l : ∀ k,(∀ y0 y1 y2 y3 y4,LeO (impl_countIn.f k y0 y1 y2 y3 y4) (impl_countIn.f (k + 1) y0 y1 y2 y3 y4)) ∧ (∀ y0 y1 y2 y3 y4 y5,LeO (impl_countIn.j0 k y0 y1 y2 y3 y4 y5) (impl_countIn.j0 (k + 1) y0 y1 y2 y3 y4 y5)) ∧ (∀ y0 y1 y2 y3 y4,LeO (impl_countIn.l0 k y0 y1 y2 y3 y4) (impl_countIn.l0 (k + 1) y0 y1 y2 y3 y4))
 | 0 => ⟨fun _ _ _ _ _ r h => by simp [impl_countIn.f] at h,fun _ _ _ _ _ _ r h => by simp [impl_countIn.j0] at h,fun _ _ _ _ _ r h => by simp [impl_countIn.l0] at h⟩
 | k + 1 => by
  obtain ⟨ih0,ih1,ih2⟩:=impl_countIn.mono_l k
  refine ⟨?_,?_,?_⟩
  ·intro y0 y1 y2 y3 y4
   unfold impl_countIn.f
   repeat' first
   | (with_reducible exact ih0 _ _ _ _ _)
   | (with_reducible exact ih1 _ _ _ _ _ _)
   | (with_reducible exact ih2 _ _ _ _ _)
   | (with_reducible exact LeO.refl _)
   | (with_reducible exact LeO.none _)
   | (with_reducible refine LeO.ite ?_ ?_)
   | (with_reducible refine LeO.bind ?_ (fun _ => ?_))
   | exact ih0 _ _ _ _ _
   | exact ih1 _ _ _ _ _ _
   | exact ih2 _ _ _ _ _
   | exact LeO.none _
   | refine LeO.ite ?_ ?_
   | refine LeO.bind ?_ (fun _ => ?_)
  ·intro y0 y1 y2 y3 y4 y5
   unfold impl_countIn.j0
   repeat' first
   | (with_reducible exact ih0 _ _ _ _ _)
   | (with_reducible exact ih1 _ _ _ _ _ _)
   | (with_reducible exact ih2 _ _ _ _ _)
   | (with_reducible exact LeO.refl _)
   | (with_reducible exact LeO.none _)
   | (with_reducible refine LeO.ite ?_ ?_)
   | (with_reducible refine LeO.bind ?_ (fun _ => ?_))
   | exact ih0 _ _ _ _ _
   | exact ih1 _ _ _ _ _ _
   | exact ih2 _ _ _ _ _
   | exact LeO.none _
   | refine LeO.ite ?_ ?_
   | refine LeO.bind ?_ (fun _ => ?_)
  ·intro y0 y1 y2 y3 y4
   unfold impl_countIn.l0
   repeat' first
   | (with_reducible exact ih0 _ _ _ _ _)
   | (with_reducible exact ih1 _ _ _ _ _ _)
   | (with_reducible exact ih2 _ _ _ _ _)
   | (with_reducible exact LeO.refl _)
   | (with_reducible exact LeO.none _)
   | (with_reducible refine LeO.ite ?_ ?_)
   | (with_reducible refine LeO.bind ?_ (fun _ => ?_))
   | exact ih0 _ _ _ _ _
   | exact ih1 _ _ _ _ _ _
   | exact ih2 _ _ _ _ _
   | exact LeO.none _
   | refine LeO.ite ?_ ?_
   | refine LeO.bind ?_ (fun _ => ?_)
theorem impl_countIn.mono : ∀ a0 a1 a2 a3 a4 k,LeO (impl_countIn.f k a0 a1 a2 a3 a4) (impl_countIn.f (k + 1) a0 a1 a2 a3 a4):=by
 intro a0 a1 a2 a3 a4 k
 obtain ⟨ih0,ih1,ih2⟩:=impl_countIn.mono_l k
 exact ih0 a0 a1 a2 a3 a4
set_option maxHeartbeats 8000000 in
set_option maxRecDepth 100000 in
theorem impl_countIn.calls (k : Nat) : ∀ (a0_0 : ByteArray) (a0_1 : Int) (A0_2 : Option Addr) (c0_2 : Nat) (l0_2 : List (S27)) (A0_3 : Option Addr) (c0_3 : Nat) (l0_3 : List Int) (a1 : ByteArray) (r : Int) (w : World) (hr0_2 : Kd.C k27 w A0_2 l0_2.length l0_2) (hc0_2 : l0_2.length ≤ c0_2) (hr0_3 : Kd.C (Kd.int .i64) w A0_3 l0_3.length l0_3) (hc0_3 : l0_3.length ≤ c0_3) (h : impl_countIn.f k a0_0 a0_1 l0_2 l0_3 a1 = some r),
  Calls Try.prog 49 #[.agg #[.string a0_0,.int .i64 a0_1,.slice A0_2 l0_2.length c0_2,.slice A0_3 l0_3.length c0_3],.string a1] w fun e w' => e = .returned (.int .i64 r) ∧ Below w.heap.size w w':=by
 induction k using Nat.strongRecOn with
 | _ k ih =>
 intro a0_0 a0_1 A0_2 c0_2 l0_2 A0_3 c0_3 l0_3 a1 r w hr0_2 hc0_2 hr0_3 hc0_3 h
 cases k with
 | zero => exact absurd h (by simp [impl_countIn.f])
 | succ k =>
 simp only [impl_countIn.f] at h
 have hu27:=Try.underlying27
 have HR0_2:=Aside0.mk hr0_2
 have HC0_2:=Aside0.mk hc0_2
 clear hr0_2 hc0_2
 have HR0_3:=Aside0.mk hr0_3
 have HC0_3:=Aside0.mk hc0_3
 clear hr0_3 hc0_3
 have HB:=Aside0.mk (Below.refl w.heap.size w)
 have H : (if a0_0.toList = a1.toList then (impl_countIn.j0 k a1 1 a0_0 a0_1 l0_2 l0_3) else (impl_countIn.j0 k a1 0 a0_0 a0_1 l0_2 l0_3)) = some r:=h
 clear h
 have HC3:=Aside0.mk H
 clear H
 go_enter Try.func49,Try.ntmps49
 go_upto_if 11 with (first | ((with_reducible refine gate_dst (N:=2) rfl ?_);refine Up.bx 2 27 #[.string a0_0,.int .i64 a0_1,.slice A0_2 l0_2.length c0_2,.slice A0_3 l0_3.length c0_3] ?_;intro gb147 hg w4 hbox hb;have n0_:=Up.BB HB hb;have n1_:=Aside0.mk (hbox);have n2_:=Up.gw hg HB;have n3_:=Up.gw hg HB;clear HB;have HB:=n0_;have BK147:=n1_;have GW147:=n2_;have GE147:=n3_;clear n0_ n1_ n2_ n3_ hb hbox hg;have hcz5_0:=Up.c0 BK147;have hcz5_1:=Up.c1 BK147;have hcz5_2:=Up.c2 BK147;have hcz5_3:=Up.c3 BK147;have hfz5_0:=blk_frozen BK147.out 0;have hfz5_1:=blk_frozen BK147.out 1;have hfz5_2:=blk_frozen BK147.out 2;have hfz5_3:=blk_frozen BK147.out 3))
 (try simp only [Act.put,List.setIfInBounds_toArray,List.set_cons_zero,List.set_cons_succ])
 go_cut [5] (fun v5 wc => ∃ (kq : Nat) (x5_2 : Int),v5 = .int .i64 x5_2 ∧ Aside0 (impl_countIn.j0 kq a1 x5_2 a0_0 a0_1 l0_2 l0_3 = some r) ∧ Aside0 (kq ≤ k) ∧ Aside0 (wc.heap[gb147]? = some (.cells #[.string a0_0,.int .i64 a0_1,(.slice A0_2 l0_2.length c0_2),(.slice A0_3 l0_3.length c0_3)] 27 (0,0))) ∧ Aside0 (Below w.heap.size w wc))
 case first =>
  have H:=HC3.out
  clear HC3
  by_cases c6 : a0_0.toList = a1.toList
  ·rw [if_pos c6] at H
   have c6b0 : (a0_0.toList == a1.toList) = true:=beq_iff_eq.mpr c6
   have c6b1 : (a0_0.toList != a1.toList) = false:=bne_eq_false_iff_eq.mpr c6
   clear c6
   (first | rw [c6b0] | (simp only [i64_w,i32_w];rw [c6b0]) | skip)
   have H':=Aside0.mk H
   clear H
   go_wp2
   go_meet
   case rel => exact ⟨_,(1),(by first | rfl | (simp;done) | (simp [*];done)),H',⟨by first | omega | exact Nat.le_refl _⟩,⟨by (with_reducible repeat (first | refine blk_drewN ?_ _ | refine blk_drew ?_ | refine blk_alloc ?_ _));exact BK147.out⟩,⟨Up.Bx HB⟩⟩
  ·rw [if_neg c6] at H
   have c6b0 : (a0_0.toList == a1.toList) = false:=beq_eq_false_iff_ne.mpr c6
   have c6b1 : (a0_0.toList != a1.toList) = true:=bne_iff_ne.mpr c6
   (first | rw [c6b0] | (simp only [i64_w,i32_w];rw [c6b0]) | skip)
   have H':=Aside0.mk H
   clear H
   go_wp2
   go_meet
   case rel => exact ⟨_,(0),(by first | rfl | (simp;done) | (simp [*];done)),H',⟨by first | omega | exact Nat.le_refl _⟩,⟨by (with_reducible repeat (first | refine blk_drewN ?_ _ | refine blk_drew ?_ | refine blk_alloc ?_ _));exact BK147.out⟩,⟨Up.Bx HB⟩⟩
 case rest =>
  clear HC3
  try clear p2
  try clear c4
  try clear c6
  try clear c6b0
  try clear c6b1
  try clear hcz5_0
  try clear hcz5_1
  try clear hcz5_2
  try clear hcz5_3
  try clear hfz5_0
  try clear hfz5_1
  try clear hfz5_2
  try clear hfz5_3
  obtain ⟨kq,x5_2,rfl,HA,HJ2,BK147,HB⟩:=hcut
  cases kq with
  | zero => exact absurd HA.out (by simp [impl_countIn.j0])
  | succ kj2 =>
   have H:=HA.out
   clear HA
   simp only [impl_countIn.j0] at H
   have H':=Aside0.mk H
   clear H
   have hcz7_0:=Up.c0 BK147
   have hcz7_1:=Up.c1 BK147
   have hcz7_2:=Up.c2 BK147
   have hcz7_3:=Up.c3 BK147
   have hfz7_0:=blk_frozen BK147.out 0
   have hfz7_1:=blk_frozen BK147.out 1
   have hfz7_2:=blk_frozen BK147.out 2
   have hfz7_3:=blk_frozen BK147.out 3
   go_wp2
   go_loopg [5,15] kj2 (fun kq v5 v15 w' => ∃ (x5_2 : Int) (x15_2 : Int),v5 = .int .i64 x5_2 ∧ v15 = .int .i64 x15_2 ∧ Aside0 (impl_countIn.l0 kq a1 x5_2 l0_2 (l0_2.length : Int) x15_2 = some r) ∧ Aside0 (kq ≤ kj2) ∧ Aside0 (w'.heap[gb147]? = some (.cells #[.string a0_0,.int .i64 a0_1,(.slice A0_2 l0_2.length c0_2),(.slice A0_3 l0_3.length c0_3)] 27 (0,0))) ∧ Aside0 (Below w.heap.size w w'))
   case atStart => exact ⟨(x5_2),(0),(by first | rfl | (simp;done) | (simp [*];done)),(by first | rfl | (simp;done) | (simp [*];done)),H',⟨Nat.le_refl _⟩,⟨by (with_reducible repeat (first | refine blk_drewN ?_ _ | refine blk_drew ?_ | refine blk_alloc ?_ _));exact BK147.out⟩,⟨Up.Bx HB⟩⟩
   case round =>
    clear H'
    try clear p2
    try clear c4
    try clear c6
    try clear c6b0
    try clear c6b1
    try clear hcz5_0
    try clear hcz5_1
    try clear hcz5_2
    try clear hcz5_3
    try clear hcz7_0
    try clear hcz7_1
    try clear hcz7_2
    try clear hcz7_3
    try clear hfz5_0
    try clear hfz5_1
    try clear hfz5_2
    try clear hfz5_3
    try clear hfz7_0
    try clear hfz7_1
    try clear hfz7_2
    try clear hfz7_3
    try clear p2
    obtain ⟨x5_2,x15_2,rfl,rfl,HA,HK2,BK147,HB⟩:=hrel
    cases gk with
    | zero => exact absurd HA.out (by simp [impl_countIn.l0])
    | succ k2 =>
     have H:=HA.out
     clear HA
     simp only [impl_countIn.l0] at H
     by_cases c8 : x15_2 < (l0_2.length : Int)
     ·rw [if_pos c8] at H
      have c8b0 : decide (x15_2 < (l0_2.length : Int)) = true:=decide_eq_true c8
      clear c8
      by_cases c9 : 0 ≤ x15_2
      ·rw [if_pos c9] at H
       have c9b0 : decide (0 ≤ x15_2) = true:=decide_eq_true c9
       clear c9
       by_cases c10 : x15_2 < (l0_2.length : Int)
       ·rw [if_pos c10] at H
        have c10b0 : decide (x15_2 < (l0_2.length : Int)) = true:=decide_eq_true c10
        clear c10
        replace H:=Option.bind_eq_some_iff.mp H
        obtain ⟨t150,A110,H⟩:=H
        replace H : (impl_countIn.l0 k2 a1 (wrap64 (x5_2 + t150)) l0_2 (l0_2.length : Int) (wrap64 (x15_2 + 1))) = some r:=H
        have A11:=Aside0.mk A110
        clear A110
        have H':=Aside0.mk H
        clear H
        have p148 : 0 ≤ (x15_2 : Int):=Up.od
        have q148 : x15_2 < (l0_2.length : Int):=Up.od
        obtain ⟨ad148,A148_2,c148_2,A148_3,c148_3,e148,hx148_0,hx148_1,hx148_2,hx148_3,hl148_2,hi148_2,hl148_3,hi148_3⟩:=at_T27 HR0_2.out x15_2 p148 q148
        cases e148
        replace hx148_0:=Up.hc HB hx148_0
        replace hx148_1:=Up.hc HB hx148_1
        replace hx148_2:=Up.hc HB hx148_2
        replace hx148_3:=Up.hc HB hx148_3
        have HR148_2:=Aside0.mk hi148_2
        have HC148_2:=Aside0.mk hl148_2
        clear hi148_2 hl148_2
        have HR148_3:=Aside0.mk hi148_3
        have HC148_3:=Aside0.mk hl148_3
        clear hi148_3 hl148_3
        replace p148:=eq_true p148
        replace q148:=eq_true q148
        go_wp2_with (first | ((with_reducible refine gate_dst (N:=7) rfl ?_);refine Up.bx 7 27 #[.string (⟨#[]⟩ : ByteArray),.int .i64 0,.slice none 0 0,.slice none 0 0] ?_;intro gb149 hg w12 hbox hb;have n0_:=Up.KB BK147 hb;have n1_:=Aside0.mk (below_step (Up.Bx HB) hb);have n2_:=Aside0.mk (hbox);have n3_:=Up.gw hg HB;have n4_:=Up.gw hg HB;have n5_:=Up.nl hg BK147;have n6_:=Up.ng hg BK147;clear BK147 HB;have BK147:=n0_;have HB:=n1_;have BK149:=n2_;have GW149:=n3_;have GE149:=n4_;have NB147_149:=n5_;have NB149_147:=n6_;clear n0_ n1_ n2_ n3_ n4_ n5_ n6_ hb hbox hg;have hnb13:=NB149_147.out;have hnc13:=NB147_149.out;have hcz14_0:=Up.c0 BK149;have hcz14_1:=Up.c1 BK149;have hcz14_2:=Up.c2 BK149;have hcz14_3:=Up.c3 BK149;have hfz14_0:=blk_frozen BK149.out 0;have hfz14_1:=blk_frozen BK149.out 1;have hfz14_2:=blk_frozen BK149.out 2;have hfz14_3:=blk_frozen BK149.out 3) | ((with_reducible refine gate_callee (f:=49) rfl ?_);refine Up.gl (some 22) Try.func49 #[.agg #[.string ((rd_T27 l0_2 x15_2).f0),.int .i64 ((rd_T27 l0_2 x15_2).f1),.slice A148_2 ((rd_T27 l0_2 x15_2).f2).length c148_2,.slice A148_3 ((rd_T27 l0_2 x15_2).f3).length c148_3],.string a1] ?_;(with_reducible refine (ih k2 (by have:=HJ2.out;have:=HK2.out;omega) ((rd_T27 l0_2 x15_2).f0) ((rd_T27 l0_2 x15_2).f1) _ _ ((rd_T27 l0_2 x15_2).f2) _ _ ((rd_T27 l0_2 x15_2).f3) a1 t150 _ ?side1 ?side2 ?side3 ?side4 A11.out).mono ?_);(case side1 => exact Kd.C_below HR148_2.out (Up.Bx HB));(case side2 => exact HC148_2.out);(case side3 => exact Kd.C_below HR148_3.out (Up.Bx HB));(case side4 => exact HC148_3.out);rintro e w15 ⟨rfl,hb⟩;refine ⟨_,rfl,?_⟩;have n0_:=Aside0.mk (blk_below (g:=gb147) (o:=.cells #[.string a0_0,.int .i64 a0_1,.slice (some ad148) l0_2.length c0_2,.slice A0_3 l0_3.length c0_3] 27 (0,0)) (Up.Kx BK147) hb);have n1_:=Aside0.mk (blk_below (g:=gb149) (o:=.cells #[.string ((rd_T27 l0_2 x15_2).f0),.int .i64 ((rd_T27 l0_2 x15_2).f1),.slice A148_2 ((rd_T27 l0_2 x15_2).f2).length c148_2,.slice A148_3 ((rd_T27 l0_2 x15_2).f3).length c148_3] 27 (0,0)) (Up.Kx BK149) hb);have n2_:=Aside0.mk (below_step (Up.Bx HB) hb);clear BK147 BK149 HB;have BK147:=n0_;have BK149:=n1_;have HB:=n2_;clear n0_ n1_ n2_;(try clear hb);(try clear hb2);(try clear hk);(try clear hi)))
        go_roundg k2
        case measure => have:=HJ2.out;have:=HK2.out;omega
        case rel => exact ⟨(wrap64 (x5_2 + t150)),(wrap64 (x15_2 + 1)),(by first | rfl | (simp;done) | (simp [*];done)),(by first | rfl | (simp;done) | (simp [*];done)),H',⟨by have:=HJ2.out;have:=HK2.out;omega⟩,⟨by (with_reducible repeat (first | refine blk_drewN ?_ _ | refine blk_drew ?_ | refine blk_alloc ?_ _));exact BK147.out⟩,⟨Up.Bx HB⟩⟩
       ·rw [if_neg c10] at H
        exact absurd H (by simp)
      ·rw [if_neg c9] at H
       exact absurd H (by simp)
     ·rw [if_neg c8] at H
      have c8b0 : decide (x15_2 < (l0_2.length : Int)) = false:=decide_eq_false c8
      clear c8
      obtain rfl:=Option.some.inj H
      go_wp2
      go_ret
      exact Up.e1 (Up.Bx HB)

/-! ### impl_ValueCount: function 16 -/
def impl_ValueCount.f (k : Nat) (l0 : List (List (S113))) (a1_0 : ByteArray) (a1_1 : Int) (l1_2 : List (S27)) (l1_3 : List Int) (a2 : ByteArray) : Option (Int):=(impl_ValueOk.f k l0 a1_0 a1_1 l1_2 l1_3).bind fun t152 => (if t152 = true then ((impl_kindIn.f l0 a2).bind fun t153 => (if t153 = true then ((impl_countIn.f k a1_0 a1_1 l1_2 l1_3 a2).bind fun t154 => (some t154)) else (some (-1)))) else (some (-1)))
theorem impl_ValueCount.mono : ∀ a0 a1 a2 a3 a4 a5 k,LeO (impl_ValueCount.f k a0 a1 a2 a3 a4 a5) (impl_ValueCount.f (k + 1) a0 a1 a2 a3 a4 a5):=by
 intro a0 a1 a2 a3 a4 a5 k
 unfold impl_ValueCount.f
 repeat' first
   | (with_reducible exact impl_ValueOk.mono _ _ _ _ _ _)
   | (with_reducible exact impl_countIn.mono _ _ _ _ _ _)
   | (with_reducible exact LeO.refl _)
   | (with_reducible exact LeO.none _)
   | (with_reducible refine LeO.ite ?_ ?_)
   | (with_reducible refine LeO.bind ?_ (fun _ => ?_))
   | exact impl_ValueOk.mono _ _ _ _ _ _
   | exact impl_countIn.mono _ _ _ _ _ _
   | exact LeO.none _
   | refine LeO.ite ?_ ?_
   | refine LeO.bind ?_ (fun _ => ?_)
set_option maxHeartbeats 8000000 in
set_option maxRecDepth 100000 in
theorem impl_ValueCount.calls (k : Nat) (A0 : Option Addr) (c0 : Nat) (l0 : List (List (S113))) (a1_0 : ByteArray) (a1_1 : Int) (A1_2 : Option Addr) (c1_2 : Nat) (l1_2 : List (S27)) (A1_3 : Option Addr) (c1_3 : Nat) (l1_3 : List Int) (a2 : ByteArray) (r : Int) (w : World) (hr0 : Kd.C (Kd.slice 113 k113) w A0 l0.length l0) (hc0 : l0.length ≤ c0) (hr1_2 : Kd.C k27 w A1_2 l1_2.length l1_2) (hc1_2 : l1_2.length ≤ c1_2) (hr1_3 : Kd.C (Kd.int .i64) w A1_3 l1_3.length l1_3) (hc1_3 : l1_3.length ≤ c1_3) (h : impl_ValueCount.f k l0 a1_0 a1_1 l1_2 l1_3 a2 = some r) :
  Calls Try.prog 16 #[.slice A0 l0.length c0,.agg #[.string a1_0,.int .i64 a1_1,.slice A1_2 l1_2.length c1_2,.slice A1_3 l1_3.length c1_3],.string a2] w fun e w' => e = .returned (.int .i64 r) ∧ Below w.heap.size w w':=by
 have hu27:=Try.underlying27
 have HR0:=Aside0.mk hr0
 have HC0:=Aside0.mk hc0
 clear hr0 hc0
 have HR1_2:=Aside0.mk hr1_2
 have HC1_2:=Aside0.mk hc1_2
 clear hr1_2 hc1_2
 have HR1_3:=Aside0.mk hr1_3
 have HC1_3:=Aside0.mk hc1_3
 clear hr1_3 hc1_3
 have HB:=Aside0.mk (Below.refl w.heap.size w)
 have H : ((impl_ValueOk.f k l0 a1_0 a1_1 l1_2 l1_3).bind fun t152 => (if t152 = true then ((impl_kindIn.f l0 a2).bind fun t153 => (if t153 = true then ((impl_countIn.f k a1_0 a1_1 l1_2 l1_3 a2).bind fun t154 => (some t154)) else (some (-1)))) else (some (-1)))) = some r:=h
 clear h
 replace H:=Option.bind_eq_some_iff.mp H
 obtain ⟨t152,A40,H⟩:=H
 replace H : (if t152 = true then ((impl_kindIn.f l0 a2).bind fun t153 => (if t153 = true then ((impl_countIn.f k a1_0 a1_1 l1_2 l1_3 a2).bind fun t154 => (some t154)) else (some (-1)))) else (some (-1))) = some r:=H
 have A4:=Aside0.mk A40
 clear A40
 by_cases c5 : t152 = true
 ·subst c5
  have H1 : ((impl_kindIn.f l0 a2).bind fun t153 => (if t153 = true then ((impl_countIn.f k a1_0 a1_1 l1_2 l1_3 a2).bind fun t154 => (some t154)) else (some (-1)))) = some r:=by rw [if_pos rfl] at H;exact H
  clear H
  have H:=H1
  clear H1
  replace H:=Option.bind_eq_some_iff.mp H
  obtain ⟨t153,A60,H⟩:=H
  replace H : (if t153 = true then ((impl_countIn.f k a1_0 a1_1 l1_2 l1_3 a2).bind fun t154 => (some t154)) else (some (-1))) = some r:=H
  have A6:=Aside0.mk A60
  clear A60
  by_cases c7 : t153 = true
  ·subst c7
   have H1 : ((impl_countIn.f k a1_0 a1_1 l1_2 l1_3 a2).bind fun t154 => (some t154)) = some r:=by rw [if_pos rfl] at H;exact H
   clear H
   have H:=H1
   clear H1
   replace H:=Option.bind_eq_some_iff.mp H
   obtain ⟨t154,A80,H⟩:=H
   replace H : (some t154) = some r:=H
   have A8:=Aside0.mk A80
   clear A80
   obtain rfl:=Option.some.inj H
   go_enter Try.func16,Try.ntmps16
   go_wp2_with (first | ((with_reducible refine gate_dst (N:=4) rfl ?_);refine Up.bx 4 27 #[.string a1_0,.int .i64 a1_1,.slice A1_2 l1_2.length c1_2,.slice A1_3 l1_3.length c1_3] ?_;intro gb151 hg w9 hbox hb;have n0_:=Up.BB HB hb;have n1_:=Aside0.mk (hbox);have n2_:=Up.gw hg HB;have n3_:=Up.gw hg HB;clear HB;have HB:=n0_;have BK151:=n1_;have GW151:=n2_;have GE151:=n3_;clear n0_ n1_ n2_ n3_ hb hbox hg;have hcz10_0:=Up.c0 BK151;have hcz10_1:=Up.c1 BK151;have hcz10_2:=Up.c2 BK151;have hcz10_3:=Up.c3 BK151;have hfz10_0:=blk_frozen BK151.out 0;have hfz10_1:=blk_frozen BK151.out 1;have hfz10_2:=blk_frozen BK151.out 2;have hfz10_3:=blk_frozen BK151.out 3) | ((with_reducible refine gate_callee (f:=14) rfl ?_);refine Up.gl (some 9) Try.func14 #[.slice A0 l0.length c0,.agg #[.string a1_0,.int .i64 a1_1,.slice A1_2 l1_2.length c1_2,.slice A1_3 l1_3.length c1_3]] ?_;(with_reducible refine (impl_ValueOk.calls k _ _ l0 a1_0 a1_1 _ _ l1_2 _ _ l1_3 true _ ?side1 ?side2 ?side3 ?side4 ?side5 ?side6 A4.out).mono ?_);(case side1 => exact Up.Cx HR0 HB);(case side2 => exact HC0.out);(case side3 => exact Up.Cx HR1_2 HB);(case side4 => exact HC1_2.out);(case side5 => exact Up.Cx HR1_3 HB);(case side6 => exact HC1_3.out);rintro e w11 ⟨rfl,hb⟩;refine ⟨_,rfl,?_⟩;have n0_:=Up.KB BK151 hb;have n1_:=Aside0.mk (below_step (Up.Bx HB) hb);clear BK151 HB;have BK151:=n0_;have HB:=n1_;clear n0_ n1_;(try clear hb);(try clear hb2);(try clear hk);(try clear hi)) | (go_at_call 48;(with_reducible refine (impl_kindIn.calls _ _ l0 a2 true _ ?side1 ?side2 A6.out).mono ?_);(case side1 => exact Up.Cx HR0 HB);(case side2 => exact HC0.out);rintro e w' ⟨rfl,⟨nd,rfl⟩⟩;have hcz12_0:=Up.c0 BK151;have hcz12_1:=Up.c1 BK151;have hcz12_2:=Up.c2 BK151;have hcz12_3:=Up.c3 BK151;have hfz12_0:=blk_frozen BK151.out 0;have hfz12_1:=blk_frozen BK151.out 1;have hfz12_2:=blk_frozen BK151.out 2;have hfz12_3:=blk_frozen BK151.out 3) | ((with_reducible refine gate_callee (f:=49) rfl ?_);refine Up.gl (some 19) Try.func49 #[.agg #[.string a1_0,.int .i64 a1_1,.slice A1_2 l1_2.length c1_2,.slice A1_3 l1_3.length c1_3],.string a2] ?_;(with_reducible refine (impl_countIn.calls k a1_0 a1_1 _ _ l1_2 _ _ l1_3 a2 t154 _ ?side1 ?side2 ?side3 ?side4 A8.out).mono ?_);(case side1 => repeat (first | exact (Kd.C_below HR1_2.out (Up.Bx HB)) | (with_reducible refine Kd.C_alloc ?_ _) | (with_reducible refine Kd.C_drewN ?_ _) | (with_reducible refine Kd.C_drew ?_)));(case side2 => exact HC1_2.out);(case side3 => repeat (first | exact (Kd.C_below HR1_3.out (Up.Bx HB)) | (with_reducible refine Kd.C_alloc ?_ _) | (with_reducible refine Kd.C_drewN ?_ _) | (with_reducible refine Kd.C_drew ?_)));(case side4 => exact HC1_3.out);rintro e w13 ⟨rfl,hb⟩;refine ⟨_,rfl,?_⟩;have n0_:=Up.KB BK151 hb;have n1_:=Aside0.mk (below_step (Up.Bx HB) hb);clear BK151 HB;have BK151:=n0_;have HB:=n1_;clear n0_ n1_;(try clear hb);(try clear hb2);(try clear hk);(try clear hi)))
   go_ret
   exact Up.e1 (Up.Bx HB)
  ·replace c7:=Bool.eq_false_iff.mpr c7
   subst c7
   have H1 : (some (-1)) = some r:=by rw [if_neg (show ¬ (false = true) by decide)] at H;exact H
   clear H
   have H:=H1
   clear H1
   obtain rfl:=Option.some.inj H
   go_enter Try.func16,Try.ntmps16
   go_wp2_with (first | ((with_reducible refine gate_dst (N:=4) rfl ?_);refine Up.bx 4 27 #[.string a1_0,.int .i64 a1_1,.slice A1_2 l1_2.length c1_2,.slice A1_3 l1_3.length c1_3] ?_;intro gb151 hg w14 hbox hb;have n0_:=Up.BB HB hb;have n1_:=Aside0.mk (hbox);have n2_:=Up.gw hg HB;have n3_:=Up.gw hg HB;clear HB;have HB:=n0_;have BK151:=n1_;have GW151:=n2_;have GE151:=n3_;clear n0_ n1_ n2_ n3_ hb hbox hg;have hcz15_0:=Up.c0 BK151;have hcz15_1:=Up.c1 BK151;have hcz15_2:=Up.c2 BK151;have hcz15_3:=Up.c3 BK151;have hfz15_0:=blk_frozen BK151.out 0;have hfz15_1:=blk_frozen BK151.out 1;have hfz15_2:=blk_frozen BK151.out 2;have hfz15_3:=blk_frozen BK151.out 3) | ((with_reducible refine gate_callee (f:=14) rfl ?_);refine Up.gl (some 9) Try.func14 #[.slice A0 l0.length c0,.agg #[.string a1_0,.int .i64 a1_1,.slice A1_2 l1_2.length c1_2,.slice A1_3 l1_3.length c1_3]] ?_;(with_reducible refine (impl_ValueOk.calls k _ _ l0 a1_0 a1_1 _ _ l1_2 _ _ l1_3 true _ ?side1 ?side2 ?side3 ?side4 ?side5 ?side6 A4.out).mono ?_);(case side1 => exact Up.Cx HR0 HB);(case side2 => exact HC0.out);(case side3 => exact Up.Cx HR1_2 HB);(case side4 => exact HC1_2.out);(case side5 => exact Up.Cx HR1_3 HB);(case side6 => exact HC1_3.out);rintro e w16 ⟨rfl,hb⟩;refine ⟨_,rfl,?_⟩;have n0_:=Up.KB BK151 hb;have n1_:=Aside0.mk (below_step (Up.Bx HB) hb);clear BK151 HB;have BK151:=n0_;have HB:=n1_;clear n0_ n1_;(try clear hb);(try clear hb2);(try clear hk);(try clear hi)) | (go_at_call 48;(with_reducible refine (impl_kindIn.calls _ _ l0 a2 false _ ?side1 ?side2 A6.out).mono ?_);(case side1 => exact Up.Cx HR0 HB);(case side2 => exact HC0.out);rintro e w' ⟨rfl,⟨nd,rfl⟩⟩))
   go_ret
   exact Up.e1 (Up.Bx HB)
 ·replace c5:=Bool.eq_false_iff.mpr c5
  subst c5
  have H1 : (some (-1)) = some r:=by rw [if_neg (show ¬ (false = true) by decide)] at H;exact H
  clear H
  have H:=H1
  clear H1
  obtain rfl:=Option.some.inj H
  go_enter Try.func16,Try.ntmps16
  go_wp2_with (first | ((with_reducible refine gate_dst (N:=4) rfl ?_);refine Up.bx 4 27 #[.string a1_0,.int .i64 a1_1,.slice A1_2 l1_2.length c1_2,.slice A1_3 l1_3.length c1_3] ?_;intro gb151 hg w17 hbox hb;have n0_:=Up.BB HB hb;have n1_:=Aside0.mk (hbox);have n2_:=Up.gw hg HB;have n3_:=Up.gw hg HB;clear HB;have HB:=n0_;have BK151:=n1_;have GW151:=n2_;have GE151:=n3_;clear n0_ n1_ n2_ n3_ hb hbox hg;have hcz18_0:=Up.c0 BK151;have hcz18_1:=Up.c1 BK151;have hcz18_2:=Up.c2 BK151;have hcz18_3:=Up.c3 BK151;have hfz18_0:=blk_frozen BK151.out 0;have hfz18_1:=blk_frozen BK151.out 1;have hfz18_2:=blk_frozen BK151.out 2;have hfz18_3:=blk_frozen BK151.out 3) | ((with_reducible refine gate_callee (f:=14) rfl ?_);refine Up.gl (some 9) Try.func14 #[.slice A0 l0.length c0,.agg #[.string a1_0,.int .i64 a1_1,.slice A1_2 l1_2.length c1_2,.slice A1_3 l1_3.length c1_3]] ?_;(with_reducible refine (impl_ValueOk.calls k _ _ l0 a1_0 a1_1 _ _ l1_2 _ _ l1_3 false _ ?side1 ?side2 ?side3 ?side4 ?side5 ?side6 A4.out).mono ?_);(case side1 => exact Up.Cx HR0 HB);(case side2 => exact HC0.out);(case side3 => exact Up.Cx HR1_2 HB);(case side4 => exact HC1_2.out);(case side5 => exact Up.Cx HR1_3 HB);(case side6 => exact HC1_3.out);rintro e w19 ⟨rfl,hb⟩;refine ⟨_,rfl,?_⟩;have n0_:=Up.KB BK151 hb;have n1_:=Aside0.mk (below_step (Up.Bx HB) hb);clear BK151 HB;have BK151:=n0_;have HB:=n1_;clear n0_ n1_;(try clear hb);(try clear hb2);(try clear hk);(try clear hi)))
  go_ret
  exact Up.e1 (Up.Bx HB)

/-! ### spec_l6In: function 97 -/
def spec_l6In.f (a0 : Int) (a1 : Int) (a2 : Int) : Option (Bool):=if a0 ≥ a1 then (some (decide (a0 ≤ a2))) else (some false)
set_option maxHeartbeats 8000000 in
set_option maxRecDepth 100000 in
theorem spec_l6In.calls (a0 : Int) (a1 : Int) (a2 : Int) (r : Bool) (w : World) (h : spec_l6In.f a0 a1 a2 = some r) :
  Calls Try.prog 97 #[.int .i64 a0,.int .i64 a1,.int .i64 a2] w fun e w' => e = .returned (.bool r) ∧ Drawn0 w w':=by
 have H : (if a0 ≥ a1 then (some (decide (a0 ≤ a2))) else (some false)) = some r:=h
 clear h
 by_cases c4 : a0 ≥ a1
 ·rw [if_pos c4] at H
  have c4b0 : decide (a1 ≤ a0) = true:=decide_eq_true c4
  clear c4
  obtain rfl:=Option.some.inj H
  go_enter Try.func97,Try.ntmps97
  go_wp2
  go_ret
  exact Up.e2
 ·rw [if_neg c4] at H
  have c4b0 : decide (a1 ≤ a0) = false:=decide_eq_false c4
  clear c4
  obtain rfl:=Option.some.inj H
  go_enter Try.func97,Try.ntmps97
  go_wp2
  go_ret
  exact Up.e2

/-! ### spec_l1Can: function 100 -/
def spec_l1Can.f (a0 : Int) (a1 : Int) : Option (Bool):=if a1 = 0 then (none) else (some ((Int.tmod (wrap64 (Int.tdiv a0 a1)) 2) == 1))
set_option maxHeartbeats 8000000 in
set_option maxRecDepth 100000 in
theorem spec_l1Can.calls (a0 : Int) (a1 : Int) (r : Bool) (w : World) (h : spec_l1Can.f a0 a1 = some r) :
  Calls Try.prog 100 #[.int .i64 a0,.int .i64 a1] w fun e w' => e = .returned (.bool r) ∧ Drawn0 w w':=by
 have H : (if a1 = 0 then (none) else (some ((Int.tmod (wrap64 (Int.tdiv a0 a1)) 2) == 1))) = some r:=h
 clear h
 by_cases c3 : a1 = 0
 ·rw [if_pos c3] at H
  exact absurd H (by simp)
 ·rw [if_neg c3] at H
  have c3b0 : (a1 == 0) = false:=beq_eq_false_iff_ne.mpr c3
  have c3b1 : (a1 != 0) = true:=bne_iff_ne.mpr c3
  obtain rfl:=Option.some.inj H
  go_enter Try.func100,Try.ntmps100
  go_wp2
  go_ret
  exact Up.e2

/-! ### spec_l1Kind: function 50 -/
def spec_l1Kind.f (a0 : ByteArray) : Option (Int × Int × Bool):=if (a0.size : Int) = 3 then (if 0 < (a0.size : Int) then (if (bt a0 0) = 83 then (if 1 < (a0.size : Int) then (if (bt a0 1) < 48 then (some (0,0,false)) else (if (bt a0 1) > 57 then (some (0,0,false)) else (if 2 < (a0.size : Int) then (if (bt a0 2) < 48 then (some (0,0,false)) else (if (bt a0 2) > 57 then (some (0,0,false)) else (some (((bt a0 1) - 48) % 256,((bt a0 2) - 48) % 256,true)))) else (none)))) else (none)) else (some (0,0,false))) else (none)) else (some (0,0,false))
set_option maxHeartbeats 8000000 in
set_option maxRecDepth 100000 in
theorem spec_l1Kind.calls (a0 : ByteArray) (r1 : Int) (r2 : Int) (r3 : Bool) (w : World) (h : spec_l1Kind.f a0 = some (r1,r2,r3)) :
  Calls Try.prog 50 #[.string a0] w fun e w' => e = .returned (.tuple #[.int .i64 r1,.int .i64 r2,.bool r3]) ∧ Drawn0 w w':=by
 have H : (if (a0.size : Int) = 3 then (if 0 < (a0.size : Int) then (if (bt a0 0) = 83 then (if 1 < (a0.size : Int) then (if (bt a0 1) < 48 then (some (0,0,false)) else (if (bt a0 1) > 57 then (some (0,0,false)) else (if 2 < (a0.size : Int) then (if (bt a0 2) < 48 then (some (0,0,false)) else (if (bt a0 2) > 57 then (some (0,0,false)) else (some (((bt a0 1) - 48) % 256,((bt a0 2) - 48) % 256,true)))) else (none)))) else (none)) else (some (0,0,false))) else (none)) else (some (0,0,false))) = some (r1,r2,r3):=h
 clear h
 by_cases c2 : (a0.size : Int) = 3
 ·rw [if_pos c2] at H
  have c2b0 : ((a0.size : Int) == 3) = true:=beq_iff_eq.mpr c2
  have c2b1 : ((a0.size : Int) != 3) = false:=bne_eq_false_iff_eq.mpr c2
  clear c2
  by_cases c3 : 0 < (a0.size : Int)
  ·rw [if_pos c3] at H
   have c3b0 : decide (0 < (a0.size : Int)) = true:=decide_eq_true c3
   have c3b1 : decide (0 < a0.size) = true:=decide_eq_true (by omega)
   clear c3
   by_cases c5 : (bt a0 0) = 83
   ·rw [if_pos c5] at H
    have c5b0 : ((bt a0 0) == 83) = true:=beq_iff_eq.mpr c5
    have c5b1 : ((bt a0 0) != 83) = false:=bne_eq_false_iff_eq.mpr c5
    clear c5
    by_cases c6 : 1 < (a0.size : Int)
    ·rw [if_pos c6] at H
     have c6b0 : decide (1 < (a0.size : Int)) = true:=decide_eq_true c6
     have c6b1 : decide (1 < a0.size) = true:=decide_eq_true (by omega)
     clear c6
     by_cases c8 : (bt a0 1) < 48
     ·rw [if_pos c8] at H
      have c8b0 : decide ((bt a0 1) < 48) = true:=decide_eq_true c8
      clear c8
      simp only [Option.some.injEq,Prod.mk.injEq] at H
      obtain ⟨rfl,rfl,rfl⟩:=H
      have p4 : 0 ≤ (0 : Int):=(by omega)
      have q4 : 0 < a0.size:=(by have : (0 : Int) < (a0.size : Int):=Up.od;omega)
      have hx4 : ∀ h : 0 < a0.size,((a0[0]'h).toNat : Int) = bt a0 0:=bt_at a0 0
      clear p4
      have qi4 : (0 < (a0.size : Int)) = True:=eq_true (Up.od)
      replace q4:=eq_true q4
      have p7 : 0 ≤ (1 : Int):=(by omega)
      have q7 : 1 < a0.size:=(by have : (1 : Int) < (a0.size : Int):=Up.od;omega)
      have hx7 : ∀ h : 1 < a0.size,((a0[1]'h).toNat : Int) = bt a0 1:=bt_at a0 1
      clear p7
      have qi7 : (1 < (a0.size : Int)) = True:=eq_true (Up.od)
      replace q7:=eq_true q7
      go_enter Try.func50,Try.ntmps50
      go_wp2
      repeat (go_quiet (fail);try go_wp2)
      go_ret3
      exact Up.e2
     ·rw [if_neg c8] at H
      have c8b0 : decide ((bt a0 1) < 48) = false:=decide_eq_false c8
      clear c8
      by_cases c10 : (bt a0 1) > 57
      ·rw [if_pos c10] at H
       have c10b0 : decide (57 < (bt a0 1)) = true:=decide_eq_true c10
       clear c10
       simp only [Option.some.injEq,Prod.mk.injEq] at H
       obtain ⟨rfl,rfl,rfl⟩:=H
       have p4 : 0 ≤ (0 : Int):=(by omega)
       have q4 : 0 < a0.size:=(by have : (0 : Int) < (a0.size : Int):=Up.od;omega)
       have hx4 : ∀ h : 0 < a0.size,((a0[0]'h).toNat : Int) = bt a0 0:=bt_at a0 0
       clear p4
       have qi4 : (0 < (a0.size : Int)) = True:=eq_true (Up.od)
       replace q4:=eq_true q4
       have p7 : 0 ≤ (1 : Int):=(by omega)
       have q7 : 1 < a0.size:=(by have : (1 : Int) < (a0.size : Int):=Up.od;omega)
       have hx7 : ∀ h : 1 < a0.size,((a0[1]'h).toNat : Int) = bt a0 1:=bt_at a0 1
       clear p7
       have qi7 : (1 < (a0.size : Int)) = True:=eq_true (Up.od)
       replace q7:=eq_true q7
       have p9 : 0 ≤ (1 : Int):=(by omega)
       have q9 : 1 < a0.size:=(by have : (1 : Int) < (a0.size : Int):=Up.od;omega)
       have hx9 : ∀ h : 1 < a0.size,((a0[1]'h).toNat : Int) = bt a0 1:=bt_at a0 1
       clear p9
       have qi9 : (1 < (a0.size : Int)) = True:=eq_true (Up.od)
       replace q9:=eq_true q9
       go_enter Try.func50,Try.ntmps50
       go_wp2
       repeat (go_quiet (fail);try go_wp2)
       go_ret3
       exact Up.e2
      ·rw [if_neg c10] at H
       have c10b0 : decide (57 < (bt a0 1)) = false:=decide_eq_false c10
       clear c10
       by_cases c11 : 2 < (a0.size : Int)
       ·rw [if_pos c11] at H
        have c11b0 : decide (2 < (a0.size : Int)) = true:=decide_eq_true c11
        have c11b1 : decide (2 < a0.size) = true:=decide_eq_true (by omega)
        clear c11
        by_cases c13 : (bt a0 2) < 48
        ·rw [if_pos c13] at H
         have c13b0 : decide ((bt a0 2) < 48) = true:=decide_eq_true c13
         clear c13
         simp only [Option.some.injEq,Prod.mk.injEq] at H
         obtain ⟨rfl,rfl,rfl⟩:=H
         have p4 : 0 ≤ (0 : Int):=(by omega)
         have q4 : 0 < a0.size:=(by have : (0 : Int) < (a0.size : Int):=Up.od;omega)
         have hx4 : ∀ h : 0 < a0.size,((a0[0]'h).toNat : Int) = bt a0 0:=bt_at a0 0
         clear p4
         have qi4 : (0 < (a0.size : Int)) = True:=eq_true (Up.od)
         replace q4:=eq_true q4
         have p7 : 0 ≤ (1 : Int):=(by omega)
         have q7 : 1 < a0.size:=(by have : (1 : Int) < (a0.size : Int):=Up.od;omega)
         have hx7 : ∀ h : 1 < a0.size,((a0[1]'h).toNat : Int) = bt a0 1:=bt_at a0 1
         clear p7
         have qi7 : (1 < (a0.size : Int)) = True:=eq_true (Up.od)
         replace q7:=eq_true q7
         have p9 : 0 ≤ (1 : Int):=(by omega)
         have q9 : 1 < a0.size:=(by have : (1 : Int) < (a0.size : Int):=Up.od;omega)
         have hx9 : ∀ h : 1 < a0.size,((a0[1]'h).toNat : Int) = bt a0 1:=bt_at a0 1
         clear p9
         have qi9 : (1 < (a0.size : Int)) = True:=eq_true (Up.od)
         replace q9:=eq_true q9
         have p12 : 0 ≤ (2 : Int):=(by omega)
         have q12 : 2 < a0.size:=(by have : (2 : Int) < (a0.size : Int):=Up.od;omega)
         have hx12 : ∀ h : 2 < a0.size,((a0[2]'h).toNat : Int) = bt a0 2:=bt_at a0 2
         clear p12
         have qi12 : (2 < (a0.size : Int)) = True:=eq_true (Up.od)
         replace q12:=eq_true q12
         go_enter Try.func50,Try.ntmps50
         go_wp2
         repeat (go_quiet (fail);try go_wp2)
         go_ret3
         exact Up.e2
        ·rw [if_neg c13] at H
         have c13b0 : decide ((bt a0 2) < 48) = false:=decide_eq_false c13
         clear c13
         by_cases c15 : (bt a0 2) > 57
         ·rw [if_pos c15] at H
          have c15b0 : decide (57 < (bt a0 2)) = true:=decide_eq_true c15
          clear c15
          simp only [Option.some.injEq,Prod.mk.injEq] at H
          obtain ⟨rfl,rfl,rfl⟩:=H
          have p4 : 0 ≤ (0 : Int):=(by omega)
          have q4 : 0 < a0.size:=(by have : (0 : Int) < (a0.size : Int):=Up.od;omega)
          have hx4 : ∀ h : 0 < a0.size,((a0[0]'h).toNat : Int) = bt a0 0:=bt_at a0 0
          clear p4
          have qi4 : (0 < (a0.size : Int)) = True:=eq_true (Up.od)
          replace q4:=eq_true q4
          have p7 : 0 ≤ (1 : Int):=(by omega)
          have q7 : 1 < a0.size:=(by have : (1 : Int) < (a0.size : Int):=Up.od;omega)
          have hx7 : ∀ h : 1 < a0.size,((a0[1]'h).toNat : Int) = bt a0 1:=bt_at a0 1
          clear p7
          have qi7 : (1 < (a0.size : Int)) = True:=eq_true (Up.od)
          replace q7:=eq_true q7
          have p9 : 0 ≤ (1 : Int):=(by omega)
          have q9 : 1 < a0.size:=(by have : (1 : Int) < (a0.size : Int):=Up.od;omega)
          have hx9 : ∀ h : 1 < a0.size,((a0[1]'h).toNat : Int) = bt a0 1:=bt_at a0 1
          clear p9
          have qi9 : (1 < (a0.size : Int)) = True:=eq_true (Up.od)
          replace q9:=eq_true q9
          have p12 : 0 ≤ (2 : Int):=(by omega)
          have q12 : 2 < a0.size:=(by have : (2 : Int) < (a0.size : Int):=Up.od;omega)
          have hx12 : ∀ h : 2 < a0.size,((a0[2]'h).toNat : Int) = bt a0 2:=bt_at a0 2
          clear p12
          have qi12 : (2 < (a0.size : Int)) = True:=eq_true (Up.od)
          replace q12:=eq_true q12
          have p14 : 0 ≤ (2 : Int):=(by omega)
          have q14 : 2 < a0.size:=(by have : (2 : Int) < (a0.size : Int):=Up.od;omega)
          have hx14 : ∀ h : 2 < a0.size,((a0[2]'h).toNat : Int) = bt a0 2:=bt_at a0 2
          clear p14
          have qi14 : (2 < (a0.size : Int)) = True:=eq_true (Up.od)
          replace q14:=eq_true q14
          go_enter Try.func50,Try.ntmps50
          go_wp2
          repeat (go_quiet (fail);try go_wp2)
          go_ret3
          exact Up.e2
         ·rw [if_neg c15] at H
          have c15b0 : decide (57 < (bt a0 2)) = false:=decide_eq_false c15
          clear c15
          simp only [Option.some.injEq,Prod.mk.injEq] at H
          obtain ⟨rfl,rfl,rfl⟩:=H
          have p4 : 0 ≤ (0 : Int):=(by omega)
          have q4 : 0 < a0.size:=(by have : (0 : Int) < (a0.size : Int):=Up.od;omega)
          have hx4 : ∀ h : 0 < a0.size,((a0[0]'h).toNat : Int) = bt a0 0:=bt_at a0 0
          clear p4
          have qi4 : (0 < (a0.size : Int)) = True:=eq_true (Up.od)
          replace q4:=eq_true q4
          have p7 : 0 ≤ (1 : Int):=(by omega)
          have q7 : 1 < a0.size:=(by have : (1 : Int) < (a0.size : Int):=Up.od;omega)
          have hx7 : ∀ h : 1 < a0.size,((a0[1]'h).toNat : Int) = bt a0 1:=bt_at a0 1
          clear p7
          have qi7 : (1 < (a0.size : Int)) = True:=eq_true (Up.od)
          replace q7:=eq_true q7
          have p9 : 0 ≤ (1 : Int):=(by omega)
          have q9 : 1 < a0.size:=(by have : (1 : Int) < (a0.size : Int):=Up.od;omega)
          have hx9 : ∀ h : 1 < a0.size,((a0[1]'h).toNat : Int) = bt a0 1:=bt_at a0 1
          clear p9
          have qi9 : (1 < (a0.size : Int)) = True:=eq_true (Up.od)
          replace q9:=eq_true q9
          have p12 : 0 ≤ (2 : Int):=(by omega)
          have q12 : 2 < a0.size:=(by have : (2 : Int) < (a0.size : Int):=Up.od;omega)
          have hx12 : ∀ h : 2 < a0.size,((a0[2]'h).toNat : Int) = bt a0 2:=bt_at a0 2
          clear p12
          have qi12 : (2 < (a0.size : Int)) = True:=eq_true (Up.od)
          replace q12:=eq_true q12
          have p14 : 0 ≤ (2 : Int):=(by omega)
          have q14 : 2 < a0.size:=(by have : (2 : Int) < (a0.size : Int):=Up.od;omega)
          have hx14 : ∀ h : 2 < a0.size,((a0[2]'h).toNat : Int) = bt a0 2:=bt_at a0 2
          clear p14
          have qi14 : (2 < (a0.size : Int)) = True:=eq_true (Up.od)
          replace q14:=eq_true q14
          have p16 : 0 ≤ (1 : Int):=(by omega)
          have q16 : 1 < a0.size:=(by have : (1 : Int) < (a0.size : Int):=Up.od;omega)
          have hx16 : ∀ h : 1 < a0.size,((a0[1]'h).toNat : Int) = bt a0 1:=bt_at a0 1
          clear p16
          have qi16 : (1 < (a0.size : Int)) = True:=eq_true (Up.od)
          replace q16:=eq_true q16
          have p17 : 0 ≤ (2 : Int):=(by omega)
          have q17 : 2 < a0.size:=(by have : (2 : Int) < (a0.size : Int):=Up.od;omega)
          have hx17 : ∀ h : 2 < a0.size,((a0[2]'h).toNat : Int) = bt a0 2:=bt_at a0 2
          clear p17
          have qi17 : (2 < (a0.size : Int)) = True:=eq_true (Up.od)
          replace q17:=eq_true q17
          go_enter Try.func50,Try.ntmps50
          go_wp2
          repeat (go_quiet (fail);try go_wp2)
          go_ret3
          exact Up.e2
       ·rw [if_neg c11] at H
        exact absurd H (by simp)
    ·rw [if_neg c6] at H
     exact absurd H (by simp)
   ·rw [if_neg c5] at H
    have c5b0 : ((bt a0 0) == 83) = false:=beq_eq_false_iff_ne.mpr c5
    have c5b1 : ((bt a0 0) != 83) = true:=bne_iff_ne.mpr c5
    simp only [Option.some.injEq,Prod.mk.injEq] at H
    obtain ⟨rfl,rfl,rfl⟩:=H
    have p4 : 0 ≤ (0 : Int):=(by omega)
    have q4 : 0 < a0.size:=(by have : (0 : Int) < (a0.size : Int):=Up.od;omega)
    have hx4 : ∀ h : 0 < a0.size,((a0[0]'h).toNat : Int) = bt a0 0:=bt_at a0 0
    clear p4
    have qi4 : (0 < (a0.size : Int)) = True:=eq_true (Up.od)
    replace q4:=eq_true q4
    go_enter Try.func50,Try.ntmps50
    go_wp2
    repeat (go_quiet (fail);try go_wp2)
    go_ret3
    exact Up.e2
  ·rw [if_neg c3] at H
   exact absurd H (by simp)
 ·rw [if_neg c2] at H
  have c2b0 : ((a0.size : Int) == 3) = false:=beq_eq_false_iff_ne.mpr c2
  have c2b1 : ((a0.size : Int) != 3) = true:=bne_iff_ne.mpr c2
  simp only [Option.some.injEq,Prod.mk.injEq] at H
  obtain ⟨rfl,rfl,rfl⟩:=H
  go_enter Try.func50,Try.ntmps50
  go_wp2
  repeat (go_quiet (fail);try go_wp2)
  go_ret3
  exact Up.e2

/-! ### spec_l1Ref: function 119 -/
def spec_l1Ref.f (a0 : ByteArray) : Option (Bool):=if (a0.size : Int) > 0 then (if 0 < (a0.size : Int) then (if (bt a0 0) = 38 then (some true) else (some ((bt a0 0) == 33))) else (none)) else (some false)
set_option maxHeartbeats 8000000 in
set_option maxRecDepth 100000 in
theorem spec_l1Ref.calls (a0 : ByteArray) (r : Bool) (w : World) (h : spec_l1Ref.f a0 = some r) :
  Calls Try.prog 119 #[.string a0] w fun e w' => e = .returned (.bool r) ∧ Drawn0 w w':=by
 have H : (if (a0.size : Int) > 0 then (if 0 < (a0.size : Int) then (if (bt a0 0) = 38 then (some true) else (some ((bt a0 0) == 33))) else (none)) else (some false)) = some r:=h
 clear h
 by_cases c2 : (a0.size : Int) > 0
 ·rw [if_pos c2] at H
  have c2b0 : decide (0 < (a0.size : Int)) = true:=decide_eq_true c2
  have c2b1 : decide (0 < a0.size) = true:=decide_eq_true (by omega)
  clear c2
  by_cases c3 : 0 < (a0.size : Int)
  ·rw [if_pos c3] at H
   have c3b0 : decide (0 < (a0.size : Int)) = true:=decide_eq_true c3
   have c3b1 : decide (0 < a0.size) = true:=decide_eq_true (by omega)
   clear c3
   by_cases c5 : (bt a0 0) = 38
   ·rw [if_pos c5] at H
    have c5b0 : ((bt a0 0) == 38) = true:=beq_iff_eq.mpr c5
    have c5b1 : ((bt a0 0) != 38) = false:=bne_eq_false_iff_eq.mpr c5
    clear c5
    obtain rfl:=Option.some.inj H
    have p4 : 0 ≤ (0 : Int):=(by omega)
    have q4 : 0 < a0.size:=(by have : (0 : Int) < (a0.size : Int):=Up.od;omega)
    have hx4 : ∀ h : 0 < a0.size,((a0[0]'h).toNat : Int) = bt a0 0:=bt_at a0 0
    clear p4
    have qi4 : (0 < (a0.size : Int)) = True:=eq_true (Up.od)
    replace q4:=eq_true q4
    go_enter Try.func119,Try.ntmps119
    go_wp2
    go_ret
    exact Up.e2
   ·rw [if_neg c5] at H
    have c5b0 : ((bt a0 0) == 38) = false:=beq_eq_false_iff_ne.mpr c5
    have c5b1 : ((bt a0 0) != 38) = true:=bne_iff_ne.mpr c5
    obtain rfl:=Option.some.inj H
    have p4 : 0 ≤ (0 : Int):=(by omega)
    have q4 : 0 < a0.size:=(by have : (0 : Int) < (a0.size : Int):=Up.od;omega)
    have hx4 : ∀ h : 0 < a0.size,((a0[0]'h).toNat : Int) = bt a0 0:=bt_at a0 0
    clear p4
    have qi4 : (0 < (a0.size : Int)) = True:=eq_true (Up.od)
    replace q4:=eq_true q4
    have p6 : 0 ≤ (0 : Int):=(by omega)
    have q6 : 0 < a0.size:=(by have : (0 : Int) < (a0.size : Int):=Up.od;omega)
    have hx6 : ∀ h : 0 < a0.size,((a0[0]'h).toNat : Int) = bt a0 0:=bt_at a0 0
    clear p6
    have qi6 : (0 < (a0.size : Int)) = True:=eq_true (Up.od)
    replace q6:=eq_true q6
    go_enter Try.func119,Try.ntmps119
    go_wp2
    go_ret
    exact Up.e2
  ·rw [if_neg c3] at H
   exact absurd H (by simp)
 ·rw [if_neg c2] at H
  have c2b0 : decide (0 < (a0.size : Int)) = false:=decide_eq_false c2
  have c2b1 : decide (0 < a0.size) = false:=decide_eq_false (by omega)
  clear c2
  obtain rfl:=Option.some.inj H
  go_enter Try.func119,Try.ntmps119
  go_wp2
  go_ret
  exact Up.e2

end Go.Proofs.Ytdgmlakgnbmbbaa.OFnExactValueCount
