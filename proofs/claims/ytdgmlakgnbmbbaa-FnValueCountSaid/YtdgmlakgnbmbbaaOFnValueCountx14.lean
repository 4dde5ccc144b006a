-- Laid by a program of this session (wip/myprint.py): the kit's print of the functions, contracts of our own among them.
import Derived.Test.YtdgmlakgnbmbbaaOFnValueCountx0
import Derived.Test.YtdgmlakgnbmbbaaOFnValueCountx1
import Derived.Test.YtdgmlakgnbmbbaaOFnValueCountx3
import Derived.Test.YtdgmlakgnbmbbaaOFnValueCountx8
import Derived.Test.YtdgmlakgnbmbbaaOFnValueCountx12
import Derived.Test.YtdgmlakgnbmbbaaOFnValueCountx13
namespace Go.Proofs.Ytdgmlakgnbmbbaa.OFnValueCount
open Go.RowKit Go.Proofs.YtdgmlakgnbmbbaaW.PrintWords Go.Proofs.YtdgmlakgnbmbbaaW.PrintLast Go.Proofs.YtdgmlakgnbmbbaaW.PrintMore
attribute [local go_sem] max2_int min2_int max_two min_two max_three min_three max_four min_four   -- for this text's walks alone
set_option linter.unusedVariables false
set_option linter.unusedSimpArgs false

/-! ### spec_ValueOk: function 20 -/
def spec_ValueOk.f (k : Nat) (l0 : List (List (S113))) (a1_0 : ByteArray) (a1_1 : Int) (l1_2 : List (S27)) (l1_3 : List Int) : Option (Bool):=(spec_KindsOk.f k l0).bind fun t442 => (if t442 = true then ((spec_l2Ok.f k l0 a1_0 a1_1 l1_2 l1_3).bind fun t443 => (some t443)) else (some false))
theorem spec_ValueOk.mono : ∀ a0 a1 a2 a3 a4 k,LeO (spec_ValueOk.f k a0 a1 a2 a3 a4) (spec_ValueOk.f (k + 1) a0 a1 a2 a3 a4):=by
 intro a0 a1 a2 a3 a4 k
 unfold spec_ValueOk.f
 repeat' first
   | (with_reducible exact spec_KindsOk.mono _ _)
   | (with_reducible exact spec_l2Ok.mono _ _ _ _ _ _)
   | (with_reducible exact LeO.refl _)
   | (with_reducible exact LeO.none _)
   | (with_reducible refine LeO.ite ?_ ?_)
   | (with_reducible refine LeO.bind ?_ (fun _ => ?_))
   | exact spec_KindsOk.mono _ _
   | exact spec_l2Ok.mono _ _ _ _ _ _
   | exact LeO.none _
   | refine LeO.ite ?_ ?_
   | refine LeO.bind ?_ (fun _ => ?_)
set_option maxHeartbeats 8000000 in
set_option maxRecDepth 100000 in
theorem spec_ValueOk.calls (k : Nat) (A0 : Option Addr) (c0 : Nat) (l0 : List (List (S113))) (a1_0 : ByteArray) (a1_1 : Int) (A1_2 : Option Addr) (c1_2 : Nat) (l1_2 : List (S27)) (A1_3 : Option Addr) (c1_3 : Nat) (l1_3 : List Int) (r : Bool) (w : World) (hr0 : Kd.C (Kd.slice 113 k113) w A0 l0.length l0) (hc0 : l0.length ≤ c0) (hr1_2 : Kd.C k27 w A1_2 l1_2.length l1_2) (hc1_2 : l1_2.length ≤ c1_2) (hr1_3 : Kd.C (Kd.int .i64) w A1_3 l1_3.length l1_3) (hc1_3 : l1_3.length ≤ c1_3) (h : spec_ValueOk.f k l0 a1_0 a1_1 l1_2 l1_3 = some r) :
  Calls Try.prog 20 #[.slice A0 l0.length c0,.agg #[.string a1_0,.int .i64 a1_1,.slice A1_2 l1_2.length c1_2,.slice A1_3 l1_3.length c1_3]] w fun e w' => e = .returned (.bool r) ∧ Below w.heap.size w w':=by
 have hu27:=Try.underlying27
 have HR0:=Aside0.mk hr0
 have HC0:=Aside0.mk hc0
 clear hr0 hc0
 have HR1_2:=Aside0.mk hr1_2
 have HC1_2:=Aside0.mk hc1_2
 clear hr1_2 hc1_2
 have HR1_3:=Aside0.mk hr1_3
 have HC1_3:=Aside0.mk hc1_3
 clear hr1_3 hc1_3
 have HB:=Aside0.mk (Below.refl w.heap.size w)
 have H : ((spec_KindsOk.f k l0).bind fun t442 => (if t442 = true then ((spec_l2Ok.f k l0 a1_0 a1_1 l1_2 l1_3).bind fun t443 => (some t443)) else (some false))) = some r:=h
 clear h
 replace H:=Option.bind_eq_some_iff.mp H
 obtain ⟨t442,A30,H⟩:=H
 replace H : (if t442 = true then ((spec_l2Ok.f k l0 a1_0 a1_1 l1_2 l1_3).bind fun t443 => (some t443)) else (some false)) = some r:=H
 have A3:=Aside0.mk A30
 clear A30
 by_cases c4 : t442 = true
 ·subst c4
  have H1 : ((spec_l2Ok.f k l0 a1_0 a1_1 l1_2 l1_3).bind fun t443 => (some t443)) = some r:=by rw [if_pos rfl] at H;exact H
  clear H
  have H:=H1
  clear H1
  replace H:=Option.bind_eq_some_iff.mp H
  obtain ⟨t443,A50,H⟩:=H
  replace H : (some t443) = some r:=H
  have A5:=Aside0.mk A50
  clear A50
  obtain rfl:=Option.some.inj H
  go_enter Try.func20,Try.ntmps20
  go_wp2_with (first | ((with_reducible refine gate_dst (N:=3) rfl ?_);refine Up.bx 3 27 #[.string a1_0,.int .i64 a1_1,.slice A1_2 l1_2.length c1_2,.slice A1_3 l1_3.length c1_3] ?_;intro gb441 hg w6 hbox hb;have n0_:=Up.BB HB hb;have n1_:=Aside0.mk (hbox);have n2_:=Up.gw hg HB;have n3_:=Up.gw hg HB;clear HB;have HB:=n0_;have BK441:=n1_;have GW441:=n2_;have GE441:=n3_;clear n0_ n1_ n2_ n3_ hb hbox hg) | ((with_reducible refine gate_callee (f:=56) rfl ?_);refine Up.gl (some 6) Try.func56 #[.slice A0 l0.length c0] ?_;(with_reducible refine (spec_KindsOk.calls k _ _ l0 true _ ?side1 ?side2 A3.out).mono ?_);(case side1 => exact Up.Cx HR0 HB);(case side2 => exact HC0.out);rintro e w7 ⟨rfl,hb⟩;refine ⟨_,rfl,?_⟩;have n0_:=Up.KB BK441 hb;have n1_:=Aside0.mk (below_step (Up.Bx HB) hb);clear BK441 HB;have BK441:=n0_;have HB:=n1_;clear n0_ n1_;(try clear hb);(try clear hb2);(try clear hk);(try clear hi);have hcz8_0:=Up.c0 BK441;have hcz8_1:=Up.c1 BK441;have hcz8_2:=Up.c2 BK441;have hcz8_3:=Up.c3 BK441;have hfz8_0:=blk_frozen BK441.out 0;have hfz8_1:=blk_frozen BK441.out 1;have hfz8_2:=blk_frozen BK441.out 2;have hfz8_3:=blk_frozen BK441.out 3) | (go_at_call 57;(with_reducible refine (spec_l2Ok.calls k _ _ l0 a1_0 a1_1 _ _ l1_2 _ _ l1_3 t443 _ ?side1 ?side2 ?side3 ?side4 ?side5 ?side6 A5.out).mono ?_);(case side1 => exact Up.Cx HR0 HB);(case side2 => exact HC0.out);(case side3 => exact Up.Cx HR1_2 HB);(case side4 => exact HC1_2.out);(case side5 => exact Up.Cx HR1_3 HB);(case side6 => exact HC1_3.out);rintro e w9 ⟨rfl,hb⟩;have n0_:=Up.KB BK441 hb;have n1_:=Aside0.mk (below_step (Up.Bx HB) hb);clear BK441 HB;have BK441:=n0_;have HB:=n1_;clear n0_ n1_;(try clear hb);(try clear hb2);(try clear hk);(try clear hi)))
  go_ret
  exact Up.e1 (Up.Bx HB)
 ·replace c4:=Bool.eq_false_iff.mpr c4
  subst c4
  have H1 : (some false) = some r:=by rw [if_neg (show ¬ (false = true) by decide)] at H;exact H
  clear H
  have H:=H1
  clear H1
  obtain rfl:=Option.some.inj H
  go_enter Try.func20,Try.ntmps20
  go_wp2_with (first | ((with_reducible refine gate_dst (N:=3) rfl ?_);refine Up.bx 3 27 #[.string a1_0,.int .i64 a1_1,.slice A1_2 l1_2.length c1_2,.slice A1_3 l1_3.length c1_3] ?_;intro gb441 hg w10 hbox hb;have n0_:=Up.BB HB hb;have n1_:=Aside0.mk (hbox);have n2_:=Up.gw hg HB;have n3_:=Up.gw hg HB;clear HB;have HB:=n0_;have BK441:=n1_;have GW441:=n2_;have GE441:=n3_;clear n0_ n1_ n2_ n3_ hb hbox hg) | ((with_reducible refine gate_callee (f:=56) rfl ?_);refine Up.gl (some 6) Try.func56 #[.slice A0 l0.length c0] ?_;(with_reducible refine (spec_KindsOk.calls k _ _ l0 false _ ?side1 ?side2 A3.out).mono ?_);(case side1 => exact Up.Cx HR0 HB);(case side2 => exact HC0.out);rintro e w11 ⟨rfl,hb⟩;refine ⟨_,rfl,?_⟩;have n0_:=Up.KB BK441 hb;have n1_:=Aside0.mk (below_step (Up.Bx HB) hb);clear BK441 HB;have BK441:=n0_;have HB:=n1_;clear n0_ n1_;(try clear hb);(try clear hb2);(try clear hk);(try clear hi)))
  go_ret
  exact Up.e1 (Up.Bx HB)

/-! ### spec_l1Plain: function 51 -/
def spec_l1Plain.f (l0 : List (List (S113))) (a1 : ByteArray) : Option (Bool):=(spec_l1Kind.f a1).bind fun bt444 => ((spec_l1Base.f a1).bind fun t447 => (if t447 = true then (some true) else (if bt444.2.2 = true then ((spec_l1Has.f l0 bt444.1 bt444.2.1).bind fun t448 => (some t448)) else (some false))))
set_option maxHeartbeats 8000000 in
set_option maxRecDepth 100000 in
theorem spec_l1Plain.calls (A0 : Option Addr) (c0 : Nat) (l0 : List (List (S113))) (a1 : ByteArray) (r : Bool) (w : World) (hr0 : Kd.C (Kd.slice 113 k113) w A0 l0.length l0) (hc0 : l0.length ≤ c0) (h : spec_l1Plain.f l0 a1 = some r) :
  Calls Try.prog 51 #[.slice A0 l0.length c0,.string a1] w fun e w' => e = .returned (.bool r) ∧ Drawn0 w w':=by
 have HR0:=Aside0.mk hr0
 have HC0:=Aside0.mk hc0
 clear hr0 hc0
 have H : ((spec_l1Kind.f a1).bind fun bt444 => ((spec_l1Base.f a1).bind fun t447 => (if t447 = true then (some true) else (if bt444.2.2 = true then ((spec_l1Has.f l0 bt444.1 bt444.2.1).bind fun t448 => (some t448)) else (some false))))) = some r:=h
 clear h
 replace H:=Option.bind_eq_some_iff.mp H
 obtain ⟨⟨t444,t445,t446⟩,A30,H⟩:=H
 replace H : ((spec_l1Base.f a1).bind fun t447 => (if t447 = true then (some true) else (if t446 = true then ((spec_l1Has.f l0 t444 t445).bind fun t448 => (some t448)) else (some false)))) = some r:=H
 have A3:=Aside0.mk A30
 clear A30
 replace H:=Option.bind_eq_some_iff.mp H
 obtain ⟨t447,A40,H⟩:=H
 replace H : (if t447 = true then (some true) else (if t446 = true then ((spec_l1Has.f l0 t444 t445).bind fun t448 => (some t448)) else (some false))) = some r:=H
 have A4:=Aside0.mk A40
 clear A40
 by_cases c5 : t447 = true
 ·subst c5
  have H1 : (some true) = some r:=by rw [if_pos rfl] at H;exact H
  clear H
  have H:=H1
  clear H1
  obtain rfl:=Option.some.inj H
  go_enter Try.func51,Try.ntmps51
  go_wp2_with (first | ((with_reducible refine gate_callee (f:=50) rfl ?_);refine Up.gl (some 10) Try.func50 #[.string a1] ?_;(with_reducible refine (spec_l1Kind.calls a1 t444 t445 t446 _ A3.out).mono ?_);rintro e w' ⟨rfl,⟨nd,rfl⟩⟩;refine ⟨_,rfl,?_⟩) | ((with_reducible refine gate_callee (f:=93) rfl ?_);refine Up.gl (some 15) Try.func93 #[.string a1] ?_;(with_reducible refine (spec_l1Base.calls a1 true _ A4.out).mono ?_);rintro e w' ⟨rfl,⟨nd,rfl⟩⟩;refine ⟨_,rfl,?_⟩))
  go_ret
  exact Up.e2
 ·replace c5:=Bool.eq_false_iff.mpr c5
  subst c5
  have H1 : (if t446 = true then ((spec_l1Has.f l0 t444 t445).bind fun t448 => (some t448)) else (some false)) = some r:=by rw [if_neg (show ¬ (false = true) by decide)] at H;exact H
  clear H
  have H:=H1
  clear H1
  by_cases c6 : t446 = true
  ·subst c6
   have H1 : ((spec_l1Has.f l0 t444 t445).bind fun t448 => (some t448)) = some r:=by rw [if_pos rfl] at H;exact H
   clear H
   have H:=H1
   clear H1
   replace H:=Option.bind_eq_some_iff.mp H
   obtain ⟨t448,A70,H⟩:=H
   replace H : (some t448) = some r:=H
   have A7:=Aside0.mk A70
   clear A70
   obtain rfl:=Option.some.inj H
   go_enter Try.func51,Try.ntmps51
   go_wp2_with (first | ((with_reducible refine gate_callee (f:=50) rfl ?_);refine Up.gl (some 10) Try.func50 #[.string a1] ?_;(with_reducible refine (spec_l1Kind.calls a1 t444 t445 true _ A3.out).mono ?_);rintro e w' ⟨rfl,⟨nd,rfl⟩⟩;refine ⟨_,rfl,?_⟩) | ((with_reducible refine gate_callee (f:=93) rfl ?_);refine Up.gl (some 15) Try.func93 #[.string a1] ?_;(with_reducible refine (spec_l1Base.calls a1 false _ A4.out).mono ?_);rintro e w' ⟨rfl,⟨nd,rfl⟩⟩;refine ⟨_,rfl,?_⟩) | (go_at_call 87;(with_reducible refine (spec_l1Has.calls _ _ l0 t444 t445 t448 _ ?side1 ?side2 A7.out).mono ?_);(case side1 => repeat (first | exact HR0.out | (with_reducible refine Kd.C_alloc ?_ _) | (with_reducible refine Kd.C_drewN ?_ _) | (with_reducible refine Kd.C_drew ?_)));(case side2 => exact HC0.out);rintro e w' ⟨rfl,⟨nd,rfl⟩⟩))
   go_ret
   exact Up.e2
  ·replace c6:=Bool.eq_false_iff.mpr c6
   subst c6
   have H1 : (some false) = some r:=by rw [if_neg (show ¬ (false = true) by decide)] at H;exact H
   clear H
   have H:=H1
   clear H1
   obtain rfl:=Option.some.inj H
   go_enter Try.func51,Try.ntmps51
   go_wp2_with (first | ((with_reducible refine gate_callee (f:=50) rfl ?_);refine Up.gl (some 10) Try.func50 #[.string a1] ?_;(with_reducible refine (spec_l1Kind.calls a1 t444 t445 false _ A3.out).mono ?_);rintro e w' ⟨rfl,⟨nd,rfl⟩⟩;refine ⟨_,rfl,?_⟩) | ((with_reducible refine gate_callee (f:=93) rfl ?_);refine Up.gl (some 15) Try.func93 #[.string a1] ?_;(with_reducible refine (spec_l1Base.calls a1 false _ A4.out).mono ?_);rintro e w' ⟨rfl,⟨nd,rfl⟩⟩;refine ⟨_,rfl,?_⟩))
   go_ret
   exact Up.e2

/-! ### spec_l2Count: function 52 -/
mutual
def spec_l2Count.j0 : Nat → ByteArray → Int → ByteArray → Int → List (S27) → List Int → Option (Int)
 | 0,_,_,_,_,_,_ => none
 | k + 1,x1,x5,x450000,x450001,x450002,x450003 => spec_l2Count.l0 k x1 x5 0 x450000 x450001 x450002 x450003
def spec_l2Count.l0 : Nat → ByteArray → Int → Int → ByteArray → Int → List (S27) → List Int → Option (Int)
 | 0,_,_,_,_,_,_,_ => none
 | k + 1,x1,x5,x6,x450000,x450001,x450002,x450003 => if x6 < (x450002.length : Int) then (if 0 ≤ x6 then ((spec_l2Count.f k ((rd_T27 x450002 x6).f0) ((rd_T27 x450002 x6).f1) ((rd_T27 x450002 x6).f2) ((rd_T27 x450002 x6).f3) x1).bind fun t451 => (spec_l2Count.l0 k x1 (wrap64 (x5 + t451)) (wrap64 (x6 + 1)) x450000 x450001 x450002 x450003)) else (none)) else (some x5)
def spec_l2Count.f : Nat → ByteArray → Int → List (S27) → List Int → ByteArray → Option (Int)
 | 0,_,_,_,_,_ => none
 | k + 1,a0_0,a0_1,l0_2,l0_3,a1 => if a0_0.toList = a1.toList then (spec_l2Count.j0 k a1 1 a0_0 a0_1 l0_2 l0_3) else (spec_l2Count.j0 k a1 0 a0_0 a0_1 l0_2 l0_3)
end
theorem spec_l2Count.mono_l : ∀ k,(∀ y0 y1 y2 y3 y4,LeO (spec_l2Count.f k y0 y1 y2 y3 y4) (spec_l2Count.f (k + 1) y0 y1 y2 y3 y4)) ∧ (∀ y0 y1 y2 y3 y4 y5,LeO (spec_l2Count.j0 k y0 y1 y2 y3 y4 y5) (spec_l2Count.j0 (k + 1) y0 y1 y2 y3 y4 y5)) ∧ (∀ y0 y1 y2 y3 y4 y5 y6,LeO (spec_l2Count.l0 k y0 y1 y2 y3 y4 y5 y6) (spec_l2Count.l0 (k + 1) y0 y1 y2 y3 y4 y5 y6))
 | 0 => ⟨fun _ _ _ _ _ r h => by simp [spec_l2Count.f] at h,fun _ _ _ _ _ _ r h => by simp [spec_l2Count.j0] at h,fun _ _ _ _ _ _ _ r h => by simp [spec_l2Count.l0] at h⟩
 | k + 1 => by
  obtain ⟨ih0,ih1,ih2⟩:=spec_l2Count.mono_l k
  refine ⟨?_,?_,?_⟩
  ·intro y0 y1 y2 y3 y4
   unfold spec_l2Count.f
   repeat' first
   | (with_reducible exact ih0 _ _ _ _ _)
   | (with_reducible exact ih1 _ _ _ _ _ _)
   | (with_reducible exact ih2 _ _ _ _ _ _ _)
   | (with_reducible exact LeO.refl _)
   | (with_reducible exact LeO.none _)
   | (with_reducible refine LeO.ite ?_ ?_)
   | (with_reducible refine LeO.bind ?_ (fun _ => ?_))
   | exact ih0 _ _ _ _ _
   | exact ih1 _ _ _ _ _ _
   | exact ih2 _ _ _ _ _ _ _
   | exact LeO.none _
   | refine LeO.ite ?_ ?_
   | refine LeO.bind ?_ (fun _ => ?_)
  ·intro y0 y1 y2 y3 y4 y5
   unfold spec_l2Count.j0
   repeat' first
   | (with_reducible exact ih0 _ _ _ _ _)
   | (with_reducible exact ih1 _ _ _ _ _ _)
   | (with_reducible exact ih2 _ _ _ _ _ _ _)
   | (with_reducible exact LeO.refl _)
   | (with_reducible exact LeO.none _)
   | (with_reducible refine LeO.ite ?_ ?_)
   | (with_reducible refine LeO.bind ?_ (fun _ => ?_))
   | exact ih0 _ _ _ _ _
   | exact ih1 _ _ _ _ _ _
   | exact ih2 _ _ _ _ _ _ _
   | exact LeO.none _
   | refine LeO.ite ?_ ?_
   | refine LeO.bind ?_ (fun _ => ?_)
  ·intro y0 y1 y2 y3 y4 y5 y6
   unfold spec_l2Count.l0
   repeat' first
   | (with_reducible exact ih0 _ _ _ _ _)
   | (with_reducible exact ih1 _ _ _ _ _ _)
   | (with_reducible exact ih2 _ _ _ _ _ _ _)
   | (with_reducible exact LeO.refl _)
   | (with_reducible exact LeO.none _)
   | (with_reducible refine LeO.ite ?_ ?_)
   | (with_reducible refine LeO.bind ?_ (fun _ => ?_))
   | exact ih0 _ _ _ _ _
   | exact ih1 _ _ _ _ _ _
   | exact ih2 _ _ _ _ _ _ _
   | exact LeO.none _
   | refine LeO.ite ?_ ?_
   | refine LeO.bind ?_ (fun _ => ?_)
theorem spec_l2Count.mono : ∀ a0 a1 a2 a3 a4 k,LeO (spec_l2Count.f k a0 a1 a2 a3 a4) (spec_l2Count.f (k + 1) a0 a1 a2 a3 a4):=by
 intro a0 a1 a2 a3 a4 k
 obtain ⟨ih0,ih1,ih2⟩:=spec_l2Count.mono_l k
 exact ih0 a0 a1 a2 a3 a4
set_option maxHeartbeats 8000000 in
set_option maxRecDepth 100000 in
theorem spec_l2Count.calls (k : Nat) : ∀ (a0_0 : ByteArray) (a0_1 : Int) (A0_2 : Option Addr) (c0_2 : Nat) (l0_2 : List (S27)) (A0_3 : Option Addr) (c0_3 : Nat) (l0_3 : List Int) (a1 : ByteArray) (r : Int) (w : World) (hr0_2 : Kd.C k27 w A0_2 l0_2.length l0_2) (hc0_2 : l0_2.length ≤ c0_2) (hr0_3 : Kd.C (Kd.int .i64) w A0_3 l0_3.length l0_3) (hc0_3 : l0_3.length ≤ c0_3) (h : spec_l2Count.f k a0_0 a0_1 l0_2 l0_3 a1 = some r),
  Calls Try.prog 52 #[.agg #[.string a0_0,.int .i64 a0_1,.slice A0_2 l0_2.length c0_2,.slice A0_3 l0_3.length c0_3],.string a1] w fun e w' => e = .returned (.int .i64 r) ∧ Below w.heap.size w w':=by
 induction k using Nat.strongRecOn with
 | _ k ih =>
 intro a0_0 a0_1 A0_2 c0_2 l0_2 A0_3 c0_3 l0_3 a1 r w hr0_2 hc0_2 hr0_3 hc0_3 h
 cases k with
 | zero => exact absurd h (by simp [spec_l2Count.f])
 | succ k =>
 simp only [spec_l2Count.f] at h
 have hu27:=Try.underlying27
 have HR0_2:=Aside0.mk hr0_2
 have HC0_2:=Aside0.mk hc0_2
 clear hr0_2 hc0_2
 have HR0_3:=Aside0.mk hr0_3
 have HC0_3:=Aside0.mk hc0_3
 clear hr0_3 hc0_3
 have HB:=Aside0.mk (Below.refl w.heap.size w)
 have H : (if a0_0.toList = a1.toList then (spec_l2Count.j0 k a1 1 a0_0 a0_1 l0_2 l0_3) else (spec_l2Count.j0 k a1 0 a0_0 a0_1 l0_2 l0_3)) = some r:=h
 clear h
 have HC3:=Aside0.mk H
 clear H
 go_enter Try.func52,Try.ntmps52
 go_upto_if 10 with (first | ((with_reducible refine gate_dst (N:=2) rfl ?_);refine Up.bx 2 27 #[.string a0_0,.int .i64 a0_1,.slice A0_2 l0_2.length c0_2,.slice A0_3 l0_3.length c0_3] ?_;intro gb449 hg w4 hbox hb;have n0_:=Up.BB HB hb;have n1_:=Aside0.mk (hbox);have n2_:=Up.gw hg HB;have n3_:=Up.gw hg HB;clear HB;have HB:=n0_;have BK449:=n1_;have GW449:=n2_;have GE449:=n3_;clear n0_ n1_ n2_ n3_ hb hbox hg;have hcz5_0:=Up.c0 BK449;have hcz5_1:=Up.c1 BK449;have hcz5_2:=Up.c2 BK449;have hcz5_3:=Up.c3 BK449;have hfz5_0:=blk_frozen BK449.out 0;have hfz5_1:=blk_frozen BK449.out 1;have hfz5_2:=blk_frozen BK449.out 2;have hfz5_3:=blk_frozen BK449.out 3))
 (try simp only [Act.put,List.setIfInBounds_toArray,List.set_cons_zero,List.set_cons_succ])
 go_cut [5] (fun v5 wc => ∃ (kq : Nat) (x5_2 : Int),v5 = .int .i64 x5_2 ∧ Aside0 (spec_l2Count.j0 kq a1 x5_2 a0_0 a0_1 l0_2 l0_3 = some r) ∧ Aside0 (kq ≤ k) ∧ Aside0 (wc.heap[gb449]? = some (.cells #[.string a0_0,.int .i64 a0_1,(.slice A0_2 l0_2.length c0_2),(.slice A0_3 l0_3.length c0_3)] 27 (0,0))) ∧ Aside0 (Below w.heap.size w wc))
 case first =>
  have H:=HC3.out
  clear HC3
  by_cases c6 : a0_0.toList = a1.toList
  ·rw [if_pos c6] at H
   have c6b0 : (a0_0.toList == a1.toList) = true:=beq_iff_eq.mpr c6
   have c6b1 : (a0_0.toList != a1.toList) = false:=bne_eq_false_iff_eq.mpr c6
   clear c6
   (first | rw [c6b0] | (simp only [i64_w,i32_w];rw [c6b0]) | skip)
   have H':=Aside0.mk H
   clear H
   go_wp2
   go_meet
   case rel => exact ⟨_,(1),(by first | rfl | (simp;done) | (simp [*];done)),H',⟨by first | omega | exact Nat.le_refl _⟩,⟨by (with_reducible repeat (first | refine blk_drewN ?_ _ | refine blk_drew ?_ | refine blk_alloc ?_ _));exact BK449.out⟩,⟨Up.Bx HB⟩⟩
  ·rw [if_neg c6] at H
   have c6b0 : (a0_0.toList == a1.toList) = false:=beq_eq_false_iff_ne.mpr c6
   have c6b1 : (a0_0.toList != a1.toList) = true:=bne_iff_ne.mpr c6
   (first | rw [c6b0] | (simp only [i64_w,i32_w];rw [c6b0]) | skip)
   have H':=Aside0.mk H
   clear H
   go_wp2
   go_meet
   case rel => exact ⟨_,(0),(by first | rfl | (simp;done) | (simp [*];done)),H',⟨by first | omega | exact Nat.le_refl _⟩,⟨by (with_reducible repeat (first | refine blk_drewN ?_ _ | refine blk_drew ?_ | refine blk_alloc ?_ _));exact BK449.out⟩,⟨Up.Bx HB⟩⟩
 case rest =>
  clear HC3
  try clear p2
  try clear c5
  try clear c6
  try clear c6b0
  try clear c6b1
  try clear hcz5_0
  try clear hcz5_1
  try clear hcz5_2
  try clear hcz5_3
  try clear hfz5_0
  try clear hfz5_1
  try clear hfz5_2
  try clear hfz5_3
  obtain ⟨kq,x5_2,rfl,HA,HJ2,BK449,HB⟩:=hcut
  cases kq with
  | zero => exact absurd HA.out (by simp [spec_l2Count.j0])
  | succ kj2 =>
   have H:=HA.out
   clear HA
   simp only [spec_l2Count.j0] at H
   have H':=Aside0.mk H
   clear H
   go_wp2
   go_loopg [5,6] kj2 (fun kq v5 v6 w' => ∃ (x5_2 : Int) (x6_2 : Int),v5 = .int .i64 x5_2 ∧ v6 = .int .i64 x6_2 ∧ Aside0 (spec_l2Count.l0 kq a1 x5_2 x6_2 a0_0 a0_1 l0_2 l0_3 = some r) ∧ Aside0 (kq ≤ kj2) ∧ Aside0 (w'.heap[gb449]? = some (.cells #[.string a0_0,.int .i64 a0_1,(.slice A0_2 l0_2.length c0_2),(.slice A0_3 l0_3.length c0_3)] 27 (0,0))) ∧ Aside0 (Below w.heap.size w w'))
   case atStart => exact ⟨(x5_2),(0),(by first | rfl | (simp;done) | (simp [*];done)),(by first | rfl | (simp;done) | (simp [*];done)),H',⟨Nat.le_refl _⟩,⟨by (with_reducible repeat (first | refine blk_drewN ?_ _ | refine blk_drew ?_ | refine blk_alloc ?_ _));exact BK449.out⟩,⟨Up.Bx HB⟩⟩
   case round =>
    clear H'
    try clear p2
    try clear c5
    try clear c6
    try clear c6b0
    try clear c6b1
    try clear hcz5_0
    try clear hcz5_1
    try clear hcz5_2
    try clear hcz5_3
    try clear hfz5_0
    try clear hfz5_1
    try clear hfz5_2
    try clear hfz5_3
    try clear p2
    obtain ⟨x5_2,x6_2,rfl,rfl,HA,HK2,BK449,HB⟩:=hrel
    cases gk with
    | zero => exact absurd HA.out (by simp [spec_l2Count.l0])
    | succ k2 =>
     have H:=HA.out
     clear HA
     simp only [spec_l2Count.l0] at H
     by_cases c7 : x6_2 < (l0_2.length : Int)
     ·rw [if_pos c7] at H
      have c7b0 : decide (x6_2 < (l0_2.length : Int)) = true:=decide_eq_true c7
      clear c7
      by_cases c8 : 0 ≤ x6_2
      ·rw [if_pos c8] at H
       have c8b0 : decide (0 ≤ x6_2) = true:=decide_eq_true c8
       clear c8
       replace H:=Option.bind_eq_some_iff.mp H
       obtain ⟨t451,A90,H⟩:=H
       replace H : (spec_l2Count.l0 k2 a1 (wrap64 (x5_2 + t451)) (wrap64 (x6_2 + 1)) a0_0 a0_1 l0_2 l0_3) = some r:=H
       have A9:=Aside0.mk A90
       clear A90
       have H':=Aside0.mk H
       clear H
       have hcz10_0:=Up.c0 BK449
       have hcz10_1:=Up.c1 BK449
       have hcz10_2:=Up.c2 BK449
       have hcz10_3:=Up.c3 BK449
       have hfz10_0:=blk_frozen BK449.out 0
       have hfz10_1:=blk_frozen BK449.out 1
       have hfz10_2:=blk_frozen BK449.out 2
       have hfz10_3:=blk_frozen BK449.out 3
       have p450 : 0 ≤ (x6_2 : Int):=Up.od
       have q450 : x6_2 < (l0_2.length : Int):=Up.od
       obtain ⟨ad450,A450_2,c450_2,A450_3,c450_3,e450,hx450_0,hx450_1,hx450_2,hx450_3,hl450_2,hi450_2,hl450_3,hi450_3⟩:=at_T27 HR0_2.out x6_2 p450 q450
       cases e450
       replace hx450_0:=Up.hc HB hx450_0
       replace hx450_1:=Up.hc HB hx450_1
       replace hx450_2:=Up.hc HB hx450_2
       replace hx450_3:=Up.hc HB hx450_3
       have HR450_2:=Aside0.mk hi450_2
       have HC450_2:=Aside0.mk hl450_2
       clear hi450_2 hl450_2
       have HR450_3:=Aside0.mk hi450_3
       have HC450_3:=Aside0.mk hl450_3
       clear hi450_3 hl450_3
       replace p450:=eq_true p450
       replace q450:=eq_true q450
       go_wp2_with (first | ((with_reducible refine gate_callee (f:=52) rfl ?_);refine Up.gl (some 25) Try.func52 #[.agg #[.string ((rd_T27 l0_2 x6_2).f0),.int .i64 ((rd_T27 l0_2 x6_2).f1),.slice A450_2 ((rd_T27 l0_2 x6_2).f2).length c450_2,.slice A450_3 ((rd_T27 l0_2 x6_2).f3).length c450_3],.string a1] ?_;(with_reducible refine (ih k2 (by have:=HJ2.out;have:=HK2.out;omega) ((rd_T27 l0_2 x6_2).f0) ((rd_T27 l0_2 x6_2).f1) _ _ ((rd_T27 l0_2 x6_2).f2) _ _ ((rd_T27 l0_2 x6_2).f3) a1 t451 _ ?side1 ?side2 ?side3 ?side4 A9.out).mono ?_);(case side1 => exact Up.Cx HR450_2 HB);(case side2 => exact HC450_2.out);(case side3 => exact Up.Cx HR450_3 HB);(case side4 => exact HC450_3.out);rintro e w11 ⟨rfl,hb⟩;refine ⟨_,rfl,?_⟩;have n0_:=Up.KB BK449 hb;have n1_:=Aside0.mk (below_step (Up.Bx HB) hb);clear BK449 HB;have BK449:=n0_;have HB:=n1_;clear n0_ n1_;(try clear hb);(try clear hb2);(try clear hk);(try clear hi)))
       go_roundg k2
       case measure => have:=HJ2.out;have:=HK2.out;omega
       case rel => exact ⟨(wrap64 (x5_2 + t451)),(wrap64 (x6_2 + 1)),(by first | rfl | (simp;done) | (simp [*];done)),(by first | rfl | (simp;done) | (simp [*];done)),H',⟨by have:=HJ2.out;have:=HK2.out;omega⟩,⟨by (with_reducible repeat (first | refine blk_drewN ?_ _ | refine blk_drew ?_ | refine blk_alloc ?_ _));exact BK449.out⟩,⟨Up.Bx HB⟩⟩
      ·rw [if_neg c8] at H
       exact absurd H (by simp)
     ·rw [if_neg c7] at H
      have c7b0 : decide (x6_2 < (l0_2.length : Int)) = false:=decide_eq_false c7
      clear c7
      obtain rfl:=Option.some.inj H
      have hcz12_0:=Up.c0 BK449
      have hcz12_1:=Up.c1 BK449
      have hcz12_2:=Up.c2 BK449
      have hcz12_3:=Up.c3 BK449
      have hfz12_0:=blk_frozen BK449.out 0
      have hfz12_1:=blk_frozen BK449.out 1
      have hfz12_2:=blk_frozen BK449.out 2
      have hfz12_3:=blk_frozen BK449.out 3
      go_wp2
      go_ret
      exact Up.e1 (Up.Bx HB)

/-! ### spec_ValueCount: function 17 -/
def spec_ValueCount.f (k : Nat) (l0 : List (List (S113))) (a1_0 : ByteArray) (a1_1 : Int) (l1_2 : List (S27)) (l1_3 : List Int) (a2 : ByteArray) : Option (Int):=(spec_l1Kind.f a2).bind fun bt453 => ((spec_ValueOk.f k l0 a1_0 a1_1 l1_2 l1_3).bind fun t456 => (if t456 = true then (if bt453.2.2 = true then ((spec_l1Plain.f l0 a2).bind fun t457 => (if t457 = true then ((spec_l2Count.f k a1_0 a1_1 l1_2 l1_3 a2).bind fun t458 => (some t458)) else (some (-1)))) else (some (-1))) else (some (-1))))
theorem spec_ValueCount.mono : ∀ a0 a1 a2 a3 a4 a5 k,LeO (spec_ValueCount.f k a0 a1 a2 a3 a4 a5) (spec_ValueCount.f (k + 1) a0 a1 a2 a3 a4 a5):=by
 intro a0 a1 a2 a3 a4 a5 k
 unfold spec_ValueCount.f
 repeat' first
   | (with_reducible exact spec_ValueOk.mono _ _ _ _ _ _)
   | (with_reducible exact spec_l2Count.mono _ _ _ _ _ _)
   | (with_reducible exact LeO.refl _)
   | (with_reducible exact LeO.none _)
   | (with_reducible refine LeO.ite ?_ ?_)
   | (with_reducible refine LeO.bind ?_ (fun _ => ?_))
   | exact spec_ValueOk.mono _ _ _ _ _ _
   | exact spec_l2Count.mono _ _ _ _ _ _
   | exact LeO.none _
   | refine LeO.ite ?_ ?_
   | refine LeO.bind ?_ (fun _ => ?_)
set_option maxHeartbeats 8000000 in
set_option maxRecDepth 100000 in
theorem spec_ValueCount.calls (k : Nat) (A0 : Option Addr) (c0 : Nat) (l0 : List (List (S113))) (a1_0 : ByteArray) (a1_1 : Int) (A1_2 : Option Addr) (c1_2 : Nat) (l1_2 : List (S27)) (A1_3 : Option Addr) (c1_3 : Nat) (l1_3 : List Int) (a2 : ByteArray) (r : Int) (w : World) (hr0 : Kd.C (Kd.slice 113 k113) w A0 l0.length l0) (hc0 : l0.length ≤ c0) (hr1_2 : Kd.C k27 w A1_2 l1_2.length l1_2) (hc1_2 : l1_2.length ≤ c1_2) (hr1_3 : Kd.C (Kd.int .i64) w A1_3 l1_3.length l1_3) (hc1_3 : l1_3.length ≤ c1_3) (h : spec_ValueCount.f k l0 a1_0 a1_1 l1_2 l1_3 a2 = some r) :
  Calls Try.prog 17 #[.slice A0 l0.length c0,.agg #[.string a1_0,.int .i64 a1_1,.slice A1_2 l1_2.length c1_2,.slice A1_3 l1_3.length c1_3],.string a2] w fun e w' => e = .returned (.int .i64 r) ∧ Below w.heap.size w w':=by
 have hu27:=Try.underlying27
 have HR0:=Aside0.mk hr0
 have HC0:=Aside0.mk hc0
 clear hr0 hc0
 have HR1_2:=Aside0.mk hr1_2
 have HC1_2:=Aside0.mk hc1_2
 clear hr1_2 hc1_2
 have HR1_3:=Aside0.mk hr1_3
 have HC1_3:=Aside0.mk hc1_3
 clear hr1_3 hc1_3
 have HB:=Aside0.mk (Below.refl w.heap.size w)
 have H : ((spec_l1Kind.f a2).bind fun bt453 => ((spec_ValueOk.f k l0 a1_0 a1_1 l1_2 l1_3).bind fun t456 => (if t456 = true then (if bt453.2.2 = true then ((spec_l1Plain.f l0 a2).bind fun t457 => (if t457 = true then ((spec_l2Count.f k a1_0 a1_1 l1_2 l1_3 a2).bind fun t458 => (some t458)) else (some (-1)))) else (some (-1))) else (some (-1))))) = some r:=h
 clear h
 replace H:=Option.bind_eq_some_iff.mp H
 obtain ⟨⟨t453,t454,t455⟩,A40,H⟩:=H
 replace H : ((spec_ValueOk.f k l0 a1_0 a1_1 l1_2 l1_3).bind fun t456 => (if t456 = true then (if t455 = true then ((spec_l1Plain.f l0 a2).bind fun t457 => (if t457 = true then ((spec_l2Count.f k a1_0 a1_1 l1_2 l1_3 a2).bind fun t458 => (some t458)) else (some (-1)))) else (some (-1))) else (some (-1)))) = some r:=H
 have A4:=Aside0.mk A40
 clear A40
 replace H:=Option.bind_eq_some_iff.mp H
 obtain ⟨t456,A50,H⟩:=H
 replace H : (if t456 = true then (if t455 = true then ((spec_l1Plain.f l0 a2).bind fun t457 => (if t457 = true then ((spec_l2Count.f k a1_0 a1_1 l1_2 l1_3 a2).bind fun t458 => (some t458)) else (some (-1)))) else (some (-1))) else (some (-1))) = some r:=H
 have A5:=Aside0.mk A50
 clear A50
 by_cases c6 : t456 = true
 ·subst c6
  have H1 : (if t455 = true then ((spec_l1Plain.f l0 a2).bind fun t457 => (if t457 = true then ((spec_l2Count.f k a1_0 a1_1 l1_2 l1_3 a2).bind fun t458 => (some t458)) else (some (-1)))) else (some (-1))) = some r:=by rw [if_pos rfl] at H;exact H
  clear H
  have H:=H1
  clear H1
  by_cases c7 : t455 = true
  ·subst c7
   have H1 : ((spec_l1Plain.f l0 a2).bind fun t457 => (if t457 = true then ((spec_l2Count.f k a1_0 a1_1 l1_2 l1_3 a2).bind fun t458 => (some t458)) else (some (-1)))) = some r:=by rw [if_pos rfl] at H;exact H
   clear H
   have H:=H1
   clear H1
   replace H:=Option.bind_eq_some_iff.mp H
   obtain ⟨t457,A80,H⟩:=H
   replace H : (if t457 = true then ((spec_l2Count.f k a1_0 a1_1 l1_2 l1_3 a2).bind fun t458 => (some t458)) else (some (-1))) = some r:=H
   have A8:=Aside0.mk A80
   clear A80
   by_cases c9 : t457 = true
   ·subst c9
    have H1 : ((spec_l2Count.f k a1_0 a1_1 l1_2 l1_3 a2).bind fun t458 => (some t458)) = some r:=by rw [if_pos rfl] at H;exact H
    clear H
    have H:=H1
    clear H1
    replace H:=Option.bind_eq_some_iff.mp H
    obtain ⟨t458,A100,H⟩:=H
    replace H : (some t458) = some r:=H
    have A10:=Aside0.mk A100
    clear A100
    obtain rfl:=Option.some.inj H
    go_enter Try.func17,Try.ntmps17
    go_wp2_with (first | ((with_reducible refine gate_dst (N:=4) rfl ?_);refine Up.bx 4 27 #[.string a1_0,.int .i64 a1_1,.slice A1_2 l1_2.length c1_2,.slice A1_3 l1_3.length c1_3] ?_;intro gb452 hg w11 hbox hb;have n0_:=Up.BB HB hb;have n1_:=Aside0.mk (hbox);have n2_:=Up.gw hg HB;have n3_:=Up.gw hg HB;clear HB;have HB:=n0_;have BK452:=n1_;have GW452:=n2_;have GE452:=n3_;clear n0_ n1_ n2_ n3_ hb hbox hg) | ((with_reducible refine gate_callee (f:=50) rfl ?_);refine Up.gl (some 12) Try.func50 #[.string a2] ?_;(with_reducible refine (spec_l1Kind.calls a2 t453 t454 true _ A4.out).mono ?_);rintro e w' ⟨rfl,⟨nd,rfl⟩⟩;refine ⟨_,rfl,?_⟩;have hcz12_0:=Up.c0 BK452;have hcz12_1:=Up.c1 BK452;have hcz12_2:=Up.c2 BK452;have hcz12_3:=Up.c3 BK452;have hfz12_0:=blk_frozen BK452.out 0;have hfz12_1:=blk_frozen BK452.out 1;have hfz12_2:=blk_frozen BK452.out 2;have hfz12_3:=blk_frozen BK452.out 3) | ((with_reducible refine gate_callee (f:=20) rfl ?_);refine Up.gl (some 18) Try.func20 #[.slice A0 l0.length c0,.agg #[.string a1_0,.int .i64 a1_1,.slice A1_2 l1_2.length c1_2,.slice A1_3 l1_3.length c1_3]] ?_;(with_reducible refine (spec_ValueOk.calls k _ _ l0 a1_0 a1_1 _ _ l1_2 _ _ l1_3 true _ ?side1 ?side2 ?side3 ?side4 ?side5 ?side6 A5.out).mono ?_);(case side1 => repeat (first | exact (Kd.C_below HR0.out (Up.Bx HB)) | (with_reducible refine Kd.C_alloc ?_ _) | (with_reducible refine Kd.C_drewN ?_ _) | (with_reducible refine Kd.C_drew ?_)));(case side2 => exact HC0.out);(case side3 => repeat (first | exact (Kd.C_below HR1_2.out (Up.Bx HB)) | (with_reducible refine Kd.C_alloc ?_ _) | (with_reducible refine Kd.C_drewN ?_ _) | (with_reducible refine Kd.C_drew ?_)));(case side4 => exact HC1_2.out);(case side5 => repeat (first | exact (Kd.C_below HR1_3.out (Up.Bx HB)) | (with_reducible refine Kd.C_alloc ?_ _) | (with_reducible refine Kd.C_drewN ?_ _) | (with_reducible refine Kd.C_drew ?_)));(case side6 => exact HC1_3.out);rintro e w13 ⟨rfl,hb⟩;refine ⟨_,rfl,?_⟩;have n0_:=Up.KB BK452 hb;have n1_:=Aside0.mk (below_step (Up.Bx HB) hb);clear BK452 HB;have BK452:=n0_;have HB:=n1_;clear n0_ n1_;(try clear hb);(try clear hb2);(try clear hk);(try clear hi)) | (go_at_call 51;(with_reducible refine (spec_l1Plain.calls _ _ l0 a2 true _ ?side1 ?side2 A8.out).mono ?_);(case side1 => exact Up.Cx HR0 HB);(case side2 => exact HC0.out);rintro e w' ⟨rfl,⟨nd,rfl⟩⟩;have hcz14_0:=Up.c0 BK452;have hcz14_1:=Up.c1 BK452;have hcz14_2:=Up.c2 BK452;have hcz14_3:=Up.c3 BK452;have hfz14_0:=blk_frozen BK452.out 0;have hfz14_1:=blk_frozen BK452.out 1;have hfz14_2:=blk_frozen BK452.out 2;have hfz14_3:=blk_frozen BK452.out 3) | ((with_reducible refine gate_callee (f:=52) rfl ?_);refine Up.gl (some 32) Try.func52 #[.agg #[.string a1_0,.int .i64 a1_1,.slice A1_2 l1_2.length c1_2,.slice A1_3 l1_3.length c1_3],.string a2] ?_;(with_reducible refine (spec_l2Count.calls k a1_0 a1_1 _ _ l1_2 _ _ l1_3 a2 t458 _ ?side1 ?side2 ?side3 ?side4 A10.out).mono ?_);(case side1 => repeat (first | exact (Kd.C_below HR1_2.out (Up.Bx HB)) | (with_reducible refine Kd.C_alloc ?_ _) | (with_reducible refine Kd.C_drewN ?_ _) | (with_reducible refine Kd.C_drew ?_)));(case side2 => exact HC1_2.out);(case side3 => repeat (first | exact (Kd.C_below HR1_3.out (Up.Bx HB)) | (with_reducible refine Kd.C_alloc ?_ _) | (with_reducible refine Kd.C_drewN ?_ _) | (with_reducible refine Kd.C_drew ?_)));(case side4 => exact HC1_3.out);rintro e w15 ⟨rfl,hb⟩;refine ⟨_,rfl,?_⟩;have n0_:=Up.KB BK452 hb;have n1_:=Aside0.mk (below_step (Up.Bx HB) hb);clear BK452 HB;have BK452:=n0_;have HB:=n1_;clear n0_ n1_;(try clear hb);(try clear hb2);(try clear hk);(try clear hi)))
    go_ret
    exact Up.e1 (Up.Bx HB)
   ·replace c9:=Bool.eq_false_iff.mpr c9
    subst c9
    have H1 : (some (-1)) = some r:=by rw [if_neg (show ¬ (false = true) by decide)] at H;exact H
    clear H
    have H:=H1
    clear H1
    obtain rfl:=Option.some.inj H
    go_enter Try.func17,Try.ntmps17
    go_wp2_with (first | ((with_reducible refine gate_dst (N:=4) rfl ?_);refine Up.bx 4 27 #[.string a1_0,.int .i64 a1_1,.slice A1_2 l1_2.length c1_2,.slice A1_3 l1_3.length c1_3] ?_;intro gb452 hg w16 hbox hb;have n0_:=Up.BB HB hb;have n1_:=Aside0.mk (hbox);have n2_:=Up.gw hg HB;have n3_:=Up.gw hg HB;clear HB;have HB:=n0_;have BK452:=n1_;have GW452:=n2_;have GE452:=n3_;clear n0_ n1_ n2_ n3_ hb hbox hg) | ((with_reducible refine gate_callee (f:=50) rfl ?_);refine Up.gl (some 12) Try.func50 #[.string a2] ?_;(with_reducible refine (spec_l1Kind.calls a2 t453 t454 true _ A4.out).mono ?_);rintro e w' ⟨rfl,⟨nd,rfl⟩⟩;refine ⟨_,rfl,?_⟩;have hcz17_0:=Up.c0 BK452;have hcz17_1:=Up.c1 BK452;have hcz17_2:=Up.c2 BK452;have hcz17_3:=Up.c3 BK452;have hfz17_0:=blk_frozen BK452.out 0;have hfz17_1:=blk_frozen BK452.out 1;have hfz17_2:=blk_frozen BK452.out 2;have hfz17_3:=blk_frozen BK452.out 3) | ((with_reducible refine gate_callee (f:=20) rfl ?_);refine Up.gl (some 18) Try.func20 #[.slice A0 l0.length c0,.agg #[.string a1_0,.int .i64 a1_1,.slice A1_2 l1_2.length c1_2,.slice A1_3 l1_3.length c1_3]] ?_;(with_reducible refine (spec_ValueOk.calls k _ _ l0 a1_0 a1_1 _ _ l1_2 _ _ l1_3 true _ ?side1 ?side2 ?side3 ?side4 ?side5 ?side6 A5.out).mono ?_);(case side1 => repeat (first | exact (Kd.C_below HR0.out (Up.Bx HB)) | (with_reducible refine Kd.C_alloc ?_ _) | (with_reducible refine Kd.C_drewN ?_ _) | (with_reducible refine Kd.C_drew ?_)));(case side2 => exact HC0.out);(case side3 => repeat (first | exact (Kd.C_below HR1_2.out (Up.Bx HB)) | (with_reducible refine Kd.C_alloc ?_ _) | (with_reducible refine Kd.C_drewN ?_ _) | (with_reducible refine Kd.C_drew ?_)));(case side4 => exact HC1_2.out);(case side5 => repeat (first | exact (Kd.C_below HR1_3.out (Up.Bx HB)) | (with_reducible refine Kd.C_alloc ?_ _) | (with_reducible refine Kd.C_drewN ?_ _) | (with_reducible refine Kd.C_drew ?_)));(case side6 => exact HC1_3.out);rintro e w18 ⟨rfl,hb⟩;refine ⟨_,rfl,?_⟩;have n0_:=Up.KB BK452 hb;have n1_:=Aside0.mk (below_step (Up.Bx HB) hb);clear BK452 HB;have BK452:=n0_;have HB:=n1_;clear n0_ n1_;(try clear hb);(try clear hb2);(try clear hk);(try clear hi)) | (go_at_call 51;(with_reducible refine (spec_l1Plain.calls _ _ l0 a2 false _ ?side1 ?side2 A8.out).mono ?_);(case side1 => exact Up.Cx HR0 HB);(case side2 => exact HC0.out);rintro e w' ⟨rfl,⟨nd,rfl⟩⟩))
    go_ret
    exact Up.e1 (Up.Bx HB)
  ·replace c7:=Bool.eq_false_iff.mpr c7
   subst c7
   have H1 : (some (-1)) = some r:=by rw [if_neg (show ¬ (false = true) by decide)] at H;exact H
   clear H
   have H:=H1
   clear H1
   obtain rfl:=Option.some.inj H
   go_enter Try.func17,Try.ntmps17
   go_wp2_with (first | ((with_reducible refine gate_dst (N:=4) rfl ?_);refine Up.bx 4 27 #[.string a1_0,.int .i64 a1_1,.slice A1_2 l1_2.length c1_2,.slice A1_3 l1_3.length c1_3] ?_;intro gb452 hg w19 hbox hb;have n0_:=Up.BB HB hb;have n1_:=Aside0.mk (hbox);have n2_:=Up.gw hg HB;have n3_:=Up.gw hg HB;clear HB;have HB:=n0_;have BK452:=n1_;have GW452:=n2_;have GE452:=n3_;clear n0_ n1_ n2_ n3_ hb hbox hg) | ((with_reducible refine gate_callee (f:=50) rfl ?_);refine Up.gl (some 12) Try.func50 #[.string a2] ?_;(with_reducible refine (spec_l1Kind.calls a2 t453 t454 false _ A4.out).mono ?_);rintro e w' ⟨rfl,⟨nd,rfl⟩⟩;refine ⟨_,rfl,?_⟩;have hcz20_0:=Up.c0 BK452;have hcz20_1:=Up.c1 BK452;have hcz20_2:=Up.c2 BK452;have hcz20_3:=Up.c3 BK452;have hfz20_0:=blk_frozen BK452.out 0;have hfz20_1:=blk_frozen BK452.out 1;have hfz20_2:=blk_frozen BK452.out 2;have hfz20_3:=blk_frozen BK452.out 3) | ((with_reducible refine gate_callee (f:=20) rfl ?_);refine Up.gl (some 18) Try.func20 #[.slice A0 l0.length c0,.agg #[.string a1_0,.int .i64 a1_1,.slice A1_2 l1_2.length c1_2,.slice A1_3 l1_3.length c1_3]] ?_;(with_reducible refine (spec_ValueOk.calls k _ _ l0 a1_0 a1_1 _ _ l1_2 _ _ l1_3 true _ ?side1 ?side2 ?side3 ?side4 ?side5 ?side6 A5.out).mono ?_);(case side1 => repeat (first | exact (Kd.C_below HR0.out (Up.Bx HB)) | (with_reducible refine Kd.C_alloc ?_ _) | (with_reducible refine Kd.C_drewN ?_ _) | (with_reducible refine Kd.C_drew ?_)));(case side2 => exact HC0.out);(case side3 => repeat (first | exact (Kd.C_below HR1_2.out (Up.Bx HB)) | (with_reducible refine Kd.C_alloc ?_ _) | (with_reducible refine Kd.C_drewN ?_ _) | (with_reducible refine Kd.C_drew ?_)));(case side4 => exact HC1_2.out);(case side5 => repeat (first | exact (Kd.C_below HR1_3.out (Up.Bx HB)) | (with_reducible refine Kd.C_alloc ?_ _) | (with_reducible refine Kd.C_drewN ?_ _) | (with_reducible refine Kd.C_drew ?_)));(case side6 => exact HC1_3.out);rintro e w21 ⟨rfl,hb⟩;refine ⟨_,rfl,?_⟩;have n0_:=Up.KB BK452 hb;have n1_:=Aside0.mk (below_step (Up.Bx HB) hb);clear BK452 HB;have BK452:=n0_;have HB:=n1_;clear n0_ n1_;(try clear hb);(try clear hb2);(try clear hk);(try clear hi)))
   go_ret
   exact Up.e1 (Up.Bx HB)
 ·replace c6:=Bool.eq_false_iff.mpr c6
  subst c6
  have H1 : (some (-1)) = some r:=by rw [if_neg (show ¬ (false = true) by decide)] at H;exact H
  clear H
  have H:=H1
  clear H1
  obtain rfl:=Option.some.inj H
  go_enter Try.func17,Try.ntmps17
  go_wp2_with (first | ((with_reducible refine gate_dst (N:=4) rfl ?_);refine Up.bx 4 27 #[.string a1_0,.int .i64 a1_1,.slice A1_2 l1_2.length c1_2,.slice A1_3 l1_3.length c1_3] ?_;intro gb452 hg w22 hbox hb;have n0_:=Up.BB HB hb;have n1_:=Aside0.mk (hbox);have n2_:=Up.gw hg HB;have n3_:=Up.gw hg HB;clear HB;have HB:=n0_;have BK452:=n1_;have GW452:=n2_;have GE452:=n3_;clear n0_ n1_ n2_ n3_ hb hbox hg) | ((with_reducible refine gate_callee (f:=50) rfl ?_);refine Up.gl (some 12) Try.func50 #[.string a2] ?_;(with_reducible refine (spec_l1Kind.calls a2 t453 t454 t455 _ A4.out).mono ?_);rintro e w' ⟨rfl,⟨nd,rfl⟩⟩;refine ⟨_,rfl,?_⟩;have hcz23_0:=Up.c0 BK452;have hcz23_1:=Up.c1 BK452;have hcz23_2:=Up.c2 BK452;have hcz23_3:=Up.c3 BK452;have hfz23_0:=blk_frozen BK452.out 0;have hfz23_1:=blk_frozen BK452.out 1;have hfz23_2:=blk_frozen BK452.out 2;have hfz23_3:=blk_frozen BK452.out 3) | ((with_reducible refine gate_callee (f:=20) rfl ?_);refine Up.gl (some 18) Try.func20 #[.slice A0 l0.length c0,.agg #[.string a1_0,.int .i64 a1_1,.slice A1_2 l1_2.length c1_2,.slice A1_3 l1_3.length c1_3]] ?_;(with_reducible refine (spec_ValueOk.calls k _ _ l0 a1_0 a1_1 _ _ l1_2 _ _ l1_3 false _ ?side1 ?side2 ?side3 ?side4 ?side5 ?side6 A5.out).mono ?_);(case side1 => repeat (first | exact (Kd.C_below HR0.out (Up.Bx HB)) | (with_reducible refine Kd.C_alloc ?_ _) | (with_reducible refine Kd.C_drewN ?_ _) | (with_reducible refine Kd.C_drew ?_)));(case side2 => exact HC0.out);(case side3 => repeat (first | exact (Kd.C_below HR1_2.out (Up.Bx HB)) | (with_reducible refine Kd.C_alloc ?_ _) | (with_reducible refine Kd.C_drewN ?_ _) | (with_reducible refine Kd.C_drew ?_)));(case side4 => exact HC1_2.out);(case side5 => repeat (first | exact (Kd.C_below HR1_3.out (Up.Bx HB)) | (with_reducible refine Kd.C_alloc ?_ _) | (with_reducible refine Kd.C_drewN ?_ _) | (with_reducible refine Kd.C_drew ?_)));(case side6 => exact HC1_3.out);rintro e w24 ⟨rfl,hb⟩;refine ⟨_,rfl,?_⟩;have n0_:=Up.KB BK452 hb;have n1_:=Aside0.mk (below_step (Up.Bx HB) hb);clear BK452 HB;have BK452:=n0_;have HB:=n1_;clear n0_ n1_;(try clear hb);(try clear hb2);(try clear hk);(try clear hi)))
  go_ret
  exact Up.e1 (Up.Bx HB)

/-! ### laws_FnValueCount: function 4 -/
mutual
def laws_FnValueCount.j0 : Nat → List (List (S113)) → ByteArray → Int → Int → ByteArray → Int → List (S27) → List Int → Option (Bool)
 | 0,_,_,_,_,_,_,_,_ => none
 | k + 1,x3,x5,x6,x8,x472000,x472001,x472002,x472003 => laws_FnValueCount.l0 k x3 x5 x6 x8 0 x472000 x472001 x472002 x472003
def laws_FnValueCount.l0 : Nat → List (List (S113)) → ByteArray → Int → Int → Int → ByteArray → Int → List (S27) → List Int → Option (Bool)
 | 0,_,_,_,_,_,_,_,_,_ => none
 | k + 1,x3,x5,x6,x8,x9,x472000,x472001,x472002,x472003 => if x9 < (x472002.length : Int) then (if 0 ≤ x9 then ((impl_ValueCount.f k x3 ((rd_T27 x472002 x9).f0) ((rd_T27 x472002 x9).f1) ((rd_T27 x472002 x9).f2) ((rd_T27 x472002 x9).f3) x5).bind fun t475 => (laws_FnValueCount.l0 k x3 x5 x6 (wrap64 (x8 + t475)) (wrap64 (x9 + 1)) x472000 x472001 x472002 x472003)) else (none)) else (some (x8 == x6))
end
def laws_FnValueCount.f (k : Nat) (l0 : List Int) : Option (Bool):=if (l0.length : Int) > 1048576 then (some true) else ((spec_DrawValueCount.f k l0).bind fun bt459 => ((impl_ValueCount.f k bt459.1 bt459.2.1 bt459.2.2.1 bt459.2.2.2.1 bt459.2.2.2.2.1 bt459.2.2.2.2.2).bind fun t472 => ((spec_ValueCount.f k bt459.1 bt459.2.1 bt459.2.2.1 bt459.2.2.2.1 bt459.2.2.2.2.1 bt459.2.2.2.2.2).bind fun t473 => (if t472 = t473 then (if t472 < 0 then (some true) else (if bt459.2.1.toList = bt459.2.2.2.2.2.toList then (laws_FnValueCount.j0 k bt459.1 bt459.2.2.2.2.2 t472 1 bt459.2.1 bt459.2.2.1 bt459.2.2.2.1 bt459.2.2.2.2.1) else (laws_FnValueCount.j0 k bt459.1 bt459.2.2.2.2.2 t472 0 bt459.2.1 bt459.2.2.1 bt459.2.2.2.1 bt459.2.2.2.2.1))) else (some false)))))
theorem laws_FnValueCount.mono_l : ∀ k,(∀ y0 y1 y2 y3 y4 y5 y6 y7,LeO (laws_FnValueCount.j0 k y0 y1 y2 y3 y4 y5 y6 y7) (laws_FnValueCount.j0 (k + 1) y0 y1 y2 y3 y4 y5 y6 y7)) ∧ (∀ y0 y1 y2 y3 y4 y5 y6 y7 y8,LeO (laws_FnValueCount.l0 k y0 y1 y2 y3 y4 y5 y6 y7 y8) (laws_FnValueCount.l0 (k + 1) y0 y1 y2 y3 y4 y5 y6 y7 y8))
 | 0 => ⟨fun _ _ _ _ _ _ _ _ r h => by simp [laws_FnValueCount.j0] at h,fun _ _ _ _ _ _ _ _ _ r h => by simp [laws_FnValueCount.l0] at h⟩
 | k + 1 => by
  obtain ⟨ih0,ih1⟩:=laws_FnValueCount.mono_l k
  refine ⟨?_,?_⟩
  ·intro y0 y1 y2 y3 y4 y5 y6 y7
   unfold laws_FnValueCount.j0
   repeat' first
   | (with_reducible exact ih0 _ _ _ _ _ _ _ _)
   | (with_reducible exact ih1 _ _ _ _ _ _ _ _ _)
   | (with_reducible exact impl_ValueCount.mono _ _ _ _ _ _ _)
   | (with_reducible exact spec_DrawValueCount.mono _ _)
   | (with_reducible exact spec_ValueCount.mono _ _ _ _ _ _ _)
   | (with_reducible exact LeO.refl _)
   | (with_reducible exact LeO.none _)
   | (with_reducible refine LeO.ite ?_ ?_)
   | (with_reducible refine LeO.bind ?_ (fun _ => ?_))
   | exact ih0 _ _ _ _ _ _ _ _
   | exact ih1 _ _ _ _ _ _ _ _ _
   | exact impl_ValueCount.mono _ _ _ _ _ _ _
   | exact spec_DrawValueCount.mono _ _
   | exact spec_ValueCount.mono _ _ _ _ _ _ _
   | exact LeO.none _
   | refine LeO.ite ?_ ?_
   | refine LeO.bind ?_ (fun _ => ?_)
  ·intro y0 y1 y2 y3 y4 y5 y6 y7 y8
   unfold laws_FnValueCount.l0
   repeat' first
   | (with_reducible exact ih0 _ _ _ _ _ _ _ _)
   | (with_reducible exact ih1 _ _ _ _ _ _ _ _ _)
   | (with_reducible exact impl_ValueCount.mono _ _ _ _ _ _ _)
   | (with_reducible exact spec_DrawValueCount.mono _ _)
   | (with_reducible exact spec_ValueCount.mono _ _ _ _ _ _ _)
   | (with_reducible exact LeO.refl _)
   | (with_reducible exact LeO.none _)
   | (with_reducible refine LeO.ite ?_ ?_)
   | (with_reducible refine LeO.bind ?_ (fun _ => ?_))
   | exact ih0 _ _ _ _ _ _ _ _
   | exact ih1 _ _ _ _ _ _ _ _ _
   | exact impl_ValueCount.mono _ _ _ _ _ _ _
   | exact spec_DrawValueCount.mono _ _
   | exact spec_ValueCount.mono _ _ _ _ _ _ _
   | exact LeO.none _
   | refine LeO.ite ?_ ?_
   | refine LeO.bind ?_ (fun _ => ?_)
theorem laws_FnValueCount.mono : ∀ a0 k,LeO (laws_FnValueCount.f k a0) (laws_FnValueCount.f (k + 1) a0):=by
 intro a0 k
 obtain ⟨ih0,ih1⟩:=laws_FnValueCount.mono_l k
 unfold laws_FnValueCount.f
 repeat' first
   | (with_reducible exact ih0 _ _ _ _ _ _ _ _)
   | (with_reducible exact ih1 _ _ _ _ _ _ _ _ _)
   | (with_reducible exact impl_ValueCount.mono _ _ _ _ _ _ _)
   | (with_reducible exact spec_DrawValueCount.mono _ _)
   | (with_reducible exact spec_ValueCount.mono _ _ _ _ _ _ _)
   | (with_reducible exact LeO.refl _)
   | (with_reducible exact LeO.none _)
   | (with_reducible refine LeO.ite ?_ ?_)
   | (with_reducible refine LeO.bind ?_ (fun _ => ?_))
   | exact ih0 _ _ _ _ _ _ _ _
   | exact ih1 _ _ _ _ _ _ _ _ _
   | exact impl_ValueCount.mono _ _ _ _ _ _ _
   | exact spec_DrawValueCount.mono _ _
   | exact spec_ValueCount.mono _ _ _ _ _ _ _
   | exact LeO.none _
   | refine LeO.ite ?_ ?_
   | refine LeO.bind ?_ (fun _ => ?_)
set_option maxHeartbeats 8000000 in
set_option maxRecDepth 100000 in
theorem laws_FnValueCount.calls (k : Nat) (A0 : Option Addr) (c0 : Nat) (l0 : List Int) (r : Bool) (w : World) (hr0 : Kd.C (Kd.int .u8) w A0 l0.length l0) (hc0 : l0.length ≤ c0) (h : laws_FnValueCount.f k l0 = some r) :
  Calls Try.prog 4 #[.slice A0 l0.length c0] w fun e w' => e = .returned (.bool r) ∧ Below w.heap.size w w':=by
 have hu27:=Try.underlying27
 have HR0:=Aside0.mk hr0
 have HC0:=Aside0.mk hc0
 clear hr0 hc0
 have HB:=Aside0.mk (Below.refl w.heap.size w)
 have H : (if (l0.length : Int) > 1048576 then (some true) else ((spec_DrawValueCount.f k l0).bind fun bt459 => ((impl_ValueCount.f k bt459.1 bt459.2.1 bt459.2.2.1 bt459.2.2.2.1 bt459.2.2.2.2.1 bt459.2.2.2.2.2).bind fun t472 => ((spec_ValueCount.f k bt459.1 bt459.2.1 bt459.2.2.1 bt459.2.2.2.1 bt459.2.2.2.2.1 bt459.2.2.2.2.2).bind fun t473 => (if t472 = t473 then (if t472 < 0 then (some true) else (if bt459.2.1.toList = bt459.2.2.2.2.2.toList then (laws_FnValueCount.j0 k bt459.1 bt459.2.2.2.2.2 t472 1 bt459.2.1 bt459.2.2.1 bt459.2.2.2.1 bt459.2.2.2.2.1) else (laws_FnValueCount.j0 k bt459.1 bt459.2.2.2.2.2 t472 0 bt459.2.1 bt459.2.2.1 bt459.2.2.2.1 bt459.2.2.2.2.1))) else (some false)))))) = some r:=h
 clear h
 by_cases c2 : (l0.length : Int) > 1048576
 ·rw [if_pos c2] at H
  have c2b0 : decide (1048576 < (l0.length : Int)) = true:=decide_eq_true c2
  have c2b1 : decide (1048576 < l0.length) = true:=decide_eq_true (by omega)
  clear c2
  obtain rfl:=Option.some.inj H
  go_enter Try.func4,Try.ntmps4
  go_wp2
  go_ret
  exact Up.e1 (Up.Bup HB)
 ·rw [if_neg c2] at H
  have c2b0 : decide (1048576 < (l0.length : Int)) = false:=decide_eq_false c2
  have c2b1 : decide (1048576 < l0.length) = false:=decide_eq_false (by omega)
  clear c2
  replace H:=Option.bind_eq_some_iff.mp H
  obtain ⟨⟨t459,t462,t463,t464,t467,t470⟩,A30,H⟩:=H
  replace H : ((impl_ValueCount.f k t459 t462 t463 t464 t467 t470).bind fun t472 => ((spec_ValueCount.f k t459 t462 t463 t464 t467 t470).bind fun t473 => (if t472 = t473 then (if t472 < 0 then (some true) else (if t462.toList = t470.toList then (laws_FnValueCount.j0 k t459 t470 t472 1 t462 t463 t464 t467) else (laws_FnValueCount.j0 k t459 t470 t472 0 t462 t463 t464 t467))) else (some false)))) = some r:=H
  have A3:=Aside0.mk A30
  clear A30
  replace H:=Option.bind_eq_some_iff.mp H
  obtain ⟨t472,A40,H⟩:=H
  replace H : ((spec_ValueCount.f k t459 t462 t463 t464 t467 t470).bind fun t473 => (if t472 = t473 then (if t472 < 0 then (some true) else (if t462.toList = t470.toList then (laws_FnValueCount.j0 k t459 t470 t472 1 t462 t463 t464 t467) else (laws_FnValueCount.j0 k t459 t470 t472 0 t462 t463 t464 t467))) else (some false))) = some r:=H
  have A4:=Aside0.mk A40
  clear A40
  replace H:=Option.bind_eq_some_iff.mp H
  obtain ⟨t473,A50,H⟩:=H
  replace H : (if t472 = t473 then (if t472 < 0 then (some true) else (if t462.toList = t470.toList then (laws_FnValueCount.j0 k t459 t470 t472 1 t462 t463 t464 t467) else (laws_FnValueCount.j0 k t459 t470 t472 0 t462 t463 t464 t467))) else (some false)) = some r:=H
  have A5:=Aside0.mk A50
  clear A50
  by_cases c6 : t472 = t473
  ·rw [if_pos c6] at H
   have c6b0 : (t472 == t473) = true:=beq_iff_eq.mpr c6
   have c6b1 : (t472 != t473) = false:=bne_eq_false_iff_eq.mpr c6
   clear c6
   by_cases c7 : t472 < 0
   ·rw [if_pos c7] at H
    have c7b0 : decide (t472 < 0) = true:=decide_eq_true c7
    clear c7
    obtain rfl:=Option.some.inj H
    go_enter Try.func4,Try.ntmps4
    go_wp2_with (first | ((with_reducible refine gate_callee (f:=15) rfl ?_);refine Up.gl (some 15) Try.func15 #[.slice A0 l0.length c0] ?_;(with_reducible refine (spec_DrawValueCount.calls k _ _ l0 t459 t462 t463 t464 t467 t470 _ ?side1 ?side2 A3.out).mono ?_);(case side1 => repeat (first | exact HR0.out | (with_reducible refine Kd.C_alloc ?_ _) | (with_reducible refine Kd.C_drewN ?_ _) | (with_reducible refine Kd.C_drew ?_)));(case side2 => exact HC0.out);rintro e w8 ⟨v460,v465,v468,rfl,ho0,ho1,ho2,hb⟩;refine ⟨_,rfl,?_⟩;have n0_:=Aside0.mk (Kd.N_lower (Kd.N_mono (ok':=fun k_ => True) ho0 (fun k_ hk_ => trivial)) (below_size (Up.Bup HB)));have n1_:=Aside0.mk (Kd.V_lower (Kd.V_mono (ok':=fun k_ => some k_ ≠ (v460 : Value).ownBlock) ho1 (fun k_ hk_ => hk_.2)) (below_size (Up.Bup HB)));have n2_:=Aside0.mk (Kd.V_lower (Kd.V_mono (ok':=fun k_ => some k_ ≠ (v460 : Value).ownBlock) ho2 (fun k_ hk_ => hk_.2)) (below_size (Up.Bup HB)));have n3_:=Up.BB HB hb;clear HB;have HO461:=n0_;have HO466:=n1_;have HO469:=n2_;have HB:=n3_;clear n0_ n1_ n2_ n3_;(try clear hb);(try clear hb2);(try clear hk);(try clear hi);(try clear ho0);(try clear ho1);(try clear ho2)) | ((with_reducible refine gate_dst (N:=4) rfl ?_);refine Up.bx 4 27 #[.string (⟨#[]⟩ : ByteArray),.int .i64 0,.slice none 0 0,.slice none 0 0] ?_;intro gb471 hg w9 hbox hb;have n0_:=Aside0.mk (Kd.N_below (Kd.N_elderB (Up.Nup HO461) gb471 (Nat.le_of_eq hg.symm)) hb);have n1_:=Aside0.mk (Kd.V_below (Kd.V_elderB (Up.Vup HO466) gb471 (Nat.le_of_eq hg.symm)) hb);have n2_:=Aside0.mk (Kd.V_below (Kd.V_elderB (Up.Vup HO469) gb471 (Nat.le_of_eq hg.symm)) hb);have n3_:=Up.BB HB hb;have n4_:=Aside0.mk (hbox);have n5_:=Up.gw hg HB;have n6_:=Up.gw hg HB;clear HO461 HO466 HO469 HB;have HO461:=n0_;have HO466:=n1_;have HO469:=n2_;have HB:=n3_;have BK471:=n4_;have GW471:=n5_;have GE471:=n6_;clear n0_ n1_ n2_ n3_ n4_ n5_ n6_ hb hbox hg;have hcz10_0:=Up.c0 BK471;have hcz10_1:=Up.c1 BK471;have hcz10_2:=Up.c2 BK471;have hcz10_3:=Up.c3 BK471;have hfz10_0:=blk_frozen BK471.out 0;have hfz10_1:=blk_frozen BK471.out 1;have hfz10_2:=blk_frozen BK471.out 2;have hfz10_3:=blk_frozen BK471.out 3;obtain ⟨Ao11,co11,eo11⟩:=Kd.V_slice HO466.out;subst eo11;obtain ⟨Ao12,co12,eo12⟩:=Kd.V_slice HO469.out;subst eo12;obtain ⟨Ao13,co13,eo13⟩:=Kd.N_slice HO461.out;subst eo13) | ((with_reducible refine gate_callee (f:=16) rfl ?_);refine Up.gl (some 22) Try.func16 #[.slice Ao13 t459.length co13,.agg #[.string t462,.int .i64 t463,.slice Ao11 t464.length co11,.slice Ao12 t467.length co12],.string t470] ?_;(with_reducible refine (impl_ValueCount.calls k _ _ t459 t462 t463 _ _ t464 _ _ t467 t470 t472 _ ?side1 ?side2 ?side3 ?side4 ?side5 ?side6 A4.out).mono ?_);(case side1 => refine (Kd.N_reads' (e:=82) (base:=w.heap.size) (ok:=fun k_ => (True ∧ k_ ≠ gb471)) (n:=t459.length) (c:=co13) ?_).2.2;exact (by (with_reducible repeat (first | apply Kd.N_alloc | apply Kd.N_drewN | apply Kd.N_drew));exact (Kd.N_mono (Kd.N_far (p:=⟨gb471,3,none⟩) (Kd.N_far (p:=⟨gb471,2,none⟩) (Kd.N_far (p:=⟨gb471,1,none⟩) (Kd.N_far (p:=⟨gb471,0,none⟩) (Kd.N_mono HO461.out (fun k_ hk => (⟨hk,hk.2⟩ : _ ∧ k_ ≠ gb471))) (fun _ hk => hk.2) (.string t462)) (fun _ hk => hk.2) (.int .i64 t463)) (fun _ hk => hk.2) (.slice Ao11 t464.length co11)) (fun _ hk => hk.2) (.slice Ao12 t467.length co12)) (fun _ h_ => h_.1))));(case side2 => exact (Kd.N_reads' HO461.out).2.1);(case side3 => refine (Kd.V_reads' (e:=27) (base:=w.heap.size) (ok:=fun k_ => (some k_ ≠ (.slice Ao13 t459.length co13 : Value).ownBlock ∧ k_ ≠ gb471)) (n:=t464.length) (c:=co11) ?_).2.2;exact (by (with_reducible repeat (first | apply Kd.V_alloc | apply Kd.V_drewN | apply Kd.V_drew));exact (Kd.V_mono (Kd.V_far (p:=⟨gb471,3,none⟩) (Kd.V_far (p:=⟨gb471,2,none⟩) (Kd.V_far (p:=⟨gb471,1,none⟩) (Kd.V_far (p:=⟨gb471,0,none⟩) (Kd.V_mono HO466.out (fun k_ hk => (⟨hk,hk.2⟩ : _ ∧ k_ ≠ gb471))) (fun _ hk => hk.2) (.string t462)) (fun _ hk => hk.2) (.int .i64 t463)) (fun _ hk => hk.2) (.slice Ao11 t464.length co11)) (fun _ hk => hk.2) (.slice Ao12 t467.length co12)) (fun _ h_ => h_.1))));(case side4 => exact (Kd.V_reads' HO466.out).2.1);(case side5 => refine (Kd.V_reads' (e:=3) (base:=w.heap.size) (ok:=fun k_ => (some k_ ≠ (.slice Ao13 t459.length co13 : Value).ownBlock ∧ k_ ≠ gb471)) (n:=t467.length) (c:=co12) ?_).2.2;exact (by (with_reducible repeat (first | apply Kd.V_alloc | apply Kd.V_drewN | apply Kd.V_drew));exact (Kd.V_mono (Kd.V_far (p:=⟨gb471,3,none⟩) (Kd.V_far (p:=⟨gb471,2,none⟩) (Kd.V_far (p:=⟨gb471,1,none⟩) (Kd.V_far (p:=⟨gb471,0,none⟩) (Kd.V_mono HO469.out (fun k_ hk => (⟨hk,hk.2⟩ : _ ∧ k_ ≠ gb471))) (fun _ hk => hk.2) (.string t462)) (fun _ hk => hk.2) (.int .i64 t463)) (fun _ hk => hk.2) (.slice Ao11 t464.length co11)) (fun _ hk => hk.2) (.slice Ao12 t467.length co12)) (fun _ h_ => h_.1))));(case side6 => exact (Kd.V_reads' HO469.out).2.1);rintro e w14 ⟨rfl,hb⟩;refine ⟨_,rfl,?_⟩;have n0_:=Aside0.mk (Kd.N_below (by (with_reducible repeat (first | apply Kd.N_alloc | apply Kd.N_drewN | apply Kd.N_drew));exact (Kd.N_mono (Kd.N_far (p:=⟨gb471,3,none⟩) (Kd.N_far (p:=⟨gb471,2,none⟩) (Kd.N_far (p:=⟨gb471,1,none⟩) (Kd.N_far (p:=⟨gb471,0,none⟩) (Kd.N_mono HO461.out (fun k_ hk => (⟨hk,hk.2⟩ : _ ∧ k_ ≠ gb471))) (fun _ hk => hk.2) (.string t462)) (fun _ hk => hk.2) (.int .i64 t463)) (fun _ hk => hk.2) (.slice Ao11 t464.length co11)) (fun _ hk => hk.2) (.slice Ao12 t467.length co12)) (fun _ h_ => h_.1))) hb);have n1_:=Aside0.mk (Kd.V_below (by (with_reducible repeat (first | apply Kd.V_alloc | apply Kd.V_drewN | apply Kd.V_drew));exact (Kd.V_mono (Kd.V_far (p:=⟨gb471,3,none⟩) (Kd.V_far (p:=⟨gb471,2,none⟩) (Kd.V_far (p:=⟨gb471,1,none⟩) (Kd.V_far (p:=⟨gb471,0,none⟩) (Kd.V_mono HO466.out (fun k_ hk => (⟨hk,hk.2⟩ : _ ∧ k_ ≠ gb471))) (fun _ hk => hk.2) (.string t462)) (fun _ hk => hk.2) (.int .i64 t463)) (fun _ hk => hk.2) (.slice Ao11 t464.length co11)) (fun _ hk => hk.2) (.slice Ao12 t467.length co12)) (fun _ h_ => h_.1))) hb);have n2_:=Aside0.mk (Kd.V_below (by (with_reducible repeat (first | apply Kd.V_alloc | apply Kd.V_drewN | apply Kd.V_drew));exact (Kd.V_mono (Kd.V_far (p:=⟨gb471,3,none⟩) (Kd.V_far (p:=⟨gb471,2,none⟩) (Kd.V_far (p:=⟨gb471,1,none⟩) (Kd.V_far (p:=⟨gb471,0,none⟩) (Kd.V_mono HO469.out (fun k_ hk => (⟨hk,hk.2⟩ : _ ∧ k_ ≠ gb471))) (fun _ hk => hk.2) (.string t462)) (fun _ hk => hk.2) (.int .i64 t463)) (fun _ hk => hk.2) (.slice Ao11 t464.length co11)) (fun _ hk => hk.2) (.slice Ao12 t467.length co12)) (fun _ h_ => h_.1))) hb);have n3_:=Aside0.mk (blk_below (g:=gb471) (o:=.cells #[.string t462,.int .i64 t463,.slice Ao11 t464.length co11,.slice Ao12 t467.length co12] 27 (0,0)) (Up.Kx BK471) hb);have n4_:=Aside0.mk (below_step (Up.Bx HB) hb);clear HO461 HO466 HO469 BK471 HB;have HO461:=n0_;have HO466:=n1_;have HO469:=n2_;have BK471:=n3_;have HB:=n4_;clear n0_ n1_ n2_ n3_ n4_;(try clear hb);(try clear hb2);(try clear hk);(try clear hi);have hcz15_0:=Up.c0 BK471;have hcz15_1:=Up.c1 BK471;have hcz15_2:=Up.c2 BK471;have hcz15_3:=Up.c3 BK471;have hfz15_0:=blk_frozen BK471.out 0;have hfz15_1:=blk_frozen BK471.out 1;have hfz15_2:=blk_frozen BK471.out 2;have hfz15_3:=blk_frozen BK471.out 3) | ((with_reducible refine gate_callee (f:=17) rfl ?_);refine Up.gl (some 26) Try.func17 #[.slice Ao13 t459.length co13,.agg #[.string t462,.int .i64 t463,.slice Ao11 t464.length co11,.slice Ao12 t467.length co12],.string t470] ?_;(with_reducible refine (spec_ValueCount.calls k _ _ t459 t462 t463 _ _ t464 _ _ t467 t470 t473 _ ?side1 ?side2 ?side3 ?side4 ?side5 ?side6 A5.out).mono ?_);(case side1 => repeat (first | exact (Kd.N_reads' HO461.out).2.2 | (with_reducible refine Kd.C_alloc ?_ _) | (with_reducible refine Kd.C_drewN ?_ _) | (with_reducible refine Kd.C_drew ?_)));(case side2 => exact (Kd.N_reads' HO461.out).2.1);(case side3 => repeat (first | exact (Kd.V_reads' HO466.out).2.2 | (with_reducible refine Kd.C_alloc ?_ _) | (with_reducible refine Kd.C_drewN ?_ _) | (with_reducible refine Kd.C_drew ?_)));(case side4 => exact (Kd.V_reads' HO466.out).2.1);(case side5 => repeat (first | exact (Kd.V_reads' HO469.out).2.2 | (with_reducible refine Kd.C_alloc ?_ _) | (with_reducible refine Kd.C_drewN ?_ _) | (with_reducible refine Kd.C_drew ?_)));(case side6 => exact (Kd.V_reads' HO469.out).2.1);rintro e w16 ⟨rfl,hb⟩;refine ⟨_,rfl,?_⟩;have n0_:=Up.NB HO461 hb;have n1_:=Up.VB HO466 hb;have n2_:=Up.VB HO469 hb;have n3_:=Up.KB BK471 hb;have n4_:=Aside0.mk (below_step (Up.Bx HB) hb);clear HO461 HO466 HO469 BK471 HB;have HO461:=n0_;have HO466:=n1_;have HO469:=n2_;have BK471:=n3_;have HB:=n4_;clear n0_ n1_ n2_ n3_ n4_;(try clear hb);(try clear hb2);(try clear hk);(try clear hi)))
    go_ret
    exact Up.e1 (Up.Bx HB)
   ·rw [if_neg c7] at H
    have c7b0 : decide (t472 < 0) = false:=decide_eq_false c7
    clear c7
    have HC17:=Aside0.mk H
    clear H
    go_enter Try.func4,Try.ntmps4
    go_upto_if 35 with (first | ((with_reducible refine gate_callee (f:=15) rfl ?_);refine Up.gl (some 15) Try.func15 #[.slice A0 l0.length c0] ?_;(with_reducible refine (spec_DrawValueCount.calls k _ _ l0 t459 t462 t463 t464 t467 t470 _ ?side1 ?side2 A3.out).mono ?_);(case side1 => repeat (first | exact HR0.out | (with_reducible refine Kd.C_alloc ?_ _) | (with_reducible refine Kd.C_drewN ?_ _) | (with_reducible refine Kd.C_drew ?_)));(case side2 => exact HC0.out);rintro e w18 ⟨v460,v465,v468,rfl,ho0,ho1,ho2,hb⟩;refine ⟨_,rfl,?_⟩;have n0_:=Aside0.mk (Kd.N_lower (Kd.N_mono (ok':=fun k_ => True) ho0 (fun k_ hk_ => trivial)) (below_size (Up.Bup HB)));have n1_:=Aside0.mk (Kd.V_lower (Kd.V_mono (ok':=fun k_ => some k_ ≠ (v460 : Value).ownBlock) ho1 (fun k_ hk_ => hk_.2)) (below_size (Up.Bup HB)));have n2_:=Aside0.mk (Kd.V_lower (Kd.V_mono (ok':=fun k_ => some k_ ≠ (v460 : Value).ownBlock) ho2 (fun k_ hk_ => hk_.2)) (below_size (Up.Bup HB)));have n3_:=Up.BB HB hb;clear HB;have HO461:=n0_;have HO466:=n1_;have HO469:=n2_;have HB:=n3_;clear n0_ n1_ n2_ n3_;(try clear hb);(try clear hb2);(try clear hk);(try clear hi);(try clear ho0);(try clear ho1);(try clear ho2)) | ((with_reducible refine gate_dst (N:=4) rfl ?_);refine Up.bx 4 27 #[.string (⟨#[]⟩ : ByteArray),.int .i64 0,.slice none 0 0,.slice none 0 0] ?_;intro gb471 hg w19 hbox hb;have n0_:=Aside0.mk (Kd.N_below (Kd.N_elderB (Up.Nup HO461) gb471 (Nat.le_of_eq hg.symm)) hb);have n1_:=Aside0.mk (Kd.V_below (Kd.V_elderB (Up.Vup HO466) gb471 (Nat.le_of_eq hg.symm)) hb);have n2_:=Aside0.mk (Kd.V_below (Kd.V_elderB (Up.Vup HO469) gb471 (Nat.le_of_eq hg.symm)) hb);have n3_:=Up.BB HB hb;have n4_:=Aside0.mk (hbox);have n5_:=Up.gw hg HB;have n6_:=Up.gw hg HB;clear HO461 HO466 HO469 HB;have HO461:=n0_;have HO466:=n1_;have HO469:=n2_;have HB:=n3_;have BK471:=n4_;have GW471:=n5_;have GE471:=n6_;clear n0_ n1_ n2_ n3_ n4_ n5_ n6_ hb hbox hg;have hcz20_0:=Up.c0 BK471;have hcz20_1:=Up.c1 BK471;have hcz20_2:=Up.c2 BK471;have hcz20_3:=Up.c3 BK471;have hfz20_0:=blk_frozen BK471.out 0;have hfz20_1:=blk_frozen BK471.out 1;have hfz20_2:=blk_frozen BK471.out 2;have hfz20_3:=blk_frozen BK471.out 3;obtain ⟨Ao21,co21,eo21⟩:=Kd.V_slice HO466.out;subst eo21;obtain ⟨Ao22,co22,eo22⟩:=Kd.V_slice HO469.out;subst eo22;obtain ⟨Ao23,co23,eo23⟩:=Kd.N_slice HO461.out;subst eo23) | ((with_reducible refine gate_callee (f:=16) rfl ?_);refine Up.gl (some 22) Try.func16 #[.slice Ao23 t459.length co23,.agg #[.string t462,.int .i64 t463,.slice Ao21 t464.length co21,.slice Ao22 t467.length co22],.string t470] ?_;(with_reducible refine (impl_ValueCount.calls k _ _ t459 t462 t463 _ _ t464 _ _ t467 t470 t472 _ ?side1 ?side2 ?side3 ?side4 ?side5 ?side6 A4.out).mono ?_);(case side1 => refine (Kd.N_reads' (e:=82) (base:=w.heap.size) (ok:=fun k_ => (True ∧ k_ ≠ gb471)) (n:=t459.length) (c:=co23) ?_).2.2;exact (by (with_reducible repeat (first | apply Kd.N_alloc | apply Kd.N_drewN | apply Kd.N_drew));exact (Kd.N_mono (Kd.N_far (p:=⟨gb471,3,none⟩) (Kd.N_far (p:=⟨gb471,2,none⟩) (Kd.N_far (p:=⟨gb471,1,none⟩) (Kd.N_far (p:=⟨gb471,0,none⟩) (Kd.N_mono HO461.out (fun k_ hk => (⟨hk,hk.2⟩ : _ ∧ k_ ≠ gb471))) (fun _ hk => hk.2) (.string t462)) (fun _ hk => hk.2) (.int .i64 t463)) (fun _ hk => hk.2) (.slice Ao21 t464.length co21)) (fun _ hk => hk.2) (.slice Ao22 t467.length co22)) (fun _ h_ => h_.1))));(case side2 => exact (Kd.N_reads' HO461.out).2.1);(case side3 => refine (Kd.V_reads' (e:=27) (base:=w.heap.size) (ok:=fun k_ => (some k_ ≠ (.slice Ao23 t459.length co23 : Value).ownBlock ∧ k_ ≠ gb471)) (n:=t464.length) (c:=co21) ?_).2.2;exact (by (with_reducible repeat (first | apply Kd.V_alloc | apply Kd.V_drewN | apply Kd.V_drew));exact (Kd.V_mono (Kd.V_far (p:=⟨gb471,3,none⟩) (Kd.V_far (p:=⟨gb471,2,none⟩) (Kd.V_far (p:=⟨gb471,1,none⟩) (Kd.V_far (p:=⟨gb471,0,none⟩) (Kd.V_mono HO466.out (fun k_ hk => (⟨hk,hk.2⟩ : _ ∧ k_ ≠ gb471))) (fun _ hk => hk.2) (.string t462)) (fun _ hk => hk.2) (.int .i64 t463)) (fun _ hk => hk.2) (.slice Ao21 t464.length co21)) (fun _ hk => hk.2) (.slice Ao22 t467.length co22)) (fun _ h_ => h_.1))));(case side4 => exact (Kd.V_reads' HO466.out).2.1);(case side5 => refine (Kd.V_reads' (e:=3) (base:=w.heap.size) (ok:=fun k_ => (some k_ ≠ (.slice Ao23 t459.length co23 : Value).ownBlock ∧ k_ ≠ gb471)) (n:=t467.length) (c:=co22) ?_).2.2;exact (by (with_reducible repeat (first | apply Kd.V_alloc | apply Kd.V_drewN | apply Kd.V_drew));exact (Kd.V_mono (Kd.V_far (p:=⟨gb471,3,none⟩) (Kd.V_far (p:=⟨gb471,2,none⟩) (Kd.V_far (p:=⟨gb471,1,none⟩) (Kd.V_far (p:=⟨gb471,0,none⟩) (Kd.V_mono HO469.out (fun k_ hk => (⟨hk,hk.2⟩ : _ ∧ k_ ≠ gb471))) (fun _ hk => hk.2) (.string t462)) (fun _ hk => hk.2) (.int .i64 t463)) (fun _ hk => hk.2) (.slice Ao21 t464.length co21)) (fun _ hk => hk.2) (.slice Ao22 t467.length co22)) (fun _ h_ => h_.1))));(case side6 => exact (Kd.V_reads' HO469.out).2.1);rintro e w24 ⟨rfl,hb⟩;refine ⟨_,rfl,?_⟩;have n0_:=Aside0.mk (Kd.N_below (by (with_reducible repeat (first | apply Kd.N_alloc | apply Kd.N_drewN | apply Kd.N_drew));exact (Kd.N_mono (Kd.N_far (p:=⟨gb471,3,none⟩) (Kd.N_far (p:=⟨gb471,2,none⟩) (Kd.N_far (p:=⟨gb471,1,none⟩) (Kd.N_far (p:=⟨gb471,0,none⟩) (Kd.N_mono HO461.out (fun k_ hk => (⟨hk,hk.2⟩ : _ ∧ k_ ≠ gb471))) (fun _ hk => hk.2) (.string t462)) (fun _ hk => hk.2) (.int .i64 t463)) (fun _ hk => hk.2) (.slice Ao21 t464.length co21)) (fun _ hk => hk.2) (.slice Ao22 t467.length co22)) (fun _ h_ => h_.1))) hb);have n1_:=Aside0.mk (Kd.V_below (by (with_reducible repeat (first | apply Kd.V_alloc | apply Kd.V_drewN | apply Kd.V_drew));exact (Kd.V_mono (Kd.V_far (p:=⟨gb471,3,none⟩) (Kd.V_far (p:=⟨gb471,2,none⟩) (Kd.V_far (p:=⟨gb471,1,none⟩) (Kd.V_far (p:=⟨gb471,0,none⟩) (Kd.V_mono HO466.out (fun k_ hk => (⟨hk,hk.2⟩ : _ ∧ k_ ≠ gb471))) (fun _ hk => hk.2) (.string t462)) (fun _ hk => hk.2) (.int .i64 t463)) (fun _ hk => hk.2) (.slice Ao21 t464.length co21)) (fun _ hk => hk.2) (.slice Ao22 t467.length co22)) (fun _ h_ => h_.1))) hb);have n2_:=Aside0.mk (Kd.V_below (by (with_reducible repeat (first | apply Kd.V_alloc | apply Kd.V_drewN | apply Kd.V_drew));exact (Kd.V_mono (Kd.V_far (p:=⟨gb471,3,none⟩) (Kd.V_far (p:=⟨gb471,2,none⟩) (Kd.V_far (p:=⟨gb471,1,none⟩) (Kd.V_far (p:=⟨gb471,0,none⟩) (Kd.V_mono HO469.out (fun k_ hk => (⟨hk,hk.2⟩ : _ ∧ k_ ≠ gb471))) (fun _ hk => hk.2) (.string t462)) (fun _ hk => hk.2) (.int .i64 t463)) (fun _ hk => hk.2) (.slice Ao21 t464.length co21)) (fun _ hk => hk.2) (.slice Ao22 t467.length co22)) (fun _ h_ => h_.1))) hb);have n3_:=Aside0.mk (blk_below (g:=gb471) (o:=.cells #[.string t462,.int .i64 t463,.slice Ao21 t464.length co21,.slice Ao22 t467.length co22] 27 (0,0)) (Up.Kx BK471) hb);have n4_:=Aside0.mk (below_step (Up.Bx HB) hb);clear HO461 HO466 HO469 BK471 HB;have HO461:=n0_;have HO466:=n1_;have HO469:=n2_;have BK471:=n3_;have HB:=n4_;clear n0_ n1_ n2_ n3_ n4_;(try clear hb);(try clear hb2);(try clear hk);(try clear hi);have hcz25_0:=Up.c0 BK471;have hcz25_1:=Up.c1 BK471;have hcz25_2:=Up.c2 BK471;have hcz25_3:=Up.c3 BK471;have hfz25_0:=blk_frozen BK471.out 0;have hfz25_1:=blk_frozen BK471.out 1;have hfz25_2:=blk_frozen BK471.out 2;have hfz25_3:=blk_frozen BK471.out 3) | ((with_reducible refine gate_callee (f:=17) rfl ?_);refine Up.gl (some 26) Try.func17 #[.slice Ao23 t459.length co23,.agg #[.string t462,.int .i64 t463,.slice Ao21 t464.length co21,.slice Ao22 t467.length co22],.string t470] ?_;(with_reducible refine (spec_ValueCount.calls k _ _ t459 t462 t463 _ _ t464 _ _ t467 t470 t473 _ ?side1 ?side2 ?side3 ?side4 ?side5 ?side6 A5.out).mono ?_);(case side1 => repeat (first | exact (Kd.N_reads' HO461.out).2.2 | (with_reducible refine Kd.C_alloc ?_ _) | (with_reducible refine Kd.C_drewN ?_ _) | (with_reducible refine Kd.C_drew ?_)));(case side2 => exact (Kd.N_reads' HO461.out).2.1);(case side3 => repeat (first | exact (Kd.V_reads' HO466.out).2.2 | (with_reducible refine Kd.C_alloc ?_ _) | (with_reducible refine Kd.C_drewN ?_ _) | (with_reducible refine Kd.C_drew ?_)));(case side4 => exact (Kd.V_reads' HO466.out).2.1);(case side5 => repeat (first | exact (Kd.V_reads' HO469.out).2.2 | (with_reducible refine Kd.C_alloc ?_ _) | (with_reducible refine Kd.C_drewN ?_ _) | (with_reducible refine Kd.C_drew ?_)));(case side6 => exact (Kd.V_reads' HO469.out).2.1);rintro e w26 ⟨rfl,hb⟩;refine ⟨_,rfl,?_⟩;have n0_:=Up.NB HO461 hb;have n1_:=Up.VB HO466 hb;have n2_:=Up.VB HO469 hb;have n3_:=Up.KB BK471 hb;have n4_:=Aside0.mk (below_step (Up.Bx HB) hb);clear HO461 HO466 HO469 BK471 HB;have HO461:=n0_;have HO466:=n1_;have HO469:=n2_;have BK471:=n3_;have HB:=n4_;clear n0_ n1_ n2_ n3_ n4_;(try clear hb);(try clear hb2);(try clear hk);(try clear hi);have hcz27_0:=Up.c0 BK471;have hcz27_1:=Up.c1 BK471;have hcz27_2:=Up.c2 BK471;have hcz27_3:=Up.c3 BK471;have hfz27_0:=blk_frozen BK471.out 0;have hfz27_1:=blk_frozen BK471.out 1;have hfz27_2:=blk_frozen BK471.out 2;have hfz27_3:=blk_frozen BK471.out 3))
    (try simp only [Act.put,List.setIfInBounds_toArray,List.set_cons_zero,List.set_cons_succ])
    go_cut [8] (fun v8 wc => ∃ (kq : Nat) (x8_16 : Int),v8 = .int .i64 x8_16 ∧ Aside0 (laws_FnValueCount.j0 kq t459 t470 t472 x8_16 t462 t463 t464 t467 = some r) ∧ Aside0 (kq ≤ k) ∧ Aside0 (Kd.N (Kd.slice 113 k113) 82 wc w.heap.size (fun k_ => k_ ≠ gb471) (.slice Ao23 t459.length co23) t459) ∧ Aside0 (Kd.V k27 27 wc w.heap.size (fun k_ => some k_ ≠ ((.slice Ao23 t459.length co23) : Value).ownBlock ∧ k_ ≠ gb471) (.slice Ao21 t464.length co21) t464) ∧ Aside0 (Kd.V (Kd.int .i64) 3 wc w.heap.size (fun k_ => some k_ ≠ ((.slice Ao23 t459.length co23) : Value).ownBlock ∧ k_ ≠ gb471) (.slice Ao22 t467.length co22) t467) ∧ Aside0 (wc.heap[gb471]? = some (.cells #[.string t462,.int .i64 t463,(.slice Ao21 t464.length co21),(.slice Ao22 t467.length co22)] 27 (0,0))) ∧ Aside0 (Below w.heap.size w wc))
    case first =>
     have H:=HC17.out
     clear HC17
     by_cases c28 : t462.toList = t470.toList
     ·rw [if_pos c28] at H
      have c28b0 : (t462.toList == t470.toList) = true:=beq_iff_eq.mpr c28
      have c28b1 : (t462.toList != t470.toList) = false:=bne_eq_false_iff_eq.mpr c28
      clear c28
      (first | rw [c28b0] | (simp only [i64_w,i32_w];rw [c28b0]) | skip)
      have H':=Aside0.mk H
      clear H
      go_wp2
      go_meet
      case rel => exact ⟨_,(1),(by first | rfl | (simp;done) | (simp [*];done)),H',⟨by first | omega | exact Nat.le_refl _⟩,⟨by (with_reducible repeat (first | apply Kd.N_alloc | apply Kd.N_drewN | apply Kd.N_drew));exact Kd.N_mono HO461.out (fun _ hk => hk.2)⟩,⟨Up.Vup HO466⟩,⟨Up.Vup HO469⟩,⟨by (with_reducible repeat (first | refine blk_drewN ?_ _ | refine blk_drew ?_ | refine blk_alloc ?_ _));exact BK471.out⟩,⟨Up.Bx HB⟩⟩
     ·rw [if_neg c28] at H
      have c28b0 : (t462.toList == t470.toList) = false:=beq_eq_false_iff_ne.mpr c28
      have c28b1 : (t462.toList != t470.toList) = true:=bne_iff_ne.mpr c28
      (first | rw [c28b0] | (simp only [i64_w,i32_w];rw [c28b0]) | skip)
      have H':=Aside0.mk H
      clear H
      go_wp2
      go_meet
      case rel => exact ⟨_,(0),(by first | rfl | (simp;done) | (simp [*];done)),H',⟨by first | omega | exact Nat.le_refl _⟩,⟨by (with_reducible repeat (first | apply Kd.N_alloc | apply Kd.N_drewN | apply Kd.N_drew));exact Kd.N_mono HO461.out (fun _ hk => hk.2)⟩,⟨Up.Vup HO466⟩,⟨Up.Vup HO469⟩,⟨by (with_reducible repeat (first | refine blk_drewN ?_ _ | refine blk_drew ?_ | refine blk_alloc ?_ _));exact BK471.out⟩,⟨Up.Bx HB⟩⟩
    case rest =>
     clear HC17
     try clear c1
     try clear c2
     try clear c2b0
     try clear c2b1
     try clear p2
     try clear c4
     try clear c6
     try clear c6b0
     try clear c6b1
     try clear c7
     try clear c7b0
     try clear c15
     try clear c16
     try clear c17
     try clear c28
     try clear c28b0
     try clear c28b1
     try clear hcz10_0
     try clear hcz10_1
     try clear hcz10_2
     try clear hcz10_3
     try clear hcz15_0
     try clear hcz15_1
     try clear hcz15_2
     try clear hcz15_3
     try clear hcz20_0
     try clear hcz20_1
     try clear hcz20_2
     try clear hcz20_3
     try clear hcz25_0
     try clear hcz25_1
     try clear hcz25_2
     try clear hcz25_3
     try clear hcz27_0
     try clear hcz27_1
     try clear hcz27_2
     try clear hcz27_3
     try clear hfz10_0
     try clear hfz10_1
     try clear hfz10_2
     try clear hfz10_3
     try clear hfz15_0
     try clear hfz15_1
     try clear hfz15_2
     try clear hfz15_3
     try clear hfz20_0
     try clear hfz20_1
     try clear hfz20_2
     try clear hfz20_3
     try clear hfz25_0
     try clear hfz25_1
     try clear hfz25_2
     try clear hfz25_3
     try clear hfz27_0
     try clear hfz27_1
     try clear hfz27_2
     try clear hfz27_3
     obtain ⟨kq,x8_16,rfl,HA,HJ16,HO_3,HO_472002,HO_472003,BK471,HB⟩:=hcut
     cases kq with
     | zero => exact absurd HA.out (by simp [laws_FnValueCount.j0])
     | succ kj16 =>
      have H:=HA.out
      clear HA
      simp only [laws_FnValueCount.j0] at H
      have H':=Aside0.mk H
      clear H
      go_wp2
      go_loopg [8,9] kj16 (fun kq v8 v9 w' => ∃ (x8_2 : Int) (x9_2 : Int),v8 = .int .i64 x8_2 ∧ v9 = .int .i64 x9_2 ∧ Aside0 (laws_FnValueCount.l0 kq t459 t470 t472 x8_2 x9_2 t462 t463 t464 t467 = some r) ∧ Aside0 (kq ≤ kj16) ∧ Aside0 (Kd.N (Kd.slice 113 k113) 82 w' w.heap.size (fun k_ => k_ ≠ gb471) (.slice Ao23 t459.length co23) t459) ∧ Aside0 (Kd.V k27 27 w' w.heap.size (fun k_ => some k_ ≠ ((.slice Ao23 t459.length co23) : Value).ownBlock ∧ k_ ≠ gb471) (.slice Ao21 t464.length co21) t464) ∧ Aside0 (Kd.V (Kd.int .i64) 3 w' w.heap.size (fun k_ => some k_ ≠ ((.slice Ao23 t459.length co23) : Value).ownBlock ∧ k_ ≠ gb471) (.slice Ao22 t467.length co22) t467) ∧ Aside0 (w'.heap[gb471]? = some (.cells #[.string t462,.int .i64 t463,(.slice Ao21 t464.length co21),(.slice Ao22 t467.length co22)] 27 (0,0))) ∧ Aside0 (Below w.heap.size w w'))
      case atStart => exact ⟨(x8_16),(0),(by first | rfl | (simp;done) | (simp [*];done)),(by first | rfl | (simp;done) | (simp [*];done)),H',⟨Nat.le_refl _⟩,⟨Up.Nup HO_3⟩,⟨Up.Vup HO_472002⟩,⟨Up.Vup HO_472003⟩,⟨by (with_reducible repeat (first | refine blk_drewN ?_ _ | refine blk_drew ?_ | refine blk_alloc ?_ _));exact BK471.out⟩,⟨Up.Bx HB⟩⟩
      case round =>
       clear H'
       try clear c1
       try clear c2
       try clear c2b0
       try clear c2b1
       try clear p2
       try clear c4
       try clear c6
       try clear c6b0
       try clear c6b1
       try clear c7
       try clear c7b0
       try clear c15
       try clear c16
       try clear c17
       try clear c28
       try clear c28b0
       try clear c28b1
       try clear hcz10_0
       try clear hcz10_1
       try clear hcz10_2
       try clear hcz10_3
       try clear hcz15_0
       try clear hcz15_1
       try clear hcz15_2
       try clear hcz15_3
       try clear hcz20_0
       try clear hcz20_1
       try clear hcz20_2
       try clear hcz20_3
       try clear hcz25_0
       try clear hcz25_1
       try clear hcz25_2
       try clear hcz25_3
       try clear hcz27_0
       try clear hcz27_1
       try clear hcz27_2
       try clear hcz27_3
       try clear hfz10_0
       try clear hfz10_1
       try clear hfz10_2
       try clear hfz10_3
       try clear hfz15_0
       try clear hfz15_1
       try clear hfz15_2
       try clear hfz15_3
       try clear hfz20_0
       try clear hfz20_1
       try clear hfz20_2
       try clear hfz20_3
       try clear hfz25_0
       try clear hfz25_1
       try clear hfz25_2
       try clear hfz25_3
       try clear hfz27_0
       try clear hfz27_1
       try clear hfz27_2
       try clear hfz27_3
       try clear p2
       obtain ⟨x8_2,x9_2,rfl,rfl,HA,HK2,HO_3,HO_472002,HO_472003,BK471,HB⟩:=hrel
       cases gk with
       | zero => exact absurd HA.out (by simp [laws_FnValueCount.l0])
       | succ k2 =>
        have H:=HA.out
        clear HA
        simp only [laws_FnValueCount.l0] at H
        by_cases c29 : x9_2 < (t464.length : Int)
        ·rw [if_pos c29] at H
         have c29b0 : decide (x9_2 < (t464.length : Int)) = true:=decide_eq_true c29
         clear c29
         by_cases c30 : 0 ≤ x9_2
         ·rw [if_pos c30] at H
          have c30b0 : decide (0 ≤ x9_2) = true:=decide_eq_true c30
          clear c30
          replace H:=Option.bind_eq_some_iff.mp H
          obtain ⟨t475,A310,H⟩:=H
          replace H : (laws_FnValueCount.l0 k2 t459 t470 t472 (wrap64 (x8_2 + t475)) (wrap64 (x9_2 + 1)) t462 t463 t464 t467) = some r:=H
          have A31:=Aside0.mk A310
          clear A310
          have H':=Aside0.mk H
          clear H
          have hcz32_0:=Up.c0 BK471
          have hcz32_1:=Up.c1 BK471
          have hcz32_2:=Up.c2 BK471
          have hcz32_3:=Up.c3 BK471
          have hfz32_0:=blk_frozen BK471.out 0
          have hfz32_1:=blk_frozen BK471.out 1
          have hfz32_2:=blk_frozen BK471.out 2
          have hfz32_3:=blk_frozen BK471.out 3
          have p474 : 0 ≤ (x9_2 : Int):=Up.od
          have q474 : x9_2 < (t464.length : Int):=Up.od
          obtain ⟨ad474,A474_2,c474_2,A474_3,c474_3,e474,hx474_0,hx474_1,hx474_2,hx474_3,hl474_2,hi474_2,hl474_3,hi474_3⟩:=at_T27 (Kd.V_reads' HO_472002.out).2.2 x9_2 p474 q474
          cases e474
          obtain ⟨ce474,hce474,hMe474,hcc474⟩:=Kd.V_get HO_472002.out z27 x9_2 p474 (by first | exact q474 | exact Up.od | (have e_:=(Kd.V_reads' HO_472002.out).1;omega))
          obtain ⟨ua474_2,uc474_2,ua474_3,uc474_3,rfl,ul474_2,ge474_2,ul474_3,ge474_3⟩:=k27_openF hMe474
          have hv474_2:=hcc474 2 _ rfl
          rw [add_field _ _ 2 (by omega)] at hv474_2
          replace hv474_2:=Option.some.inj (hv474_2.symm.trans hx474_2)
          injection hv474_2 with hva_ hvn_ hvc_
          rw [hva_] at ge474_2
          rw [hvc_] at ul474_2
          have HL474_2:=Aside0.mk (show Kd.V k27 27 _ w.heap.size _ _ ((rd_T27 t464 x9_2).f2) from Kd.V_mk ul474_2 ge474_2)
          clear hva_ hvn_ hvc_ ge474_2 ul474_2
          have hv474_3:=hcc474 3 _ rfl
          rw [add_field _ _ 3 (by omega)] at hv474_3
          replace hv474_3:=Option.some.inj (hv474_3.symm.trans hx474_3)
          injection hv474_3 with hva_ hvn_ hvc_
          rw [hva_] at ge474_3
          rw [hvc_] at ul474_3
          have HL474_3:=Aside0.mk (show Kd.V (Kd.int .i64) 3 _ w.heap.size _ _ ((rd_T27 t464 x9_2).f3) from Kd.V_mk ul474_3 ge474_3)
          clear hva_ hvn_ hvc_ ge474_3 ul474_3
          clear hcc474 hce474
          have HR474_2:=Aside0.mk hi474_2
          have HC474_2:=Aside0.mk hl474_2
          clear hi474_2 hl474_2
          have HR474_3:=Aside0.mk hi474_3
          have HC474_3:=Aside0.mk hl474_3
          clear hi474_3 hl474_3
          replace p474:=eq_true p474
          replace q474:=eq_true q474
          go_wp2_with (first | ((with_reducible refine gate_callee (f:=16) rfl ?_);refine Up.gl (some 51) Try.func16 #[.slice Ao23 t459.length co23,.agg #[.string ((rd_T27 t464 x9_2).f0),.int .i64 ((rd_T27 t464 x9_2).f1),.slice A474_2 ((rd_T27 t464 x9_2).f2).length c474_2,.slice A474_3 ((rd_T27 t464 x9_2).f3).length c474_3],.string t470] ?_;(with_reducible refine (impl_ValueCount.calls k2 _ _ t459 ((rd_T27 t464 x9_2).f0) ((rd_T27 t464 x9_2).f1) _ _ ((rd_T27 t464 x9_2).f2) _ _ ((rd_T27 t464 x9_2).f3) t470 t475 _ ?side1 ?side2 ?side3 ?side4 ?side5 ?side6 A31.out).mono ?_);(case side1 => repeat (first | exact (Kd.N_reads' HO_3.out).2.2 | (with_reducible refine Kd.C_alloc ?_ _) | (with_reducible refine Kd.C_drewN ?_ _) | (with_reducible refine Kd.C_drew ?_)));(case side2 => exact (Kd.N_reads' HO_3.out).2.1);(case side3 => repeat (first | exact (by repeat (first | (with_reducible exact HR474_2.out) | (with_reducible refine Kd.C_alloc ?_ _) | (with_reducible refine Kd.C_drewN ?_ _) | (with_reducible refine Kd.C_drew ?_) | exact HR474_2.out)) | (with_reducible refine Kd.C_alloc ?_ _) | (with_reducible refine Kd.C_drewN ?_ _) | (with_reducible refine Kd.C_drew ?_)));(case side4 => exact HC474_2.out);(case side5 => repeat (first | exact (by repeat (first | (with_reducible exact HR474_3.out) | (with_reducible refine Kd.C_alloc ?_ _) | (with_reducible refine Kd.C_drewN ?_ _) | (with_reducible refine Kd.C_drew ?_) | exact HR474_3.out)) | (with_reducible refine Kd.C_alloc ?_ _) | (with_reducible refine Kd.C_drewN ?_ _) | (with_reducible refine Kd.C_drew ?_)));(case side6 => exact HC474_3.out);rintro e w33 ⟨rfl,hb⟩;refine ⟨_,rfl,?_⟩;have n0_:=Up.NB HO_3 hb;have n1_:=Up.VB HO_472002 hb;have n2_:=Up.VB HO_472003 hb;have n3_:=Up.VB HL474_2 hb;have n4_:=Up.VB HL474_3 hb;have n5_:=Up.KB BK471 hb;have n6_:=Aside0.mk (Kd.C_below (by repeat (first | (with_reducible exact HR474_2.out) | (with_reducible refine Kd.C_alloc ?_ _) | (with_reducible refine Kd.C_drewN ?_ _) | (with_reducible refine Kd.C_drew ?_) | exact HR474_2.out)) hb);have n7_:=Aside0.mk (Kd.C_below (by repeat (first | (with_reducible exact HR474_3.out) | (with_reducible refine Kd.C_alloc ?_ _) | (with_reducible refine Kd.C_drewN ?_ _) | (with_reducible refine Kd.C_drew ?_) | exact HR474_3.out)) hb);have n8_:=Aside0.mk (below_step (Up.Bx HB) hb);clear HO_3 HO_472002 HO_472003 HL474_2 HL474_3 BK471 HR474_2 HR474_3 HB;have HO_3:=n0_;have HO_472002:=n1_;have HO_472003:=n2_;have HL474_2:=n3_;have HL474_3:=n4_;have BK471:=n5_;have HR474_2:=n6_;have HR474_3:=n7_;have HB:=n8_;clear n0_ n1_ n2_ n3_ n4_ n5_ n6_ n7_ n8_;(try clear hb);(try clear hb2);(try clear hk);(try clear hi)))
          go_roundg k2
          case measure => have:=HJ16.out;have:=HK2.out;omega
          case rel => exact ⟨(wrap64 (x8_2 + t475)),(wrap64 (x9_2 + 1)),(by first | rfl | (simp;done) | (simp [*];done)),(by first | rfl | (simp;done) | (simp [*];done)),H',⟨by have:=HJ16.out;have:=HK2.out;omega⟩,⟨Up.Nup HO_3⟩,⟨Up.Vup HO_472002⟩,⟨Up.Vup HO_472003⟩,⟨by (with_reducible repeat (first | refine blk_drewN ?_ _ | refine blk_drew ?_ | refine blk_alloc ?_ _));exact BK471.out⟩,⟨Up.Bx HB⟩⟩
         ·rw [if_neg c30] at H
          exact absurd H (by simp)
        ·rw [if_neg c29] at H
         have c29b0 : decide (x9_2 < (t464.length : Int)) = false:=decide_eq_false c29
         clear c29
         obtain rfl:=Option.some.inj H
         have hcz34_0:=Up.c0 BK471
         have hcz34_1:=Up.c1 BK471
         have hcz34_2:=Up.c2 BK471
         have hcz34_3:=Up.c3 BK471
         have hfz34_0:=blk_frozen BK471.out 0
         have hfz34_1:=blk_frozen BK471.out 1
         have hfz34_2:=blk_frozen BK471.out 2
         have hfz34_3:=blk_frozen BK471.out 3
         go_wp2
         go_ret
         exact Up.e1 (Up.Bx HB)
  ·rw [if_neg c6] at H
   have c6b0 : (t472 == t473) = false:=beq_eq_false_iff_ne.mpr c6
   have c6b1 : (t472 != t473) = true:=bne_iff_ne.mpr c6
   obtain rfl:=Option.some.inj H
   go_enter Try.func4,Try.ntmps4
   go_wp2_with (first | ((with_reducible refine gate_callee (f:=15) rfl ?_);refine Up.gl (some 15) Try.func15 #[.slice A0 l0.length c0] ?_;(with_reducible refine (spec_DrawValueCount.calls k _ _ l0 t459 t462 t463 t464 t467 t470 _ ?side1 ?side2 A3.out).mono ?_);(case side1 => repeat (first | exact HR0.out | (with_reducible refine Kd.C_alloc ?_ _) | (with_reducible refine Kd.C_drewN ?_ _) | (with_reducible refine Kd.C_drew ?_)));(case side2 => exact HC0.out);rintro e w35 ⟨v460,v465,v468,rfl,ho0,ho1,ho2,hb⟩;refine ⟨_,rfl,?_⟩;have n0_:=Aside0.mk (Kd.N_lower (Kd.N_mono (ok':=fun k_ => True) ho0 (fun k_ hk_ => trivial)) (below_size (Up.Bup HB)));have n1_:=Aside0.mk (Kd.V_lower (Kd.V_mono (ok':=fun k_ => some k_ ≠ (v460 : Value).ownBlock) ho1 (fun k_ hk_ => hk_.2)) (below_size (Up.Bup HB)));have n2_:=Aside0.mk (Kd.V_lower (Kd.V_mono (ok':=fun k_ => some k_ ≠ (v460 : Value).ownBlock) ho2 (fun k_ hk_ => hk_.2)) (below_size (Up.Bup HB)));have n3_:=Up.BB HB hb;clear HB;have HO461:=n0_;have HO466:=n1_;have HO469:=n2_;have HB:=n3_;clear n0_ n1_ n2_ n3_;(try clear hb);(try clear hb2);(try clear hk);(try clear hi);(try clear ho0);(try clear ho1);(try clear ho2)) | ((with_reducible refine gate_dst (N:=4) rfl ?_);refine Up.bx 4 27 #[.string (⟨#[]⟩ : ByteArray),.int .i64 0,.slice none 0 0,.slice none 0 0] ?_;intro gb471 hg w36 hbox hb;have n0_:=Aside0.mk (Kd.N_below (Kd.N_elderB (Up.Nup HO461) gb471 (Nat.le_of_eq hg.symm)) hb);have n1_:=Aside0.mk (Kd.V_below (Kd.V_elderB (Up.Vup HO466) gb471 (Nat.le_of_eq hg.symm)) hb);have n2_:=Aside0.mk (Kd.V_below (Kd.V_elderB (Up.Vup HO469) gb471 (Nat.le_of_eq hg.symm)) hb);have n3_:=Up.BB HB hb;have n4_:=Aside0.mk (hbox);have n5_:=Up.gw hg HB;have n6_:=Up.gw hg HB;clear HO461 HO466 HO469 HB;have HO461:=n0_;have HO466:=n1_;have HO469:=n2_;have HB:=n3_;have BK471:=n4_;have GW471:=n5_;have GE471:=n6_;clear n0_ n1_ n2_ n3_ n4_ n5_ n6_ hb hbox hg;have hcz37_0:=Up.c0 BK471;have hcz37_1:=Up.c1 BK471;have hcz37_2:=Up.c2 BK471;have hcz37_3:=Up.c3 BK471;have hfz37_0:=blk_frozen BK471.out 0;have hfz37_1:=blk_frozen BK471.out 1;have hfz37_2:=blk_frozen BK471.out 2;have hfz37_3:=blk_frozen BK471.out 3;obtain ⟨Ao38,co38,eo38⟩:=Kd.V_slice HO466.out;subst eo38;obtain ⟨Ao39,co39,eo39⟩:=Kd.V_slice HO469.out;subst eo39;obtain ⟨Ao40,co40,eo40⟩:=Kd.N_slice HO461.out;subst eo40) | ((with_reducible refine gate_callee (f:=16) rfl ?_);refine Up.gl (some 22) Try.func16 #[.slice Ao40 t459.length co40,.agg #[.string t462,.int .i64 t463,.slice Ao38 t464.length co38,.slice Ao39 t467.length co39],.string t470] ?_;(with_reducible refine (impl_ValueCount.calls k _ _ t459 t462 t463 _ _ t464 _ _ t467 t470 t472 _ ?side1 ?side2 ?side3 ?side4 ?side5 ?side6 A4.out).mono ?_);(case side1 => refine (Kd.N_reads' (e:=82) (base:=w.heap.size) (ok:=fun k_ => (True ∧ k_ ≠ gb471)) (n:=t459.length) (c:=co40) ?_).2.2;exact (by (with_reducible repeat (first | apply Kd.N_alloc | apply Kd.N_drewN | apply Kd.N_drew));exact (Kd.N_mono (Kd.N_far (p:=⟨gb471,3,none⟩) (Kd.N_far (p:=⟨gb471,2,none⟩) (Kd.N_far (p:=⟨gb471,1,none⟩) (Kd.N_far (p:=⟨gb471,0,none⟩) (Kd.N_mono HO461.out (fun k_ hk => (⟨hk,hk.2⟩ : _ ∧ k_ ≠ gb471))) (fun _ hk => hk.2) (.string t462)) (fun _ hk => hk.2) (.int .i64 t463)) (fun _ hk => hk.2) (.slice Ao38 t464.length co38)) (fun _ hk => hk.2) (.slice Ao39 t467.length co39)) (fun _ h_ => h_.1))));(case side2 => exact (Kd.N_reads' HO461.out).2.1);(case side3 => refine (Kd.V_reads' (e:=27) (base:=w.heap.size) (ok:=fun k_ => (some k_ ≠ (.slice Ao40 t459.length co40 : Value).ownBlock ∧ k_ ≠ gb471)) (n:=t464.length) (c:=co38) ?_).2.2;exact (by (with_reducible repeat (first | apply Kd.V_alloc | apply Kd.V_drewN | apply Kd.V_drew));exact (Kd.V_mono (Kd.V_far (p:=⟨gb471,3,none⟩) (Kd.V_far (p:=⟨gb471,2,none⟩) (Kd.V_far (p:=⟨gb471,1,none⟩) (Kd.V_far (p:=⟨gb471,0,none⟩) (Kd.V_mono HO466.out (fun k_ hk => (⟨hk,hk.2⟩ : _ ∧ k_ ≠ gb471))) (fun _ hk => hk.2) (.string t462)) (fun _ hk => hk.2) (.int .i64 t463)) (fun _ hk => hk.2) (.slice Ao38 t464.length co38)) (fun _ hk => hk.2) (.slice Ao39 t467.length co39)) (fun _ h_ => h_.1))));(case side4 => exact (Kd.V_reads' HO466.out).2.1);(case side5 => refine (Kd.V_reads' (e:=3) (base:=w.heap.size) (ok:=fun k_ => (some k_ ≠ (.slice Ao40 t459.length co40 : Value).ownBlock ∧ k_ ≠ gb471)) (n:=t467.length) (c:=co39) ?_).2.2;exact (by (with_reducible repeat (first | apply Kd.V_alloc | apply Kd.V_drewN | apply Kd.V_drew));exact (Kd.V_mono (Kd.V_far (p:=⟨gb471,3,none⟩) (Kd.V_far (p:=⟨gb471,2,none⟩) (Kd.V_far (p:=⟨gb471,1,none⟩) (Kd.V_far (p:=⟨gb471,0,none⟩) (Kd.V_mono HO469.out (fun k_ hk => (⟨hk,hk.2⟩ : _ ∧ k_ ≠ gb471))) (fun _ hk => hk.2) (.string t462)) (fun _ hk => hk.2) (.int .i64 t463)) (fun _ hk => hk.2) (.slice Ao38 t464.length co38)) (fun _ hk => hk.2) (.slice Ao39 t467.length co39)) (fun _ h_ => h_.1))));(case side6 => exact (Kd.V_reads' HO469.out).2.1);rintro e w41 ⟨rfl,hb⟩;refine ⟨_,rfl,?_⟩;have n0_:=Aside0.mk (Kd.N_below (by (with_reducible repeat (first | apply Kd.N_alloc | apply Kd.N_drewN | apply Kd.N_drew));exact (Kd.N_mono (Kd.N_far (p:=⟨gb471,3,none⟩) (Kd.N_far (p:=⟨gb471,2,none⟩) (Kd.N_far (p:=⟨gb471,1,none⟩) (Kd.N_far (p:=⟨gb471,0,none⟩) (Kd.N_mono HO461.out (fun k_ hk => (⟨hk,hk.2⟩ : _ ∧ k_ ≠ gb471))) (fun _ hk => hk.2) (.string t462)) (fun _ hk => hk.2) (.int .i64 t463)) (fun _ hk => hk.2) (.slice Ao38 t464.length co38)) (fun _ hk => hk.2) (.slice Ao39 t467.length co39)) (fun _ h_ => h_.1))) hb);have n1_:=Aside0.mk (Kd.V_below (by (with_reducible repeat (first | apply Kd.V_alloc | apply Kd.V_drewN | apply Kd.V_drew));exact (Kd.V_mono (Kd.V_far (p:=⟨gb471,3,none⟩) (Kd.V_far (p:=⟨gb471,2,none⟩) (Kd.V_far (p:=⟨gb471,1,none⟩) (Kd.V_far (p:=⟨gb471,0,none⟩) (Kd.V_mono HO466.out (fun k_ hk => (⟨hk,hk.2⟩ : _ ∧ k_ ≠ gb471))) (fun _ hk => hk.2) (.string t462)) (fun _ hk => hk.2) (.int .i64 t463)) (fun _ hk => hk.2) (.slice Ao38 t464.length co38)) (fun _ hk => hk.2) (.slice Ao39 t467.length co39)) (fun _ h_ => h_.1))) hb);have n2_:=Aside0.mk (Kd.V_below (by (with_reducible repeat (first | apply Kd.V_alloc | apply Kd.V_drewN | apply Kd.V_drew));exact (Kd.V_mono (Kd.V_far (p:=⟨gb471,3,none⟩) (Kd.V_far (p:=⟨gb471,2,none⟩) (Kd.V_far (p:=⟨gb471,1,none⟩) (Kd.V_far (p:=⟨gb471,0,none⟩) (Kd.V_mono HO469.out (fun k_ hk => (⟨hk,hk.2⟩ : _ ∧ k_ ≠ gb471))) (fun _ hk => hk.2) (.string t462)) (fun _ hk => hk.2) (.int .i64 t463)) (fun _ hk => hk.2) (.slice Ao38 t464.length co38)) (fun _ hk => hk.2) (.slice Ao39 t467.length co39)) (fun _ h_ => h_.1))) hb);have n3_:=Aside0.mk (blk_below (g:=gb471) (o:=.cells #[.string t462,.int .i64 t463,.slice Ao38 t464.length co38,.slice Ao39 t467.length co39] 27 (0,0)) (Up.Kx BK471) hb);have n4_:=Aside0.mk (below_step (Up.Bx HB) hb);clear HO461 HO466 HO469 BK471 HB;have HO461:=n0_;have HO466:=n1_;have HO469:=n2_;have BK471:=n3_;have HB:=n4_;clear n0_ n1_ n2_ n3_ n4_;(try clear hb);(try clear hb2);(try clear hk);(try clear hi);have hcz42_0:=Up.c0 BK471;have hcz42_1:=Up.c1 BK471;have hcz42_2:=Up.c2 BK471;have hcz42_3:=Up.c3 BK471;have hfz42_0:=blk_frozen BK471.out 0;have hfz42_1:=blk_frozen BK471.out 1;have hfz42_2:=blk_frozen BK471.out 2;have hfz42_3:=blk_frozen BK471.out 3) | ((with_reducible refine gate_callee (f:=17) rfl ?_);refine Up.gl (some 26) Try.func17 #[.slice Ao40 t459.length co40,.agg #[.string t462,.int .i64 t463,.slice Ao38 t464.length co38,.slice Ao39 t467.length co39],.string t470] ?_;(with_reducible refine (spec_ValueCount.calls k _ _ t459 t462 t463 _ _ t464 _ _ t467 t470 t473 _ ?side1 ?side2 ?side3 ?side4 ?side5 ?side6 A5.out).mono ?_);(case side1 => repeat (first | exact (Kd.N_reads' HO461.out).2.2 | (with_reducible refine Kd.C_alloc ?_ _) | (with_reducible refine Kd.C_drewN ?_ _) | (with_reducible refine Kd.C_drew ?_)));(case side2 => exact (Kd.N_reads' HO461.out).2.1);(case side3 => repeat (first | exact (Kd.V_reads' HO466.out).2.2 | (with_reducible refine Kd.C_alloc ?_ _) | (with_reducible refine Kd.C_drewN ?_ _) | (with_reducible refine Kd.C_drew ?_)));(case side4 => exact (Kd.V_reads' HO466.out).2.1);(case side5 => repeat (first | exact (Kd.V_reads' HO469.out).2.2 | (with_reducible refine Kd.C_alloc ?_ _) | (with_reducible refine Kd.C_drewN ?_ _) | (with_reducible refine Kd.C_drew ?_)));(case side6 => exact (Kd.V_reads' HO469.out).2.1);rintro e w43 ⟨rfl,hb⟩;refine ⟨_,rfl,?_⟩;have n0_:=Up.NB HO461 hb;have n1_:=Up.VB HO466 hb;have n2_:=Up.VB HO469 hb;have n3_:=Up.KB BK471 hb;have n4_:=Aside0.mk (below_step (Up.Bx HB) hb);clear HO461 HO466 HO469 BK471 HB;have HO461:=n0_;have HO466:=n1_;have HO469:=n2_;have BK471:=n3_;have HB:=n4_;clear n0_ n1_ n2_ n3_ n4_;(try clear hb);(try clear hb2);(try clear hk);(try clear hi)))
   go_ret
   exact Up.e1 (Up.Bx HB)

/-- THE ONE PURE STATEMENT of laws_FnValueCount: yours. -/
def laws_FnValueCount.Pure : Prop:=∀ (l0 : List Int),l0.length ≤ maxLen → l0.length * 1 ≤ 140737488351232 → (∀ x ∈ l0,(Lit.int .u8 x).wf = true) → ∃ k,laws_FnValueCount.f k l0 = some true
theorem laws_FnValueCount.walk (P : laws_FnValueCount.Pure) (a0 : Option Addr) (len0 cap0 : Nat) (z0 : List Int) (w : World) (w0 : (a0 = none ∧ len0 = 0 ∧ cap0 = 0 ∧ z0 = []) ∨ ∃ x,a0 = some x ∧ len0 ≤ cap0 ∧ cap0 ≤ maxLen ∧ z0.length = cap0 ∧ (∀ i,i < z0.length → w.cell? (x.add i) = some (.int .u8 (z0.getD i 0))) ∧ ∀ n ∈ z0,(Lit.int .u8 n).wf = true) (y0 : len0 * 1 ≤ 140737488351232) :
  Calls Try.prog 4 #[.slice a0 len0 cap0] w fun e w' => e = .returned (.bool true) ∧ Below w.heap.size w w':=by
 obtain ⟨l0,rfl,hr0,hm0,hw0,hc0⟩:=ReadsInt.ofRowC w0
 obtain ⟨k,h⟩:=P l0 hm0 y0 hw0
 refine (laws_FnValueCount.calls k _ _ l0 true w (Kd.C_of_reads (d:=(0 : Int)) (h1:=fun _ => rfl) hr0) hc0 h).mono ?_
 rintro e w' ⟨rfl,hd⟩
 exact ⟨rfl,hd⟩

end Go.Proofs.Ytdgmlakgnbmbbaa.OFnValueCount
