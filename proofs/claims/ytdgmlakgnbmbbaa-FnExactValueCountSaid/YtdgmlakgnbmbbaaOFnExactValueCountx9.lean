-- Laid by a program of this session (wip/myprint.py): the kit's print of the functions, contracts of our own among them.
import Derived.Test.YtdgmlakgnbmbbaaOFnExactValueCountx0
import Derived.Test.YtdgmlakgnbmbbaaOFnExactValueCountx4
import Derived.Test.YtdgmlakgnbmbbaaOFnExactValueCountx5
import Derived.Test.YtdgmlakgnbmbbaaOFnExactValueCountx7
import Derived.Test.YtdgmlakgnbmbbaaOFnExactValueCountx8
namespace Go.Proofs.Ytdgmlakgnbmbbaa.OFnExactValueCount
open Go.RowKit Go.Proofs.YtdgmlakgnbmbbaaW.PrintWords Go.Proofs.YtdgmlakgnbmbbaaW.PrintLast Go.Proofs.YtdgmlakgnbmbbaaW.PrintMore
attribute [local go_sem] max2_int min2_int max_two min_two max_three min_three max_four min_four   -- for this text's walks alone
set_option linter.unusedVariables false
set_option linter.unusedSimpArgs false

/-! ### spec_ValueOk: function 20 -/
def spec_ValueOk.f (k : Nat) (l0 : List (List (S113))) (a1_0 : ByteArray) (a1_1 : Int) (l1_2 : List (S27)) (l1_3 : List Int) : Option (Bool):=(spec_KindsOk.f k l0).bind fun t209 => (if t209 = true then ((spec_l2Ok.f k l0 a1_0 a1_1 l1_2 l1_3).bind fun t210 => (some t210)) else (some false))
theorem spec_ValueOk.mono : ∀ a0 a1 a2 a3 a4 k,LeO (spec_ValueOk.f k a0 a1 a2 a3 a4) (spec_ValueOk.f (k + 1) a0 a1 a2 a3 a4):=by
 intro a0 a1 a2 a3 a4 k
 unfold spec_ValueOk.f
 repeat' first
   | (with_reducible exact spec_KindsOk.mono _ _)
   | (with_reducible exact spec_l2Ok.mono _ _ _ _ _ _)
   | (with_reducible exact LeO.refl _)
   | (with_reducible exact LeO.none _)
   | (with_reducible refine LeO.ite ?_ ?_)
   | (with_reducible refine LeO.bind ?_ (fun _ => ?_))
   | exact spec_KindsOk.mono _ _
   | exact spec_l2Ok.mono _ _ _ _ _ _
   | exact LeO.none _
   | refine LeO.ite ?_ ?_
   | refine LeO.bind ?_ (fun _ => ?_)
set_option maxHeartbeats 8000000 in
set_option maxRecDepth 100000 in
theorem spec_ValueOk.calls (k : Nat) (A0 : Option Addr) (c0 : Nat) (l0 : List (List (S113))) (a1_0 : ByteArray) (a1_1 : Int) (A1_2 : Option Addr) (c1_2 : Nat) (l1_2 : List (S27)) (A1_3 : Option Addr) (c1_3 : Nat) (l1_3 : List Int) (r : Bool) (w : World) (hr0 : Kd.C (Kd.slice 113 k113) w A0 l0.length l0) (hc0 : l0.length ≤ c0) (hr1_2 : Kd.C k27 w A1_2 l1_2.length l1_2) (hc1_2 : l1_2.length ≤ c1_2) (hr1_3 : Kd.C (Kd.int .i64) w A1_3 l1_3.length l1_3) (hc1_3 : l1_3.length ≤ c1_3) (h : spec_ValueOk.f k l0 a1_0 a1_1 l1_2 l1_3 = some r) :
  Calls Try.prog 20 #[.slice A0 l0.length c0,.agg #[.string a1_0,.int .i64 a1_1,.slice A1_2 l1_2.length c1_2,.slice A1_3 l1_3.length c1_3]] w fun e w' => e = .returned (.bool r) ∧ Below w.heap.size w w':=by
 have hu27:=Try.underlying27
 have HR0:=Aside0.mk hr0
 have HC0:=Aside0.mk hc0
 clear hr0 hc0
 have HR1_2:=Aside0.mk hr1_2
 have HC1_2:=Aside0.mk hc1_2
 clear hr1_2 hc1_2
 have HR1_3:=Aside0.mk hr1_3
 have HC1_3:=Aside0.mk hc1_3
 clear hr1_3 hc1_3
 have HB:=Aside0.mk (Below.refl w.heap.size w)
 have H : ((spec_KindsOk.f k l0).bind fun t209 => (if t209 = true then ((spec_l2Ok.f k l0 a1_0 a1_1 l1_2 l1_3).bind fun t210 => (some t210)) else (some false))) = some r:=h
 clear h
 replace H:=Option.bind_eq_some_iff.mp H
 obtain ⟨t209,A30,H⟩:=H
 replace H : (if t209 = true then ((spec_l2Ok.f k l0 a1_0 a1_1 l1_2 l1_3).bind fun t210 => (some t210)) else (some false)) = some r:=H
 have A3:=Aside0.mk A30
 clear A30
 by_cases c4 : t209 = true
 ·subst c4
  have H1 : ((spec_l2Ok.f k l0 a1_0 a1_1 l1_2 l1_3).bind fun t210 => (some t210)) = some r:=by rw [if_pos rfl] at H;exact H
  clear H
  have H:=H1
  clear H1
  replace H:=Option.bind_eq_some_iff.mp H
  obtain ⟨t210,A50,H⟩:=H
  replace H : (some t210) = some r:=H
  have A5:=Aside0.mk A50
  clear A50
  obtain rfl:=Option.some.inj H
  go_enter Try.func20,Try.ntmps20
  go_wp2_with (first | ((with_reducible refine gate_dst (N:=3) rfl ?_);refine Up.bx 3 27 #[.string a1_0,.int .i64 a1_1,.slice A1_2 l1_2.length c1_2,.slice A1_3 l1_3.length c1_3] ?_;intro gb208 hg w6 hbox hb;have n0_:=Up.BB HB hb;have n1_:=Aside0.mk (hbox);have n2_:=Up.gw hg HB;have n3_:=Up.gw hg HB;clear HB;have HB:=n0_;have BK208:=n1_;have GW208:=n2_;have GE208:=n3_;clear n0_ n1_ n2_ n3_ hb hbox hg) | ((with_reducible refine gate_callee (f:=56) rfl ?_);refine Up.gl (some 6) Try.func56 #[.slice A0 l0.length c0] ?_;(with_reducible refine (spec_KindsOk.calls k _ _ l0 true _ ?side1 ?side2 A3.out).mono ?_);(case side1 => exact Up.Cx HR0 HB);(case side2 => exact HC0.out);rintro e w7 ⟨rfl,hb⟩;refine ⟨_,rfl,?_⟩;have n0_:=Up.KB BK208 hb;have n1_:=Aside0.mk (below_step (Up.Bx HB) hb);clear BK208 HB;have BK208:=n0_;have HB:=n1_;clear n0_ n1_;(try clear hb);(try clear hb2);(try clear hk);(try clear hi);have hcz8_0:=Up.c0 BK208;have hcz8_1:=Up.c1 BK208;have hcz8_2:=Up.c2 BK208;have hcz8_3:=Up.c3 BK208;have hfz8_0:=blk_frozen BK208.out 0;have hfz8_1:=blk_frozen BK208.out 1;have hfz8_2:=blk_frozen BK208.out 2;have hfz8_3:=blk_frozen BK208.out 3) | (go_at_call 57;(with_reducible refine (spec_l2Ok.calls k _ _ l0 a1_0 a1_1 _ _ l1_2 _ _ l1_3 t210 _ ?side1 ?side2 ?side3 ?side4 ?side5 ?side6 A5.out).mono ?_);(case side1 => exact Up.Cx HR0 HB);(case side2 => exact HC0.out);(case side3 => exact Up.Cx HR1_2 HB);(case side4 => exact HC1_2.out);(case side5 => exact Up.Cx HR1_3 HB);(case side6 => exact HC1_3.out);rintro e w9 ⟨rfl,hb⟩;have n0_:=Up.KB BK208 hb;have n1_:=Aside0.mk (below_step (Up.Bx HB) hb);clear BK208 HB;have BK208:=n0_;have HB:=n1_;clear n0_ n1_;(try clear hb);(try clear hb2);(try clear hk);(try clear hi)))
  go_ret
  exact Up.e1 (Up.Bx HB)
 ·replace c4:=Bool.eq_false_iff.mpr c4
  subst c4
  have H1 : (some false) = some r:=by rw [if_neg (show ¬ (false = true) by decide)] at H;exact H
  clear H
  have H:=H1
  clear H1
  obtain rfl:=Option.some.inj H
  go_enter Try.func20,Try.ntmps20
  go_wp2_with (first | ((with_reducible refine gate_dst (N:=3) rfl ?_);refine Up.bx 3 27 #[.string a1_0,.int .i64 a1_1,.slice A1_2 l1_2.length c1_2,.slice A1_3 l1_3.length c1_3] ?_;intro gb208 hg w10 hbox hb;have n0_:=Up.BB HB hb;have n1_:=Aside0.mk (hbox);have n2_:=Up.gw hg HB;have n3_:=Up.gw hg HB;clear HB;have HB:=n0_;have BK208:=n1_;have GW208:=n2_;have GE208:=n3_;clear n0_ n1_ n2_ n3_ hb hbox hg) | ((with_reducible refine gate_callee (f:=56) rfl ?_);refine Up.gl (some 6) Try.func56 #[.slice A0 l0.length c0] ?_;(with_reducible refine (spec_KindsOk.calls k _ _ l0 false _ ?side1 ?side2 A3.out).mono ?_);(case side1 => exact Up.Cx HR0 HB);(case side2 => exact HC0.out);rintro e w11 ⟨rfl,hb⟩;refine ⟨_,rfl,?_⟩;have n0_:=Up.KB BK208 hb;have n1_:=Aside0.mk (below_step (Up.Bx HB) hb);clear BK208 HB;have BK208:=n0_;have HB:=n1_;clear n0_ n1_;(try clear hb);(try clear hb2);(try clear hk);(try clear hi)))
  go_ret
  exact Up.e1 (Up.Bx HB)

/-! ### spec_l1Plain: function 51 -/
def spec_l1Plain.f (l0 : List (List (S113))) (a1 : ByteArray) : Option (Bool):=(spec_l1Kind.f a1).bind fun bt211 => ((spec_l1Base.f a1).bind fun t214 => (if t214 = true then (some true) else (if bt211.2.2 = true then ((spec_l1Has.f l0 bt211.1 bt211.2.1).bind fun t215 => (some t215)) else (some false))))
set_option maxHeartbeats 8000000 in
set_option maxRecDepth 100000 in
theorem spec_l1Plain.calls (A0 : Option Addr) (c0 : Nat) (l0 : List (List (S113))) (a1 : ByteArray) (r : Bool) (w : World) (hr0 : Kd.C (Kd.slice 113 k113) w A0 l0.length l0) (hc0 : l0.length ≤ c0) (h : spec_l1Plain.f l0 a1 = some r) :
  Calls Try.prog 51 #[.slice A0 l0.length c0,.string a1] w fun e w' => e = .returned (.bool r) ∧ Drawn0 w w':=by
 have HR0:=Aside0.mk hr0
 have HC0:=Aside0.mk hc0
 clear hr0 hc0
 have H : ((spec_l1Kind.f a1).bind fun bt211 => ((spec_l1Base.f a1).bind fun t214 => (if t214 = true then (some true) else (if bt211.2.2 = true then ((spec_l1Has.f l0 bt211.1 bt211.2.1).bind fun t215 => (some t215)) else (some false))))) = some r:=h
 clear h
 replace H:=Option.bind_eq_some_iff.mp H
 obtain ⟨⟨t211,t212,t213⟩,A30,H⟩:=H
 replace H : ((spec_l1Base.f a1).bind fun t214 => (if t214 = true then (some true) else (if t213 = true then ((spec_l1Has.f l0 t211 t212).bind fun t215 => (some t215)) else (some false)))) = some r:=H
 have A3:=Aside0.mk A30
 clear A30
 replace H:=Option.bind_eq_some_iff.mp H
 obtain ⟨t214,A40,H⟩:=H
 replace H : (if t214 = true then (some true) else (if t213 = true then ((spec_l1Has.f l0 t211 t212).bind fun t215 => (some t215)) else (some false))) = some r:=H
 have A4:=Aside0.mk A40
 clear A40
 by_cases c5 : t214 = true
 ·subst c5
  have H1 : (some true) = some r:=by rw [if_pos rfl] at H;exact H
  clear H
  have H:=H1
  clear H1
  obtain rfl:=Option.some.inj H
  go_enter Try.func51,Try.ntmps51
  go_wp2_with (first | ((with_reducible refine gate_callee (f:=50) rfl ?_);refine Up.gl (some 10) Try.func50 #[.string a1] ?_;(with_reducible refine (spec_l1Kind.calls a1 t211 t212 t213 _ A3.out).mono ?_);rintro e w' ⟨rfl,⟨nd,rfl⟩⟩;refine ⟨_,rfl,?_⟩) | ((with_reducible refine gate_callee (f:=93) rfl ?_);refine Up.gl (some 15) Try.func93 #[.string a1] ?_;(with_reducible refine (spec_l1Base.calls a1 true _ A4.out).mono ?_);rintro e w' ⟨rfl,⟨nd,rfl⟩⟩;refine ⟨_,rfl,?_⟩))
  go_ret
  exact Up.e2
 ·replace c5:=Bool.eq_false_iff.mpr c5
  subst c5
  have H1 : (if t213 = true then ((spec_l1Has.f l0 t211 t212).bind fun t215 => (some t215)) else (some false)) = some r:=by rw [if_neg (show ¬ (false = true) by decide)] at H;exact H
  clear H
  have H:=H1
  clear H1
  by_cases c6 : t213 = true
  ·subst c6
   have H1 : ((spec_l1Has.f l0 t211 t212).bind fun t215 => (some t215)) = some r:=by rw [if_pos rfl] at H;exact H
   clear H
   have H:=H1
   clear H1
   replace H:=Option.bind_eq_some_iff.mp H
   obtain ⟨t215,A70,H⟩:=H
   replace H : (some t215) = some r:=H
   have A7:=Aside0.mk A70
   clear A70
   obtain rfl:=Option.some.inj H
   go_enter Try.func51,Try.ntmps51
   go_wp2_with (first | ((with_reducible refine gate_callee (f:=50) rfl ?_);refine Up.gl (some 10) Try.func50 #[.string a1] ?_;(with_reducible refine (spec_l1Kind.calls a1 t211 t212 true _ A3.out).mono ?_);rintro e w' ⟨rfl,⟨nd,rfl⟩⟩;refine ⟨_,rfl,?_⟩) | ((with_reducible refine gate_callee (f:=93) rfl ?_);refine Up.gl (some 15) Try.func93 #[.string a1] ?_;(with_reducible refine (spec_l1Base.calls a1 false _ A4.out).mono ?_);rintro e w' ⟨rfl,⟨nd,rfl⟩⟩;refine ⟨_,rfl,?_⟩) | (go_at_call 87;(with_reducible refine (spec_l1Has.calls _ _ l0 t211 t212 t215 _ ?side1 ?side2 A7.out).mono ?_);(case side1 => repeat (first | exact HR0.out | (with_reducible refine Kd.C_alloc ?_ _) | (with_reducible refine Kd.C_drewN ?_ _) | (with_reducible refine Kd.C_drew ?_)));(case side2 => exact HC0.out);rintro e w' ⟨rfl,⟨nd,rfl⟩⟩))
   go_ret
   exact Up.e2
  ·replace c6:=Bool.eq_false_iff.mpr c6
   subst c6
   have H1 : (some false) = some r:=by rw [if_neg (show ¬ (false = true) by decide)] at H;exact H
   clear H
   have H:=H1
   clear H1
   obtain rfl:=Option.some.inj H
   go_enter Try.func51,Try.ntmps51
   go_wp2_with (first | ((with_reducible refine gate_callee (f:=50) rfl ?_);refine Up.gl (some 10) Try.func50 #[.string a1] ?_;(with_reducible refine (spec_l1Kind.calls a1 t211 t212 false _ A3.out).mono ?_);rintro e w' ⟨rfl,⟨nd,rfl⟩⟩;refine ⟨_,rfl,?_⟩) | ((with_reducible refine gate_callee (f:=93) rfl ?_);refine Up.gl (some 15) Try.func93 #[.string a1] ?_;(with_reducible refine (spec_l1Base.calls a1 false _ A4.out).mono ?_);rintro e w' ⟨rfl,⟨nd,rfl⟩⟩;refine ⟨_,rfl,?_⟩))
   go_ret
   exact Up.e2

/-! ### spec_l2Count: function 52 -/
mutual
def spec_l2Count.j0 : Nat → ByteArray → Int → ByteArray → Int → List (S27) → List Int → Option (Int)
 | 0,_,_,_,_,_,_ => none
 | k + 1,x1,x5,x217000,x217001,x217002,x217003 => spec_l2Count.l0 k x1 x5 0 x217000 x217001 x217002 x217003
def spec_l2Count.l0 : Nat → ByteArray → Int → Int → ByteArray → Int → List (S27) → List Int → Option (Int)
 | 0,_,_,_,_,_,_,_ => none
 | k + 1,x1,x5,x6,x217000,x217001,x217002,x217003 => if x6 < (x217002.length : Int) then (if 0 ≤ x6 then ((spec_l2Count.f k ((rd_T27 x217002 x6).f0) ((rd_T27 x217002 x6).f1) ((rd_T27 x217002 x6).f2) ((rd_T27 x217002 x6).f3) x1).bind fun t218 => (spec_l2Count.l0 k x1 (wrap64 (x5 + t218)) (wrap64 (x6 + 1)) x217000 x217001 x217002 x217003)) else (none)) else (some x5)
def spec_l2Count.f : Nat → ByteArray → Int → List (S27) → List Int → ByteArray → Option (Int)
 | 0,_,_,_,_,_ => none
 | k + 1,a0_0,a0_1,l0_2,l0_3,a1 => if a0_0.toList = a1.toList then (spec_l2Count.j0 k a1 1 a0_0 a0_1 l0_2 l0_3) else (spec_l2Count.j0 k a1 0 a0_0 a0_1 l0_2 l0_3)
end
theorem spec_l2Count.mono_l : ∀ k,(∀ y0 y1 y2 y3 y4,LeO (spec_l2Count.f k y0 y1 y2 y3 y4) (spec_l2Count.f (k + 1) y0 y1 y2 y3 y4)) ∧ (∀ y0 y1 y2 y3 y4 y5,LeO (spec_l2Count.j0 k y0 y1 y2 y3 y4 y5) (spec_l2Count.j0 (k + 1) y0 y1 y2 y3 y4 y5)) ∧ (∀ y0 y1 y2 y3 y4 y5 y6,LeO (spec_l2Count.l0 k y0 y1 y2 y3 y4 y5 y6) (spec_l2Count.l0 (k + 1) y0 y1 y2 y3 y4 y5 y6))
 | 0 => ⟨fun _ _ _ _ _ r h => by simp [spec_l2Count.f] at h,fun _ _ _ _ _ _ r h => by simp [spec_l2Count.j0] at h,fun _ _ _ _ _ _ _ r h => by simp [spec_l2Count.l0] at h⟩
 | k + 1 => by
  obtain ⟨ih0,ih1,ih2⟩:=spec_l2Count.mono_l k
  refine ⟨?_,?_,?_⟩
  ·intro y0 y1 y2 y3 y4
   unfold spec_l2Count.f
   repeat' first
   | (with_reducible exact ih0 _ _ _ _ _)
   | (with_reducible exact ih1 _ _ _ _ _ _)
   | (with_reducible exact ih2 _ _ _ _ _ _ _)
   | (with_reducible exact LeO.refl _)
   | (with_reducible exact LeO.none _)
   | (with_reducible refine LeO.ite ?_ ?_)
   | (with_reducible refine LeO.bind ?_ (fun _ => ?_))
   | exact ih0 _ _ _ _ _
   | exact ih1 _ _ _ _ _ _
   | exact ih2 _ _ _ _ _ _ _
   | exact LeO.none _
   | refine LeO.ite ?_ ?_
   | refine LeO.bind ?_ (fun _ => ?_)
  ·intro y0 y1 y2 y3 y4 y5
   unfold spec_l2Count.j0
   repeat' first
   | (with_reducible exact ih0 _ _ _ _ _)
   | (with_reducible exact ih1 _ _ _ _ _ _)
   | (with_reducible exact ih2 _ _ _ _ _ _ _)
   | (with_reducible exact LeO.refl _)
   | (with_reducible exact LeO.none _)
   | (with_reducible refine LeO.ite ?_ ?_)
   | (with_reducible refine LeO.bind ?_ (fun _ => ?_))
   | exact ih0 _ _ _ _ _
   | exact ih1 _ _ _ _ _ _
   | exact ih2 _ _ _ _ _ _ _
   | exact LeO.none _
   | refine LeO.ite ?_ ?_
   | refine LeO.bind ?_ (fun _ => ?_)
  ·intro y0 y1 y2 y3 y4 y5 y6
   unfold spec_l2Count.l0
   repeat' first
   | (with_reducible exact ih0 _ _ _ _ _)
   | (with_reducible exact ih1 _ _ _ _ _ _)
   | (with_reducible exact ih2 _ _ _ _ _ _ _)
   | (with_reducible exact LeO.refl _)
   | (with_reducible exact LeO.none _)
   | (with_reducible refine LeO.ite ?_ ?_)
   | (with_reducible refine LeO.bind ?_ (fun _ => ?_))
   | exact ih0 _ _ _ _ _
   | exact ih1 _ _ _ _ _ _
   | exact ih2 _ _ _ _ _ _ _
   | exact LeO.none _
   | refine LeO.ite ?_ ?_
   | refine LeO.bind ?_ (fun _ => ?_)
theorem spec_l2Count.mono : ∀ a0 a1 a2 a3 a4 k,LeO (spec_l2Count.f k a0 a1 a2 a3 a4) (spec_l2Count.f (k + 1) a0 a1 a2 a3 a4):=by
 intro a0 a1 a2 a3 a4 k
 obtain ⟨ih0,ih1,ih2⟩:=spec_l2Count.mono_l k
 exact ih0 a0 a1 a2 a3 a4
set_option maxHeartbeats 8000000 in
set_option maxRecDepth 100000 in
theorem spec_l2Count.calls (k : Nat) : ∀ (a0_0 : ByteArray) (a0_1 : Int) (A0_2 : Option Addr) (c0_2 : Nat) (l0_2 : List (S27)) (A0_3 : Option Addr) (c0_3 : Nat) (l0_3 : List Int) (a1 : ByteArray) (r : Int) (w : World) (hr0_2 : Kd.C k27 w A0_2 l0_2.length l0_2) (hc0_2 : l0_2.length ≤ c0_2) (hr0_3 : Kd.C (Kd.int .i64) w A0_3 l0_3.length l0_3) (hc0_3 : l0_3.length ≤ c0_3) (h : spec_l2Count.f k a0_0 a0_1 l0_2 l0_3 a1 = some r),
  Calls Try.prog 52 #[.agg #[.string a0_0,.int .i64 a0_1,.slice A0_2 l0_2.length c0_2,.slice A0_3 l0_3.length c0_3],.string a1] w fun e w' => e = .returned (.int .i64 r) ∧ Below w.heap.size w w':=by
 induction k using Nat.strongRecOn with
 | _ k ih =>
 intro a0_0 a0_1 A0_2 c0_2 l0_2 A0_3 c0_3 l0_3 a1 r w hr0_2 hc0_2 hr0_3 hc0_3 h
 cases k with
 | zero => exact absurd h (by simp [spec_l2Count.f])
 | succ k =>
 simp only [spec_l2Count.f] at h
 have hu27:=Try.underlying27
 have HR0_2:=Aside0.mk hr0_2
 have HC0_2:=Aside0.mk hc0_2
 clear hr0_2 hc0_2
 have HR0_3:=Aside0.mk hr0_3
 have HC0_3:=Aside0.mk hc0_3
 clear hr0_3 hc0_3
 have HB:=Aside0.mk (Below.refl w.heap.size w)
 have H : (if a0_0.toList = a1.toList then (spec_l2Count.j0 k a1 1 a0_0 a0_1 l0_2 l0_3) else (spec_l2Count.j0 k a1 0 a0_0 a0_1 l0_2 l0_3)) = some r:=h
 clear h
 have HC3:=Aside0.mk H
 clear H
 go_enter Try.func52,Try.ntmps52
 go_upto_if 10 with (first | ((with_reducible refine gate_dst (N:=2) rfl ?_);refine Up.bx 2 27 #[.string a0_0,.int .i64 a0_1,.slice A0_2 l0_2.length c0_2,.slice A0_3 l0_3.length c0_3] ?_;intro gb216 hg w4 hbox hb;have n0_:=Up.BB HB hb;have n1_:=Aside0.mk (hbox);have n2_:=Up.gw hg HB;have n3_:=Up.gw hg HB;clear HB;have HB:=n0_;have BK216:=n1_;have GW216:=n2_;have GE216:=n3_;clear n0_ n1_ n2_ n3_ hb hbox hg;have hcz5_0:=Up.c0 BK216;have hcz5_1:=Up.c1 BK216;have hcz5_2:=Up.c2 BK216;have hcz5_3:=Up.c3 BK216;have hfz5_0:=blk_frozen BK216.out 0;have hfz5_1:=blk_frozen BK216.out 1;have hfz5_2:=blk_frozen BK216.out 2;have hfz5_3:=blk_frozen BK216.out 3))
 (try simp only [Act.put,List.setIfInBounds_toArray,List.set_cons_zero,List.set_cons_succ])
 go_cut [5] (fun v5 wc => ∃ (kq : Nat) (x5_2 : Int),v5 = .int .i64 x5_2 ∧ Aside0 (spec_l2Count.j0 kq a1 x5_2 a0_0 a0_1 l0_2 l0_3 = some r) ∧ Aside0 (kq ≤ k) ∧ Aside0 (wc.heap[gb216]? = some (.cells #[.string a0_0,.int .i64 a0_1,(.slice A0_2 l0_2.length c0_2),(.slice A0_3 l0_3.length c0_3)] 27 (0,0))) ∧ Aside0 (Below w.heap.size w wc))
 case first =>
  have H:=HC3.out
  clear HC3
  by_cases c6 : a0_0.toList = a1.toList
  ·rw [if_pos c6] at H
   have c6b0 : (a0_0.toList == a1.toList) = true:=beq_iff_eq.mpr c6
   have c6b1 : (a0_0.toList != a1.toList) = false:=bne_eq_false_iff_eq.mpr c6
   clear c6
   (first | rw [c6b0] | (simp only [i64_w,i32_w];rw [c6b0]) | skip)
   have H':=Aside0.mk H
   clear H
   go_wp2
   go_meet
   case rel => exact ⟨_,(1),(by first | rfl | (simp;done) | (simp [*];done)),H',⟨by first | omega | exact Nat.le_refl _⟩,⟨by (with_reducible repeat (first | refine blk_drewN ?_ _ | refine blk_drew ?_ | refine blk_alloc ?_ _));exact BK216.out⟩,⟨Up.Bx HB⟩⟩
  ·rw [if_neg c6] at H
   have c6b0 : (a0_0.toList == a1.toList) = false:=beq_eq_false_iff_ne.mpr c6
   have c6b1 : (a0_0.toList != a1.toList) = true:=bne_iff_ne.mpr c6
   (first | rw [c6b0] | (simp only [i64_w,i32_w];rw [c6b0]) | skip)
   have H':=Aside0.mk H
   clear H
   go_wp2
   go_meet
   case rel => exact ⟨_,(0),(by first | rfl | (simp;done) | (simp [*];done)),H',⟨by first | omega | exact Nat.le_refl _⟩,⟨by (with_reducible repeat (first | refine blk_drewN ?_ _ | refine blk_drew ?_ | refine blk_alloc ?_ _));exact BK216.out⟩,⟨Up.Bx HB⟩⟩
 case rest =>
  clear HC3
  try clear p2
  try clear c5
  try clear c6
  try clear c6b0
  try clear c6b1
  try clear hcz5_0
  try clear hcz5_1
  try clear hcz5_2
  try clear hcz5_3
  try clear hfz5_0
  try clear hfz5_1
  try clear hfz5_2
  try clear hfz5_3
  obtain ⟨kq,x5_2,rfl,HA,HJ2,BK216,HB⟩:=hcut
  cases kq with
  | zero => exact absurd HA.out (by simp [spec_l2Count.j0])
  | succ kj2 =>
   have H:=HA.out
   clear HA
   simp only [spec_l2Count.j0] at H
   have H':=Aside0.mk H
   clear H
   go_wp2
   go_loopg [5,6] kj2 (fun kq v5 v6 w' => ∃ (x5_2 : Int) (x6_2 : Int),v5 = .int .i64 x5_2 ∧ v6 = .int .i64 x6_2 ∧ Aside0 (spec_l2Count.l0 kq a1 x5_2 x6_2 a0_0 a0_1 l0_2 l0_3 = some r) ∧ Aside0 (kq ≤ kj2) ∧ Aside0 (w'.heap[gb216]? = some (.cells #[.string a0_0,.int .i64 a0_1,(.slice A0_2 l0_2.length c0_2),(.slice A0_3 l0_3.length c0_3)] 27 (0,0))) ∧ Aside0 (Below w.heap.size w w'))
   case atStart => exact ⟨(x5_2),(0),(by first | rfl | (simp;done) | (simp [*];done)),(by first | rfl | (simp;done) | (simp [*];done)),H',⟨Nat.le_refl _⟩,⟨by (with_reducible repeat (first | refine blk_drewN ?_ _ | refine blk_drew ?_ | refine blk_alloc ?_ _));exact BK216.out⟩,⟨Up.Bx HB⟩⟩
   case round =>
    clear H'
    try clear p2
    try clear c5
    try clear c6
    try clear c6b0
    try clear c6b1
    try clear hcz5_0
    try clear hcz5_1
    try clear hcz5_2
    try clear hcz5_3
    try clear hfz5_0
    try clear hfz5_1
    try clear hfz5_2
    try clear hfz5_3
    try clear p2
    obtain ⟨x5_2,x6_2,rfl,rfl,HA,HK2,BK216,HB⟩:=hrel
    cases gk with
    | zero => exact absurd HA.out (by simp [spec_l2Count.l0])
    | succ k2 =>
     have H:=HA.out
     clear HA
     simp only [spec_l2Count.l0] at H
     by_cases c7 : x6_2 < (l0_2.length : Int)
     ·rw [if_pos c7] at H
      have c7b0 : decide (x6_2 < (l0_2.length : Int)) = true:=decide_eq_true c7
      clear c7
      by_cases c8 : 0 ≤ x6_2
      ·rw [if_pos c8] at H
       have c8b0 : decide (0 ≤ x6_2) = true:=decide_eq_true c8
       clear c8
       replace H:=Option.bind_eq_some_iff.mp H
       obtain ⟨t218,A90,H⟩:=H
       replace H : (spec_l2Count.l0 k2 a1 (wrap64 (x5_2 + t218)) (wrap64 (x6_2 + 1)) a0_0 a0_1 l0_2 l0_3) = some r:=H
       have A9:=Aside0.mk A90
       clear A90
       have H':=Aside0.mk H
       clear H
       have hcz10_0:=Up.c0 BK216
       have hcz10_1:=Up.c1 BK216
       have hcz10_2:=Up.c2 BK216
       have hcz10_3:=Up.c3 BK216
       have hfz10_0:=blk_frozen BK216.out 0
       have hfz10_1:=blk_frozen BK216.out 1
       have hfz10_2:=blk_frozen BK216.out 2
       have hfz10_3:=blk_frozen BK216.out 3
       have p217 : 0 ≤ (x6_2 : Int):=Up.od
       have q217 : x6_2 < (l0_2.length : Int):=Up.od
       obtain ⟨ad217,A217_2,c217_2,A217_3,c217_3,e217,hx217_0,hx217_1,hx217_2,hx217_3,hl217_2,hi217_2,hl217_3,hi217_3⟩:=at_T27 HR0_2.out x6_2 p217 q217
       cases e217
       replace hx217_0:=Up.hc HB hx217_0
       replace hx217_1:=Up.hc HB hx217_1
       replace hx217_2:=Up.hc HB hx217_2
       replace hx217_3:=Up.hc HB hx217_3
       have HR217_2:=Aside0.mk hi217_2
       have HC217_2:=Aside0.mk hl217_2
       clear hi217_2 hl217_2
       have HR217_3:=Aside0.mk hi217_3
       have HC217_3:=Aside0.mk hl217_3
       clear hi217_3 hl217_3
       replace p217:=eq_true p217
       replace q217:=eq_true q217
       go_wp2_with (first | ((with_reducible refine gate_callee (f:=52) rfl ?_);refine Up.gl (some 25) Try.func52 #[.agg #[.string ((rd_T27 l0_2 x6_2).f0),.int .i64 ((rd_T27 l0_2 x6_2).f1),.slice A217_2 ((rd_T27 l0_2 x6_2).f2).length c217_2,.slice A217_3 ((rd_T27 l0_2 x6_2).f3).length c217_3],.string a1] ?_;(with_reducible refine (ih k2 (by have:=HJ2.out;have:=HK2.out;omega) ((rd_T27 l0_2 x6_2).f0) ((rd_T27 l0_2 x6_2).f1) _ _ ((rd_T27 l0_2 x6_2).f2) _ _ ((rd_T27 l0_2 x6_2).f3) a1 t218 _ ?side1 ?side2 ?side3 ?side4 A9.out).mono ?_);(case side1 => exact Up.Cx HR217_2 HB);(case side2 => exact HC217_2.out);(case side3 => exact Up.Cx HR217_3 HB);(case side4 => exact HC217_3.out);rintro e w11 ⟨rfl,hb⟩;refine ⟨_,rfl,?_⟩;have n0_:=Up.KB BK216 hb;have n1_:=Aside0.mk (below_step (Up.Bx HB) hb);clear BK216 HB;have BK216:=n0_;have HB:=n1_;clear n0_ n1_;(try clear hb);(try clear hb2);(try clear hk);(try clear hi)))
       go_roundg k2
       case measure => have:=HJ2.out;have:=HK2.out;omega
       case rel => exact ⟨(wrap64 (x5_2 + t218)),(wrap64 (x6_2 + 1)),(by first | rfl | (simp;done) | (simp [*];done)),(by first | rfl | (simp;done) | (simp [*];done)),H',⟨by have:=HJ2.out;have:=HK2.out;omega⟩,⟨by (with_reducible repeat (first | refine blk_drewN ?_ _ | refine blk_drew ?_ | refine blk_alloc ?_ _));exact BK216.out⟩,⟨Up.Bx HB⟩⟩
      ·rw [if_neg c8] at H
       exact absurd H (by simp)
     ·rw [if_neg c7] at H
      have c7b0 : decide (x6_2 < (l0_2.length : Int)) = false:=decide_eq_false c7
      clear c7
      obtain rfl:=Option.some.inj H
      have hcz12_0:=Up.c0 BK216
      have hcz12_1:=Up.c1 BK216
      have hcz12_2:=Up.c2 BK216
      have hcz12_3:=Up.c3 BK216
      have hfz12_0:=blk_frozen BK216.out 0
      have hfz12_1:=blk_frozen BK216.out 1
      have hfz12_2:=blk_frozen BK216.out 2
      have hfz12_3:=blk_frozen BK216.out 3
      go_wp2
      go_ret
      exact Up.e1 (Up.Bx HB)

/-! ### spec_ValueCount: function 17 -/
def spec_ValueCount.f (k : Nat) (l0 : List (List (S113))) (a1_0 : ByteArray) (a1_1 : Int) (l1_2 : List (S27)) (l1_3 : List Int) (a2 : ByteArray) : Option (Int):=(spec_l1Kind.f a2).bind fun bt220 => ((spec_ValueOk.f k l0 a1_0 a1_1 l1_2 l1_3).bind fun t223 => (if t223 = true then (if bt220.2.2 = true then ((spec_l1Plain.f l0 a2).bind fun t224 => (if t224 = true then ((spec_l2Count.f k a1_0 a1_1 l1_2 l1_3 a2).bind fun t225 => (some t225)) else (some (-1)))) else (some (-1))) else (some (-1))))
theorem spec_ValueCount.mono : ∀ a0 a1 a2 a3 a4 a5 k,LeO (spec_ValueCount.f k a0 a1 a2 a3 a4 a5) (spec_ValueCount.f (k + 1) a0 a1 a2 a3 a4 a5):=by
 intro a0 a1 a2 a3 a4 a5 k
 unfold spec_ValueCount.f
 repeat' first
   | (with_reducible exact spec_ValueOk.mono _ _ _ _ _ _)
   | (with_reducible exact spec_l2Count.mono _ _ _ _ _ _)
   | (with_reducible exact LeO.refl _)
   | (with_reducible exact LeO.none _)
   | (with_reducible refine LeO.ite ?_ ?_)
   | (with_reducible refine LeO.bind ?_ (fun _ => ?_))
   | exact spec_ValueOk.mono _ _ _ _ _ _
   | exact spec_l2Count.mono _ _ _ _ _ _
   | exact LeO.none _
   | refine LeO.ite ?_ ?_
   | refine LeO.bind ?_ (fun _ => ?_)
set_option maxHeartbeats 8000000 in
set_option maxRecDepth 100000 in
theorem spec_ValueCount.calls (k : Nat) (A0 : Option Addr) (c0 : Nat) (l0 : List (List (S113))) (a1_0 : ByteArray) (a1_1 : Int) (A1_2 : Option Addr) (c1_2 : Nat) (l1_2 : List (S27)) (A1_3 : Option Addr) (c1_3 : Nat) (l1_3 : List Int) (a2 : ByteArray) (r : Int) (w : World) (hr0 : Kd.C (Kd.slice 113 k113) w A0 l0.length l0) (hc0 : l0.length ≤ c0) (hr1_2 : Kd.C k27 w A1_2 l1_2.length l1_2) (hc1_2 : l1_2.length ≤ c1_2) (hr1_3 : Kd.C (Kd.int .i64) w A1_3 l1_3.length l1_3) (hc1_3 : l1_3.length ≤ c1_3) (h : spec_ValueCount.f k l0 a1_0 a1_1 l1_2 l1_3 a2 = some r) :
  Calls Try.prog 17 #[.slice A0 l0.length c0,.agg #[.string a1_0,.int .i64 a1_1,.slice A1_2 l1_2.length c1_2,.slice A1_3 l1_3.length c1_3],.string a2] w fun e w' => e = .returned (.int .i64 r) ∧ Below w.heap.size w w':=by
 have hu27:=Try.underlying27
 have HR0:=Aside0.mk hr0
 have HC0:=Aside0.mk hc0
 clear hr0 hc0
 have HR1_2:=Aside0.mk hr1_2
 have HC1_2:=Aside0.mk hc1_2
 clear hr1_2 hc1_2
 have HR1_3:=Aside0.mk hr1_3
 have HC1_3:=Aside0.mk hc1_3
 clear hr1_3 hc1_3
 have HB:=Aside0.mk (Below.refl w.heap.size w)
 have H : ((spec_l1Kind.f a2).bind fun bt220 => ((spec_ValueOk.f k l0 a1_0 a1_1 l1_2 l1_3).bind fun t223 => (if t223 = true then (if bt220.2.2 = true then ((spec_l1Plain.f l0 a2).bind fun t224 => (if t224 = true then ((spec_l2Count.f k a1_0 a1_1 l1_2 l1_3 a2).bind fun t225 => (some t225)) else (some (-1)))) else (some (-1))) else (some (-1))))) = some r:=h
 clear h
 replace H:=Option.bind_eq_some_iff.mp H
 obtain ⟨⟨t220,t221,t222⟩,A40,H⟩:=H
 replace H : ((spec_ValueOk.f k l0 a1_0 a1_1 l1_2 l1_3).bind fun t223 => (if t223 = true then (if t222 = true then ((spec_l1Plain.f l0 a2).bind fun t224 => (if t224 = true then ((spec_l2Count.f k a1_0 a1_1 l1_2 l1_3 a2).bind fun t225 => (some t225)) else (some (-1)))) else (some (-1))) else (some (-1)))) = some r:=H
 have A4:=Aside0.mk A40
 clear A40
 replace H:=Option.bind_eq_some_iff.mp H
 obtain ⟨t223,A50,H⟩:=H
 replace H : (if t223 = true then (if t222 = true then ((spec_l1Plain.f l0 a2).bind fun t224 => (if t224 = true then ((spec_l2Count.f k a1_0 a1_1 l1_2 l1_3 a2).bind fun t225 => (some t225)) else (some (-1)))) else (some (-1))) else (some (-1))) = some r:=H
 have A5:=Aside0.mk A50
 clear A50
 by_cases c6 : t223 = true
 ·subst c6
  have H1 : (if t222 = true then ((spec_l1Plain.f l0 a2).bind fun t224 => (if t224 = true then ((spec_l2Count.f k a1_0 a1_1 l1_2 l1_3 a2).bind fun t225 => (some t225)) else (some (-1)))) else (some (-1))) = some r:=by rw [if_pos rfl] at H;exact H
  clear H
  have H:=H1
  clear H1
  by_cases c7 : t222 = true
  ·subst c7
   have H1 : ((spec_l1Plain.f l0 a2).bind fun t224 => (if t224 = true then ((spec_l2Count.f k a1_0 a1_1 l1_2 l1_3 a2).bind fun t225 => (some t225)) else (some (-1)))) = some r:=by rw [if_pos rfl] at H;exact H
   clear H
   have H:=H1
   clear H1
   replace H:=Option.bind_eq_some_iff.mp H
   obtain ⟨t224,A80,H⟩:=H
   replace H : (if t224 = true then ((spec_l2Count.f k a1_0 a1_1 l1_2 l1_3 a2).bind fun t225 => (some t225)) else (some (-1))) = some r:=H
   have A8:=Aside0.mk A80
   clear A80
   by_cases c9 : t224 = true
   ·subst c9
    have H1 : ((spec_l2Count.f k a1_0 a1_1 l1_2 l1_3 a2).bind fun t225 => (some t225)) = some r:=by rw [if_pos rfl] at H;exact H
    clear H
    have H:=H1
    clear H1
    replace H:=Option.bind_eq_some_iff.mp H
    obtain ⟨t225,A100,H⟩:=H
    replace H : (some t225) = some r:=H
    have A10:=Aside0.mk A100
    clear A100
    obtain rfl:=Option.some.inj H
    go_enter Try.func17,Try.ntmps17
    go_wp2_with (first | ((with_reducible refine gate_dst (N:=4) rfl ?_);refine Up.bx 4 27 #[.string a1_0,.int .i64 a1_1,.slice A1_2 l1_2.length c1_2,.slice A1_3 l1_3.length c1_3] ?_;intro gb219 hg w11 hbox hb;have n0_:=Up.BB HB hb;have n1_:=Aside0.mk (hbox);have n2_:=Up.gw hg HB;have n3_:=Up.gw hg HB;clear HB;have HB:=n0_;have BK219:=n1_;have GW219:=n2_;have GE219:=n3_;clear n0_ n1_ n2_ n3_ hb hbox hg) | ((with_reducible refine gate_callee (f:=50) rfl ?_);refine Up.gl (some 12) Try.func50 #[.string a2] ?_;(with_reducible refine (spec_l1Kind.calls a2 t220 t221 true _ A4.out).mono ?_);rintro e w' ⟨rfl,⟨nd,rfl⟩⟩;refine ⟨_,rfl,?_⟩;have hcz12_0:=Up.c0 BK219;have hcz12_1:=Up.c1 BK219;have hcz12_2:=Up.c2 BK219;have hcz12_3:=Up.c3 BK219;have hfz12_0:=blk_frozen BK219.out 0;have hfz12_1:=blk_frozen BK219.out 1;have hfz12_2:=blk_frozen BK219.out 2;have hfz12_3:=blk_frozen BK219.out 3) | ((with_reducible refine gate_callee (f:=20) rfl ?_);refine Up.gl (some 18) Try.func20 #[.slice A0 l0.length c0,.agg #[.string a1_0,.int .i64 a1_1,.slice A1_2 l1_2.length c1_2,.slice A1_3 l1_3.length c1_3]] ?_;(with_reducible refine (spec_ValueOk.calls k _ _ l0 a1_0 a1_1 _ _ l1_2 _ _ l1_3 true _ ?side1 ?side2 ?side3 ?side4 ?side5 ?side6 A5.out).mono ?_);(case side1 => repeat (first | exact (Kd.C_below HR0.out (Up.Bx HB)) | (with_reducible refine Kd.C_alloc ?_ _) | (with_reducible refine Kd.C_drewN ?_ _) | (with_reducible refine Kd.C_drew ?_)));(case side2 => exact HC0.out);(case side3 => repeat (first | exact (Kd.C_below HR1_2.out (Up.Bx HB)) | (with_reducible refine Kd.C_alloc ?_ _) | (with_reducible refine Kd.C_drewN ?_ _) | (with_reducible refine Kd.C_drew ?_)));(case side4 => exact HC1_2.out);(case side5 => repeat (first | exact (Kd.C_below HR1_3.out (Up.Bx HB)) | (with_reducible refine Kd.C_alloc ?_ _) | (with_reducible refine Kd.C_drewN ?_ _) | (with_reducible refine Kd.C_drew ?_)));(case side6 => exact HC1_3.out);rintro e w13 ⟨rfl,hb⟩;refine ⟨_,rfl,?_⟩;have n0_:=Up.KB BK219 hb;have n1_:=Aside0.mk (below_step (Up.Bx HB) hb);clear BK219 HB;have BK219:=n0_;have HB:=n1_;clear n0_ n1_;(try clear hb);(try clear hb2);(try clear hk);(try clear hi)) | (go_at_call 51;(with_reducible refine (spec_l1Plain.calls _ _ l0 a2 true _ ?side1 ?side2 A8.out).mono ?_);(case side1 => exact Up.Cx HR0 HB);(case side2 => exact HC0.out);rintro e w' ⟨rfl,⟨nd,rfl⟩⟩;have hcz14_0:=Up.c0 BK219;have hcz14_1:=Up.c1 BK219;have hcz14_2:=Up.c2 BK219;have hcz14_3:=Up.c3 BK219;have hfz14_0:=blk_frozen BK219.out 0;have hfz14_1:=blk_frozen BK219.out 1;have hfz14_2:=blk_frozen BK219.out 2;have hfz14_3:=blk_frozen BK219.out 3) | ((with_reducible refine gate_callee (f:=52) rfl ?_);refine Up.gl (some 32) Try.func52 #[.agg #[.string a1_0,.int .i64 a1_1,.slice A1_2 l1_2.length c1_2,.slice A1_3 l1_3.length c1_3],.string a2] ?_;(with_reducible refine (spec_l2Count.calls k a1_0 a1_1 _ _ l1_2 _ _ l1_3 a2 t225 _ ?side1 ?side2 ?side3 ?side4 A10.out).mono ?_);(case side1 => repeat (first | exact (Kd.C_below HR1_2.out (Up.Bx HB)) | (with_reducible refine Kd.C_alloc ?_ _) | (with_reducible refine Kd.C_drewN ?_ _) | (with_reducible refine Kd.C_drew ?_)));(case side2 => exact HC1_2.out);(case side3 => repeat (first | exact (Kd.C_below HR1_3.out (Up.Bx HB)) | (with_reducible refine Kd.C_alloc ?_ _) | (with_reducible refine Kd.C_drewN ?_ _) | (with_reducible refine Kd.C_drew ?_)));(case side4 => exact HC1_3.out);rintro e w15 ⟨rfl,hb⟩;refine ⟨_,rfl,?_⟩;have n0_:=Up.KB BK219 hb;have n1_:=Aside0.mk (below_step (Up.Bx HB) hb);clear BK219 HB;have BK219:=n0_;have HB:=n1_;clear n0_ n1_;(try clear hb);(try clear hb2);(try clear hk);(try clear hi)))
    go_ret
    exact Up.e1 (Up.Bx HB)
   ·replace c9:=Bool.eq_false_iff.mpr c9
    subst c9
    have H1 : (some (-1)) = some r:=by rw [if_neg (show ¬ (false = true) by decide)] at H;exact H
    clear H
    have H:=H1
    clear H1
    obtain rfl:=Option.some.inj H
    go_enter Try.func17,Try.ntmps17
    go_wp2_with (first | ((with_reducible refine gate_dst (N:=4) rfl ?_);refine Up.bx 4 27 #[.string a1_0,.int .i64 a1_1,.slice A1_2 l1_2.length c1_2,.slice A1_3 l1_3.length c1_3] ?_;intro gb219 hg w16 hbox hb;have n0_:=Up.BB HB hb;have n1_:=Aside0.mk (hbox);have n2_:=Up.gw hg HB;have n3_:=Up.gw hg HB;clear HB;have HB:=n0_;have BK219:=n1_;have GW219:=n2_;have GE219:=n3_;clear n0_ n1_ n2_ n3_ hb hbox hg) | ((with_reducible refine gate_callee (f:=50) rfl ?_);refine Up.gl (some 12) Try.func50 #[.string a2] ?_;(with_reducible refine (spec_l1Kind.calls a2 t220 t221 true _ A4.out).mono ?_);rintro e w' ⟨rfl,⟨nd,rfl⟩⟩;refine ⟨_,rfl,?_⟩;have hcz17_0:=Up.c0 BK219;have hcz17_1:=Up.c1 BK219;have hcz17_2:=Up.c2 BK219;have hcz17_3:=Up.c3 BK219;have hfz17_0:=blk_frozen BK219.out 0;have hfz17_1:=blk_frozen BK219.out 1;have hfz17_2:=blk_frozen BK219.out 2;have hfz17_3:=blk_frozen BK219.out 3) | ((with_reducible refine gate_callee (f:=20) rfl ?_);refine Up.gl (some 18) Try.func20 #[.slice A0 l0.length c0,.agg #[.string a1_0,.int .i64 a1_1,.slice A1_2 l1_2.length c1_2,.slice A1_3 l1_3.length c1_3]] ?_;(with_reducible refine (spec_ValueOk.calls k _ _ l0 a1_0 a1_1 _ _ l1_2 _ _ l1_3 true _ ?side1 ?side2 ?side3 ?side4 ?side5 ?side6 A5.out).mono ?_);(case side1 => repeat (first | exact (Kd.C_below HR0.out (Up.Bx HB)) | (with_reducible refine Kd.C_alloc ?_ _) | (with_reducible refine Kd.C_drewN ?_ _) | (with_reducible refine Kd.C_drew ?_)));(case side2 => exact HC0.out);(case side3 => repeat (first | exact (Kd.C_below HR1_2.out (Up.Bx HB)) | (with_reducible refine Kd.C_alloc ?_ _) | (with_reducible refine Kd.C_drewN ?_ _) | (with_reducible refine Kd.C_drew ?_)));(case side4 => exact HC1_2.out);(case side5 => repeat (first | exact (Kd.C_below HR1_3.out (Up.Bx HB)) | (with_reducible refine Kd.C_alloc ?_ _) | (with_reducible refine Kd.C_drewN ?_ _) | (with_reducible refine Kd.C_drew ?_)));(case side6 => exact HC1_3.out);rintro e w18 ⟨rfl,hb⟩;refine ⟨_,rfl,?_⟩;have n0_:=Up.KB BK219 hb;have n1_:=Aside0.mk (below_step (Up.Bx HB) hb);clear BK219 HB;have BK219:=n0_;have HB:=n1_;clear n0_ n1_;(try clear hb);(try clear hb2);(try clear hk);(try clear hi)) | (go_at_call 51;(with_reducible refine (spec_l1Plain.calls _ _ l0 a2 false _ ?side1 ?side2 A8.out).mono ?_);(case side1 => exact Up.Cx HR0 HB);(case side2 => exact HC0.out);rintro e w' ⟨rfl,⟨nd,rfl⟩⟩))
    go_ret
    exact Up.e1 (Up.Bx HB)
  ·replace c7:=Bool.eq_false_iff.mpr c7
   subst c7
   have H1 : (some (-1)) = some r:=by rw [if_neg (show ¬ (false = true) by decide)] at H;exact H
   clear H
   have H:=H1
   clear H1
   obtain rfl:=Option.some.inj H
   go_enter Try.func17,Try.ntmps17
   go_wp2_with (first | ((with_reducible refine gate_dst (N:=4) rfl ?_);refine Up.bx 4 27 #[.string a1_0,.int .i64 a1_1,.slice A1_2 l1_2.length c1_2,.slice A1_3 l1_3.length c1_3] ?_;intro gb219 hg w19 hbox hb;have n0_:=Up.BB HB hb;have n1_:=Aside0.mk (hbox);have n2_:=Up.gw hg HB;have n3_:=Up.gw hg HB;clear HB;have HB:=n0_;have BK219:=n1_;have GW219:=n2_;have GE219:=n3_;clear n0_ n1_ n2_ n3_ hb hbox hg) | ((with_reducible refine gate_callee (f:=50) rfl ?_);refine Up.gl (some 12) Try.func50 #[.string a2] ?_;(with_reducible refine (spec_l1Kind.calls a2 t220 t221 false _ A4.out).mono ?_);rintro e w' ⟨rfl,⟨nd,rfl⟩⟩;refine ⟨_,rfl,?_⟩;have hcz20_0:=Up.c0 BK219;have hcz20_1:=Up.c1 BK219;have hcz20_2:=Up.c2 BK219;have hcz20_3:=Up.c3 BK219;have hfz20_0:=blk_frozen BK219.out 0;have hfz20_1:=blk_frozen BK219.out 1;have hfz20_2:=blk_frozen BK219.out 2;have hfz20_3:=blk_frozen BK219.out 3) | ((with_reducible refine gate_callee (f:=20) rfl ?_);refine Up.gl (some 18) Try.func20 #[.slice A0 l0.length c0,.agg #[.string a1_0,.int .i64 a1_1,.slice A1_2 l1_2.length c1_2,.slice A1_3 l1_3.length c1_3]] ?_;(with_reducible refine (spec_ValueOk.calls k _ _ l0 a1_0 a1_1 _ _ l1_2 _ _ l1_3 true _ ?side1 ?side2 ?side3 ?side4 ?side5 ?side6 A5.out).mono ?_);(case side1 => repeat (first | exact (Kd.C_below HR0.out (Up.Bx HB)) | (with_reducible refine Kd.C_alloc ?_ _) | (with_reducible refine Kd.C_drewN ?_ _) | (with_reducible refine Kd.C_drew ?_)));(case side2 => exact HC0.out);(case side3 => repeat (first | exact (Kd.C_below HR1_2.out (Up.Bx HB)) | (with_reducible refine Kd.C_alloc ?_ _) | (with_reducible refine Kd.C_drewN ?_ _) | (with_reducible refine Kd.C_drew ?_)));(case side4 => exact HC1_2.out);(case side5 => repeat (first | exact (Kd.C_below HR1_3.out (Up.Bx HB)) | (with_reducible refine Kd.C_alloc ?_ _) | (with_reducible refine Kd.C_drewN ?_ _) | (with_reducible refine Kd.C_drew ?_)));(case side6 => exact HC1_3.out);rintro e w21 ⟨rfl,hb⟩;refine ⟨_,rfl,?_⟩;have n0_:=Up.KB BK219 hb;have n1_:=Aside0.mk (below_step (Up.Bx HB) hb);clear BK219 HB;have BK219:=n0_;have HB:=n1_;clear n0_ n1_;(try clear hb);(try clear hb2);(try clear hk);(try clear hi)))
   go_ret
   exact Up.e1 (Up.Bx HB)
 ·replace c6:=Bool.eq_false_iff.mpr c6
  subst c6
  have H1 : (some (-1)) = some r:=by rw [if_neg (show ¬ (false = true) by decide)] at H;exact H
  clear H
  have H:=H1
  clear H1
  obtain rfl:=Option.some.inj H
  go_enter Try.func17,Try.ntmps17
  go_wp2_with (first | ((with_reducible refine gate_dst (N:=4) rfl ?_);refine Up.bx 4 27 #[.string a1_0,.int .i64 a1_1,.slice A1_2 l1_2.length c1_2,.slice A1_3 l1_3.length c1_3] ?_;intro gb219 hg w22 hbox hb;have n0_:=Up.BB HB hb;have n1_:=Aside0.mk (hbox);have n2_:=Up.gw hg HB;have n3_:=Up.gw hg HB;clear HB;have HB:=n0_;have BK219:=n1_;have GW219:=n2_;have GE219:=n3_;clear n0_ n1_ n2_ n3_ hb hbox hg) | ((with_reducible refine gate_callee (f:=50) rfl ?_);refine Up.gl (some 12) Try.func50 #[.string a2] ?_;(with_reducible refine (spec_l1Kind.calls a2 t220 t221 t222 _ A4.out).mono ?_);rintro e w' ⟨rfl,⟨nd,rfl⟩⟩;refine ⟨_,rfl,?_⟩;have hcz23_0:=Up.c0 BK219;have hcz23_1:=Up.c1 BK219;have hcz23_2:=Up.c2 BK219;have hcz23_3:=Up.c3 BK219;have hfz23_0:=blk_frozen BK219.out 0;have hfz23_1:=blk_frozen BK219.out 1;have hfz23_2:=blk_frozen BK219.out 2;have hfz23_3:=blk_frozen BK219.out 3) | ((with_reducible refine gate_callee (f:=20) rfl ?_);refine Up.gl (some 18) Try.func20 #[.slice A0 l0.length c0,.agg #[.string a1_0,.int .i64 a1_1,.slice A1_2 l1_2.length c1_2,.slice A1_3 l1_3.length c1_3]] ?_;(with_reducible refine (spec_ValueOk.calls k _ _ l0 a1_0 a1_1 _ _ l1_2 _ _ l1_3 false _ ?side1 ?side2 ?side3 ?side4 ?side5 ?side6 A5.out).mono ?_);(case side1 => repeat (first | exact (Kd.C_below HR0.out (Up.Bx HB)) | (with_reducible refine Kd.C_alloc ?_ _) | (with_reducible refine Kd.C_drewN ?_ _) | (with_reducible refine Kd.C_drew ?_)));(case side2 => exact HC0.out);(case side3 => repeat (first | exact (Kd.C_below HR1_2.out (Up.Bx HB)) | (with_reducible refine Kd.C_alloc ?_ _) | (with_reducible refine Kd.C_drewN ?_ _) | (with_reducible refine Kd.C_drew ?_)));(case side4 => exact HC1_2.out);(case side5 => repeat (first | exact (Kd.C_below HR1_3.out (Up.Bx HB)) | (with_reducible refine Kd.C_alloc ?_ _) | (with_reducible refine Kd.C_drewN ?_ _) | (with_reducible refine Kd.C_drew ?_)));(case side6 => exact HC1_3.out);rintro e w24 ⟨rfl,hb⟩;refine ⟨_,rfl,?_⟩;have n0_:=Up.KB BK219 hb;have n1_:=Aside0.mk (below_step (Up.Bx HB) hb);clear BK219 HB;have BK219:=n0_;have HB:=n1_;clear n0_ n1_;(try clear hb);(try clear hb2);(try clear hk);(try clear hi)))
  go_ret
  exact Up.e1 (Up.Bx HB)

/-! ### laws_szStringS: function 115 -/
def laws_szStringS.l0 : Nat → List ByteArray → Int → Int → Option (Int)
 | 0,_,_,_ => none
 | k + 1,x0,x1,x5 => if x5 < (x0.length : Int) then (if 0 ≤ x5 then (if (wrap64 (x1 - ((rdOf ByteArray.empty x0 x5).size : Int))) < 0 then (some (-1)) else (laws_szStringS.l0 k x0 (wrap64 (x1 - ((rdOf ByteArray.empty x0 x5).size : Int))) (wrap64 (x5 + 1)))) else (none)) else (some x1)
def laws_szStringS.f (k : Nat) (l0 : List ByteArray) (a1 : Int) : Option (Int):=if (wrap64 (a1 - (l0.length : Int))) < 0 then (some (-1)) else (laws_szStringS.l0 k l0 (wrap64 (a1 - (l0.length : Int))) 0)
theorem laws_szStringS.mono_l : ∀ k,(∀ y0 y1 y2,LeO (laws_szStringS.l0 k y0 y1 y2) (laws_szStringS.l0 (k + 1) y0 y1 y2))
 | 0 => fun _ _ _ r h => by simp [laws_szStringS.l0] at h
 | k + 1 => by
  have ih0:=laws_szStringS.mono_l k
  ·intro y0 y1 y2
   unfold laws_szStringS.l0
   repeat' first
   | (with_reducible exact ih0 _ _ _)
   | (with_reducible exact LeO.refl _)
   | (with_reducible exact LeO.none _)
   | (with_reducible refine LeO.ite ?_ ?_)
   | (with_reducible refine LeO.bind ?_ (fun _ => ?_))
   | exact ih0 _ _ _
   | exact LeO.none _
   | refine LeO.ite ?_ ?_
   | refine LeO.bind ?_ (fun _ => ?_)
theorem laws_szStringS.mono : ∀ a0 a1 k,LeO (laws_szStringS.f k a0 a1) (laws_szStringS.f (k + 1) a0 a1):=by
 intro a0 a1 k
 have ih0:=laws_szStringS.mono_l k
 unfold laws_szStringS.f
 repeat' first
   | (with_reducible exact ih0 _ _ _)
   | (with_reducible exact LeO.refl _)
   | (with_reducible exact LeO.none _)
   | (with_reducible refine LeO.ite ?_ ?_)
   | (with_reducible refine LeO.bind ?_ (fun _ => ?_))
   | exact ih0 _ _ _
   | exact LeO.none _
   | refine LeO.ite ?_ ?_
   | refine LeO.bind ?_ (fun _ => ?_)
set_option maxHeartbeats 8000000 in
set_option maxRecDepth 100000 in
theorem laws_szStringS.calls (k : Nat) (A0 : Option Addr) (c0 : Nat) (l0 : List ByteArray) (a1 : Int) (r : Int) (w : World) (hr0 : Kd.C Kd.string w A0 l0.length l0) (hc0 : l0.length ≤ c0) (h : laws_szStringS.f k l0 a1 = some r) :
  Calls Try.prog 115 #[.slice A0 l0.length c0,.int .i64 a1] w fun e w' => e = .returned (.int .i64 r) ∧ Drawn0 w w':=by
 have HR0:=Aside0.mk hr0
 have HC0:=Aside0.mk hc0
 clear hr0 hc0
 have H : (if (wrap64 (a1 - (l0.length : Int))) < 0 then (some (-1)) else (laws_szStringS.l0 k l0 (wrap64 (a1 - (l0.length : Int))) 0)) = some r:=h
 clear h
 by_cases c3 : (wrap64 (a1 - (l0.length : Int))) < 0
 ·rw [if_pos c3] at H
  have c3b0 : decide ((wrap64 (a1 - (l0.length : Int))) < 0) = true:=decide_eq_true c3
  clear c3
  obtain rfl:=Option.some.inj H
  go_enter Try.func115,Try.ntmps115
  go_wp2
  go_ret
  exact Up.e2
 ·rw [if_neg c3] at H
  have c3b0 : decide ((wrap64 (a1 - (l0.length : Int))) < 0) = false:=decide_eq_false c3
  clear c3
  have H':=Aside0.mk H
  clear H
  go_enter Try.func115,Try.ntmps115
  go_wp2
  go_loopg [1,5] k (fun kq v1 v5 w' => ∃ (x1_1 : Int) (x5_1 : Int),v1 = .int .i64 x1_1 ∧ v5 = .int .i64 x5_1 ∧ Aside0 (laws_szStringS.l0 kq l0 x1_1 x5_1 = some r) ∧ Aside0 (kq ≤ k) ∧ Drawn0 w w')
  case atStart => exact ⟨(wrap64 (a1 - (l0.length : Int))),(0),(by first | rfl | (simp;done) | (simp [*];done)),(by first | rfl | (simp;done) | (simp [*];done)),H',⟨Nat.le_refl _⟩,by repeat (first | exact Drawn0.refl _ | apply Drawn0.step)⟩
  case round =>
   clear H'
   try clear c1
   try clear p2
   try clear c3
   try clear c3b0
   obtain ⟨x1_1,x5_1,rfl,rfl,HA,HK1,⟨m1,rfl⟩⟩:=hrel
   cases gk with
   | zero => exact absurd HA.out (by simp [laws_szStringS.l0])
   | succ k1 =>
    have H:=HA.out
    clear HA
    simp only [laws_szStringS.l0] at H
    by_cases c4 : x5_1 < (l0.length : Int)
    ·rw [if_pos c4] at H
     have c4b0 : decide (x5_1 < (l0.length : Int)) = true:=decide_eq_true c4
     clear c4
     by_cases c5 : 0 ≤ x5_1
     ·rw [if_pos c5] at H
      have c5b0 : decide (0 ≤ x5_1) = true:=decide_eq_true c5
      clear c5
      by_cases c6 : (wrap64 (x1_1 - ((rdOf ByteArray.empty l0 x5_1).size : Int))) < 0
      ·rw [if_pos c6] at H
       have c6b0 : decide ((wrap64 (x1_1 - ((rdOf ByteArray.empty l0 x5_1).size : Int))) < 0) = true:=decide_eq_true c6
       clear c6
       obtain rfl:=Option.some.inj H
       have p226 : 0 ≤ (x5_1 : Int):=Up.od
       have q226 : x5_1 < (l0.length : Int):=Up.od
       obtain ⟨ad226,e226,hx226_0⟩:=Kd.at_string HR0.out x5_1 p226 q226
       cases e226
       replace p226:=eq_true p226
       replace q226:=eq_true q226
       go_wp2
       go_ret
       exact Up.e2
      ·rw [if_neg c6] at H
       have c6b0 : decide ((wrap64 (x1_1 - ((rdOf ByteArray.empty l0 x5_1).size : Int))) < 0) = false:=decide_eq_false c6
       clear c6
       have H':=Aside0.mk H
       clear H
       have p226 : 0 ≤ (x5_1 : Int):=Up.od
       have q226 : x5_1 < (l0.length : Int):=Up.od
       obtain ⟨ad226,e226,hx226_0⟩:=Kd.at_string HR0.out x5_1 p226 q226
       cases e226
       replace p226:=eq_true p226
       replace q226:=eq_true q226
       go_wp2
       go_roundg k1
       case measure => have:=HK1.out;omega
       case rel => exact ⟨(wrap64 (x1_1 - ((rdOf ByteArray.empty l0 x5_1).size : Int))),(wrap64 (x5_1 + 1)),(by first | rfl | (simp;done) | (simp [*];done)),(by first | rfl | (simp;done) | (simp [*];done)),H',⟨by have:=HK1.out;omega⟩,by repeat (first | exact Drawn0.refl _ | apply Drawn0.step)⟩
     ·rw [if_neg c5] at H
      exact absurd H (by simp)
    ·rw [if_neg c4] at H
     have c4b0 : decide (x5_1 < (l0.length : Int)) = false:=decide_eq_false c4
     clear c4
     obtain rfl:=Option.some.inj H
     go_wp2
     go_ret
     exact Up.e2

/-! ### laws_szRecord: function 94 -/
def laws_szRecord.f (k : Nat) (a0_0 : Int) (l0_1 : List ByteArray) (a1 : Int) : Option (Int):=(laws_szStringS.f k l0_1 a1).bind fun t228 => (if t228 < 0 then (some (-1)) else (some t228))
theorem laws_szRecord.mono : ∀ a0 a1 a2 k,LeO (laws_szRecord.f k a0 a1 a2) (laws_szRecord.f (k + 1) a0 a1 a2):=by
 intro a0 a1 a2 k
 unfold laws_szRecord.f
 repeat' first
   | (with_reducible exact laws_szStringS.mono _ _ _)
   | (with_reducible exact LeO.refl _)
   | (with_reducible exact LeO.none _)
   | (with_reducible refine LeO.ite ?_ ?_)
   | (with_reducible refine LeO.bind ?_ (fun _ => ?_))
   | exact laws_szStringS.mono _ _ _
   | exact LeO.none _
   | refine LeO.ite ?_ ?_
   | refine LeO.bind ?_ (fun _ => ?_)
set_option maxHeartbeats 8000000 in
set_option maxRecDepth 100000 in
theorem laws_szRecord.calls (k : Nat) (a0_0 : Int) (A0_1 : Option Addr) (c0_1 : Nat) (l0_1 : List ByteArray) (a1 : Int) (r : Int) (w : World) (hr0_1 : Kd.C Kd.string w A0_1 l0_1.length l0_1) (hc0_1 : l0_1.length ≤ c0_1) (h : laws_szRecord.f k a0_0 l0_1 a1 = some r) :
  Calls Try.prog 94 #[.agg #[.int .i64 a0_0,.slice A0_1 l0_1.length c0_1],.int .i64 a1] w fun e w' => e = .returned (.int .i64 r) ∧ Below w.heap.size w w':=by
 have hu124:=Try.underlying124
 have HR0_1:=Aside0.mk hr0_1
 have HC0_1:=Aside0.mk hc0_1
 clear hr0_1 hc0_1
 have HB:=Aside0.mk (Below.refl w.heap.size w)
 have H : ((laws_szStringS.f k l0_1 a1).bind fun t228 => (if t228 < 0 then (some (-1)) else (some t228))) = some r:=h
 clear h
 replace H:=Option.bind_eq_some_iff.mp H
 obtain ⟨t228,A30,H⟩:=H
 replace H : (if t228 < 0 then (some (-1)) else (some t228)) = some r:=H
 have A3:=Aside0.mk A30
 clear A30
 by_cases c4 : t228 < 0
 ·rw [if_pos c4] at H
  have c4b0 : decide (t228 < 0) = true:=decide_eq_true c4
  clear c4
  obtain rfl:=Option.some.inj H
  go_enter Try.func94,Try.ntmps94
  go_wp2_with (first | ((with_reducible refine gate_dst (N:=2) rfl ?_);refine Up.bx 2 124 #[.int .i64 a0_0,.slice A0_1 l0_1.length c0_1] ?_;intro gb227 hg w5 hbox hb;have n0_:=Up.BB HB hb;have n1_:=Aside0.mk (hbox);have n2_:=Up.gw hg HB;have n3_:=Up.gw hg HB;clear HB;have HB:=n0_;have BK227:=n1_;have GW227:=n2_;have GE227:=n3_;clear n0_ n1_ n2_ n3_ hb hbox hg;have hcz6_0:=Up.c0 BK227;have hcz6_1:=Up.c1 BK227;have hfz6_0:=blk_frozen BK227.out 0;have hfz6_1:=blk_frozen BK227.out 1) | ((with_reducible refine gate_callee (f:=115) rfl ?_);refine Up.gl (some 8) Try.func115 #[.slice A0_1 l0_1.length c0_1,.int .i64 a1] ?_;(with_reducible refine (laws_szStringS.calls k _ _ l0_1 a1 t228 _ ?side1 ?side2 A3.out).mono ?_);(case side1 => exact Up.Cx HR0_1 HB);(case side2 => exact HC0_1.out);rintro e w' ⟨rfl,⟨nd,rfl⟩⟩;refine ⟨_,rfl,?_⟩))
  go_ret
  exact Up.e1 (Up.Bx HB)
 ·rw [if_neg c4] at H
  have c4b0 : decide (t228 < 0) = false:=decide_eq_false c4
  clear c4
  obtain rfl:=Option.some.inj H
  go_enter Try.func94,Try.ntmps94
  go_wp2_with (first | ((with_reducible refine gate_dst (N:=2) rfl ?_);refine Up.bx 2 124 #[.int .i64 a0_0,.slice A0_1 l0_1.length c0_1] ?_;intro gb227 hg w7 hbox hb;have n0_:=Up.BB HB hb;have n1_:=Aside0.mk (hbox);have n2_:=Up.gw hg HB;have n3_:=Up.gw hg HB;clear HB;have HB:=n0_;have BK227:=n1_;have GW227:=n2_;have GE227:=n3_;clear n0_ n1_ n2_ n3_ hb hbox hg;have hcz8_0:=Up.c0 BK227;have hcz8_1:=Up.c1 BK227;have hfz8_0:=blk_frozen BK227.out 0;have hfz8_1:=blk_frozen BK227.out 1) | ((with_reducible refine gate_callee (f:=115) rfl ?_);refine Up.gl (some 8) Try.func115 #[.slice A0_1 l0_1.length c0_1,.int .i64 a1] ?_;(with_reducible refine (laws_szStringS.calls k _ _ l0_1 a1 t228 _ ?side1 ?side2 A3.out).mono ?_);(case side1 => exact Up.Cx HR0_1 HB);(case side2 => exact HC0_1.out);rintro e w' ⟨rfl,⟨nd,rfl⟩⟩;refine ⟨_,rfl,?_⟩))
  go_ret
  exact Up.e1 (Up.Bx HB)

/-! ### laws_szRecordS: function 53 -/
def laws_szRecordS.l0 : Nat → List (S124) → Int → Int → Option (Int)
 | 0,_,_,_ => none
 | k + 1,x0,x1,x5 => if x5 < (x0.length : Int) then (if 0 ≤ x5 then ((laws_szRecord.f k ((rd_T124 x0 x5).f0) ((rd_T124 x0 x5).f1) x1).bind fun t230 => (if t230 < 0 then (some (-1)) else (laws_szRecordS.l0 k x0 t230 (wrap64 (x5 + 1))))) else (none)) else (some x1)
def laws_szRecordS.f (k : Nat) (l0 : List (S124)) (a1 : Int) : Option (Int):=if (wrap64 (a1 - (l0.length : Int))) < 0 then (some (-1)) else (laws_szRecordS.l0 k l0 (wrap64 (a1 - (l0.length : Int))) 0)
theorem laws_szRecordS.mono_l : ∀ k,(∀ y0 y1 y2,LeO (laws_szRecordS.l0 k y0 y1 y2) (laws_szRecordS.l0 (k + 1) y0 y1 y2))
 | 0 => fun _ _ _ r h => by simp [laws_szRecordS.l0] at h
 | k + 1 => by
  have ih0:=laws_szRecordS.mono_l k
  ·intro y0 y1 y2
   unfold laws_szRecordS.l0
   repeat' first
   | (with_reducible exact ih0 _ _ _)
   | (with_reducible exact laws_szRecord.mono _ _ _ _)
   | (with_reducible exact LeO.refl _)
   | (with_reducible exact LeO.none _)
   | (with_reducible refine LeO.ite ?_ ?_)
   | (with_reducible refine LeO.bind ?_ (fun _ => ?_))
   | exact ih0 _ _ _
   | exact laws_szRecord.mono _ _ _ _
   | exact LeO.none _
   | refine LeO.ite ?_ ?_
   | refine LeO.bind ?_ (fun _ => ?_)
theorem laws_szRecordS.mono : ∀ a0 a1 k,LeO (laws_szRecordS.f k a0 a1) (laws_szRecordS.f (k + 1) a0 a1):=by
 intro a0 a1 k
 have ih0:=laws_szRecordS.mono_l k
 unfold laws_szRecordS.f
 repeat' first
   | (with_reducible exact ih0 _ _ _)
   | (with_reducible exact laws_szRecord.mono _ _ _ _)
   | (with_reducible exact LeO.refl _)
   | (with_reducible exact LeO.none _)
   | (with_reducible refine LeO.ite ?_ ?_)
   | (with_reducible refine LeO.bind ?_ (fun _ => ?_))
   | exact ih0 _ _ _
   | exact laws_szRecord.mono _ _ _ _
   | exact LeO.none _
   | refine LeO.ite ?_ ?_
   | refine LeO.bind ?_ (fun _ => ?_)
set_option maxHeartbeats 8000000 in
set_option maxRecDepth 100000 in
theorem laws_szRecordS.calls (k : Nat) (A0 : Option Addr) (c0 : Nat) (l0 : List (S124)) (a1 : Int) (r : Int) (w : World) (hr0 : Kd.C k124 w A0 l0.length l0) (hc0 : l0.length ≤ c0) (h : laws_szRecordS.f k l0 a1 = some r) :
  Calls Try.prog 53 #[.slice A0 l0.length c0,.int .i64 a1] w fun e w' => e = .returned (.int .i64 r) ∧ Below w.heap.size w w':=by
 have hu124:=Try.underlying124
 have HR0:=Aside0.mk hr0
 have HC0:=Aside0.mk hc0
 clear hr0 hc0
 have HB:=Aside0.mk (Below.refl w.heap.size w)
 have H : (if (wrap64 (a1 - (l0.length : Int))) < 0 then (some (-1)) else (laws_szRecordS.l0 k l0 (wrap64 (a1 - (l0.length : Int))) 0)) = some r:=h
 clear h
 by_cases c3 : (wrap64 (a1 - (l0.length : Int))) < 0
 ·rw [if_pos c3] at H
  have c3b0 : decide ((wrap64 (a1 - (l0.length : Int))) < 0) = true:=decide_eq_true c3
  clear c3
  obtain rfl:=Option.some.inj H
  go_enter Try.func53,Try.ntmps53
  go_wp2
  go_ret
  exact Up.e1 (Up.Bup HB)
 ·rw [if_neg c3] at H
  have c3b0 : decide ((wrap64 (a1 - (l0.length : Int))) < 0) = false:=decide_eq_false c3
  clear c3
  have H':=Aside0.mk H
  clear H
  go_enter Try.func53,Try.ntmps53
  go_wp2
  go_loopg [1,5] k (fun kq v1 v5 w' => ∃ (x1_1 : Int) (x5_1 : Int),v1 = .int .i64 x1_1 ∧ v5 = .int .i64 x5_1 ∧ Aside0 (laws_szRecordS.l0 kq l0 x1_1 x5_1 = some r) ∧ Aside0 (kq ≤ k) ∧ Aside0 (Below w.heap.size w w'))
  case atStart => exact ⟨(wrap64 (a1 - (l0.length : Int))),(0),(by first | rfl | (simp;done) | (simp [*];done)),(by first | rfl | (simp;done) | (simp [*];done)),H',⟨Nat.le_refl _⟩,⟨Up.Bup HB⟩⟩
  case round =>
   clear H'
   try clear p2
   try clear c3
   try clear c3b0
   obtain ⟨x1_1,x5_1,rfl,rfl,HA,HK1,HB⟩:=hrel
   cases gk with
   | zero => exact absurd HA.out (by simp [laws_szRecordS.l0])
   | succ k1 =>
    have H:=HA.out
    clear HA
    simp only [laws_szRecordS.l0] at H
    by_cases c4 : x5_1 < (l0.length : Int)
    ·rw [if_pos c4] at H
     have c4b0 : decide (x5_1 < (l0.length : Int)) = true:=decide_eq_true c4
     clear c4
     by_cases c5 : 0 ≤ x5_1
     ·rw [if_pos c5] at H
      have c5b0 : decide (0 ≤ x5_1) = true:=decide_eq_true c5
      clear c5
      replace H:=Option.bind_eq_some_iff.mp H
      obtain ⟨t230,A60,H⟩:=H
      replace H : (if t230 < 0 then (some (-1)) else (laws_szRecordS.l0 k1 l0 t230 (wrap64 (x5_1 + 1)))) = some r:=H
      have A6:=Aside0.mk A60
      clear A60
      by_cases c7 : t230 < 0
      ·rw [if_pos c7] at H
       have c7b0 : decide (t230 < 0) = true:=decide_eq_true c7
       clear c7
       obtain rfl:=Option.some.inj H
       have p229 : 0 ≤ (x5_1 : Int):=Up.od
       have q229 : x5_1 < (l0.length : Int):=Up.od
       obtain ⟨ad229,A229_1,c229_1,e229,hx229_0,hx229_1,hl229_1,hi229_1⟩:=at_T124 HR0.out x5_1 p229 q229
       cases e229
       replace hx229_0:=Up.hc HB hx229_0
       replace hx229_1:=Up.hc HB hx229_1
       have HR229_1:=Aside0.mk hi229_1
       have HC229_1:=Aside0.mk hl229_1
       clear hi229_1 hl229_1
       replace p229:=eq_true p229
       replace q229:=eq_true q229
       go_wp2_with (first | ((with_reducible refine gate_callee (f:=94) rfl ?_);refine Up.gl (some 23) Try.func94 #[.agg #[.int .i64 ((rd_T124 l0 x5_1).f0),.slice A229_1 ((rd_T124 l0 x5_1).f1).length c229_1],.int .i64 x1_1] ?_;(with_reducible refine (laws_szRecord.calls k1 ((rd_T124 l0 x5_1).f0) _ _ ((rd_T124 l0 x5_1).f1) x1_1 t230 _ ?side1 ?side2 A6.out).mono ?_);(case side1 => exact Up.Cx HR229_1 HB);(case side2 => exact HC229_1.out);rintro e w8 ⟨rfl,hb⟩;refine ⟨_,rfl,?_⟩;have n0_:=Up.BB HB hb;clear HB;have HB:=n0_;clear n0_;(try clear hb);(try clear hb2);(try clear hk);(try clear hi)))
       go_ret
       exact Up.e1 (Up.Bup HB)
      ·rw [if_neg c7] at H
       have c7b0 : decide (t230 < 0) = false:=decide_eq_false c7
       clear c7
       have H':=Aside0.mk H
       clear H
       have p229 : 0 ≤ (x5_1 : Int):=Up.od
       have q229 : x5_1 < (l0.length : Int):=Up.od
       obtain ⟨ad229,A229_1,c229_1,e229,hx229_0,hx229_1,hl229_1,hi229_1⟩:=at_T124 HR0.out x5_1 p229 q229
       cases e229
       replace hx229_0:=Up.hc HB hx229_0
       replace hx229_1:=Up.hc HB hx229_1
       have HR229_1:=Aside0.mk hi229_1
       have HC229_1:=Aside0.mk hl229_1
       clear hi229_1 hl229_1
       replace p229:=eq_true p229
       replace q229:=eq_true q229
       go_wp2_with (first | ((with_reducible refine gate_callee (f:=94) rfl ?_);refine Up.gl (some 23) Try.func94 #[.agg #[.int .i64 ((rd_T124 l0 x5_1).f0),.slice A229_1 ((rd_T124 l0 x5_1).f1).length c229_1],.int .i64 x1_1] ?_;(with_reducible refine (laws_szRecord.calls k1 ((rd_T124 l0 x5_1).f0) _ _ ((rd_T124 l0 x5_1).f1) x1_1 t230 _ ?side1 ?side2 A6.out).mono ?_);(case side1 => exact Up.Cx HR229_1 HB);(case side2 => exact HC229_1.out);rintro e w9 ⟨rfl,hb⟩;refine ⟨_,rfl,?_⟩;have n0_:=Up.BB HB hb;clear HB;have HB:=n0_;clear n0_;(try clear hb);(try clear hb2);(try clear hk);(try clear hi)))
       go_roundg k1
       case measure => have:=HK1.out;omega
       case rel => exact ⟨(t230),(wrap64 (x5_1 + 1)),(by first | rfl | (simp;done) | (simp [*];done)),(by first | rfl | (simp;done) | (simp [*];done)),H',⟨by have:=HK1.out;omega⟩,⟨Up.Bup HB⟩⟩
     ·rw [if_neg c5] at H
      exact absurd H (by simp)
    ·rw [if_neg c4] at H
     have c4b0 : decide (x5_1 < (l0.length : Int)) = false:=decide_eq_false c4
     clear c4
     obtain rfl:=Option.some.inj H
     go_wp2
     go_ret
     exact Up.e1 (Up.Bup HB)

end Go.Proofs.Ytdgmlakgnbmbbaa.OFnExactValueCount
