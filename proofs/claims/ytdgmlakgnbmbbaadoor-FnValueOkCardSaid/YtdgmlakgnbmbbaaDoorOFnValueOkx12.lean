-- Laid by a program of this session (wip/myprint.py): the kit's print of the functions, contracts of our own among them.
import Derived.Test.YtdgmlakgnbmbbaaDoorOFnValueOkx0
import Derived.Test.YtdgmlakgnbmbbaaDoorOFnValueOkx1
import Derived.Test.YtdgmlakgnbmbbaaDoorOFnValueOkx11
namespace Go.Proofs.YtdgmlakgnbmbbaaDoor.OFnValueOk
open Go.RowKit Go.Proofs.YtdgmlakgnbmbbaaDoorW.PrintWords Go.Proofs.YtdgmlakgnbmbbaaDoorW.PrintLast Go.Proofs.YtdgmlakgnbmbbaaDoorW.PrintMore
attribute [local go_sem] max2_int min2_int max_two min_two max_three min_three max_four min_four   -- for this text's walks alone
set_option linter.unusedVariables false
set_option linter.unusedSimpArgs false

/-! ### spec_l2Ok: function 31 -/
mutual
def spec_l2Ok.j0 : Nat → List (List (S81)) → Int → Int → Bool → ByteArray → Int → List (S27) → List Int → Option (Bool)
 | 0,_,_,_,_,_,_,_,_ => none
 | k + 1,x0,x5,x6,x80,x404000,x404001,x404002,x404003 => if x80 = true then (some false) else (spec_l2Ok.l0 k x0 x5 x6 0 x404000 x404001 x404002 x404003)
def spec_l2Ok.l0 : Nat → List (List (S81)) → Int → Int → Int → ByteArray → Int → List (S27) → List Int → Option (Bool)
 | 0,_,_,_,_,_,_,_,_ => none
 | k + 1,x0,x5,x6,x8,x404000,x404001,x404002,x404003 => if x8 < (x404002.length : Int) then (if 0 ≤ x8 then (if 0 ≤ x5 then (if x5 < (x0.length : Int) then (if 0 ≤ x6 then (if x6 < ((rd_L5 x0 x5).length : Int) then (if x8 < (((rd_T81 (rd_L5 x0 x5) x6).f1).length : Int) then (if ((rd_T27 x404002 x8).f0).toList = (rdOf ByteArray.empty ((rd_T81 (rd_L5 x0 x5) x6).f1) x8).toList then ((spec_l2Ok.f k x0 ((rd_T27 x404002 x8).f0) ((rd_T27 x404002 x8).f1) ((rd_T27 x404002 x8).f2) ((rd_T27 x404002 x8).f3)).bind fun t421 => (if t421 = true then (spec_l2Ok.l0 k x0 x5 x6 (wrap64 (x8 + 1)) x404000 x404001 x404002 x404003) else (some false))) else (some false)) else (none)) else (none)) else (none)) else (none)) else (none)) else (none)) else (some true)
def spec_l2Ok.f : Nat → List (List (S81)) → ByteArray → Int → List (S27) → List Int → Option (Bool)
 | 0,_,_,_,_,_ => none
 | k + 1,l0,a1_0,a1_1,l1_2,l1_3 => if a1_0.toList = ([110] : List UInt8) then ((spec_l2Plain.f a1_0 a1_1 l1_2 l1_3).bind fun t404 => (if t404 = true then ((spec_l6In.f a1_1 0 1000000).bind fun t405 => (some t405)) else (some false))) else (if a1_0.toList = ([98] : List UInt8) then ((spec_l2Plain.f a1_0 a1_1 l1_2 l1_3).bind fun t406 => (if t406 = true then ((spec_l6In.f a1_1 0 1).bind fun t407 => (some t407)) else (some false))) else (if a1_0.toList = ([111] : List UInt8) then ((spec_l2Plain.f a1_0 a1_1 l1_2 l1_3).bind fun t408 => (if t408 = true then ((spec_l6In.f a1_1 0 3).bind fun t409 => (some t409)) else (some false))) else ((spec_l1Kind.f a1_0).bind fun bt410 => (if bt410.2.2 = true then ((spec_l1Has.f l0 bt410.1 bt410.2.1).bind fun t413 => (if t413 = true then (if a1_1 = 0 then (if (l1_3.length : Int) > 0 then (spec_l2Ok.j0 k l0 bt410.1 bt410.2.1 true a1_0 a1_1 l1_2 l1_3) else (if 0 ≤ bt410.1 then (if bt410.1 < (l0.length : Int) then (if 0 ≤ bt410.2.1 then (if bt410.2.1 < ((rd_L5 l0 bt410.1).length : Int) then (spec_l2Ok.j0 k l0 bt410.1 bt410.2.1 ((l1_2.length : Int) != (((rd_T81 (rd_L5 l0 bt410.1) bt410.2.1).f1).length : Int)) a1_0 a1_1 l1_2 l1_3) else (none)) else (none)) else (none)) else (none))) else (spec_l2Ok.j0 k l0 bt410.1 bt410.2.1 true a1_0 a1_1 l1_2 l1_3)) else (spec_l2Ok.j0 k l0 bt410.1 bt410.2.1 true a1_0 a1_1 l1_2 l1_3))) else (spec_l2Ok.j0 k l0 bt410.1 bt410.2.1 true a1_0 a1_1 l1_2 l1_3)))))
end
theorem spec_l2Ok.mono_l : ∀ k,(∀ y0 y1 y2 y3 y4,LeO (spec_l2Ok.f k y0 y1 y2 y3 y4) (spec_l2Ok.f (k + 1) y0 y1 y2 y3 y4)) ∧ (∀ y0 y1 y2 y3 y4 y5 y6 y7,LeO (spec_l2Ok.j0 k y0 y1 y2 y3 y4 y5 y6 y7) (spec_l2Ok.j0 (k + 1) y0 y1 y2 y3 y4 y5 y6 y7)) ∧ (∀ y0 y1 y2 y3 y4 y5 y6 y7,LeO (spec_l2Ok.l0 k y0 y1 y2 y3 y4 y5 y6 y7) (spec_l2Ok.l0 (k + 1) y0 y1 y2 y3 y4 y5 y6 y7))
 | 0 => ⟨fun _ _ _ _ _ r h => by simp [spec_l2Ok.f] at h,fun _ _ _ _ _ _ _ _ r h => by simp [spec_l2Ok.j0] at h,fun _ _ _ _ _ _ _ _ r h => by simp [spec_l2Ok.l0] at h⟩
 | k + 1 => by
  obtain ⟨ih0,ih1,ih2⟩:=spec_l2Ok.mono_l k
  refine ⟨?_,?_,?_⟩
  ·intro y0 y1 y2 y3 y4
   unfold spec_l2Ok.f
   repeat' first
   | (with_reducible exact ih0 _ _ _ _ _)
   | (with_reducible exact ih1 _ _ _ _ _ _ _ _)
   | (with_reducible exact ih2 _ _ _ _ _ _ _ _)
   | (with_reducible exact LeO.refl _)
   | (with_reducible exact LeO.none _)
   | (with_reducible refine LeO.ite ?_ ?_)
   | (with_reducible refine LeO.bind ?_ (fun _ => ?_))
   | exact ih0 _ _ _ _ _
   | exact ih1 _ _ _ _ _ _ _ _
   | exact ih2 _ _ _ _ _ _ _ _
   | exact LeO.none _
   | refine LeO.ite ?_ ?_
   | refine LeO.bind ?_ (fun _ => ?_)
  ·intro y0 y1 y2 y3 y4 y5 y6 y7
   unfold spec_l2Ok.j0
   repeat' first
   | (with_reducible exact ih0 _ _ _ _ _)
   | (with_reducible exact ih1 _ _ _ _ _ _ _ _)
   | (with_reducible exact ih2 _ _ _ _ _ _ _ _)
   | (with_reducible exact LeO.refl _)
   | (with_reducible exact LeO.none _)
   | (with_reducible refine LeO.ite ?_ ?_)
   | (with_reducible refine LeO.bind ?_ (fun _ => ?_))
   | exact ih0 _ _ _ _ _
   | exact ih1 _ _ _ _ _ _ _ _
   | exact ih2 _ _ _ _ _ _ _ _
   | exact LeO.none _
   | refine LeO.ite ?_ ?_
   | refine LeO.bind ?_ (fun _ => ?_)
  ·intro y0 y1 y2 y3 y4 y5 y6 y7
   unfold spec_l2Ok.l0
   repeat' first
   | (with_reducible exact ih0 _ _ _ _ _)
   | (with_reducible exact ih1 _ _ _ _ _ _ _ _)
   | (with_reducible exact ih2 _ _ _ _ _ _ _ _)
   | (with_reducible exact LeO.refl _)
   | (with_reducible exact LeO.none _)
   | (with_reducible refine LeO.ite ?_ ?_)
   | (with_reducible refine LeO.bind ?_ (fun _ => ?_))
   | exact ih0 _ _ _ _ _
   | exact ih1 _ _ _ _ _ _ _ _
   | exact ih2 _ _ _ _ _ _ _ _
   | exact LeO.none _
   | refine LeO.ite ?_ ?_
   | refine LeO.bind ?_ (fun _ => ?_)
theorem spec_l2Ok.mono : ∀ a0 a1 a2 a3 a4 k,LeO (spec_l2Ok.f k a0 a1 a2 a3 a4) (spec_l2Ok.f (k + 1) a0 a1 a2 a3 a4):=by
 intro a0 a1 a2 a3 a4 k
 obtain ⟨ih0,ih1,ih2⟩:=spec_l2Ok.mono_l k
 exact ih0 a0 a1 a2 a3 a4
def spec_l2Ok.T8 : Bool × List (List Nat × List Nat):=(true,[([],[]),([0],[0]),([1],[1]),([2],[2]),([2],[2]),([2],[2]),([3,4,5,2,2],[2,3,4,5]),([6,2],[2,6]),([2,7],[2,7]),([8,6],[8]),([9],[9]),([10,9],[9,10]),([11,9],[9,11]),([9,12],[9,12]),([13,9],[13]),([14],[14]),([15,14],[14,15]),([16,14],[14,16]),([17,14],[14,17]),([14,18],[14,18]),([19,14],[19]),([20],[20]),([21,20],[20,21]),([22,20],[20,22]),([20],[20]),([20],[20]),([24,25,20],[20,24,25]),([26,20],[20,26]),([20],[20]),([27,28,20],[20,27,28]),([29,20],[20,29]),([30,20],[20,30]),([31,20],[20,31]),([23,32,20],[20,23,32]),([20,33],[20,33])])
def spec_l2Ok.B8 : List Nat:=[0,1,3,7,7,7,63,127,255,511,1023,2047,4095,8191,16383,32767,65535,131071,262143,524287,1048575,2097151,4194303,8388607,2097151,2097151,52428799,119537663,2097151,522190847,1059061759,2132803583,4280287231,8589934591,17179869183]
theorem spec_l2Ok.tab8 : rtab .any (opsOf Tryd.f31 8) = spec_l2Ok.T8:=by kernel_rfl
theorem spec_l2Ok.bits8 : waitsOk spec_l2Ok.T8.2 spec_l2Ok.B8 = true:=by kernel_rfl
def spec_l2Ok.T13 : Bool × List (List Nat × List Nat):=(true,[([],[]),([0],[0]),([],[]),([1,2],[1,2]),([3],[3]),([4],[4]),([],[]),([],[]),([6,7],[6,7]),([8],[8]),([],[]),([9,10],[9,10]),([11],[11]),([12],[12]),([],[]),([13,14],[13,14]),([15],[15]),([5,16],[5,16]),([17],[17]),([18],[18]),([18],[18]),([20,18],[18,20]),([18],[18]),([21,22,18],[18,21,22]),([23,18],[18,23]),([19,24,18,18],[18,19,24]),([25,18],[18,25]),([18,26],[18,26])])
def spec_l2Ok.B13 : List Nat:=[0,1,0,7,15,31,0,0,192,448,0,1984,4032,8128,0,32704,65472,131071,262143,524287,524287,1572863,524287,7864319,16252927,33554431,67108863,134217727]
theorem spec_l2Ok.tab13 : rtab .any (opsOf Tryd.f31 13) = spec_l2Ok.T13:=by kernel_rfl
theorem spec_l2Ok.bits13 : waitsOk spec_l2Ok.T13.2 spec_l2Ok.B13 = true:=by kernel_rfl
set_option maxHeartbeats 8000000 in
set_option maxRecDepth 100000 in
theorem spec_l2Ok.calls (k : Nat) : ∀ (A0 : Option Addr) (c0 : Nat) (l0 : List (List (S81))) (a1_0 : ByteArray) (a1_1 : Int) (A1_2 : Option Addr) (c1_2 : Nat) (l1_2 : List (S27)) (A1_3 : Option Addr) (c1_3 : Nat) (l1_3 : List Int) (r : Bool) (w : World) (hr0 : Kd.C (Kd.slice 81 k81) w A0 l0.length l0) (hc0 : l0.length ≤ c0) (hr1_2 : Kd.C k27 w A1_2 l1_2.length l1_2) (hc1_2 : l1_2.length ≤ c1_2) (hr1_3 : Kd.C (Kd.int .i64) w A1_3 l1_3.length l1_3) (hc1_3 : l1_3.length ≤ c1_3) (h : spec_l2Ok.f k l0 a1_0 a1_1 l1_2 l1_3 = some r),
  Calls Tryd.prog 31 #[.slice A0 l0.length c0,.agg #[.string a1_0,.int .i64 a1_1,.slice A1_2 l1_2.length c1_2,.slice A1_3 l1_3.length c1_3]] w fun e w' => e = .returned (.bool r) ∧ Below w.heap.size w w':=by
 induction k using Nat.strongRecOn with
 | _ k ih =>
 intro A0 c0 l0 a1_0 a1_1 A1_2 c1_2 l1_2 A1_3 c1_3 l1_3 r w hr0 hc0 hr1_2 hc1_2 hr1_3 hc1_3 h
 cases k with
 | zero => exact absurd h (by simp [spec_l2Ok.f])
 | succ k =>
 simp only [spec_l2Ok.f] at h
 have hu27:=Tryd.underlying27
 have HR0:=Aside0.mk hr0
 have HC0:=Aside0.mk hc0
 clear hr0 hc0
 have HR1_2:=Aside0.mk hr1_2
 have HC1_2:=Aside0.mk hc1_2
 clear hr1_2 hc1_2
 have HR1_3:=Aside0.mk hr1_3
 have HC1_3:=Aside0.mk hc1_3
 clear hr1_3 hc1_3
 have HB:=Aside0.mk (Below.refl w.heap.size w)
 have H : (if a1_0.toList = ([110] : List UInt8) then ((spec_l2Plain.f a1_0 a1_1 l1_2 l1_3).bind fun t404 => (if t404 = true then ((spec_l6In.f a1_1 0 1000000).bind fun t405 => (some t405)) else (some false))) else (if a1_0.toList = ([98] : List UInt8) then ((spec_l2Plain.f a1_0 a1_1 l1_2 l1_3).bind fun t406 => (if t406 = true then ((spec_l6In.f a1_1 0 1).bind fun t407 => (some t407)) else (some false))) else (if a1_0.toList = ([111] : List UInt8) then ((spec_l2Plain.f a1_0 a1_1 l1_2 l1_3).bind fun t408 => (if t408 = true then ((spec_l6In.f a1_1 0 3).bind fun t409 => (some t409)) else (some false))) else ((spec_l1Kind.f a1_0).bind fun bt410 => (if bt410.2.2 = true then ((spec_l1Has.f l0 bt410.1 bt410.2.1).bind fun t413 => (if t413 = true then (if a1_1 = 0 then (if (l1_3.length : Int) > 0 then (spec_l2Ok.j0 k l0 bt410.1 bt410.2.1 true a1_0 a1_1 l1_2 l1_3) else (if 0 ≤ bt410.1 then (if bt410.1 < (l0.length : Int) then (if 0 ≤ bt410.2.1 then (if bt410.2.1 < ((rd_L5 l0 bt410.1).length : Int) then (spec_l2Ok.j0 k l0 bt410.1 bt410.2.1 ((l1_2.length : Int) != (((rd_T81 (rd_L5 l0 bt410.1) bt410.2.1).f1).length : Int)) a1_0 a1_1 l1_2 l1_3) else (none)) else (none)) else (none)) else (none))) else (spec_l2Ok.j0 k l0 bt410.1 bt410.2.1 true a1_0 a1_1 l1_2 l1_3)) else (spec_l2Ok.j0 k l0 bt410.1 bt410.2.1 true a1_0 a1_1 l1_2 l1_3))) else (spec_l2Ok.j0 k l0 bt410.1 bt410.2.1 true a1_0 a1_1 l1_2 l1_3)))))) = some r:=h
 clear h
 by_cases c3 : a1_0.toList = ([110] : List UInt8)
 ·rw [if_pos c3] at H
  have c3b0 : (a1_0.toList == ([110] : List UInt8)) = true:=beq_iff_eq.mpr c3
  have c3b1 : (a1_0.toList != ([110] : List UInt8)) = false:=bne_eq_false_iff_eq.mpr c3
  clear c3
  replace H:=Option.bind_eq_some_iff.mp H
  obtain ⟨t404,A40,H⟩:=H
  replace H : (if t404 = true then ((spec_l6In.f a1_1 0 1000000).bind fun t405 => (some t405)) else (some false)) = some r:=H
  have A4:=Aside0.mk A40
  clear A40
  by_cases c5 : t404 = true
  ·subst c5
   have H1 : ((spec_l6In.f a1_1 0 1000000).bind fun t405 => (some t405)) = some r:=by rw [if_pos rfl] at H;exact H
   clear H
   have H:=H1
   clear H1
   replace H:=Option.bind_eq_some_iff.mp H
   obtain ⟨t405,A60,H⟩:=H
   replace H : (some t405) = some r:=H
   have A6:=Aside0.mk A60
   clear A60
   obtain rfl:=Option.some.inj H
   go_enter Tryd.func31,Tryd.ntmps31
   go_wp2_with (first | ((with_reducible refine gate_dst (N:=3) rfl ?_);(try (refine gate_guard (by rfl) ?_;dsimp only));refine Up.bx 3 27 #[.string a1_0,.int .i64 a1_1,.slice A1_2 l1_2.length c1_2,.slice A1_3 l1_3.length c1_3] ?_;intro gb403 hg w7 hbox hb;have n0_:=Up.BB HB hb;have n1_:=Aside0.mk (hbox);have n2_:=Up.gw hg HB;have n3_:=Up.gw hg HB;clear HB;have HB:=n0_;have BK403:=n1_;have GW403:=n2_;have GE403:=n3_;clear n0_ n1_ n2_ n3_ hb hbox hg;have hcz8_0:=Up.c0 BK403;have hcz8_1:=Up.c1 BK403;have hcz8_2:=Up.c2 BK403;have hcz8_3:=Up.c3 BK403;have hfz8_0:=blk_frozen BK403.out 0;have hfz8_1:=blk_frozen BK403.out 1;have hfz8_2:=blk_frozen BK403.out 2;have hfz8_3:=blk_frozen BK403.out 3) | ((with_reducible refine gate_callee (f:=58) rfl ?_);refine Up.gl (some 13) Tryd.func58 #[.agg #[.string a1_0,.int .i64 a1_1,.slice A1_2 l1_2.length c1_2,.slice A1_3 l1_3.length c1_3]] ?_;(with_reducible refine (spec_l2Plain.calls a1_0 a1_1 _ _ l1_2 _ _ l1_3 true _ ?side1 ?side2 ?side3 ?side4 A4.out).mono ?_);(case side1 => exact Up.Cx HR1_2 HB);(case side2 => exact HC1_2.out);(case side3 => exact Up.Cx HR1_3 HB);(case side4 => exact HC1_3.out);rintro e w9 ⟨rfl,hb⟩;refine ⟨_,rfl,?_⟩;have n0_:=Up.KB BK403 hb;have n1_:=Aside0.mk (below_step (Up.Bx HB) hb);clear BK403 HB;have BK403:=n0_;have HB:=n1_;clear n0_ n1_;(try clear hb);(try clear hb2);(try clear hk);(try clear hi);have hcz10_0:=Up.c0 BK403;have hcz10_1:=Up.c1 BK403;have hcz10_2:=Up.c2 BK403;have hcz10_3:=Up.c3 BK403;have hfz10_0:=blk_frozen BK403.out 0;have hfz10_1:=blk_frozen BK403.out 1;have hfz10_2:=blk_frozen BK403.out 2;have hfz10_3:=blk_frozen BK403.out 3) | (go_at_call 59;(with_reducible refine (spec_l6In.calls a1_1 0 1000000 t405 _ A6.out).mono ?_);rintro e w' ⟨rfl,⟨nd,rfl⟩⟩))
   go_ret
   exact Up.e1 (Up.Bx HB)
  ·replace c5:=Bool.eq_false_iff.mpr c5
   subst c5
   have H1 : (some false) = some r:=by rw [if_neg (show ¬ (false = true) by decide)] at H;exact H
   clear H
   have H:=H1
   clear H1
   obtain rfl:=Option.some.inj H
   go_enter Tryd.func31,Tryd.ntmps31
   go_wp2_with (first | ((with_reducible refine gate_dst (N:=3) rfl ?_);(try (refine gate_guard (by rfl) ?_;dsimp only));refine Up.bx 3 27 #[.string a1_0,.int .i64 a1_1,.slice A1_2 l1_2.length c1_2,.slice A1_3 l1_3.length c1_3] ?_;intro gb403 hg w11 hbox hb;have n0_:=Up.BB HB hb;have n1_:=Aside0.mk (hbox);have n2_:=Up.gw hg HB;have n3_:=Up.gw hg HB;clear HB;have HB:=n0_;have BK403:=n1_;have GW403:=n2_;have GE403:=n3_;clear n0_ n1_ n2_ n3_ hb hbox hg;have hcz12_0:=Up.c0 BK403;have hcz12_1:=Up.c1 BK403;have hcz12_2:=Up.c2 BK403;have hcz12_3:=Up.c3 BK403;have hfz12_0:=blk_frozen BK403.out 0;have hfz12_1:=blk_frozen BK403.out 1;have hfz12_2:=blk_frozen BK403.out 2;have hfz12_3:=blk_frozen BK403.out 3) | ((with_reducible refine gate_callee (f:=58) rfl ?_);refine Up.gl (some 13) Tryd.func58 #[.agg #[.string a1_0,.int .i64 a1_1,.slice A1_2 l1_2.length c1_2,.slice A1_3 l1_3.length c1_3]] ?_;(with_reducible refine (spec_l2Plain.calls a1_0 a1_1 _ _ l1_2 _ _ l1_3 false _ ?side1 ?side2 ?side3 ?side4 A4.out).mono ?_);(case side1 => exact Up.Cx HR1_2 HB);(case side2 => exact HC1_2.out);(case side3 => exact Up.Cx HR1_3 HB);(case side4 => exact HC1_3.out);rintro e w13 ⟨rfl,hb⟩;refine ⟨_,rfl,?_⟩;have n0_:=Up.KB BK403 hb;have n1_:=Aside0.mk (below_step (Up.Bx HB) hb);clear BK403 HB;have BK403:=n0_;have HB:=n1_;clear n0_ n1_;(try clear hb);(try clear hb2);(try clear hk);(try clear hi)))
   go_ret
   exact Up.e1 (Up.Bx HB)
 ·rw [if_neg c3] at H
  have c3b0 : (a1_0.toList == ([110] : List UInt8)) = false:=beq_eq_false_iff_ne.mpr c3
  have c3b1 : (a1_0.toList != ([110] : List UInt8)) = true:=bne_iff_ne.mpr c3
  by_cases c14 : a1_0.toList = ([98] : List UInt8)
  ·rw [if_pos c14] at H
   have c14b0 : (a1_0.toList == ([98] : List UInt8)) = true:=beq_iff_eq.mpr c14
   have c14b1 : (a1_0.toList != ([98] : List UInt8)) = false:=bne_eq_false_iff_eq.mpr c14
   clear c14
   replace H:=Option.bind_eq_some_iff.mp H
   obtain ⟨t406,A150,H⟩:=H
   replace H : (if t406 = true then ((spec_l6In.f a1_1 0 1).bind fun t407 => (some t407)) else (some false)) = some r:=H
   have A15:=Aside0.mk A150
   clear A150
   by_cases c16 : t406 = true
   ·subst c16
    have H1 : ((spec_l6In.f a1_1 0 1).bind fun t407 => (some t407)) = some r:=by rw [if_pos rfl] at H;exact H
    clear H
    have H:=H1
    clear H1
    replace H:=Option.bind_eq_some_iff.mp H
    obtain ⟨t407,A170,H⟩:=H
    replace H : (some t407) = some r:=H
    have A17:=Aside0.mk A170
    clear A170
    obtain rfl:=Option.some.inj H
    go_enter Tryd.func31,Tryd.ntmps31
    go_wp2_with (first | ((with_reducible refine gate_dst (N:=3) rfl ?_);(try (refine gate_guard (by rfl) ?_;dsimp only));refine Up.bx 3 27 #[.string a1_0,.int .i64 a1_1,.slice A1_2 l1_2.length c1_2,.slice A1_3 l1_3.length c1_3] ?_;intro gb403 hg w18 hbox hb;have n0_:=Up.BB HB hb;have n1_:=Aside0.mk (hbox);have n2_:=Up.gw hg HB;have n3_:=Up.gw hg HB;clear HB;have HB:=n0_;have BK403:=n1_;have GW403:=n2_;have GE403:=n3_;clear n0_ n1_ n2_ n3_ hb hbox hg;have hcz19_0:=Up.c0 BK403;have hcz19_1:=Up.c1 BK403;have hcz19_2:=Up.c2 BK403;have hcz19_3:=Up.c3 BK403;have hfz19_0:=blk_frozen BK403.out 0;have hfz19_1:=blk_frozen BK403.out 1;have hfz19_2:=blk_frozen BK403.out 2;have hfz19_3:=blk_frozen BK403.out 3) | ((with_reducible refine gate_callee (f:=58) rfl ?_);refine Up.gl (some 23) Tryd.func58 #[.agg #[.string a1_0,.int .i64 a1_1,.slice A1_2 l1_2.length c1_2,.slice A1_3 l1_3.length c1_3]] ?_;(with_reducible refine (spec_l2Plain.calls a1_0 a1_1 _ _ l1_2 _ _ l1_3 true _ ?side1 ?side2 ?side3 ?side4 A15.out).mono ?_);(case side1 => exact Up.Cx HR1_2 HB);(case side2 => exact HC1_2.out);(case side3 => exact Up.Cx HR1_3 HB);(case side4 => exact HC1_3.out);rintro e w20 ⟨rfl,hb⟩;refine ⟨_,rfl,?_⟩;have n0_:=Up.KB BK403 hb;have n1_:=Aside0.mk (below_step (Up.Bx HB) hb);clear BK403 HB;have BK403:=n0_;have HB:=n1_;clear n0_ n1_;(try clear hb);(try clear hb2);(try clear hk);(try clear hi);have hcz21_0:=Up.c0 BK403;have hcz21_1:=Up.c1 BK403;have hcz21_2:=Up.c2 BK403;have hcz21_3:=Up.c3 BK403;have hfz21_0:=blk_frozen BK403.out 0;have hfz21_1:=blk_frozen BK403.out 1;have hfz21_2:=blk_frozen BK403.out 2;have hfz21_3:=blk_frozen BK403.out 3) | (go_at_call 59;(with_reducible refine (spec_l6In.calls a1_1 0 1 t407 _ A17.out).mono ?_);rintro e w' ⟨rfl,⟨nd,rfl⟩⟩))
    go_ret
    exact Up.e1 (Up.Bx HB)
   ·replace c16:=Bool.eq_false_iff.mpr c16
    subst c16
    have H1 : (some false) = some r:=by rw [if_neg (show ¬ (false = true) by decide)] at H;exact H
    clear H
    have H:=H1
    clear H1
    obtain rfl:=Option.some.inj H
    go_enter Tryd.func31,Tryd.ntmps31
    go_wp2_with (first | ((with_reducible refine gate_dst (N:=3) rfl ?_);(try (refine gate_guard (by rfl) ?_;dsimp only));refine Up.bx 3 27 #[.string a1_0,.int .i64 a1_1,.slice A1_2 l1_2.length c1_2,.slice A1_3 l1_3.length c1_3] ?_;intro gb403 hg w22 hbox hb;have n0_:=Up.BB HB hb;have n1_:=Aside0.mk (hbox);have n2_:=Up.gw hg HB;have n3_:=Up.gw hg HB;clear HB;have HB:=n0_;have BK403:=n1_;have GW403:=n2_;have GE403:=n3_;clear n0_ n1_ n2_ n3_ hb hbox hg;have hcz23_0:=Up.c0 BK403;have hcz23_1:=Up.c1 BK403;have hcz23_2:=Up.c2 BK403;have hcz23_3:=Up.c3 BK403;have hfz23_0:=blk_frozen BK403.out 0;have hfz23_1:=blk_frozen BK403.out 1;have hfz23_2:=blk_frozen BK403.out 2;have hfz23_3:=blk_frozen BK403.out 3) | ((with_reducible refine gate_callee (f:=58) rfl ?_);refine Up.gl (some 23) Tryd.func58 #[.agg #[.string a1_0,.int .i64 a1_1,.slice A1_2 l1_2.length c1_2,.slice A1_3 l1_3.length c1_3]] ?_;(with_reducible refine (spec_l2Plain.calls a1_0 a1_1 _ _ l1_2 _ _ l1_3 false _ ?side1 ?side2 ?side3 ?side4 A15.out).mono ?_);(case side1 => exact Up.Cx HR1_2 HB);(case side2 => exact HC1_2.out);(case side3 => exact Up.Cx HR1_3 HB);(case side4 => exact HC1_3.out);rintro e w24 ⟨rfl,hb⟩;refine ⟨_,rfl,?_⟩;have n0_:=Up.KB BK403 hb;have n1_:=Aside0.mk (below_step (Up.Bx HB) hb);clear BK403 HB;have BK403:=n0_;have HB:=n1_;clear n0_ n1_;(try clear hb);(try clear hb2);(try clear hk);(try clear hi)))
    go_ret
    exact Up.e1 (Up.Bx HB)
  ·rw [if_neg c14] at H
   have c14b0 : (a1_0.toList == ([98] : List UInt8)) = false:=beq_eq_false_iff_ne.mpr c14
   have c14b1 : (a1_0.toList != ([98] : List UInt8)) = true:=bne_iff_ne.mpr c14
   by_cases c25 : a1_0.toList = ([111] : List UInt8)
   ·rw [if_pos c25] at H
    have c25b0 : (a1_0.toList == ([111] : List UInt8)) = true:=beq_iff_eq.mpr c25
    have c25b1 : (a1_0.toList != ([111] : List UInt8)) = false:=bne_eq_false_iff_eq.mpr c25
    clear c25
    replace H:=Option.bind_eq_some_iff.mp H
    obtain ⟨t408,A260,H⟩:=H
    replace H : (if t408 = true then ((spec_l6In.f a1_1 0 3).bind fun t409 => (some t409)) else (some false)) = some r:=H
    have A26:=Aside0.mk A260
    clear A260
    by_cases c27 : t408 = true
    ·subst c27
     have H1 : ((spec_l6In.f a1_1 0 3).bind fun t409 => (some t409)) = some r:=by rw [if_pos rfl] at H;exact H
     clear H
     have H:=H1
     clear H1
     replace H:=Option.bind_eq_some_iff.mp H
     obtain ⟨t409,A280,H⟩:=H
     replace H : (some t409) = some r:=H
     have A28:=Aside0.mk A280
     clear A280
     obtain rfl:=Option.some.inj H
     go_enter Tryd.func31,Tryd.ntmps31
     go_wp2_with (first | ((with_reducible refine gate_dst (N:=3) rfl ?_);(try (refine gate_guard (by rfl) ?_;dsimp only));refine Up.bx 3 27 #[.string a1_0,.int .i64 a1_1,.slice A1_2 l1_2.length c1_2,.slice A1_3 l1_3.length c1_3] ?_;intro gb403 hg w29 hbox hb;have n0_:=Up.BB HB hb;have n1_:=Aside0.mk (hbox);have n2_:=Up.gw hg HB;have n3_:=Up.gw hg HB;clear HB;have HB:=n0_;have BK403:=n1_;have GW403:=n2_;have GE403:=n3_;clear n0_ n1_ n2_ n3_ hb hbox hg;have hcz30_0:=Up.c0 BK403;have hcz30_1:=Up.c1 BK403;have hcz30_2:=Up.c2 BK403;have hcz30_3:=Up.c3 BK403;have hfz30_0:=blk_frozen BK403.out 0;have hfz30_1:=blk_frozen BK403.out 1;have hfz30_2:=blk_frozen BK403.out 2;have hfz30_3:=blk_frozen BK403.out 3) | ((with_reducible refine gate_callee (f:=58) rfl ?_);refine Up.gl (some 33) Tryd.func58 #[.agg #[.string a1_0,.int .i64 a1_1,.slice A1_2 l1_2.length c1_2,.slice A1_3 l1_3.length c1_3]] ?_;(with_reducible refine (spec_l2Plain.calls a1_0 a1_1 _ _ l1_2 _ _ l1_3 true _ ?side1 ?side2 ?side3 ?side4 A26.out).mono ?_);(case side1 => exact Up.Cx HR1_2 HB);(case side2 => exact HC1_2.out);(case side3 => exact Up.Cx HR1_3 HB);(case side4 => exact HC1_3.out);rintro e w31 ⟨rfl,hb⟩;refine ⟨_,rfl,?_⟩;have n0_:=Up.KB BK403 hb;have n1_:=Aside0.mk (below_step (Up.Bx HB) hb);clear BK403 HB;have BK403:=n0_;have HB:=n1_;clear n0_ n1_;(try clear hb);(try clear hb2);(try clear hk);(try clear hi);have hcz32_0:=Up.c0 BK403;have hcz32_1:=Up.c1 BK403;have hcz32_2:=Up.c2 BK403;have hcz32_3:=Up.c3 BK403;have hfz32_0:=blk_frozen BK403.out 0;have hfz32_1:=blk_frozen BK403.out 1;have hfz32_2:=blk_frozen BK403.out 2;have hfz32_3:=blk_frozen BK403.out 3) | (go_at_call 59;(with_reducible refine (spec_l6In.calls a1_1 0 3 t409 _ A28.out).mono ?_);rintro e w' ⟨rfl,⟨nd,rfl⟩⟩))
     go_ret
     exact Up.e1 (Up.Bx HB)
    ·replace c27:=Bool.eq_false_iff.mpr c27
     subst c27
     have H1 : (some false) = some r:=by rw [if_neg (show ¬ (false = true) by decide)] at H;exact H
     clear H
     have H:=H1
     clear H1
     obtain rfl:=Option.some.inj H
     go_enter Tryd.func31,Tryd.ntmps31
     go_wp2_with (first | ((with_reducible refine gate_dst (N:=3) rfl ?_);(try (refine gate_guard (by rfl) ?_;dsimp only));refine Up.bx 3 27 #[.string a1_0,.int .i64 a1_1,.slice A1_2 l1_2.length c1_2,.slice A1_3 l1_3.length c1_3] ?_;intro gb403 hg w33 hbox hb;have n0_:=Up.BB HB hb;have n1_:=Aside0.mk (hbox);have n2_:=Up.gw hg HB;have n3_:=Up.gw hg HB;clear HB;have HB:=n0_;have BK403:=n1_;have GW403:=n2_;have GE403:=n3_;clear n0_ n1_ n2_ n3_ hb hbox hg;have hcz34_0:=Up.c0 BK403;have hcz34_1:=Up.c1 BK403;have hcz34_2:=Up.c2 BK403;have hcz34_3:=Up.c3 BK403;have hfz34_0:=blk_frozen BK403.out 0;have hfz34_1:=blk_frozen BK403.out 1;have hfz34_2:=blk_frozen BK403.out 2;have hfz34_3:=blk_frozen BK403.out 3) | ((with_reducible refine gate_callee (f:=58) rfl ?_);refine Up.gl (some 33) Tryd.func58 #[.agg #[.string a1_0,.int .i64 a1_1,.slice A1_2 l1_2.length c1_2,.slice A1_3 l1_3.length c1_3]] ?_;(with_reducible refine (spec_l2Plain.calls a1_0 a1_1 _ _ l1_2 _ _ l1_3 false _ ?side1 ?side2 ?side3 ?side4 A26.out).mono ?_);(case side1 => exact Up.Cx HR1_2 HB);(case side2 => exact HC1_2.out);(case side3 => exact Up.Cx HR1_3 HB);(case side4 => exact HC1_3.out);rintro e w35 ⟨rfl,hb⟩;refine ⟨_,rfl,?_⟩;have n0_:=Up.KB BK403 hb;have n1_:=Aside0.mk (below_step (Up.Bx HB) hb);clear BK403 HB;have BK403:=n0_;have HB:=n1_;clear n0_ n1_;(try clear hb);(try clear hb2);(try clear hk);(try clear hi)))
     go_ret
     exact Up.e1 (Up.Bx HB)
   ·rw [if_neg c25] at H
    have c25b0 : (a1_0.toList == ([111] : List UInt8)) = false:=beq_eq_false_iff_ne.mpr c25
    have c25b1 : (a1_0.toList != ([111] : List UInt8)) = true:=bne_iff_ne.mpr c25
    replace H:=Option.bind_eq_some_iff.mp H
    obtain ⟨⟨t410,t411,t412⟩,A360,H⟩:=H
    replace H : (if t412 = true then ((spec_l1Has.f l0 t410 t411).bind fun t413 => (if t413 = true then (if a1_1 = 0 then (if (l1_3.length : Int) > 0 then (spec_l2Ok.j0 k l0 t410 t411 true a1_0 a1_1 l1_2 l1_3) else (if 0 ≤ t410 then (if t410 < (l0.length : Int) then (if 0 ≤ t411 then (if t411 < ((rd_L5 l0 t410).length : Int) then (spec_l2Ok.j0 k l0 t410 t411 ((l1_2.length : Int) != (((rd_T81 (rd_L5 l0 t410) t411).f1).length : Int)) a1_0 a1_1 l1_2 l1_3) else (none)) else (none)) else (none)) else (none))) else (spec_l2Ok.j0 k l0 t410 t411 true a1_0 a1_1 l1_2 l1_3)) else (spec_l2Ok.j0 k l0 t410 t411 true a1_0 a1_1 l1_2 l1_3))) else (spec_l2Ok.j0 k l0 t410 t411 true a1_0 a1_1 l1_2 l1_3)) = some r:=H
    have A36:=Aside0.mk A360
    clear A360
    have HC37:=Aside0.mk H
    clear H
    go_enter Tryd.func31,Tryd.ntmps31
    go_upto_region 8 with (first | ((with_reducible refine gate_dst (N:=3) rfl ?_);(try (refine gate_guard (by rfl) ?_;dsimp only));refine Up.bx 3 27 #[.string a1_0,.int .i64 a1_1,.slice A1_2 l1_2.length c1_2,.slice A1_3 l1_3.length c1_3] ?_;intro gb403 hg w38 hbox hb;have n0_:=Up.BB HB hb;have n1_:=Aside0.mk (hbox);have n2_:=Up.gw hg HB;have n3_:=Up.gw hg HB;clear HB;have HB:=n0_;have BK403:=n1_;have GW403:=n2_;have GE403:=n3_;clear n0_ n1_ n2_ n3_ hb hbox hg;have hcz39_0:=Up.c0 BK403;have hcz39_1:=Up.c1 BK403;have hcz39_2:=Up.c2 BK403;have hcz39_3:=Up.c3 BK403;have hfz39_0:=blk_frozen BK403.out 0;have hfz39_1:=blk_frozen BK403.out 1;have hfz39_2:=blk_frozen BK403.out 2;have hfz39_3:=blk_frozen BK403.out 3) | ((with_reducible refine gate_callee (f:=51) rfl ?_);refine Up.gl (some 42) Tryd.func51 #[.string a1_0] ?_;(with_reducible refine (spec_l1Kind.calls a1_0 t410 t411 t412 _ A36.out).mono ?_);rintro e w' ⟨rfl,⟨nd,rfl⟩⟩;refine ⟨_,rfl,?_⟩))
    (try simp only [Act.put,List.setIfInBounds_toArray,List.set_cons_zero,List.set_cons_succ])
    go_cut [80] (fun v80 wc => ∃ (kq : Nat) (x80_36 : Bool),v80 = .bool x80_36 ∧ Aside0 (spec_l2Ok.j0 kq l0 t410 t411 x80_36 a1_0 a1_1 l1_2 l1_3 = some r) ∧ Aside0 (kq ≤ k) ∧ Aside0 (wc.heap[gb403]? = some (.cells #[.string a1_0,.int .i64 a1_1,(.slice A1_2 l1_2.length c1_2),(.slice A1_3 l1_3.length c1_3)] 27 (0,0))) ∧ Aside0 (Below w.heap.size w wc))
    case first =>
     have H:=HC37.out
     clear HC37
     by_cases c40 : t412 = true
     ·subst c40
      have H1 : ((spec_l1Has.f l0 t410 t411).bind fun t413 => (if t413 = true then (if a1_1 = 0 then (if (l1_3.length : Int) > 0 then (spec_l2Ok.j0 k l0 t410 t411 true a1_0 a1_1 l1_2 l1_3) else (if 0 ≤ t410 then (if t410 < (l0.length : Int) then (if 0 ≤ t411 then (if t411 < ((rd_L5 l0 t410).length : Int) then (spec_l2Ok.j0 k l0 t410 t411 ((l1_2.length : Int) != (((rd_T81 (rd_L5 l0 t410) t411).f1).length : Int)) a1_0 a1_1 l1_2 l1_3) else (none)) else (none)) else (none)) else (none))) else (spec_l2Ok.j0 k l0 t410 t411 true a1_0 a1_1 l1_2 l1_3)) else (spec_l2Ok.j0 k l0 t410 t411 true a1_0 a1_1 l1_2 l1_3))) = some r:=by rw [if_pos rfl] at H;exact H
      clear H
      have H:=H1
      clear H1
      replace H:=Option.bind_eq_some_iff.mp H
      obtain ⟨t413,A410,H⟩:=H
      replace H : (if t413 = true then (if a1_1 = 0 then (if (l1_3.length : Int) > 0 then (spec_l2Ok.j0 k l0 t410 t411 true a1_0 a1_1 l1_2 l1_3) else (if 0 ≤ t410 then (if t410 < (l0.length : Int) then (if 0 ≤ t411 then (if t411 < ((rd_L5 l0 t410).length : Int) then (spec_l2Ok.j0 k l0 t410 t411 ((l1_2.length : Int) != (((rd_T81 (rd_L5 l0 t410) t411).f1).length : Int)) a1_0 a1_1 l1_2 l1_3) else (none)) else (none)) else (none)) else (none))) else (spec_l2Ok.j0 k l0 t410 t411 true a1_0 a1_1 l1_2 l1_3)) else (spec_l2Ok.j0 k l0 t410 t411 true a1_0 a1_1 l1_2 l1_3)) = some r:=H
      have A41:=Aside0.mk A410
      clear A410
      by_cases c42 : t413 = true
      ·subst c42
       have H1 : (if a1_1 = 0 then (if (l1_3.length : Int) > 0 then (spec_l2Ok.j0 k l0 t410 t411 true a1_0 a1_1 l1_2 l1_3) else (if 0 ≤ t410 then (if t410 < (l0.length : Int) then (if 0 ≤ t411 then (if t411 < ((rd_L5 l0 t410).length : Int) then (spec_l2Ok.j0 k l0 t410 t411 ((l1_2.length : Int) != (((rd_T81 (rd_L5 l0 t410) t411).f1).length : Int)) a1_0 a1_1 l1_2 l1_3) else (none)) else (none)) else (none)) else (none))) else (spec_l2Ok.j0 k l0 t410 t411 true a1_0 a1_1 l1_2 l1_3)) = some r:=by rw [if_pos rfl] at H;exact H
       clear H
       have H:=H1
       clear H1
       by_cases c43 : a1_1 = 0
       ·rw [if_pos c43] at H
        have c43b0 : (a1_1 == 0) = true:=beq_iff_eq.mpr c43
        have c43b1 : (a1_1 != 0) = false:=bne_eq_false_iff_eq.mpr c43
        clear c43
        (first | rw [c43b0] | (simp only [i64_w,i32_w];rw [c43b0]) | skip)
        by_cases c44 : (l1_3.length : Int) > 0
        ·rw [if_pos c44] at H
         have c44b0 : decide (0 < (l1_3.length : Int)) = true:=decide_eq_true c44
         have c44b1 : decide (0 < l1_3.length) = true:=decide_eq_true (by omega)
         clear c44
         have H':=Aside0.mk H
         clear H
         try go_wp2
         have BKd_:=Aside0.mk (blk_drewN BK403.out nd)
         have HBd_:=Aside0.mk (pw_below_drewN HB.out nd)
         clear BK403 HB
         have BK403:=BKd_
         have HB:=HBd_
         clear BKd_ HBd_
         generalize w38.drewN nd = w38 at BK403 HB ⊢
         have n0_:=Aside0.mk (blk_drew BK403.out)
         have n1_:=Aside0.mk (below_drew1 HB.out)
         clear BK403
         clear HB
         have BK403:=n0_
         have HB:=n1_
         clear n0_ n1_
         refine start_ (n:=35) (S:=fun w' => w'.cell? ⟨gb403,0,none⟩ = some (.string a1_0) ∧ w'.cell? ⟨gb403,1,none⟩ = some (.int .i64 a1_1) ∧ w'.cell? ⟨gb403,2,none⟩ = some (.slice A1_2 l1_2.length c1_2) ∧ w'.cell? ⟨gb403,3,none⟩ = some (.slice A1_3 l1_3.length c1_3)) (ds:=[]) #[false,false,false,false,false,false,false,false,false,false,false,false,false,false,false,false,false,false,false,false,false,false,false,false,false,false,false,false,false,false,false,false,false,false,false] (by kernel_rfl) rfl rfl ⟨Up.c0 BK403,Up.c1 BK403,Up.c2 BK403,Up.c3 BK403⟩ (fun hHeld => ?_);refine with_tabW spec_l2Ok.tab8 spec_l2Ok.bits8 (fun HT_ HW_ => ?_)
         generalize w38.drew = w45 at BK403 HB hHeld ⊢
         refine Up.pu 0 (some 46) HT_ ?_
         refine Up.pu 1 (some 47) HT_ ?_
         refine Up.pu 2 (some 48) HT_ ?_
         refine Up.pu 3 (some 49) HT_ ?_
         refine Up.pu 4 (some 50) HT_ ?_
         refine Up.pu 5 (some 51) HT_ ?_
         refine Up.on 6 (some 52) HT_ (fun K hK => ?_)
         refine Up.go Tryd.func52 #[.slice A0 l0.length c0,.int .i64 t410,.int .i64 t411] ?_
         with_reducible refine (spec_l1Has.calls _ _ l0 t410 t411 true _ ?side1 ?side2 A41.out).mono ?_
         (case side1 => exact Up.Cx HR0 HB)
         (case side2 => exact HC0.out)
         rintro e w' ⟨rfl,⟨nd,rfl⟩⟩
         refine ⟨_,rfl,?_⟩
         refine hK.out _ _ ⟨Up.c0 BK403,Up.c1 BK403,Up.c2 BK403,Up.c3 BK403⟩ (fun hHeld => ?_)
         clear hK K
         refine Up.nm 52 ?_
         refine Up.pu 7 (some 53) HT_ ?_
         refine Up.pu 8 (some 54) HT_ ?_
         refine Up.pu 9 (some 55) HT_ ?_
         refine Up.pu 10 (some 56) HT_ ?_
         refine Up.tk 11 (some 57) HT_ HW_ hHeld ?_ (hy:=by rintro w' ⟨s0,s1,s2,s3⟩;go_simp;with_reducible rfl)
         refine Up.pu 12 (some 58) HT_ ?_
         refine Up.pu 13 (some 59) HT_ ?_
         refine Up.pu 14 (some 60) HT_ ?_
         refine Up.pu 15 (some 61) HT_ ?_
         refine Up.tk 16 (some 62) HT_ HW_ hHeld ?_ (hy:=by rintro w' ⟨s0,s1,s2,s3⟩;go_simp;with_reducible rfl)
         refine Up.pu 17 (some 63) HT_ ?_
         refine Up.pu 18 (some 64) HT_ ?_
         refine Up.pu 19 (some 65) HT_ ?_
         refine Up.pu 20 (some 66) HT_ ?_
         refine Up.pz 21 (some 67) HT_ ?_
         refine Up.pz 22 (some 68) HT_ ?_
         refine Up.pz 23 (some 69) HT_ ?_
         refine Up.pz 24 (some 70) HT_ ?_
         refine Up.pz 25 (some 71) HT_ ?_
         refine Up.pz 26 (some 72) HT_ ?_
         refine Up.pz 27 (some 73) HT_ ?_
         refine Up.pz 28 (some 74) HT_ ?_
         refine Up.pz 29 (some 75) HT_ ?_
         refine Up.pz 30 (some 76) HT_ ?_
         refine Up.pz 31 (some 77) HT_ ?_
         refine Up.pz 32 (some 78) HT_ ?_
         refine Up.pz 33 (some 79) HT_ ?_
         refine Up.pu 34 (some 80) HT_ ?_
         refine done_ (done_of HT_.out (by kernel_rfl)) ?_
         try go_wp2
         go_meet
         case rel => exact ⟨_,(true),(by first | rfl | (simp;done) | (simp [*];done)),H',⟨by first | omega | exact Nat.le_refl _⟩,⟨by (with_reducible repeat (first | refine blk_drewN ?_ _ | refine blk_drew ?_ | refine blk_alloc ?_ _));exact BK403.out⟩,⟨Up.Bx HB⟩⟩
        ·rw [if_neg c44] at H
         have c44b0 : decide (0 < (l1_3.length : Int)) = false:=decide_eq_false c44
         have c44b1 : decide (0 < l1_3.length) = false:=decide_eq_false (by omega)
         clear c44
         by_cases c46 : 0 ≤ t410
         ·rw [if_pos c46] at H
          have c46b0 : decide (0 ≤ t410) = true:=decide_eq_true c46
          clear c46
          by_cases c47 : t410 < (l0.length : Int)
          ·rw [if_pos c47] at H
           have c47b0 : decide (t410 < (l0.length : Int)) = true:=decide_eq_true c47
           clear c47
           by_cases c48 : 0 ≤ t411
           ·rw [if_pos c48] at H
            have c48b0 : decide (0 ≤ t411) = true:=decide_eq_true c48
            clear c48
            by_cases c49 : t411 < ((rd_L5 l0 t410).length : Int)
            ·rw [if_pos c49] at H
             have c49b0 : decide (t411 < ((rd_L5 l0 t410).length : Int)) = true:=decide_eq_true c49
             clear c49
             have H':=Aside0.mk H
             clear H
             try go_wp2
             have BKd_:=Aside0.mk (blk_drewN BK403.out nd)
             have HBd_:=Aside0.mk (pw_below_drewN HB.out nd)
             clear BK403 HB
             have BK403:=BKd_
             have HB:=HBd_
             clear BKd_ HBd_
             generalize w38.drewN nd = w38 at BK403 HB ⊢
             have n0_:=Aside0.mk (blk_drew BK403.out)
             have n1_:=Aside0.mk (below_drew1 HB.out)
             clear BK403
             clear HB
             have BK403:=n0_
             have HB:=n1_
             clear n0_ n1_
             have p414 : 0 ≤ (t410 : Int):=Up.od
             have q414 : t410 < (l0.length : Int):=Up.od
             obtain ⟨ad414,A414_0,c414_0,e414,hx414_0,hl414_0,hi414_0⟩:=at_L5 HR0.out t410 p414 q414
             have hw414_0:=hx414_0
             cases e414
             replace hx414_0:=Up.hc HB hx414_0
             have HR414_0:=Aside0.mk hi414_0
             have HC414_0:=Aside0.mk hl414_0
             clear hi414_0 hl414_0
             replace p414:=eq_true p414
             replace q414:=eq_true q414
             have p415 : 0 ≤ (t411 : Int):=Up.od
             have q415 : t411 < ((rd_L5 l0 t410).length : Int):=Up.od
             obtain ⟨ad415,A415_1,c415_1,e415,hx415_0,hx415_1,hl415_1,hi415_1⟩:=at_T81 HR414_0.out t411 p415 q415
             have hw415_1:=hx415_1
             have hw415_0:=hx415_0
             cases e415
             replace hx415_0:=Up.hc HB hx415_0
             replace hx415_1:=Up.hc HB hx415_1
             have HR415_1:=Aside0.mk hi415_1
             have HC415_1:=Aside0.mk hl415_1
             clear hi415_1 hl415_1
             replace p415:=eq_true p415
             replace q415:=eq_true q415
             refine start_ (n:=35) (S:=fun w' => w'.cell? ⟨gb403,0,none⟩ = some (.string a1_0) ∧ w'.cell? ⟨gb403,1,none⟩ = some (.int .i64 a1_1) ∧ w'.cell? ⟨gb403,2,none⟩ = some (.slice A1_2 l1_2.length c1_2) ∧ w'.cell? ⟨gb403,3,none⟩ = some (.slice A1_3 l1_3.length c1_3) ∧ w'.cell? (ad414.add (t410).toNat) = some (.slice (some ad415) (rd_L5 l0 t410).length c414_0) ∧ w'.cell? (ad415.add ((t411).toNat * 2)) = some (.int .i64 ((rd_T81 (rd_L5 l0 t410) t411).f0)) ∧ w'.cell? ⟨(ad415.add ((t411).toNat * 2)).block,(ad415.add ((t411).toNat * 2)).off + 1,none⟩ = some (.slice A415_1 ((rd_T81 (rd_L5 l0 t410) t411).f1).length c415_1)) (ds:=[]) #[false,false,false,false,false,false,false,false,false,false,false,false,false,false,false,false,false,false,false,false,false,false,false,false,false,false,false,false,false,false,false,false,false,false,false] (by kernel_rfl) rfl rfl ⟨Up.c0 BK403,Up.c1 BK403,Up.c2 BK403,Up.c3 BK403,(Up.hd HB hw414_0),(Up.hd HB hw415_0),(Up.hd HB hw415_1)⟩ (fun hHeld => ?_);refine with_tabW spec_l2Ok.tab8 spec_l2Ok.bits8 (fun HT_ HW_ => ?_)
             generalize w38.drew = w50 at BK403 HB HR414_0 HR415_1 hx414_0 hx415_0 hx415_1 hHeld ⊢
             refine Up.pu 0 (some 46) HT_ ?_
             refine Up.pu 1 (some 47) HT_ ?_
             refine Up.pu 2 (some 48) HT_ ?_
             refine Up.pu 3 (some 49) HT_ ?_
             refine Up.pu 4 (some 50) HT_ ?_
             refine Up.pu 5 (some 51) HT_ ?_
             refine Up.on 6 (some 52) HT_ (fun K hK => ?_)
             refine Up.go Tryd.func52 #[.slice (some ad414) l0.length c0,.int .i64 t410,.int .i64 t411] ?_
             with_reducible refine (spec_l1Has.calls _ _ l0 t410 t411 true _ ?side1 ?side2 A41.out).mono ?_
             (case side1 => exact Up.Cx HR0 HB)
             (case side2 => exact HC0.out)
             rintro e w' ⟨rfl,⟨nd,rfl⟩⟩
             refine ⟨_,rfl,?_⟩
             refine hK.out _ _ ⟨Up.c0 BK403,Up.c1 BK403,Up.c2 BK403,Up.c3 BK403,(Up.hd HB hw414_0),(Up.hd HB hw415_0),(Up.hd HB hw415_1)⟩ (fun hHeld => ?_)
             clear hK K
             refine Up.nm 52 ?_
             refine Up.pu 7 (some 53) HT_ ?_
             refine Up.pu 8 (some 54) HT_ ?_
             refine Up.pu 9 (some 55) HT_ ?_
             refine Up.pu 10 (some 56) HT_ ?_
             refine Up.tk 11 (some 57) HT_ HW_ hHeld ?_ (hy:=by rintro w' ⟨s0,s1,s2,s3,s4,s5,s6⟩;go_simp;with_reducible rfl)
             refine Up.pu 12 (some 58) HT_ ?_
             refine Up.pu 13 (some 59) HT_ ?_
             refine Up.pu 14 (some 60) HT_ ?_
             refine Up.pu 15 (some 61) HT_ ?_
             refine Up.tk 16 (some 62) HT_ HW_ hHeld ?_ (hy:=by rintro w' ⟨s0,s1,s2,s3,s4,s5,s6⟩;go_simp;with_reducible rfl)
             refine Up.pu 17 (some 63) HT_ ?_
             refine Up.pu 18 (some 64) HT_ ?_
             refine Up.pu 19 (some 65) HT_ ?_
             refine Up.pu 20 (some 66) HT_ ?_
             refine Up.pu 21 (some 67) HT_ ?_
             refine Up.pu 24 (some 70) HT_ ?_
             refine Up.pu 25 (some 71) HT_ ?_
             refine Up.pu 26 (some 72) HT_ ?_
             refine Up.pu 28 (some 74) HT_ ?_
             refine Up.tk 22 (some 68) HT_ HW_ hHeld ?_ (hy:=by rintro w' ⟨s0,s1,s2,s3,s4,s5,s6⟩;go_simp;with_reducible rfl)
             refine Up.pu 23 (some 69) HT_ ?_
             refine Up.tk 27 (some 73) HT_ HW_ hHeld ?_ (hy:=by rintro w' ⟨s0,s1,s2,s3,s4,s5,s6⟩;go_simp;with_reducible rfl)
             refine Up.pu 29 (some 75) HT_ ?_
             refine Up.pu 30 (some 76) HT_ ?_
             refine Up.tk 31 (some 77) HT_ HW_ hHeld ?_ (hy:=by rintro w' ⟨s0,s1,s2,s3,s4,s5,s6⟩;go_simp;with_reducible rfl)
             refine Up.pu 32 (some 78) HT_ ?_
             refine Up.pu 33 (some 79) HT_ ?_
             refine Up.pu 34 (some 80) HT_ ?_
             refine done_ (done_of HT_.out (by kernel_rfl)) ?_
             try go_wp2
             go_meet
             case rel => exact ⟨_,(((l1_2.length : Int) != (((rd_T81 (rd_L5 l0 t410) t411).f1).length : Int))),(by first | rfl | (simp;done) | (simp [*];done)),H',⟨by first | omega | exact Nat.le_refl _⟩,⟨by (with_reducible repeat (first | refine blk_drewN ?_ _ | refine blk_drew ?_ | refine blk_alloc ?_ _));exact BK403.out⟩,⟨Up.Bx HB⟩⟩
            ·rw [if_neg c49] at H
             exact absurd H (by simp)
           ·rw [if_neg c48] at H
            exact absurd H (by simp)
          ·rw [if_neg c47] at H
           exact absurd H (by simp)
         ·rw [if_neg c46] at H
          exact absurd H (by simp)
       ·rw [if_neg c43] at H
        have c43b0 : (a1_1 == 0) = false:=beq_eq_false_iff_ne.mpr c43
        have c43b1 : (a1_1 != 0) = true:=bne_iff_ne.mpr c43
        (first | rw [c43b0] | (simp only [i64_w,i32_w];rw [c43b0]) | skip)
        have H':=Aside0.mk H
        clear H
        try go_wp2
        have BKd_:=Aside0.mk (blk_drewN BK403.out nd)
        have HBd_:=Aside0.mk (pw_below_drewN HB.out nd)
        clear BK403 HB
        have BK403:=BKd_
        have HB:=HBd_
        clear BKd_ HBd_
        generalize w38.drewN nd = w38 at BK403 HB ⊢
        have n0_:=Aside0.mk (blk_drew BK403.out)
        have n1_:=Aside0.mk (below_drew1 HB.out)
        clear BK403
        clear HB
        have BK403:=n0_
        have HB:=n1_
        clear n0_ n1_
        refine start_ (n:=35) (S:=fun w' => w'.cell? ⟨gb403,0,none⟩ = some (.string a1_0) ∧ w'.cell? ⟨gb403,1,none⟩ = some (.int .i64 a1_1) ∧ w'.cell? ⟨gb403,2,none⟩ = some (.slice A1_2 l1_2.length c1_2) ∧ w'.cell? ⟨gb403,3,none⟩ = some (.slice A1_3 l1_3.length c1_3)) (ds:=[]) #[false,false,false,false,false,false,false,false,false,false,false,false,false,false,false,false,false,false,false,false,false,false,false,false,false,false,false,false,false,false,false,false,false,false,false] (by kernel_rfl) rfl rfl ⟨Up.c0 BK403,Up.c1 BK403,Up.c2 BK403,Up.c3 BK403⟩ (fun hHeld => ?_);refine with_tabW spec_l2Ok.tab8 spec_l2Ok.bits8 (fun HT_ HW_ => ?_)
        generalize w38.drew = w51 at BK403 HB hHeld ⊢
        refine Up.pu 0 (some 46) HT_ ?_
        refine Up.pu 1 (some 47) HT_ ?_
        refine Up.pu 2 (some 48) HT_ ?_
        refine Up.pu 3 (some 49) HT_ ?_
        refine Up.pu 4 (some 50) HT_ ?_
        refine Up.pu 5 (some 51) HT_ ?_
        refine Up.on 6 (some 52) HT_ (fun K hK => ?_)
        refine Up.go Tryd.func52 #[.slice A0 l0.length c0,.int .i64 t410,.int .i64 t411] ?_
        with_reducible refine (spec_l1Has.calls _ _ l0 t410 t411 true _ ?side1 ?side2 A41.out).mono ?_
        (case side1 => exact Up.Cx HR0 HB)
        (case side2 => exact HC0.out)
        rintro e w' ⟨rfl,⟨nd,rfl⟩⟩
        refine ⟨_,rfl,?_⟩
        refine hK.out _ _ ⟨Up.c0 BK403,Up.c1 BK403,Up.c2 BK403,Up.c3 BK403⟩ (fun hHeld => ?_)
        clear hK K
        refine Up.nm 52 ?_
        refine Up.pu 7 (some 53) HT_ ?_
        refine Up.pu 8 (some 54) HT_ ?_
        refine Up.pu 9 (some 55) HT_ ?_
        refine Up.pu 10 (some 56) HT_ ?_
        refine Up.tk 11 (some 57) HT_ HW_ hHeld ?_ (hy:=by rintro w' ⟨s0,s1,s2,s3⟩;go_simp;with_reducible rfl)
        refine Up.pu 12 (some 58) HT_ ?_
        refine Up.pu 13 (some 59) HT_ ?_
        refine Up.pu 14 (some 60) HT_ ?_
        refine Up.pz 15 (some 61) HT_ ?_
        refine Up.pz 16 (some 62) HT_ ?_
        refine Up.pz 17 (some 63) HT_ ?_
        refine Up.pz 18 (some 64) HT_ ?_
        refine Up.pu 19 (some 65) HT_ ?_
        refine Up.pu 20 (some 66) HT_ ?_
        refine Up.pz 21 (some 67) HT_ ?_
        refine Up.pz 22 (some 68) HT_ ?_
        refine Up.pz 23 (some 69) HT_ ?_
        refine Up.pz 24 (some 70) HT_ ?_
        refine Up.pz 25 (some 71) HT_ ?_
        refine Up.pz 26 (some 72) HT_ ?_
        refine Up.pz 27 (some 73) HT_ ?_
        refine Up.pz 28 (some 74) HT_ ?_
        refine Up.pz 29 (some 75) HT_ ?_
        refine Up.pz 30 (some 76) HT_ ?_
        refine Up.pz 31 (some 77) HT_ ?_
        refine Up.pz 32 (some 78) HT_ ?_
        refine Up.pz 33 (some 79) HT_ ?_
        refine Up.pu 34 (some 80) HT_ ?_
        refine done_ (done_of HT_.out (by kernel_rfl)) ?_
        try go_wp2
        go_meet
        case rel => exact ⟨_,(true),(by first | rfl | (simp;done) | (simp [*];done)),H',⟨by first | omega | exact Nat.le_refl _⟩,⟨by (with_reducible repeat (first | refine blk_drewN ?_ _ | refine blk_drew ?_ | refine blk_alloc ?_ _));exact BK403.out⟩,⟨Up.Bx HB⟩⟩
      ·replace c42:=Bool.eq_false_iff.mpr c42
       subst c42
       have H1 : (spec_l2Ok.j0 k l0 t410 t411 true a1_0 a1_1 l1_2 l1_3) = some r:=by rw [if_neg (show ¬ (false = true) by decide)] at H;exact H
       clear H
       have H:=H1
       clear H1
       have H':=Aside0.mk H
       clear H
       try go_wp2
       have BKd_:=Aside0.mk (blk_drewN BK403.out nd)
       have HBd_:=Aside0.mk (pw_below_drewN HB.out nd)
       clear BK403 HB
       have BK403:=BKd_
       have HB:=HBd_
       clear BKd_ HBd_
       generalize w38.drewN nd = w38 at BK403 HB ⊢
       have n0_:=Aside0.mk (blk_drew BK403.out)
       have n1_:=Aside0.mk (below_drew1 HB.out)
       clear BK403
       clear HB
       have BK403:=n0_
       have HB:=n1_
       clear n0_ n1_
       refine start_ (n:=35) (S:=fun w' => True) (ds:=[]) #[false,false,false,false,false,false,false,false,false,false,false,false,false,false,false,false,false,false,false,false,false,false,false,false,false,false,false,false,false,false,false,false,false,false,false] (by kernel_rfl) rfl rfl trivial (fun hHeld => ?_);refine with_tabW spec_l2Ok.tab8 spec_l2Ok.bits8 (fun HT_ HW_ => ?_)
       generalize w38.drew = w52 at BK403 HB hHeld ⊢
       refine Up.pu 0 (some 46) HT_ ?_
       refine Up.pu 1 (some 47) HT_ ?_
       refine Up.pu 2 (some 48) HT_ ?_
       refine Up.pu 3 (some 49) HT_ ?_
       refine Up.pu 4 (some 50) HT_ ?_
       refine Up.pu 5 (some 51) HT_ ?_
       refine Up.on 6 (some 52) HT_ (fun K hK => ?_)
       refine Up.go Tryd.func52 #[.slice A0 l0.length c0,.int .i64 t410,.int .i64 t411] ?_
       with_reducible refine (spec_l1Has.calls _ _ l0 t410 t411 false _ ?side1 ?side2 A41.out).mono ?_
       (case side1 => exact Up.Cx HR0 HB)
       (case side2 => exact HC0.out)
       rintro e w' ⟨rfl,⟨nd,rfl⟩⟩
       refine ⟨_,rfl,?_⟩
       refine hK.out _ _ trivial (fun hHeld => ?_)
       clear hK K
       refine Up.nm 52 ?_
       refine Up.pu 7 (some 53) HT_ ?_
       refine Up.pu 8 (some 54) HT_ ?_
       refine Up.pu 9 (some 55) HT_ ?_
       refine Up.pz 10 (some 56) HT_ ?_
       refine Up.pz 11 (some 57) HT_ ?_
       refine Up.pz 12 (some 58) HT_ ?_
       refine Up.pu 13 (some 59) HT_ ?_
       refine Up.pu 14 (some 60) HT_ ?_
       refine Up.pz 15 (some 61) HT_ ?_
       refine Up.pz 16 (some 62) HT_ ?_
       refine Up.pz 17 (some 63) HT_ ?_
       refine Up.pz 18 (some 64) HT_ ?_
       refine Up.pu 19 (some 65) HT_ ?_
       refine Up.pu 20 (some 66) HT_ ?_
       refine Up.pz 21 (some 67) HT_ ?_
       refine Up.pz 22 (some 68) HT_ ?_
       refine Up.pz 23 (some 69) HT_ ?_
       refine Up.pz 24 (some 70) HT_ ?_
       refine Up.pz 25 (some 71) HT_ ?_
       refine Up.pz 26 (some 72) HT_ ?_
       refine Up.pz 27 (some 73) HT_ ?_
       refine Up.pz 28 (some 74) HT_ ?_
       refine Up.pz 29 (some 75) HT_ ?_
       refine Up.pz 30 (some 76) HT_ ?_
       refine Up.pz 31 (some 77) HT_ ?_
       refine Up.pz 32 (some 78) HT_ ?_
       refine Up.pz 33 (some 79) HT_ ?_
       refine Up.pu 34 (some 80) HT_ ?_
       refine done_ (done_of HT_.out (by kernel_rfl)) ?_
       try go_wp2
       go_meet
       case rel => exact ⟨_,(true),(by first | rfl | (simp;done) | (simp [*];done)),H',⟨by first | omega | exact Nat.le_refl _⟩,⟨by (with_reducible repeat (first | refine blk_drewN ?_ _ | refine blk_drew ?_ | refine blk_alloc ?_ _));exact BK403.out⟩,⟨Up.Bx HB⟩⟩
     ·replace c40:=Bool.eq_false_iff.mpr c40
      subst c40
      have H1 : (spec_l2Ok.j0 k l0 t410 t411 true a1_0 a1_1 l1_2 l1_3) = some r:=by rw [if_neg (show ¬ (false = true) by decide)] at H;exact H
      clear H
      have H:=H1
      clear H1
      have H':=Aside0.mk H
      clear H
      try go_wp2
      have BKd_:=Aside0.mk (blk_drewN BK403.out nd)
      have HBd_:=Aside0.mk (pw_below_drewN HB.out nd)
      clear BK403 HB
      have BK403:=BKd_
      have HB:=HBd_
      clear BKd_ HBd_
      generalize w38.drewN nd = w38 at BK403 HB ⊢
      have n0_:=Aside0.mk (blk_drew BK403.out)
      have n1_:=Aside0.mk (below_drew1 HB.out)
      clear BK403
      clear HB
      have BK403:=n0_
      have HB:=n1_
      clear n0_ n1_
      refine start_ (n:=35) (S:=fun w' => True) (ds:=[]) #[false,false,false,false,false,false,false,false,false,false,false,false,false,false,false,false,false,false,false,false,false,false,false,false,false,false,false,false,false,false,false,false,false,false,false] (by kernel_rfl) rfl rfl trivial (fun hHeld => ?_);refine with_tabW spec_l2Ok.tab8 spec_l2Ok.bits8 (fun HT_ HW_ => ?_)
      generalize w38.drew = w53 at BK403 HB hHeld ⊢
      refine Up.pu 0 (some 46) HT_ ?_
      refine Up.pu 1 (some 47) HT_ ?_
      refine Up.pu 2 (some 48) HT_ ?_
      refine Up.pz 3 (some 49) HT_ ?_
      refine Up.pz 4 (some 50) HT_ ?_
      refine Up.pz 5 (some 51) HT_ ?_
      refine Up.pz 6 (some 52) HT_ ?_
      refine Up.pz 7 (some 53) HT_ ?_
      refine Up.pu 8 (some 54) HT_ ?_
      refine Up.pu 9 (some 55) HT_ ?_
      refine Up.pz 10 (some 56) HT_ ?_
      refine Up.pz 11 (some 57) HT_ ?_
      refine Up.pz 12 (some 58) HT_ ?_
      refine Up.pu 13 (some 59) HT_ ?_
      refine Up.pu 14 (some 60) HT_ ?_
      refine Up.pz 15 (some 61) HT_ ?_
      refine Up.pz 16 (some 62) HT_ ?_
      refine Up.pz 17 (some 63) HT_ ?_
      refine Up.pz 18 (some 64) HT_ ?_
      refine Up.pu 19 (some 65) HT_ ?_
      refine Up.pu 20 (some 66) HT_ ?_
      refine Up.pz 21 (some 67) HT_ ?_
      refine Up.pz 22 (some 68) HT_ ?_
      refine Up.pz 23 (some 69) HT_ ?_
      refine Up.pz 24 (some 70) HT_ ?_
      refine Up.pz 25 (some 71) HT_ ?_
      refine Up.pz 26 (some 72) HT_ ?_
      refine Up.pz 27 (some 73) HT_ ?_
      refine Up.pz 28 (some 74) HT_ ?_
      refine Up.pz 29 (some 75) HT_ ?_
      refine Up.pz 30 (some 76) HT_ ?_
      refine Up.pz 31 (some 77) HT_ ?_
      refine Up.pz 32 (some 78) HT_ ?_
      refine Up.pz 33 (some 79) HT_ ?_
      refine Up.pu 34 (some 80) HT_ ?_
      refine done_ (done_of HT_.out (by kernel_rfl)) ?_
      try go_wp2
      go_meet
      case rel => exact ⟨_,(true),(by first | rfl | (simp;done) | (simp [*];done)),H',⟨by first | omega | exact Nat.le_refl _⟩,⟨by (with_reducible repeat (first | refine blk_drewN ?_ _ | refine blk_drew ?_ | refine blk_alloc ?_ _));exact BK403.out⟩,⟨Up.Bx HB⟩⟩
    case rest =>
     clear HC37
     try clear p2
     try clear c4
     try clear c5
     try clear c40
     try clear c42
     try clear c52
     obtain ⟨kq,x80_36,rfl,HA,HJ36,BK403,HB⟩:=hcut
     cases kq with
     | zero => exact absurd HA.out (by simp [spec_l2Ok.j0])
     | succ kj36 =>
      have H:=HA.out
      clear HA
      simp only [spec_l2Ok.j0] at H
      by_cases c54 : x80_36 = true
      ·subst c54
       have H1 : (some false) = some r:=by rw [if_pos rfl] at H;exact H
       clear H
       have H:=H1
       clear H1
       obtain rfl:=Option.some.inj H
       go_wp2
       go_ret
       exact Up.e1 (Up.Bx HB)
      ·replace c54:=Bool.eq_false_iff.mpr c54
       subst c54
       have H1 : (spec_l2Ok.l0 kj36 l0 t410 t411 0 a1_0 a1_1 l1_2 l1_3) = some r:=by rw [if_neg (show ¬ (false = true) by decide)] at H;exact H
       clear H
       have H:=H1
       clear H1
       have H':=Aside0.mk H
       clear H
       go_wp2
       go_loopg [8] kj36 (fun kq v8 w' => ∃ (x8_2 : Int),v8 = .int .i64 x8_2 ∧ Aside0 (spec_l2Ok.l0 kq l0 t410 t411 x8_2 a1_0 a1_1 l1_2 l1_3 = some r) ∧ Aside0 (kq ≤ kj36) ∧ Aside0 (w'.heap[gb403]? = some (.cells #[.string a1_0,.int .i64 a1_1,(.slice A1_2 l1_2.length c1_2),(.slice A1_3 l1_3.length c1_3)] 27 (0,0))) ∧ Aside0 (Below w.heap.size w w'))
       case atStart => exact ⟨(0),(by first | rfl | (simp;done) | (simp [*];done)),H',⟨Nat.le_refl _⟩,⟨by (with_reducible repeat (first | refine blk_drewN ?_ _ | refine blk_drew ?_ | refine blk_alloc ?_ _));exact BK403.out⟩,⟨Up.Bx HB⟩⟩
       case round =>
        clear H'
        try clear c1
        try clear p2
        try clear c4
        try clear c5
        try clear c40
        try clear c42
        try clear c52
        try clear c54
        try clear p2
        obtain ⟨x8_2,rfl,HA,HK2,BK403,HB⟩:=hrel
        cases gk with
        | zero => exact absurd HA.out (by simp [spec_l2Ok.l0])
        | succ k2 =>
         have H:=HA.out
         clear HA
         simp only [spec_l2Ok.l0] at H
         by_cases c55 : x8_2 < (l1_2.length : Int)
         ·rw [if_pos c55] at H
          have c55b0 : decide (x8_2 < (l1_2.length : Int)) = true:=decide_eq_true c55
          clear c55
          by_cases c56 : 0 ≤ x8_2
          ·rw [if_pos c56] at H
           have c56b0 : decide (0 ≤ x8_2) = true:=decide_eq_true c56
           clear c56
           by_cases c57 : 0 ≤ t410
           ·rw [if_pos c57] at H
            have c57b0 : decide (0 ≤ t410) = true:=decide_eq_true c57
            clear c57
            by_cases c58 : t410 < (l0.length : Int)
            ·rw [if_pos c58] at H
             have c58b0 : decide (t410 < (l0.length : Int)) = true:=decide_eq_true c58
             clear c58
             by_cases c59 : 0 ≤ t411
             ·rw [if_pos c59] at H
              have c59b0 : decide (0 ≤ t411) = true:=decide_eq_true c59
              clear c59
              by_cases c60 : t411 < ((rd_L5 l0 t410).length : Int)
              ·rw [if_pos c60] at H
               have c60b0 : decide (t411 < ((rd_L5 l0 t410).length : Int)) = true:=decide_eq_true c60
               clear c60
               by_cases c61 : x8_2 < (((rd_T81 (rd_L5 l0 t410) t411).f1).length : Int)
               ·rw [if_pos c61] at H
                have c61b0 : decide (x8_2 < (((rd_T81 (rd_L5 l0 t410) t411).f1).length : Int)) = true:=decide_eq_true c61
                clear c61
                by_cases c62 : ((rd_T27 l1_2 x8_2).f0).toList = (rdOf ByteArray.empty ((rd_T81 (rd_L5 l0 t410) t411).f1) x8_2).toList
                ·rw [if_pos c62] at H
                 have c62b0 : (((rd_T27 l1_2 x8_2).f0).toList == (rdOf ByteArray.empty ((rd_T81 (rd_L5 l0 t410) t411).f1) x8_2).toList) = true:=beq_iff_eq.mpr c62
                 have c62b1 : (((rd_T27 l1_2 x8_2).f0).toList != (rdOf ByteArray.empty ((rd_T81 (rd_L5 l0 t410) t411).f1) x8_2).toList) = false:=bne_eq_false_iff_eq.mpr c62
                 clear c62
                 replace H:=Option.bind_eq_some_iff.mp H
                 obtain ⟨t421,A630,H⟩:=H
                 replace H : (if t421 = true then (spec_l2Ok.l0 k2 l0 t410 t411 (wrap64 (x8_2 + 1)) a1_0 a1_1 l1_2 l1_3) else (some false)) = some r:=H
                 have A63:=Aside0.mk A630
                 clear A630
                 by_cases c64 : t421 = true
                 ·subst c64
                  have H1 : (spec_l2Ok.l0 k2 l0 t410 t411 (wrap64 (x8_2 + 1)) a1_0 a1_1 l1_2 l1_3) = some r:=by rw [if_pos rfl] at H;exact H
                  clear H
                  have H:=H1
                  clear H1
                  have H':=Aside0.mk H
                  clear H
                  have hcz65_0:=Up.c0 BK403
                  have hcz65_1:=Up.c1 BK403
                  have hcz65_2:=Up.c2 BK403
                  have hcz65_3:=Up.c3 BK403
                  have hfz65_0:=blk_frozen BK403.out 0
                  have hfz65_1:=blk_frozen BK403.out 1
                  have hfz65_2:=blk_frozen BK403.out 2
                  have hfz65_3:=blk_frozen BK403.out 3
                  try go_wp2
                  have n0_:=Aside0.mk (blk_drew BK403.out)
                  have n1_:=Aside0.mk (below_drew1 HB.out)
                  clear BK403
                  clear HB
                  have BK403:=n0_
                  have HB:=n1_
                  clear n0_ n1_
                  have p416 : 0 ≤ (x8_2 : Int):=Up.od
                  have q416 : x8_2 < (l1_2.length : Int):=Up.od
                  obtain ⟨ad416,A416_2,c416_2,A416_3,c416_3,e416,hx416_0,hx416_1,hx416_2,hx416_3,hl416_2,hi416_2,hl416_3,hi416_3⟩:=at_T27 HR1_2.out x8_2 p416 q416
                  have hw416_3:=hx416_3
                  have hw416_2:=hx416_2
                  have hw416_1:=hx416_1
                  have hw416_0:=hx416_0
                  cases e416
                  replace hx416_0:=Up.hc HB hx416_0
                  replace hx416_1:=Up.hc HB hx416_1
                  replace hx416_2:=Up.hc HB hx416_2
                  replace hx416_3:=Up.hc HB hx416_3
                  have HR416_2:=Aside0.mk hi416_2
                  have HC416_2:=Aside0.mk hl416_2
                  clear hi416_2 hl416_2
                  have HR416_3:=Aside0.mk hi416_3
                  have HC416_3:=Aside0.mk hl416_3
                  clear hi416_3 hl416_3
                  replace p416:=eq_true p416
                  replace q416:=eq_true q416
                  have p417 : 0 ≤ (t410 : Int):=Up.od
                  have q417 : t410 < (l0.length : Int):=Up.od
                  obtain ⟨ad417,A417_0,c417_0,e417,hx417_0,hl417_0,hi417_0⟩:=at_L5 HR0.out t410 p417 q417
                  have hw417_0:=hx417_0
                  cases e417
                  replace hx417_0:=Up.hc HB hx417_0
                  have HR417_0:=Aside0.mk hi417_0
                  have HC417_0:=Aside0.mk hl417_0
                  clear hi417_0 hl417_0
                  replace p417:=eq_true p417
                  replace q417:=eq_true q417
                  have p418 : 0 ≤ (t411 : Int):=Up.od
                  have q418 : t411 < ((rd_L5 l0 t410).length : Int):=Up.od
                  obtain ⟨ad418,A418_1,c418_1,e418,hx418_0,hx418_1,hl418_1,hi418_1⟩:=at_T81 HR417_0.out t411 p418 q418
                  have hw418_1:=hx418_1
                  have hw418_0:=hx418_0
                  cases e418
                  replace hx418_0:=Up.hc HB hx418_0
                  replace hx418_1:=Up.hc HB hx418_1
                  have HR418_1:=Aside0.mk hi418_1
                  have HC418_1:=Aside0.mk hl418_1
                  clear hi418_1 hl418_1
                  replace p418:=eq_true p418
                  replace q418:=eq_true q418
                  have p419 : 0 ≤ (x8_2 : Int):=Up.od
                  have q419 : x8_2 < (((rd_T81 (rd_L5 l0 t410) t411).f1).length : Int):=Up.od
                  obtain ⟨ad419,e419,hx419_0⟩:=Kd.at_string HR418_1.out x8_2 p419 q419
                  have hw419_0:=hx419_0
                  cases e419
                  replace hx419_0:=Up.hc HB hx419_0
                  replace p419:=eq_true p419
                  replace q419:=eq_true q419
                  have p420 : 0 ≤ (x8_2 : Int):=Up.od
                  have q420 : x8_2 < (l1_2.length : Int):=Up.od
                  obtain ⟨ad420,A420_2,c420_2,A420_3,c420_3,e420,hx420_0,hx420_1,hx420_2,hx420_3,hl420_2,hi420_2,hl420_3,hi420_3⟩:=at_T27 HR1_2.out x8_2 p420 q420
                  have hw420_3:=hx420_3
                  have hw420_2:=hx420_2
                  have hw420_1:=hx420_1
                  have hw420_0:=hx420_0
                  obtain rfl : ad416 = ad420:=(by injection e420)
                  replace hx420_0:=Up.hc HB hx420_0
                  replace hx420_1:=Up.hc HB hx420_1
                  replace hx420_2:=Up.hc HB hx420_2
                  replace hx420_3:=Up.hc HB hx420_3
                  have HR420_2:=Aside0.mk hi420_2
                  have HC420_2:=Aside0.mk hl420_2
                  clear hi420_2 hl420_2
                  have HR420_3:=Aside0.mk hi420_3
                  have HC420_3:=Aside0.mk hl420_3
                  clear hi420_3 hl420_3
                  replace p420:=eq_true p420
                  replace q420:=eq_true q420
                  have ea_:=Option.some.inj (hx416_2.symm.trans hx420_2)
                  injection ea_ with ea_ en_ ec_
                  subst ea_
                  subst ec_
                  clear en_
                  have ea_:=Option.some.inj (hx416_3.symm.trans hx420_3)
                  injection ea_ with ea_ en_ ec_
                  subst ea_
                  subst ec_
                  clear en_
                  refine start_ (n:=28) (S:=fun w' => w'.cell? ⟨gb403,0,none⟩ = some (.string a1_0) ∧ w'.cell? ⟨gb403,1,none⟩ = some (.int .i64 a1_1) ∧ w'.cell? ⟨gb403,2,none⟩ = some (.slice (some ad416) l1_2.length c1_2) ∧ w'.cell? ⟨gb403,3,none⟩ = some (.slice A1_3 l1_3.length c1_3) ∧ w'.cell? (ad416.add ((x8_2).toNat * 4)) = some (.string ((rd_T27 l1_2 x8_2).f0)) ∧ w'.cell? ⟨(ad416.add ((x8_2).toNat * 4)).block,(ad416.add ((x8_2).toNat * 4)).off + 1,none⟩ = some (.int .i64 ((rd_T27 l1_2 x8_2).f1)) ∧ w'.cell? ⟨(ad416.add ((x8_2).toNat * 4)).block,(ad416.add ((x8_2).toNat * 4)).off + 2,none⟩ = some (.slice A416_2 ((rd_T27 l1_2 x8_2).f2).length c416_2) ∧ w'.cell? ⟨(ad416.add ((x8_2).toNat * 4)).block,(ad416.add ((x8_2).toNat * 4)).off + 3,none⟩ = some (.slice A416_3 ((rd_T27 l1_2 x8_2).f3).length c416_3) ∧ w'.cell? (ad417.add (t410).toNat) = some (.slice (some ad418) (rd_L5 l0 t410).length c417_0) ∧ w'.cell? (ad418.add ((t411).toNat * 2)) = some (.int .i64 ((rd_T81 (rd_L5 l0 t410) t411).f0)) ∧ w'.cell? ⟨(ad418.add ((t411).toNat * 2)).block,(ad418.add ((t411).toNat * 2)).off + 1,none⟩ = some (.slice (some ad419) ((rd_T81 (rd_L5 l0 t410) t411).f1).length c418_1) ∧ w'.cell? (ad419.add (x8_2).toNat) = some (.string (rdOf ByteArray.empty ((rd_T81 (rd_L5 l0 t410) t411).f1) x8_2)) ∧ w'.cell? (ad416.add ((x8_2).toNat * 4)) = some (.string ((rd_T27 l1_2 x8_2).f0)) ∧ w'.cell? ⟨(ad416.add ((x8_2).toNat * 4)).block,(ad416.add ((x8_2).toNat * 4)).off + 1,none⟩ = some (.int .i64 ((rd_T27 l1_2 x8_2).f1)) ∧ w'.cell? ⟨(ad416.add ((x8_2).toNat * 4)).block,(ad416.add ((x8_2).toNat * 4)).off + 2,none⟩ = some (.slice A416_2 ((rd_T27 l1_2 x8_2).f2).length c416_2) ∧ w'.cell? ⟨(ad416.add ((x8_2).toNat * 4)).block,(ad416.add ((x8_2).toNat * 4)).off + 3,none⟩ = some (.slice A416_3 ((rd_T27 l1_2 x8_2).f3).length c416_3)) (ds:=[]) #[false,false,false,false,false,false,false,false,false,false,false,false,false,false,false,false,false,false,false,false,false,false,false,false,false,false,false,false] (by kernel_rfl) rfl rfl ⟨Up.c0 BK403,Up.c1 BK403,Up.c2 BK403,Up.c3 BK403,(Up.hd HB hw416_0),(Up.hd HB hw416_1),(Up.hd HB hw416_2),(Up.hd HB hw416_3),(Up.hd HB hw417_0),(Up.hd HB hw418_0),(Up.hd HB hw418_1),(Up.hd HB hw419_0),(Up.hd HB hw420_0),(Up.hd HB hw420_1),(Up.hd HB hw420_2),(Up.hd HB hw420_3)⟩ (fun hHeld => ?_);refine with_tabW spec_l2Ok.tab13 spec_l2Ok.bits13 (fun HT_ HW_ => ?_)
                  generalize wr.drew = w66 at BK403 HB HR416_2 HR416_3 HR417_0 HR418_1 HR420_2 HR420_3 hx416_0 hx416_1 hx416_2 hx416_3 hx417_0 hx418_0 hx418_1 hx419_0 hx420_0 hx420_1 hx420_2 hx420_3 hHeld ⊢
                  refine Up.pu 0 (some 88) HT_ ?_
                  refine Up.pu 2 (some 90) HT_ ?_
                  refine Up.pu 6 (some 94) HT_ ?_
                  refine Up.pu 7 (some 95) HT_ ?_
                  refine Up.pu 8 (some 96) HT_ ?_
                  refine Up.pu 10 (some 98) HT_ ?_
                  refine Up.pu 14 (some 102) HT_ ?_
                  refine Up.tk 1 (some 89) HT_ HW_ hHeld ?_ (hy:=by rintro w' ⟨s0,s1,s2,s3,s4,s5,s6,s7,s8,s9,s10,s11,s12,s13,s14,s15⟩;go_simp;with_reducible rfl)
                  refine Up.pu 3 (some 91) HT_ ?_
                  refine Up.pu 4 (some 92) HT_ ?_
                  refine Up.tk 5 (some 93) HT_ HW_ hHeld ?_ (hy:=by rintro w' ⟨s0,s1,s2,s3,s4,s5,s6,s7,s8,s9,s10,s11,s12,s13,s14,s15⟩;go_simp;with_reducible rfl)
                  refine Up.tk 9 (some 97) HT_ HW_ hHeld ?_ (hy:=by rintro w' ⟨s0,s1,s2,s3,s4,s5,s6,s7,s8,s9,s10,s11,s12,s13,s14,s15⟩;go_simp;with_reducible rfl)
                  refine Up.pu 11 (some 99) HT_ ?_
                  refine Up.pu 12 (some 100) HT_ ?_
                  refine Up.tk 13 (some 101) HT_ HW_ hHeld ?_ (hy:=by rintro w' ⟨s0,s1,s2,s3,s4,s5,s6,s7,s8,s9,s10,s11,s12,s13,s14,s15⟩;go_simp;with_reducible rfl)
                  refine Up.pu 15 (some 103) HT_ ?_
                  refine Up.tk 16 (some 104) HT_ HW_ hHeld ?_ (hy:=by rintro w' ⟨s0,s1,s2,s3,s4,s5,s6,s7,s8,s9,s10,s11,s12,s13,s14,s15⟩;go_simp;with_reducible rfl)
                  refine Up.pu 17 (some 105) HT_ ?_
                  refine Up.pu 18 (some 106) HT_ ?_
                  refine Up.pu 19 (some 107) HT_ ?_
                  refine Up.pu 20 (some 108) HT_ ?_
                  refine Up.pu 22 (some 110) HT_ ?_
                  refine Up.tk 21 (some 109) HT_ HW_ hHeld ?_ (hy:=by rintro w' ⟨s0,s1,s2,s3,s4,s5,s6,s7,s8,s9,s10,s11,s12,s13,s14,s15⟩;go_simp;with_reducible rfl)
                  refine Up.pu 23 (some 111) HT_ ?_
                  refine Up.tk 24 (some 112) HT_ HW_ hHeld ?_ (hy:=by rintro w' ⟨s0,s1,s2,s3,s4,s5,s6,s7,s8,s9,s10,s11,s12,s13,s14,s15⟩;go_simp;with_reducible rfl)
                  refine Up.on 25 (some 113) HT_ (fun K hK => ?_)
                  refine Up.go Tryd.func31 #[.slice (some ad417) l0.length c0,.agg #[.string ((rd_T27 l1_2 x8_2).f0),.int .i64 ((rd_T27 l1_2 x8_2).f1),.slice A416_2 ((rd_T27 l1_2 x8_2).f2).length c416_2,.slice A416_3 ((rd_T27 l1_2 x8_2).f3).length c416_3]] ?_
                  with_reducible refine (ih k2 (by have:=HJ36.out;have:=HK2.out;omega) _ _ l0 ((rd_T27 l1_2 x8_2).f0) ((rd_T27 l1_2 x8_2).f1) _ _ ((rd_T27 l1_2 x8_2).f2) _ _ ((rd_T27 l1_2 x8_2).f3) true _ ?side1 ?side2 ?side3 ?side4 ?side5 ?side6 A63.out).mono ?_
                  (case side1 => exact Up.Cx HR0 HB)
                  (case side2 => exact HC0.out)
                  (case side3 => exact Up.Cx HR420_2 HB)
                  (case side4 => exact HC420_2.out)
                  (case side5 => exact Up.Cx HR420_3 HB)
                  (case side6 => exact HC420_3.out)
                  rintro e w67 ⟨rfl,hb⟩
                  refine ⟨_,rfl,?_⟩
                  have n0_:=Up.KB BK403 hb
                  have n1_:=Aside0.mk (below_step (Up.Bx HB) hb)
                  clear BK403
                  clear HB
                  have BK403:=n0_
                  have HB:=n1_
                  clear n0_ n1_
                  (try clear hb)
                  (try clear hb2)
                  (try clear hk)
                  (try clear hi)
                  refine hK.out _ _ ⟨Up.c0 BK403,Up.c1 BK403,Up.c2 BK403,Up.c3 BK403,(Up.hd HB hw416_0),(Up.hd HB hw416_1),(Up.hd HB hw416_2),(Up.hd HB hw416_3),(Up.hd HB hw417_0),(Up.hd HB hw418_0),(Up.hd HB hw418_1),(Up.hd HB hw419_0),(Up.hd HB hw420_0),(Up.hd HB hw420_1),(Up.hd HB hw420_2),(Up.hd HB hw420_3)⟩ (fun hHeld => ?_)
                  clear hK K
                  refine Up.nm 113 ?_
                  refine Up.pu 26 (some 114) HT_ ?_
                  refine Up.pu 27 (some 115) HT_ ?_
                  refine done_ (done_of HT_.out (by kernel_rfl)) ?_
                  try go_wp2
                  go_roundg k2
                  case measure => have:=HJ36.out;have:=HK2.out;omega
                  case rel => exact ⟨(wrap64 (x8_2 + 1)),(by first | rfl | (simp;done) | (simp [*];done)),H',⟨by have:=HJ36.out;have:=HK2.out;omega⟩,⟨by (with_reducible repeat (first | refine blk_drewN ?_ _ | refine blk_drew ?_ | refine blk_alloc ?_ _));exact BK403.out⟩,⟨Up.Bx HB⟩⟩
                 ·replace c64:=Bool.eq_false_iff.mpr c64
                  subst c64
                  have H1 : (some false) = some r:=by rw [if_neg (show ¬ (false = true) by decide)] at H;exact H
                  clear H
                  have H:=H1
                  clear H1
                  obtain rfl:=Option.some.inj H
                  have hcz68_0:=Up.c0 BK403
                  have hcz68_1:=Up.c1 BK403
                  have hcz68_2:=Up.c2 BK403
                  have hcz68_3:=Up.c3 BK403
                  have hfz68_0:=blk_frozen BK403.out 0
                  have hfz68_1:=blk_frozen BK403.out 1
                  have hfz68_2:=blk_frozen BK403.out 2
                  have hfz68_3:=blk_frozen BK403.out 3
                  try go_wp2
                  have n0_:=Aside0.mk (blk_drew BK403.out)
                  have n1_:=Aside0.mk (below_drew1 HB.out)
                  clear BK403
                  clear HB
                  have BK403:=n0_
                  have HB:=n1_
                  clear n0_ n1_
                  have p416 : 0 ≤ (x8_2 : Int):=Up.od
                  have q416 : x8_2 < (l1_2.length : Int):=Up.od
                  obtain ⟨ad416,A416_2,c416_2,A416_3,c416_3,e416,hx416_0,hx416_1,hx416_2,hx416_3,hl416_2,hi416_2,hl416_3,hi416_3⟩:=at_T27 HR1_2.out x8_2 p416 q416
                  have hw416_3:=hx416_3
                  have hw416_2:=hx416_2
                  have hw416_1:=hx416_1
                  have hw416_0:=hx416_0
                  cases e416
                  replace hx416_0:=Up.hc HB hx416_0
                  replace hx416_1:=Up.hc HB hx416_1
                  replace hx416_2:=Up.hc HB hx416_2
                  replace hx416_3:=Up.hc HB hx416_3
                  have HR416_2:=Aside0.mk hi416_2
                  have HC416_2:=Aside0.mk hl416_2
                  clear hi416_2 hl416_2
                  have HR416_3:=Aside0.mk hi416_3
                  have HC416_3:=Aside0.mk hl416_3
                  clear hi416_3 hl416_3
                  replace p416:=eq_true p416
                  replace q416:=eq_true q416
                  have p417 : 0 ≤ (t410 : Int):=Up.od
                  have q417 : t410 < (l0.length : Int):=Up.od
                  obtain ⟨ad417,A417_0,c417_0,e417,hx417_0,hl417_0,hi417_0⟩:=at_L5 HR0.out t410 p417 q417
                  have hw417_0:=hx417_0
                  cases e417
                  replace hx417_0:=Up.hc HB hx417_0
                  have HR417_0:=Aside0.mk hi417_0
                  have HC417_0:=Aside0.mk hl417_0
                  clear hi417_0 hl417_0
                  replace p417:=eq_true p417
                  replace q417:=eq_true q417
                  have p418 : 0 ≤ (t411 : Int):=Up.od
                  have q418 : t411 < ((rd_L5 l0 t410).length : Int):=Up.od
                  obtain ⟨ad418,A418_1,c418_1,e418,hx418_0,hx418_1,hl418_1,hi418_1⟩:=at_T81 HR417_0.out t411 p418 q418
                  have hw418_1:=hx418_1
                  have hw418_0:=hx418_0
                  cases e418
                  replace hx418_0:=Up.hc HB hx418_0
                  replace hx418_1:=Up.hc HB hx418_1
                  have HR418_1:=Aside0.mk hi418_1
                  have HC418_1:=Aside0.mk hl418_1
                  clear hi418_1 hl418_1
                  replace p418:=eq_true p418
                  replace q418:=eq_true q418
                  have p419 : 0 ≤ (x8_2 : Int):=Up.od
                  have q419 : x8_2 < (((rd_T81 (rd_L5 l0 t410) t411).f1).length : Int):=Up.od
                  obtain ⟨ad419,e419,hx419_0⟩:=Kd.at_string HR418_1.out x8_2 p419 q419
                  have hw419_0:=hx419_0
                  cases e419
                  replace hx419_0:=Up.hc HB hx419_0
                  replace p419:=eq_true p419
                  replace q419:=eq_true q419
                  have p420 : 0 ≤ (x8_2 : Int):=Up.od
                  have q420 : x8_2 < (l1_2.length : Int):=Up.od
                  obtain ⟨ad420,A420_2,c420_2,A420_3,c420_3,e420,hx420_0,hx420_1,hx420_2,hx420_3,hl420_2,hi420_2,hl420_3,hi420_3⟩:=at_T27 HR1_2.out x8_2 p420 q420
                  have hw420_3:=hx420_3
                  have hw420_2:=hx420_2
                  have hw420_1:=hx420_1
                  have hw420_0:=hx420_0
                  obtain rfl : ad416 = ad420:=(by injection e420)
                  replace hx420_0:=Up.hc HB hx420_0
                  replace hx420_1:=Up.hc HB hx420_1
                  replace hx420_2:=Up.hc HB hx420_2
                  replace hx420_3:=Up.hc HB hx420_3
                  have HR420_2:=Aside0.mk hi420_2
                  have HC420_2:=Aside0.mk hl420_2
                  clear hi420_2 hl420_2
                  have HR420_3:=Aside0.mk hi420_3
                  have HC420_3:=Aside0.mk hl420_3
                  clear hi420_3 hl420_3
                  replace p420:=eq_true p420
                  replace q420:=eq_true q420
                  have ea_:=Option.some.inj (hx416_2.symm.trans hx420_2)
                  injection ea_ with ea_ en_ ec_
                  subst ea_
                  subst ec_
                  clear en_
                  have ea_:=Option.some.inj (hx416_3.symm.trans hx420_3)
                  injection ea_ with ea_ en_ ec_
                  subst ea_
                  subst ec_
                  clear en_
                  refine start_ (n:=28) (S:=fun w' => w'.cell? ⟨gb403,0,none⟩ = some (.string a1_0) ∧ w'.cell? ⟨gb403,1,none⟩ = some (.int .i64 a1_1) ∧ w'.cell? ⟨gb403,2,none⟩ = some (.slice (some ad416) l1_2.length c1_2) ∧ w'.cell? ⟨gb403,3,none⟩ = some (.slice A1_3 l1_3.length c1_3) ∧ w'.cell? (ad416.add ((x8_2).toNat * 4)) = some (.string ((rd_T27 l1_2 x8_2).f0)) ∧ w'.cell? ⟨(ad416.add ((x8_2).toNat * 4)).block,(ad416.add ((x8_2).toNat * 4)).off + 1,none⟩ = some (.int .i64 ((rd_T27 l1_2 x8_2).f1)) ∧ w'.cell? ⟨(ad416.add ((x8_2).toNat * 4)).block,(ad416.add ((x8_2).toNat * 4)).off + 2,none⟩ = some (.slice A416_2 ((rd_T27 l1_2 x8_2).f2).length c416_2) ∧ w'.cell? ⟨(ad416.add ((x8_2).toNat * 4)).block,(ad416.add ((x8_2).toNat * 4)).off + 3,none⟩ = some (.slice A416_3 ((rd_T27 l1_2 x8_2).f3).length c416_3) ∧ w'.cell? (ad417.add (t410).toNat) = some (.slice (some ad418) (rd_L5 l0 t410).length c417_0) ∧ w'.cell? (ad418.add ((t411).toNat * 2)) = some (.int .i64 ((rd_T81 (rd_L5 l0 t410) t411).f0)) ∧ w'.cell? ⟨(ad418.add ((t411).toNat * 2)).block,(ad418.add ((t411).toNat * 2)).off + 1,none⟩ = some (.slice (some ad419) ((rd_T81 (rd_L5 l0 t410) t411).f1).length c418_1) ∧ w'.cell? (ad419.add (x8_2).toNat) = some (.string (rdOf ByteArray.empty ((rd_T81 (rd_L5 l0 t410) t411).f1) x8_2)) ∧ w'.cell? (ad416.add ((x8_2).toNat * 4)) = some (.string ((rd_T27 l1_2 x8_2).f0)) ∧ w'.cell? ⟨(ad416.add ((x8_2).toNat * 4)).block,(ad416.add ((x8_2).toNat * 4)).off + 1,none⟩ = some (.int .i64 ((rd_T27 l1_2 x8_2).f1)) ∧ w'.cell? ⟨(ad416.add ((x8_2).toNat * 4)).block,(ad416.add ((x8_2).toNat * 4)).off + 2,none⟩ = some (.slice A416_2 ((rd_T27 l1_2 x8_2).f2).length c416_2) ∧ w'.cell? ⟨(ad416.add ((x8_2).toNat * 4)).block,(ad416.add ((x8_2).toNat * 4)).off + 3,none⟩ = some (.slice A416_3 ((rd_T27 l1_2 x8_2).f3).length c416_3)) (ds:=[]) #[false,false,false,false,false,false,false,false,false,false,false,false,false,false,false,false,false,false,false,false,false,false,false,false,false,false,false,false] (by kernel_rfl) rfl rfl ⟨Up.c0 BK403,Up.c1 BK403,Up.c2 BK403,Up.c3 BK403,(Up.hd HB hw416_0),(Up.hd HB hw416_1),(Up.hd HB hw416_2),(Up.hd HB hw416_3),(Up.hd HB hw417_0),(Up.hd HB hw418_0),(Up.hd HB hw418_1),(Up.hd HB hw419_0),(Up.hd HB hw420_0),(Up.hd HB hw420_1),(Up.hd HB hw420_2),(Up.hd HB hw420_3)⟩ (fun hHeld => ?_);refine with_tabW spec_l2Ok.tab13 spec_l2Ok.bits13 (fun HT_ HW_ => ?_)
                  generalize wr.drew = w69 at BK403 HB HR416_2 HR416_3 HR417_0 HR418_1 HR420_2 HR420_3 hx416_0 hx416_1 hx416_2 hx416_3 hx417_0 hx418_0 hx418_1 hx419_0 hx420_0 hx420_1 hx420_2 hx420_3 hHeld ⊢
                  refine Up.pu 0 (some 88) HT_ ?_
                  refine Up.pu 2 (some 90) HT_ ?_
                  refine Up.pu 6 (some 94) HT_ ?_
                  refine Up.pu 7 (some 95) HT_ ?_
                  refine Up.pu 8 (some 96) HT_ ?_
                  refine Up.pu 10 (some 98) HT_ ?_
                  refine Up.pu 14 (some 102) HT_ ?_
                  refine Up.tk 1 (some 89) HT_ HW_ hHeld ?_ (hy:=by rintro w' ⟨s0,s1,s2,s3,s4,s5,s6,s7,s8,s9,s10,s11,s12,s13,s14,s15⟩;go_simp;with_reducible rfl)
                  refine Up.pu 3 (some 91) HT_ ?_
                  refine Up.pu 4 (some 92) HT_ ?_
                  refine Up.tk 5 (some 93) HT_ HW_ hHeld ?_ (hy:=by rintro w' ⟨s0,s1,s2,s3,s4,s5,s6,s7,s8,s9,s10,s11,s12,s13,s14,s15⟩;go_simp;with_reducible rfl)
                  refine Up.tk 9 (some 97) HT_ HW_ hHeld ?_ (hy:=by rintro w' ⟨s0,s1,s2,s3,s4,s5,s6,s7,s8,s9,s10,s11,s12,s13,s14,s15⟩;go_simp;with_reducible rfl)
                  refine Up.pu 11 (some 99) HT_ ?_
                  refine Up.pu 12 (some 100) HT_ ?_
                  refine Up.tk 13 (some 101) HT_ HW_ hHeld ?_ (hy:=by rintro w' ⟨s0,s1,s2,s3,s4,s5,s6,s7,s8,s9,s10,s11,s12,s13,s14,s15⟩;go_simp;with_reducible rfl)
                  refine Up.pu 15 (some 103) HT_ ?_
                  refine Up.tk 16 (some 104) HT_ HW_ hHeld ?_ (hy:=by rintro w' ⟨s0,s1,s2,s3,s4,s5,s6,s7,s8,s9,s10,s11,s12,s13,s14,s15⟩;go_simp;with_reducible rfl)
                  refine Up.pu 17 (some 105) HT_ ?_
                  refine Up.pu 18 (some 106) HT_ ?_
                  refine Up.pu 19 (some 107) HT_ ?_
                  refine Up.pu 20 (some 108) HT_ ?_
                  refine Up.pu 22 (some 110) HT_ ?_
                  refine Up.tk 21 (some 109) HT_ HW_ hHeld ?_ (hy:=by rintro w' ⟨s0,s1,s2,s3,s4,s5,s6,s7,s8,s9,s10,s11,s12,s13,s14,s15⟩;go_simp;with_reducible rfl)
                  refine Up.pu 23 (some 111) HT_ ?_
                  refine Up.tk 24 (some 112) HT_ HW_ hHeld ?_ (hy:=by rintro w' ⟨s0,s1,s2,s3,s4,s5,s6,s7,s8,s9,s10,s11,s12,s13,s14,s15⟩;go_simp;with_reducible rfl)
                  refine Up.on 25 (some 113) HT_ (fun K hK => ?_)
                  refine Up.go Tryd.func31 #[.slice (some ad417) l0.length c0,.agg #[.string ((rd_T27 l1_2 x8_2).f0),.int .i64 ((rd_T27 l1_2 x8_2).f1),.slice A416_2 ((rd_T27 l1_2 x8_2).f2).length c416_2,.slice A416_3 ((rd_T27 l1_2 x8_2).f3).length c416_3]] ?_
                  with_reducible refine (ih k2 (by have:=HJ36.out;have:=HK2.out;omega) _ _ l0 ((rd_T27 l1_2 x8_2).f0) ((rd_T27 l1_2 x8_2).f1) _ _ ((rd_T27 l1_2 x8_2).f2) _ _ ((rd_T27 l1_2 x8_2).f3) false _ ?side1 ?side2 ?side3 ?side4 ?side5 ?side6 A63.out).mono ?_
                  (case side1 => exact Up.Cx HR0 HB)
                  (case side2 => exact HC0.out)
                  (case side3 => exact Up.Cx HR420_2 HB)
                  (case side4 => exact HC420_2.out)
                  (case side5 => exact Up.Cx HR420_3 HB)
                  (case side6 => exact HC420_3.out)
                  rintro e w70 ⟨rfl,hb⟩
                  refine ⟨_,rfl,?_⟩
                  have n0_:=Up.KB BK403 hb
                  have n1_:=Aside0.mk (below_step (Up.Bx HB) hb)
                  clear BK403
                  clear HB
                  have BK403:=n0_
                  have HB:=n1_
                  clear n0_ n1_
                  (try clear hb)
                  (try clear hb2)
                  (try clear hk)
                  (try clear hi)
                  refine hK.out _ _ ⟨Up.c0 BK403,Up.c1 BK403,Up.c2 BK403,Up.c3 BK403,(Up.hd HB hw416_0),(Up.hd HB hw416_1),(Up.hd HB hw416_2),(Up.hd HB hw416_3),(Up.hd HB hw417_0),(Up.hd HB hw418_0),(Up.hd HB hw418_1),(Up.hd HB hw419_0),(Up.hd HB hw420_0),(Up.hd HB hw420_1),(Up.hd HB hw420_2),(Up.hd HB hw420_3)⟩ (fun hHeld => ?_)
                  clear hK K
                  refine Up.nm 113 ?_
                  refine Up.pu 26 (some 114) HT_ ?_
                  refine Up.pu 27 (some 115) HT_ ?_
                  refine done_ (done_of HT_.out (by kernel_rfl)) ?_
                  try go_wp2
                  go_ret
                  exact Up.e1 (Up.Bx HB)
                ·rw [if_neg c62] at H
                 have c62b0 : (((rd_T27 l1_2 x8_2).f0).toList == (rdOf ByteArray.empty ((rd_T81 (rd_L5 l0 t410) t411).f1) x8_2).toList) = false:=beq_eq_false_iff_ne.mpr c62
                 have c62b1 : (((rd_T27 l1_2 x8_2).f0).toList != (rdOf ByteArray.empty ((rd_T81 (rd_L5 l0 t410) t411).f1) x8_2).toList) = true:=bne_iff_ne.mpr c62
                 obtain rfl:=Option.some.inj H
                 have hcz71_0:=Up.c0 BK403
                 have hcz71_1:=Up.c1 BK403
                 have hcz71_2:=Up.c2 BK403
                 have hcz71_3:=Up.c3 BK403
                 have hfz71_0:=blk_frozen BK403.out 0
                 have hfz71_1:=blk_frozen BK403.out 1
                 have hfz71_2:=blk_frozen BK403.out 2
                 have hfz71_3:=blk_frozen BK403.out 3
                 try go_wp2
                 have n0_:=Aside0.mk (blk_drew BK403.out)
                 have n1_:=Aside0.mk (below_drew1 HB.out)
                 clear BK403
                 clear HB
                 have BK403:=n0_
                 have HB:=n1_
                 clear n0_ n1_
                 have p416 : 0 ≤ (x8_2 : Int):=Up.od
                 have q416 : x8_2 < (l1_2.length : Int):=Up.od
                 obtain ⟨ad416,A416_2,c416_2,A416_3,c416_3,e416,hx416_0,hx416_1,hx416_2,hx416_3,hl416_2,hi416_2,hl416_3,hi416_3⟩:=at_T27 HR1_2.out x8_2 p416 q416
                 have hw416_3:=hx416_3
                 have hw416_2:=hx416_2
                 have hw416_1:=hx416_1
                 have hw416_0:=hx416_0
                 cases e416
                 replace hx416_0:=Up.hc HB hx416_0
                 replace hx416_1:=Up.hc HB hx416_1
                 replace hx416_2:=Up.hc HB hx416_2
                 replace hx416_3:=Up.hc HB hx416_3
                 have HR416_2:=Aside0.mk hi416_2
                 have HC416_2:=Aside0.mk hl416_2
                 clear hi416_2 hl416_2
                 have HR416_3:=Aside0.mk hi416_3
                 have HC416_3:=Aside0.mk hl416_3
                 clear hi416_3 hl416_3
                 replace p416:=eq_true p416
                 replace q416:=eq_true q416
                 have p417 : 0 ≤ (t410 : Int):=Up.od
                 have q417 : t410 < (l0.length : Int):=Up.od
                 obtain ⟨ad417,A417_0,c417_0,e417,hx417_0,hl417_0,hi417_0⟩:=at_L5 HR0.out t410 p417 q417
                 have hw417_0:=hx417_0
                 cases e417
                 replace hx417_0:=Up.hc HB hx417_0
                 have HR417_0:=Aside0.mk hi417_0
                 have HC417_0:=Aside0.mk hl417_0
                 clear hi417_0 hl417_0
                 replace p417:=eq_true p417
                 replace q417:=eq_true q417
                 have p418 : 0 ≤ (t411 : Int):=Up.od
                 have q418 : t411 < ((rd_L5 l0 t410).length : Int):=Up.od
                 obtain ⟨ad418,A418_1,c418_1,e418,hx418_0,hx418_1,hl418_1,hi418_1⟩:=at_T81 HR417_0.out t411 p418 q418
                 have hw418_1:=hx418_1
                 have hw418_0:=hx418_0
                 cases e418
                 replace hx418_0:=Up.hc HB hx418_0
                 replace hx418_1:=Up.hc HB hx418_1
                 have HR418_1:=Aside0.mk hi418_1
                 have HC418_1:=Aside0.mk hl418_1
                 clear hi418_1 hl418_1
                 replace p418:=eq_true p418
                 replace q418:=eq_true q418
                 have p419 : 0 ≤ (x8_2 : Int):=Up.od
                 have q419 : x8_2 < (((rd_T81 (rd_L5 l0 t410) t411).f1).length : Int):=Up.od
                 obtain ⟨ad419,e419,hx419_0⟩:=Kd.at_string HR418_1.out x8_2 p419 q419
                 have hw419_0:=hx419_0
                 cases e419
                 replace hx419_0:=Up.hc HB hx419_0
                 replace p419:=eq_true p419
                 replace q419:=eq_true q419
                 refine start_ (n:=28) (S:=fun w' => w'.cell? ⟨gb403,0,none⟩ = some (.string a1_0) ∧ w'.cell? ⟨gb403,1,none⟩ = some (.int .i64 a1_1) ∧ w'.cell? ⟨gb403,2,none⟩ = some (.slice (some ad416) l1_2.length c1_2) ∧ w'.cell? ⟨gb403,3,none⟩ = some (.slice A1_3 l1_3.length c1_3) ∧ w'.cell? (ad416.add ((x8_2).toNat * 4)) = some (.string ((rd_T27 l1_2 x8_2).f0)) ∧ w'.cell? ⟨(ad416.add ((x8_2).toNat * 4)).block,(ad416.add ((x8_2).toNat * 4)).off + 1,none⟩ = some (.int .i64 ((rd_T27 l1_2 x8_2).f1)) ∧ w'.cell? ⟨(ad416.add ((x8_2).toNat * 4)).block,(ad416.add ((x8_2).toNat * 4)).off + 2,none⟩ = some (.slice A416_2 ((rd_T27 l1_2 x8_2).f2).length c416_2) ∧ w'.cell? ⟨(ad416.add ((x8_2).toNat * 4)).block,(ad416.add ((x8_2).toNat * 4)).off + 3,none⟩ = some (.slice A416_3 ((rd_T27 l1_2 x8_2).f3).length c416_3) ∧ w'.cell? (ad417.add (t410).toNat) = some (.slice (some ad418) (rd_L5 l0 t410).length c417_0) ∧ w'.cell? (ad418.add ((t411).toNat * 2)) = some (.int .i64 ((rd_T81 (rd_L5 l0 t410) t411).f0)) ∧ w'.cell? ⟨(ad418.add ((t411).toNat * 2)).block,(ad418.add ((t411).toNat * 2)).off + 1,none⟩ = some (.slice (some ad419) ((rd_T81 (rd_L5 l0 t410) t411).f1).length c418_1) ∧ w'.cell? (ad419.add (x8_2).toNat) = some (.string (rdOf ByteArray.empty ((rd_T81 (rd_L5 l0 t410) t411).f1) x8_2))) (ds:=[]) #[false,false,false,false,false,false,false,false,false,false,false,false,false,false,false,false,false,false,false,false,false,false,false,false,false,false,false,false] (by kernel_rfl) rfl rfl ⟨Up.c0 BK403,Up.c1 BK403,Up.c2 BK403,Up.c3 BK403,(Up.hd HB hw416_0),(Up.hd HB hw416_1),(Up.hd HB hw416_2),(Up.hd HB hw416_3),(Up.hd HB hw417_0),(Up.hd HB hw418_0),(Up.hd HB hw418_1),(Up.hd HB hw419_0)⟩ (fun hHeld => ?_);refine with_tabW spec_l2Ok.tab13 spec_l2Ok.bits13 (fun HT_ HW_ => ?_)
                 generalize wr.drew = w72 at BK403 HB HR416_2 HR416_3 HR417_0 HR418_1 hx416_0 hx416_1 hx416_2 hx416_3 hx417_0 hx418_0 hx418_1 hx419_0 hHeld ⊢
                 refine Up.pu 0 (some 88) HT_ ?_
                 refine Up.pu 2 (some 90) HT_ ?_
                 refine Up.pu 6 (some 94) HT_ ?_
                 refine Up.pu 7 (some 95) HT_ ?_
                 refine Up.pu 8 (some 96) HT_ ?_
                 refine Up.pu 10 (some 98) HT_ ?_
                 refine Up.pu 14 (some 102) HT_ ?_
                 refine Up.tk 1 (some 89) HT_ HW_ hHeld ?_ (hy:=by rintro w' ⟨s0,s1,s2,s3,s4,s5,s6,s7,s8,s9,s10,s11⟩;go_simp;with_reducible rfl)
                 refine Up.pu 3 (some 91) HT_ ?_
                 refine Up.pu 4 (some 92) HT_ ?_
                 refine Up.tk 5 (some 93) HT_ HW_ hHeld ?_ (hy:=by rintro w' ⟨s0,s1,s2,s3,s4,s5,s6,s7,s8,s9,s10,s11⟩;go_simp;with_reducible rfl)
                 refine Up.tk 9 (some 97) HT_ HW_ hHeld ?_ (hy:=by rintro w' ⟨s0,s1,s2,s3,s4,s5,s6,s7,s8,s9,s10,s11⟩;go_simp;with_reducible rfl)
                 refine Up.pu 11 (some 99) HT_ ?_
                 refine Up.pu 12 (some 100) HT_ ?_
                 refine Up.tk 13 (some 101) HT_ HW_ hHeld ?_ (hy:=by rintro w' ⟨s0,s1,s2,s3,s4,s5,s6,s7,s8,s9,s10,s11⟩;go_simp;with_reducible rfl)
                 refine Up.pu 15 (some 103) HT_ ?_
                 refine Up.tk 16 (some 104) HT_ HW_ hHeld ?_ (hy:=by rintro w' ⟨s0,s1,s2,s3,s4,s5,s6,s7,s8,s9,s10,s11⟩;go_simp;with_reducible rfl)
                 refine Up.pu 17 (some 105) HT_ ?_
                 refine Up.pu 18 (some 106) HT_ ?_
                 refine Up.pz 19 (some 107) HT_ ?_
                 refine Up.pz 20 (some 108) HT_ ?_
                 refine Up.pz 21 (some 109) HT_ ?_
                 refine Up.pz 22 (some 110) HT_ ?_
                 refine Up.pz 23 (some 111) HT_ ?_
                 refine Up.pz 24 (some 112) HT_ ?_
                 refine Up.pz 25 (some 113) HT_ ?_
                 refine Up.pz 26 (some 114) HT_ ?_
                 refine Up.pu 27 (some 115) HT_ ?_
                 refine done_ (done_of HT_.out (by kernel_rfl)) ?_
                 try go_wp2
                 go_ret
                 exact Up.e1 (Up.Bx HB)
               ·rw [if_neg c61] at H
                exact absurd H (by simp)
              ·rw [if_neg c60] at H
               exact absurd H (by simp)
             ·rw [if_neg c59] at H
              exact absurd H (by simp)
            ·rw [if_neg c58] at H
             exact absurd H (by simp)
           ·rw [if_neg c57] at H
            exact absurd H (by simp)
          ·rw [if_neg c56] at H
           exact absurd H (by simp)
         ·rw [if_neg c55] at H
          have c55b0 : decide (x8_2 < (l1_2.length : Int)) = false:=decide_eq_false c55
          clear c55
          obtain rfl:=Option.some.inj H
          have hcz73_0:=Up.c0 BK403
          have hcz73_1:=Up.c1 BK403
          have hcz73_2:=Up.c2 BK403
          have hcz73_3:=Up.c3 BK403
          have hfz73_0:=blk_frozen BK403.out 0
          have hfz73_1:=blk_frozen BK403.out 1
          have hfz73_2:=blk_frozen BK403.out 2
          have hfz73_3:=blk_frozen BK403.out 3
          go_wp2
          go_ret
          exact Up.e1 (Up.Bx HB)

end Go.Proofs.YtdgmlakgnbmbbaaDoor.OFnValueOk
