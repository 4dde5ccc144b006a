-- Laid by a program of this session (wip/myprint.py): the kit's print of the functions, contracts of our own among them.
import Derived.Test.YtdgmlakgnbmbbaaDoorOFnExactValueTextx0
import Derived.Test.YtdgmlakgnbmbbaaDoorOFnExactValueTextx4
import Derived.Test.YtdgmlakgnbmbbaaDoorOFnExactValueTextx7
namespace Go.Proofs.YtdgmlakgnbmbbaaDoor.OFnExactValueText
open Go.RowKit Go.Proofs.YtdgmlakgnbmbbaaDoorW.PrintWords Go.Proofs.YtdgmlakgnbmbbaaDoorW.PrintLast Go.Proofs.YtdgmlakgnbmbbaaDoorW.PrintMore
attribute [local go_sem] max2_int min2_int max_two min_two max_three min_three max_four min_four   -- for this text's walks alone
set_option linter.unusedVariables false
set_option linter.unusedSimpArgs false

/-! ### spec_l2Ok: function 31 -/
mutual
def spec_l2Ok.j0 : Nat → List (List (S81)) → Int → Int → Bool → ByteArray → Int → List (S27) → List Int → Option (Bool)
 | 0,_,_,_,_,_,_,_,_ => none
 | k + 1,x0,x5,x6,x80,x202000,x202001,x202002,x202003 => if x80 = true then (some false) else (spec_l2Ok.l0 k x0 x5 x6 0 x202000 x202001 x202002 x202003)
def spec_l2Ok.l0 : Nat → List (List (S81)) → Int → Int → Int → ByteArray → Int → List (S27) → List Int → Option (Bool)
 | 0,_,_,_,_,_,_,_,_ => none
 | k + 1,x0,x5,x6,x8,x202000,x202001,x202002,x202003 => if x8 < (x202002.length : Int) then (if 0 ≤ x8 then (if 0 ≤ x5 then (if x5 < (x0.length : Int) then (if 0 ≤ x6 then (if x6 < ((rd_L4 x0 x5).length : Int) then (if x8 < (((rd_T81 (rd_L4 x0 x5) x6).f1).length : Int) then (if ((rd_T27 x202002 x8).f0).toList = (rdOf ByteArray.empty ((rd_T81 (rd_L4 x0 x5) x6).f1) x8).toList then ((spec_l2Ok.f k x0 ((rd_T27 x202002 x8).f0) ((rd_T27 x202002 x8).f1) ((rd_T27 x202002 x8).f2) ((rd_T27 x202002 x8).f3)).bind fun t219 => (if t219 = true then (spec_l2Ok.l0 k x0 x5 x6 (wrap64 (x8 + 1)) x202000 x202001 x202002 x202003) else (some false))) else (some false)) else (none)) else (none)) else (none)) else (none)) else (none)) else (none)) else (some true)
def spec_l2Ok.f : Nat → List (List (S81)) → ByteArray → Int → List (S27) → List Int → Option (Bool)
 | 0,_,_,_,_,_ => none
 | k + 1,l0,a1_0,a1_1,l1_2,l1_3 => if a1_0.toList = ([110] : List UInt8) then ((spec_l2Plain.f a1_0 a1_1 l1_2 l1_3).bind fun t202 => (if t202 = true then ((spec_l6In.f a1_1 0 1000000).bind fun t203 => (some t203)) else (some false))) else (if a1_0.toList = ([98] : List UInt8) then ((spec_l2Plain.f a1_0 a1_1 l1_2 l1_3).bind fun t204 => (if t204 = true then ((spec_l6In.f a1_1 0 1).bind fun t205 => (some t205)) else (some false))) else (if a1_0.toList = ([111] : List UInt8) then ((spec_l2Plain.f a1_0 a1_1 l1_2 l1_3).bind fun t206 => (if t206 = true then ((spec_l6In.f a1_1 0 3).bind fun t207 => (some t207)) else (some false))) else ((spec_l1Kind.f a1_0).bind fun bt208 => (if bt208.2.2 = true then ((spec_l1Has.f l0 bt208.1 bt208.2.1).bind fun t211 => (if t211 = true then (if a1_1 = 0 then (if (l1_3.length : Int) > 0 then (spec_l2Ok.j0 k l0 bt208.1 bt208.2.1 true a1_0 a1_1 l1_2 l1_3) else (if 0 ≤ bt208.1 then (if bt208.1 < (l0.length : Int) then (if 0 ≤ bt208.2.1 then (if bt208.2.1 < ((rd_L4 l0 bt208.1).length : Int) then (spec_l2Ok.j0 k l0 bt208.1 bt208.2.1 ((l1_2.length : Int) != (((rd_T81 (rd_L4 l0 bt208.1) bt208.2.1).f1).length : Int)) a1_0 a1_1 l1_2 l1_3) else (none)) else (none)) else (none)) else (none))) else (spec_l2Ok.j0 k l0 bt208.1 bt208.2.1 true a1_0 a1_1 l1_2 l1_3)) else (spec_l2Ok.j0 k l0 bt208.1 bt208.2.1 true a1_0 a1_1 l1_2 l1_3))) else (spec_l2Ok.j0 k l0 bt208.1 bt208.2.1 true a1_0 a1_1 l1_2 l1_3)))))
end
theorem spec_l2Ok.mono_l : ∀ k,(∀ y0 y1 y2 y3 y4,LeO (spec_l2Ok.f k y0 y1 y2 y3 y4) (spec_l2Ok.f (k + 1) y0 y1 y2 y3 y4)) ∧ (∀ y0 y1 y2 y3 y4 y5 y6 y7,LeO (spec_l2Ok.j0 k y0 y1 y2 y3 y4 y5 y6 y7) (spec_l2Ok.j0 (k + 1) y0 y1 y2 y3 y4 y5 y6 y7)) ∧ (∀ y0 y1 y2 y3 y4 y5 y6 y7,LeO (spec_l2Ok.l0 k y0 y1 y2 y3 y4 y5 y6 y7) (spec_l2Ok.l0 (k + 1) y0 y1 y2 y3 y4 y5 y6 y7))
 | 0 => ⟨fun _ _ _ _ _ r h => by simp [spec_l2Ok.f] at h,fun _ _ _ _ _ _ _ _ r h => by simp [spec_l2Ok.j0] at h,fun _ _ _ _ _ _ _ _ r h => by simp [spec_l2Ok.l0] at h⟩
 | k + 1 => by
  obtain ⟨ih0,ih1,ih2⟩:=spec_l2Ok.mono_l k
  refine ⟨?_,?_,?_⟩
  ·intro y0 y1 y2 y3 y4
   unfold spec_l2Ok.f
   repeat' first
   | (with_reducible exact ih0 _ _ _ _ _)
   | (with_reducible exact ih1 _ _ _ _ _ _ _ _)
   | (with_reducible exact ih2 _ _ _ _ _ _ _ _)
   | (with_reducible exact LeO.refl _)
   | (with_reducible exact LeO.none _)
   | (with_reducible refine LeO.ite ?_ ?_)
   | (with_reducible refine LeO.bind ?_ (fun _ => ?_))
   | exact ih0 _ _ _ _ _
   | exact ih1 _ _ _ _ _ _ _ _
   | exact ih2 _ _ _ _ _ _ _ _
   | exact LeO.none _
   | refine LeO.ite ?_ ?_
   | refine LeO.bind ?_ (fun _ => ?_)
  ·intro y0 y1 y2 y3 y4 y5 y6 y7
   unfold spec_l2Ok.j0
   repeat' first
   | (with_reducible exact ih0 _ _ _ _ _)
   | (with_reducible exact ih1 _ _ _ _ _ _ _ _)
   | (with_reducible exact ih2 _ _ _ _ _ _ _ _)
   | (with_reducible exact LeO.refl _)
   | (with_reducible exact LeO.none _)
   | (with_reducible refine LeO.ite ?_ ?_)
   | (with_reducible refine LeO.bind ?_ (fun _ => ?_))
   | exact ih0 _ _ _ _ _
   | exact ih1 _ _ _ _ _ _ _ _
   | exact ih2 _ _ _ _ _ _ _ _
   | exact LeO.none _
   | refine LeO.ite ?_ ?_
   | refine LeO.bind ?_ (fun _ => ?_)
  ·intro y0 y1 y2 y3 y4 y5 y6 y7
   unfold spec_l2Ok.l0
   repeat' first
   | (with_reducible exact ih0 _ _ _ _ _)
   | (with_reducible exact ih1 _ _ _ _ _ _ _ _)
   | (with_reducible exact ih2 _ _ _ _ _ _ _ _)
   | (with_reducible exact LeO.refl _)
   | (with_reducible exact LeO.none _)
   | (with_reducible refine LeO.ite ?_ ?_)
   | (with_reducible refine LeO.bind ?_ (fun _ => ?_))
   | exact ih0 _ _ _ _ _
   | exact ih1 _ _ _ _ _ _ _ _
   | exact ih2 _ _ _ _ _ _ _ _
   | exact LeO.none _
   | refine LeO.ite ?_ ?_
   | refine LeO.bind ?_ (fun _ => ?_)
theorem spec_l2Ok.mono : ∀ a0 a1 a2 a3 a4 k,LeO (spec_l2Ok.f k a0 a1 a2 a3 a4) (spec_l2Ok.f (k + 1) a0 a1 a2 a3 a4):=by
 intro a0 a1 a2 a3 a4 k
 obtain ⟨ih0,ih1,ih2⟩:=spec_l2Ok.mono_l k
 exact ih0 a0 a1 a2 a3 a4
def spec_l2Ok.T8 : Bool × List (List Nat × List Nat):=(true,[([],[]),([0],[0]),([1],[1]),([2],[2]),([2],[2]),([2],[2]),([3,4,5,2,2],[2,3,4,5]),([6,2],[2,6]),([2,7],[2,7]),([8,6],[8]),([9],[9]),([10,9],[9,10]),([11,9],[9,11]),([9,12],[9,12]),([13,9],[13]),([14],[14]),([15,14],[14,15]),([16,14],[14,16]),([17,14],[14,17]),([14,18],[14,18]),([19,14],[19]),([20],[20]),([21,20],[20,21]),([22,20],[20,22]),([20],[20]),([20],[20]),([24,25,20],[20,24,25]),([26,20],[20,26]),([20],[20]),([27,28,20],[20,27,28]),([29,20],[20,29]),([30,20],[20,30]),([31,20],[20,31]),([23,32,20],[20,23,32]),([20,33],[20,33])])
def spec_l2Ok.B8 : List Nat:=[0,1,3,7,7,7,63,127,255,511,1023,2047,4095,8191,16383,32767,65535,131071,262143,524287,1048575,2097151,4194303,8388607,2097151,2097151,52428799,119537663,2097151,522190847,1059061759,2132803583,4280287231,8589934591,17179869183]
theorem spec_l2Ok.tab8 : rtab .any (opsOf Tryd.f31 8) = spec_l2Ok.T8:=by kernel_rfl
theorem spec_l2Ok.bits8 : waitsOk spec_l2Ok.T8.2 spec_l2Ok.B8 = true:=by kernel_rfl
def spec_l2Ok.T13 : Bool × List (List Nat × List Nat):=(true,[([],[]),([0],[0]),([],[]),([1,2],[1,2]),([3],[3]),([4],[4]),([],[]),([],[]),([6,7],[6,7]),([8],[8]),([],[]),([9,10],[9,10]),([11],[11]),([12],[12]),([],[]),([13,14],[13,14]),([15],[15]),([5,16],[5,16]),([17],[17]),([18],[18]),([18],[18]),([20,18],[18,20]),([18],[18]),([21,22,18],[18,21,22]),([23,18],[18,23]),([19,24,18,18],[18,19,24]),([25,18],[18,25]),([18,26],[18,26])])
def spec_l2Ok.B13 : List Nat:=[0,1,0,7,15,31,0,0,192,448,0,1984,4032,8128,0,32704,65472,131071,262143,524287,524287,1572863,524287,7864319,16252927,33554431,67108863,134217727]
theorem spec_l2Ok.tab13 : rtab .any (opsOf Tryd.f31 13) = spec_l2Ok.T13:=by kernel_rfl
theorem spec_l2Ok.bits13 : waitsOk spec_l2Ok.T13.2 spec_l2Ok.B13 = true:=by kernel_rfl
set_option maxHeartbeats 8000000 in
set_option maxRecDepth 100000 in
theorem spec_l2Ok.calls (k : Nat) : ∀ (A0 : Option Addr) (c0 : Nat) (l0 : List (List (S81))) (a1_0 : ByteArray) (a1_1 : Int) (A1_2 : Option Addr) (c1_2 : Nat) (l1_2 : List (S27)) (A1_3 : Option Addr) (c1_3 : Nat) (l1_3 : List Int) (r : Bool) (w : World) (hr0 : Kd.C (Kd.slice 81 k81) w A0 l0.length l0) (hc0 : l0.length ≤ c0) (hr1_2 : Kd.C k27 w A1_2 l1_2.length l1_2) (hc1_2 : l1_2.length ≤ c1_2) (hr1_3 : Kd.C (Kd.int .i64) w A1_3 l1_3.length l1_3) (hc1_3 : l1_3.length ≤ c1_3) (h : spec_l2Ok.f k l0 a1_0 a1_1 l1_2 l1_3 = some r),
  Calls Tryd.prog 31 #[.slice A0 l0.length c0,.agg #[.string a1_0,.int .i64 a1_1,.slice A1_2 l1_2.length c1_2,.slice A1_3 l1_3.length c1_3]] w fun e w' => e = .returned (.bool r) ∧ Below w.heap.size w w':=by
 induction k using Nat.strongRecOn with
 | _ k ih =>
 intro A0 c0 l0 a1_0 a1_1 A1_2 c1_2 l1_2 A1_3 c1_3 l1_3 r w hr0 hc0 hr1_2 hc1_2 hr1_3 hc1_3 h
 cases k with
 | zero => exact absurd h (by simp [spec_l2Ok.f])
 | succ k =>
 simp only [spec_l2Ok.f] at h
 have hu27:=Tryd.underlying27
 have HR0:=Aside0.mk hr0
 have HC0:=Aside0.mk hc0
 clear hr0 hc0
 have HR1_2:=Aside0.mk hr1_2
 have HC1_2:=Aside0.mk hc1_2
 clear hr1_2 hc1_2
 have HR1_3:=Aside0.mk hr1_3
 have HC1_3:=Aside0.mk hc1_3
 clear hr1_3 hc1_3
 have HB:=Aside0.mk (Below.refl w.heap.size w)
 have H : (if a1_0.toList = ([110] : List UInt8) then ((spec_l2Plain.f a1_0 a1_1 l1_2 l1_3).bind fun t202 => (if t202 = true then ((spec_l6In.f a1_1 0 1000000).bind fun t203 => (some t203)) else (some false))) else (if a1_0.toList = ([98] : List UInt8) then ((spec_l2Plain.f a1_0 a1_1 l1_2 l1_3).bind fun t204 => (if t204 = true then ((spec_l6In.f a1_1 0 1).bind fun t205 => (some t205)) else (some false))) else (if a1_0.toList = ([111] : List UInt8) then ((spec_l2Plain.f a1_0 a1_1 l1_2 l1_3).bind fun t206 => (if t206 = true then ((spec_l6In.f a1_1 0 3).bind fun t207 => (some t207)) else (some false))) else ((spec_l1Kind.f a1_0).bind fun bt208 => (if bt208.2.2 = true then ((spec_l1Has.f l0 bt208.1 bt208.2.1).bind fun t211 => (if t211 = true then (if a1_1 = 0 then (if (l1_3.length : Int) > 0 then (spec_l2Ok.j0 k l0 bt208.1 bt208.2.1 true a1_0 a1_1 l1_2 l1_3) else (if 0 ≤ bt208.1 then (if bt208.1 < (l0.length : Int) then (if 0 ≤ bt208.2.1 then (if bt208.2.1 < ((rd_L4 l0 bt208.1).length : Int) then (spec_l2Ok.j0 k l0 bt208.1 bt208.2.1 ((l1_2.length : Int) != (((rd_T81 (rd_L4 l0 bt208.1) bt208.2.1).f1).length : Int)) a1_0 a1_1 l1_2 l1_3) else (none)) else (none)) else (none)) else (none))) else (spec_l2Ok.j0 k l0 bt208.1 bt208.2.1 true a1_0 a1_1 l1_2 l1_3)) else (spec_l2Ok.j0 k l0 bt208.1 bt208.2.1 true a1_0 a1_1 l1_2 l1_3))) else (spec_l2Ok.j0 k l0 bt208.1 bt208.2.1 true a1_0 a1_1 l1_2 l1_3)))))) = some r:=h
 clear h
 by_cases c3 : a1_0.toList = ([110] : List UInt8)
 ·rw [if_pos c3] at H
  have c3b0 : (a1_0.toList == ([110] : List UInt8)) = true:=beq_iff_eq.mpr c3
  have c3b1 : (a1_0.toList != ([110] : List UInt8)) = false:=bne_eq_false_iff_eq.mpr c3
  clear c3
  replace H:=Option.bind_eq_some_iff.mp H
  obtain ⟨t202,A40,H⟩:=H
  replace H : (if t202 = true then ((spec_l6In.f a1_1 0 1000000).bind fun t203 => (some t203)) else (some false)) = some r:=H
  have A4:=Aside0.mk A40
  clear A40
  by_cases c5 : t202 = true
  ·subst c5
   have H1 : ((spec_l6In.f a1_1 0 1000000).bind fun t203 => (some t203)) = some r:=by rw [if_pos rfl] at H;exact H
   clear H
   have H:=H1
   clear H1
   replace H:=Option.bind_eq_some_iff.mp H
   obtain ⟨t203,A60,H⟩:=H
   replace H : (some t203) = some r:=H
   have A6:=Aside0.mk A60
   clear A60
   obtain rfl:=Option.some.inj H
   go_enter Tryd.func31,Tryd.ntmps31
   go_wp2_with (first | ((with_reducible refine gate_dst (N:=3) rfl ?_);(try (refine gate_guard (by rfl) ?_;dsimp only));refine Up.bx 3 27 #[.string a1_0,.int .i64 a1_1,.slice A1_2 l1_2.length c1_2,.slice A1_3 l1_3.length c1_3] ?_;intro gb201 hg w7 hbox hb;have n0_:=Up.BB HB hb;have n1_:=Aside0.mk (hbox);have n2_:=Up.gw hg HB;have n3_:=Up.gw hg HB;clear HB;have HB:=n0_;have BK201:=n1_;have GW201:=n2_;have GE201:=n3_;clear n0_ n1_ n2_ n3_ hb hbox hg;have hcz8_0:=Up.c0 BK201;have hcz8_1:=Up.c1 BK201;have hcz8_2:=Up.c2 BK201;have hcz8_3:=Up.c3 BK201;have hfz8_0:=blk_frozen BK201.out 0;have hfz8_1:=blk_frozen BK201.out 1;have hfz8_2:=blk_frozen BK201.out 2;have hfz8_3:=blk_frozen BK201.out 3) | ((with_reducible refine gate_callee (f:=58) rfl ?_);refine Up.gl (some 13) Tryd.func58 #[.agg #[.string a1_0,.int .i64 a1_1,.slice A1_2 l1_2.length c1_2,.slice A1_3 l1_3.length c1_3]] ?_;(with_reducible refine (spec_l2Plain.calls a1_0 a1_1 _ _ l1_2 _ _ l1_3 true _ ?side1 ?side2 ?side3 ?side4 A4.out).mono ?_);(case side1 => exact Up.Cx HR1_2 HB);(case side2 => exact HC1_2.out);(case side3 => exact Up.Cx HR1_3 HB);(case side4 => exact HC1_3.out);rintro e w9 ⟨rfl,hb⟩;refine ⟨_,rfl,?_⟩;have n0_:=Up.KB BK201 hb;have n1_:=Aside0.mk (below_step (Up.Bx HB) hb);clear BK201 HB;have BK201:=n0_;have HB:=n1_;clear n0_ n1_;(try clear hb);(try clear hb2);(try clear hk);(try clear hi);have hcz10_0:=Up.c0 BK201;have hcz10_1:=Up.c1 BK201;have hcz10_2:=Up.c2 BK201;have hcz10_3:=Up.c3 BK201;have hfz10_0:=blk_frozen BK201.out 0;have hfz10_1:=blk_frozen BK201.out 1;have hfz10_2:=blk_frozen BK201.out 2;have hfz10_3:=blk_frozen BK201.out 3) | (go_at_call 59;(with_reducible refine (spec_l6In.calls a1_1 0 1000000 t203 _ A6.out).mono ?_);rintro e w' ⟨rfl,⟨nd,rfl⟩⟩))
   go_ret
   exact Up.e1 (Up.Bx HB)
  ·replace c5:=Bool.eq_false_iff.mpr c5
   subst c5
   have H1 : (some false) = some r:=by rw [if_neg (show ¬ (false = true) by decide)] at H;exact H
   clear H
   have H:=H1
   clear H1
   obtain rfl:=Option.some.inj H
   go_enter Tryd.func31,Tryd.ntmps31
   go_wp2_with (first | ((with_reducible refine gate_dst (N:=3) rfl ?_);(try (refine gate_guard (by rfl) ?_;dsimp only));refine Up.bx 3 27 #[.string a1_0,.int .i64 a1_1,.slice A1_2 l1_2.length c1_2,.slice A1_3 l1_3.length c1_3] ?_;intro gb201 hg w11 hbox hb;have n0_:=Up.BB HB hb;have n1_:=Aside0.mk (hbox);have n2_:=Up.gw hg HB;have n3_:=Up.gw hg HB;clear HB;have HB:=n0_;have BK201:=n1_;have GW201:=n2_;have GE201:=n3_;clear n0_ n1_ n2_ n3_ hb hbox hg;have hcz12_0:=Up.c0 BK201;have hcz12_1:=Up.c1 BK201;have hcz12_2:=Up.c2 BK201;have hcz12_3:=Up.c3 BK201;have hfz12_0:=blk_frozen BK201.out 0;have hfz12_1:=blk_frozen BK201.out 1;have hfz12_2:=blk_frozen BK201.out 2;have hfz12_3:=blk_frozen BK201.out 3) | ((with_reducible refine gate_callee (f:=58) rfl ?_);refine Up.gl (some 13) Tryd.func58 #[.agg #[.string a1_0,.int .i64 a1_1,.slice A1_2 l1_2.length c1_2,.slice A1_3 l1_3.length c1_3]] ?_;(with_reducible refine (spec_l2Plain.calls a1_0 a1_1 _ _ l1_2 _ _ l1_3 false _ ?side1 ?side2 ?side3 ?side4 A4.out).mono ?_);(case side1 => exact Up.Cx HR1_2 HB);(case side2 => exact HC1_2.out);(case side3 => exact Up.Cx HR1_3 HB);(case side4 => exact HC1_3.out);rintro e w13 ⟨rfl,hb⟩;refine ⟨_,rfl,?_⟩;have n0_:=Up.KB BK201 hb;have n1_:=Aside0.mk (below_step (Up.Bx HB) hb);clear BK201 HB;have BK201:=n0_;have HB:=n1_;clear n0_ n1_;(try clear hb);(try clear hb2);(try clear hk);(try clear hi)))
   go_ret
   exact Up.e1 (Up.Bx HB)
 ·rw [if_neg c3] at H
  have c3b0 : (a1_0.toList == ([110] : List UInt8)) = false:=beq_eq_false_iff_ne.mpr c3
  have c3b1 : (a1_0.toList != ([110] : List UInt8)) = true:=bne_iff_ne.mpr c3
  by_cases c14 : a1_0.toList = ([98] : List UInt8)
  ·rw [if_pos c14] at H
   have c14b0 : (a1_0.toList == ([98] : List UInt8)) = true:=beq_iff_eq.mpr c14
   have c14b1 : (a1_0.toList != ([98] : List UInt8)) = false:=bne_eq_false_iff_eq.mpr c14
   clear c14
   replace H:=Option.bind_eq_some_iff.mp H
   obtain ⟨t204,A150,H⟩:=H
   replace H : (if t204 = true then ((spec_l6In.f a1_1 0 1).bind fun t205 => (some t205)) else (some false)) = some r:=H
   have A15:=Aside0.mk A150
   clear A150
   by_cases c16 : t204 = true
   ·subst c16
    have H1 : ((spec_l6In.f a1_1 0 1).bind fun t205 => (some t205)) = some r:=by rw [if_pos rfl] at H;exact H
    clear H
    have H:=H1
    clear H1
    replace H:=Option.bind_eq_some_iff.mp H
    obtain ⟨t205,A170,H⟩:=H
    replace H : (some t205) = some r:=H
    have A17:=Aside0.mk A170
    clear A170
    obtain rfl:=Option.some.inj H
    go_enter Tryd.func31,Tryd.ntmps31
    go_wp2_with (first | ((with_reducible refine gate_dst (N:=3) rfl ?_);(try (refine gate_guard (by rfl) ?_;dsimp only));refine Up.bx 3 27 #[.string a1_0,.int .i64 a1_1,.slice A1_2 l1_2.length c1_2,.slice A1_3 l1_3.length c1_3] ?_;intro gb201 hg w18 hbox hb;have n0_:=Up.BB HB hb;have n1_:=Aside0.mk (hbox);have n2_:=Up.gw hg HB;have n3_:=Up.gw hg HB;clear HB;have HB:=n0_;have BK201:=n1_;have GW201:=n2_;have GE201:=n3_;clear n0_ n1_ n2_ n3_ hb hbox hg;have hcz19_0:=Up.c0 BK201;have hcz19_1:=Up.c1 BK201;have hcz19_2:=Up.c2 BK201;have hcz19_3:=Up.c3 BK201;have hfz19_0:=blk_frozen BK201.out 0;have hfz19_1:=blk_frozen BK201.out 1;have hfz19_2:=blk_frozen BK201.out 2;have hfz19_3:=blk_frozen BK201.out 3) | ((with_reducible refine gate_callee (f:=58) rfl ?_);refine Up.gl (some 23) Tryd.func58 #[.agg #[.string a1_0,.int .i64 a1_1,.slice A1_2 l1_2.length c1_2,.slice A1_3 l1_3.length c1_3]] ?_;(with_reducible refine (spec_l2Plain.calls a1_0 a1_1 _ _ l1_2 _ _ l1_3 true _ ?side1 ?side2 ?side3 ?side4 A15.out).mono ?_);(case side1 => exact Up.Cx HR1_2 HB);(case side2 => exact HC1_2.out);(case side3 => exact Up.Cx HR1_3 HB);(case side4 => exact HC1_3.out);rintro e w20 ⟨rfl,hb⟩;refine ⟨_,rfl,?_⟩;have n0_:=Up.KB BK201 hb;have n1_:=Aside0.mk (below_step (Up.Bx HB) hb);clear BK201 HB;have BK201:=n0_;have HB:=n1_;clear n0_ n1_;(try clear hb);(try clear hb2);(try clear hk);(try clear hi);have hcz21_0:=Up.c0 BK201;have hcz21_1:=Up.c1 BK201;have hcz21_2:=Up.c2 BK201;have hcz21_3:=Up.c3 BK201;have hfz21_0:=blk_frozen BK201.out 0;have hfz21_1:=blk_frozen BK201.out 1;have hfz21_2:=blk_frozen BK201.out 2;have hfz21_3:=blk_frozen BK201.out 3) | (go_at_call 59;(with_reducible refine (spec_l6In.calls a1_1 0 1 t205 _ A17.out).mono ?_);rintro e w' ⟨rfl,⟨nd,rfl⟩⟩))
    go_ret
    exact Up.e1 (Up.Bx HB)
   ·replace c16:=Bool.eq_false_iff.mpr c16
    subst c16
    have H1 : (some false) = some r:=by rw [if_neg (show ¬ (false = true) by decide)] at H;exact H
    clear H
    have H:=H1
    clear H1
    obtain rfl:=Option.some.inj H
    go_enter Tryd.func31,Tryd.ntmps31
    go_wp2_with (first | ((with_reducible refine gate_dst (N:=3) rfl ?_);(try (refine gate_guard (by rfl) ?_;dsimp only));refine Up.bx 3 27 #[.string a1_0,.int .i64 a1_1,.slice A1_2 l1_2.length c1_2,.slice A1_3 l1_3.length c1_3] ?_;intro gb201 hg w22 hbox hb;have n0_:=Up.BB HB hb;have n1_:=Aside0.mk (hbox);have n2_:=Up.gw hg HB;have n3_:=Up.gw hg HB;clear HB;have HB:=n0_;have BK201:=n1_;have GW201:=n2_;have GE201:=n3_;clear n0_ n1_ n2_ n3_ hb hbox hg;have hcz23_0:=Up.c0 BK201;have hcz23_1:=Up.c1 BK201;have hcz23_2:=Up.c2 BK201;have hcz23_3:=Up.c3 BK201;have hfz23_0:=blk_frozen BK201.out 0;have hfz23_1:=blk_frozen BK201.out 1;have hfz23_2:=blk_frozen BK201.out 2;have hfz23_3:=blk_frozen BK201.out 3) | ((with_reducible refine gate_callee (f:=58) rfl ?_);refine Up.gl (some 23) Tryd.func58 #[.agg #[.string a1_0,.int .i64 a1_1,.slice A1_2 l1_2.length c1_2,.slice A1_3 l1_3.length c1_3]] ?_;(with_reducible refine (spec_l2Plain.calls a1_0 a1_1 _ _ l1_2 _ _ l1_3 false _ ?side1 ?side2 ?side3 ?side4 A15.out).mono ?_);(case side1 => exact Up.Cx HR1_2 HB);(case side2 => exact HC1_2.out);(case side3 => exact Up.Cx HR1_3 HB);(case side4 => exact HC1_3.out);rintro e w24 ⟨rfl,hb⟩;refine ⟨_,rfl,?_⟩;have n0_:=Up.KB BK201 hb;have n1_:=Aside0.mk (below_step (Up.Bx HB) hb);clear BK201 HB;have BK201:=n0_;have HB:=n1_;clear n0_ n1_;(try clear hb);(try clear hb2);(try clear hk);(try clear hi)))
    go_ret
    exact Up.e1 (Up.Bx HB)
  ·rw [if_neg c14] at H
   have c14b0 : (a1_0.toList == ([98] : List UInt8)) = false:=beq_eq_false_iff_ne.mpr c14
   have c14b1 : (a1_0.toList != ([98] : List UInt8)) = true:=bne_iff_ne.mpr c14
   by_cases c25 : a1_0.toList = ([111] : List UInt8)
   ·rw [if_pos c25] at H
    have c25b0 : (a1_0.toList == ([111] : List UInt8)) = true:=beq_iff_eq.mpr c25
    have c25b1 : (a1_0.toList != ([111] : List UInt8)) = false:=bne_eq_false_iff_eq.mpr c25
    clear c25
    replace H:=Option.bind_eq_some_iff.mp H
    obtain ⟨t206,A260,H⟩:=H
    replace H : (if t206 = true then ((spec_l6In.f a1_1 0 3).bind fun t207 => (some t207)) else (some false)) = some r:=H
    have A26:=Aside0.mk A260
    clear A260
    by_cases c27 : t206 = true
    ·subst c27
     have H1 : ((spec_l6In.f a1_1 0 3).bind fun t207 => (some t207)) = some r:=by rw [if_pos rfl] at H;exact H
     clear H
     have H:=H1
     clear H1
     replace H:=Option.bind_eq_some_iff.mp H
     obtain ⟨t207,A280,H⟩:=H
     replace H : (some t207) = some r:=H
     have A28:=Aside0.mk A280
     clear A280
     obtain rfl:=Option.some.inj H
     go_enter Tryd.func31,Tryd.ntmps31
     go_wp2_with (first | ((with_reducible refine gate_dst (N:=3) rfl ?_);(try (refine gate_guard (by rfl) ?_;dsimp only));refine Up.bx 3 27 #[.string a1_0,.int .i64 a1_1,.slice A1_2 l1_2.length c1_2,.slice A1_3 l1_3.length c1_3] ?_;intro gb201 hg w29 hbox hb;have n0_:=Up.BB HB hb;have n1_:=Aside0.mk (hbox);have n2_:=Up.gw hg HB;have n3_:=Up.gw hg HB;clear HB;have HB:=n0_;have BK201:=n1_;have GW201:=n2_;have GE201:=n3_;clear n0_ n1_ n2_ n3_ hb hbox hg;have hcz30_0:=Up.c0 BK201;have hcz30_1:=Up.c1 BK201;have hcz30_2:=Up.c2 BK201;have hcz30_3:=Up.c3 BK201;have hfz30_0:=blk_frozen BK201.out 0;have hfz30_1:=blk_frozen BK201.out 1;have hfz30_2:=blk_frozen BK201.out 2;have hfz30_3:=blk_frozen BK201.out 3) | ((with_reducible refine gate_callee (f:=58) rfl ?_);refine Up.gl (some 33) Tryd.func58 #[.agg #[.string a1_0,.int .i64 a1_1,.slice A1_2 l1_2.length c1_2,.slice A1_3 l1_3.length c1_3]] ?_;(with_reducible refine (spec_l2Plain.calls a1_0 a1_1 _ _ l1_2 _ _ l1_3 true _ ?side1 ?side2 ?side3 ?side4 A26.out).mono ?_);(case side1 => exact Up.Cx HR1_2 HB);(case side2 => exact HC1_2.out);(case side3 => exact Up.Cx HR1_3 HB);(case side4 => exact HC1_3.out);rintro e w31 ⟨rfl,hb⟩;refine ⟨_,rfl,?_⟩;have n0_:=Up.KB BK201 hb;have n1_:=Aside0.mk (below_step (Up.Bx HB) hb);clear BK201 HB;have BK201:=n0_;have HB:=n1_;clear n0_ n1_;(try clear hb);(try clear hb2);(try clear hk);(try clear hi);have hcz32_0:=Up.c0 BK201;have hcz32_1:=Up.c1 BK201;have hcz32_2:=Up.c2 BK201;have hcz32_3:=Up.c3 BK201;have hfz32_0:=blk_frozen BK201.out 0;have hfz32_1:=blk_frozen BK201.out 1;have hfz32_2:=blk_frozen BK201.out 2;have hfz32_3:=blk_frozen BK201.out 3) | (go_at_call 59;(with_reducible refine (spec_l6In.calls a1_1 0 3 t207 _ A28.out).mono ?_);rintro e w' ⟨rfl,⟨nd,rfl⟩⟩))
     go_ret
     exact Up.e1 (Up.Bx HB)
    ·replace c27:=Bool.eq_false_iff.mpr c27
     subst c27
     have H1 : (some false) = some r:=by rw [if_neg (show ¬ (false = true) by decide)] at H;exact H
     clear H
     have H:=H1
     clear H1
     obtain rfl:=Option.some.inj H
     go_enter Tryd.func31,Tryd.ntmps31
     go_wp2_with (first | ((with_reducible refine gate_dst (N:=3) rfl ?_);(try (refine gate_guard (by rfl) ?_;dsimp only));refine Up.bx 3 27 #[.string a1_0,.int .i64 a1_1,.slice A1_2 l1_2.length c1_2,.slice A1_3 l1_3.length c1_3] ?_;intro gb201 hg w33 hbox hb;have n0_:=Up.BB HB hb;have n1_:=Aside0.mk (hbox);have n2_:=Up.gw hg HB;have n3_:=Up.gw hg HB;clear HB;have HB:=n0_;have BK201:=n1_;have GW201:=n2_;have GE201:=n3_;clear n0_ n1_ n2_ n3_ hb hbox hg;have hcz34_0:=Up.c0 BK201;have hcz34_1:=Up.c1 BK201;have hcz34_2:=Up.c2 BK201;have hcz34_3:=Up.c3 BK201;have hfz34_0:=blk_frozen BK201.out 0;have hfz34_1:=blk_frozen BK201.out 1;have hfz34_2:=blk_frozen BK201.out 2;have hfz34_3:=blk_frozen BK201.out 3) | ((with_reducible refine gate_callee (f:=58) rfl ?_);refine Up.gl (some 33) Tryd.func58 #[.agg #[.string a1_0,.int .i64 a1_1,.slice A1_2 l1_2.length c1_2,.slice A1_3 l1_3.length c1_3]] ?_;(with_reducible refine (spec_l2Plain.calls a1_0 a1_1 _ _ l1_2 _ _ l1_3 false _ ?side1 ?side2 ?side3 ?side4 A26.out).mono ?_);(case side1 => exact Up.Cx HR1_2 HB);(case side2 => exact HC1_2.out);(case side3 => exact Up.Cx HR1_3 HB);(case side4 => exact HC1_3.out);rintro e w35 ⟨rfl,hb⟩;refine ⟨_,rfl,?_⟩;have n0_:=Up.KB BK201 hb;have n1_:=Aside0.mk (below_step (Up.Bx HB) hb);clear BK201 HB;have BK201:=n0_;have HB:=n1_;clear n0_ n1_;(try clear hb);(try clear hb2);(try clear hk);(try clear hi)))
     go_ret
     exact Up.e1 (Up.Bx HB)
   ·rw [if_neg c25] at H
    have c25b0 : (a1_0.toList == ([111] : List UInt8)) = false:=beq_eq_false_iff_ne.mpr c25
    have c25b1 : (a1_0.toList != ([111] : List UInt8)) = true:=bne_iff_ne.mpr c25
    replace H:=Option.bind_eq_some_iff.mp H
    obtain ⟨⟨t208,t209,t210⟩,A360,H⟩:=H
    replace H : (if t210 = true then ((spec_l1Has.f l0 t208 t209).bind fun t211 => (if t211 = true then (if a1_1 = 0 then (if (l1_3.length : Int) > 0 then (spec_l2Ok.j0 k l0 t208 t209 true a1_0 a1_1 l1_2 l1_3) else (if 0 ≤ t208 then (if t208 < (l0.length : Int) then (if 0 ≤ t209 then (if t209 < ((rd_L4 l0 t208).length : Int) then (spec_l2Ok.j0 k l0 t208 t209 ((l1_2.length : Int) != (((rd_T81 (rd_L4 l0 t208) t209).f1).length : Int)) a1_0 a1_1 l1_2 l1_3) else (none)) else (none)) else (none)) else (none))) else (spec_l2Ok.j0 k l0 t208 t209 true a1_0 a1_1 l1_2 l1_3)) else (spec_l2Ok.j0 k l0 t208 t209 true a1_0 a1_1 l1_2 l1_3))) else (spec_l2Ok.j0 k l0 t208 t209 true a1_0 a1_1 l1_2 l1_3)) = some r:=H
    have A36:=Aside0.mk A360
    clear A360
    have HC37:=Aside0.mk H
    clear H
    go_enter Tryd.func31,Tryd.ntmps31
    go_upto_region 8 with (first | ((with_reducible refine gate_dst (N:=3) rfl ?_);(try (refine gate_guard (by rfl) ?_;dsimp only));refine Up.bx 3 27 #[.string a1_0,.int .i64 a1_1,.slice A1_2 l1_2.length c1_2,.slice A1_3 l1_3.length c1_3] ?_;intro gb201 hg w38 hbox hb;have n0_:=Up.BB HB hb;have n1_:=Aside0.mk (hbox);have n2_:=Up.gw hg HB;have n3_:=Up.gw hg HB;clear HB;have HB:=n0_;have BK201:=n1_;have GW201:=n2_;have GE201:=n3_;clear n0_ n1_ n2_ n3_ hb hbox hg;have hcz39_0:=Up.c0 BK201;have hcz39_1:=Up.c1 BK201;have hcz39_2:=Up.c2 BK201;have hcz39_3:=Up.c3 BK201;have hfz39_0:=blk_frozen BK201.out 0;have hfz39_1:=blk_frozen BK201.out 1;have hfz39_2:=blk_frozen BK201.out 2;have hfz39_3:=blk_frozen BK201.out 3) | ((with_reducible refine gate_callee (f:=51) rfl ?_);refine Up.gl (some 42) Tryd.func51 #[.string a1_0] ?_;(with_reducible refine (spec_l1Kind.calls a1_0 t208 t209 t210 _ A36.out).mono ?_);rintro e w' ⟨rfl,⟨nd,rfl⟩⟩;refine ⟨_,rfl,?_⟩))
    (try simp only [Act.put,List.setIfInBounds_toArray,List.set_cons_zero,List.set_cons_succ])
    go_cut [80] (fun v80 wc => ∃ (kq : Nat) (x80_36 : Bool),v80 = .bool x80_36 ∧ Aside0 (spec_l2Ok.j0 kq l0 t208 t209 x80_36 a1_0 a1_1 l1_2 l1_3 = some r) ∧ Aside0 (kq ≤ k) ∧ Aside0 (wc.heap[gb201]? = some (.cells #[.string a1_0,.int .i64 a1_1,(.slice A1_2 l1_2.length c1_2),(.slice A1_3 l1_3.length c1_3)] 27 (0,0))) ∧ Aside0 (Below w.heap.size w wc))
    case first =>
     have H:=HC37.out
     clear HC37
     by_cases c40 : t210 = true
     ·subst c40
      have H1 : ((spec_l1Has.f l0 t208 t209).bind fun t211 => (if t211 = true then (if a1_1 = 0 then (if (l1_3.length : Int) > 0 then (spec_l2Ok.j0 k l0 t208 t209 true a1_0 a1_1 l1_2 l1_3) else (if 0 ≤ t208 then (if t208 < (l0.length : Int) then (if 0 ≤ t209 then (if t209 < ((rd_L4 l0 t208).length : Int) then (spec_l2Ok.j0 k l0 t208 t209 ((l1_2.length : Int) != (((rd_T81 (rd_L4 l0 t208) t209).f1).length : Int)) a1_0 a1_1 l1_2 l1_3) else (none)) else (none)) else (none)) else (none))) else (spec_l2Ok.j0 k l0 t208 t209 true a1_0 a1_1 l1_2 l1_3)) else (spec_l2Ok.j0 k l0 t208 t209 true a1_0 a1_1 l1_2 l1_3))) = some r:=by rw [if_pos rfl] at H;exact H
      clear H
      have H:=H1
      clear H1
      replace H:=Option.bind_eq_some_iff.mp H
      obtain ⟨t211,A410,H⟩:=H
      replace H : (if t211 = true then (if a1_1 = 0 then (if (l1_3.length : Int) > 0 then (spec_l2Ok.j0 k l0 t208 t209 true a1_0 a1_1 l1_2 l1_3) else (if 0 ≤ t208 then (if t208 < (l0.length : Int) then (if 0 ≤ t209 then (if t209 < ((rd_L4 l0 t208).length : Int) then (spec_l2Ok.j0 k l0 t208 t209 ((l1_2.length : Int) != (((rd_T81 (rd_L4 l0 t208) t209).f1).length : Int)) a1_0 a1_1 l1_2 l1_3) else (none)) else (none)) else (none)) else (none))) else (spec_l2Ok.j0 k l0 t208 t209 true a1_0 a1_1 l1_2 l1_3)) else (spec_l2Ok.j0 k l0 t208 t209 true a1_0 a1_1 l1_2 l1_3)) = some r:=H
      have A41:=Aside0.mk A410
      clear A410
      by_cases c42 : t211 = true
      ·subst c42
       have H1 : (if a1_1 = 0 then (if (l1_3.length : Int) > 0 then (spec_l2Ok.j0 k l0 t208 t209 true a1_0 a1_1 l1_2 l1_3) else (if 0 ≤ t208 then (if t208 < (l0.length : Int) then (if 0 ≤ t209 then (if t209 < ((rd_L4 l0 t208).length : Int) then (spec_l2Ok.j0 k l0 t208 t209 ((l1_2.length : Int) != (((rd_T81 (rd_L4 l0 t208) t209).f1).length : Int)) a1_0 a1_1 l1_2 l1_3) else (none)) else (none)) else (none)) else (none))) else (spec_l2Ok.j0 k l0 t208 t209 true a1_0 a1_1 l1_2 l1_3)) = some r:=by rw [if_pos rfl] at H;exact H
       clear H
       have H:=H1
       clear H1
       by_cases c43 : a1_1 = 0
       ·rw [if_pos c43] at H
        have c43b0 : (a1_1 == 0) = true:=beq_iff_eq.mpr c43
        have c43b1 : (a1_1 != 0) = false:=bne_eq_false_iff_eq.mpr c43
        clear c43
        (first | rw [c43b0] | (simp only [i64_w,i32_w];rw [c43b0]) | skip)
        by_cases c44 : (l1_3.length : Int) > 0
        ·rw [if_pos c44] at H
         have c44b0 : decide (0 < (l1_3.length : Int)) = true:=decide_eq_true c44
         have c44b1 : decide (0 < l1_3.length) = true:=decide_eq_true (by omega)
         clear c44
         have H':=Aside0.mk H
         clear H
         try go_wp2
         have BKd_:=Aside0.mk (blk_drewN BK201.out nd)
         have HBd_:=Aside0.mk (pw_below_drewN HB.out nd)
         clear BK201 HB
         have BK201:=BKd_
         have HB:=HBd_
         clear BKd_ HBd_
         generalize w38.drewN nd = w38 at BK201 HB ⊢
         have n0_:=Aside0.mk (blk_drew BK201.out)
         have n1_:=Aside0.mk (below_drew1 HB.out)
         clear BK201
         clear HB
         have BK201:=n0_
         have HB:=n1_
         clear n0_ n1_
         refine start_ (n:=35) (S:=fun w' => w'.cell? ⟨gb201,0,none⟩ = some (.string a1_0) ∧ w'.cell? ⟨gb201,1,none⟩ = some (.int .i64 a1_1) ∧ w'.cell? ⟨gb201,2,none⟩ = some (.slice A1_2 l1_2.length c1_2) ∧ w'.cell? ⟨gb201,3,none⟩ = some (.slice A1_3 l1_3.length c1_3)) (ds:=[]) #[false,false,false,false,false,false,false,false,false,false,false,false,false,false,false,false,false,false,false,false,false,false,false,false,false,false,false,false,false,false,false,false,false,false,false] (by kernel_rfl) rfl rfl ⟨Up.c0 BK201,Up.c1 BK201,Up.c2 BK201,Up.c3 BK201⟩ (fun hHeld => ?_);refine with_tabW spec_l2Ok.tab8 spec_l2Ok.bits8 (fun HT_ HW_ => ?_)
         generalize w38.drew = w45 at BK201 HB hHeld ⊢
         refine Up.pu 0 (some 46) HT_ ?_
         refine Up.pu 1 (some 47) HT_ ?_
         refine Up.pu 2 (some 48) HT_ ?_
         refine Up.pu 3 (some 49) HT_ ?_
         refine Up.pu 4 (some 50) HT_ ?_
         refine Up.pu 5 (some 51) HT_ ?_
         refine Up.on 6 (some 52) HT_ (fun K hK => ?_)
         refine Up.go Tryd.func52 #[.slice A0 l0.length c0,.int .i64 t208,.int .i64 t209] ?_
         with_reducible refine (spec_l1Has.calls _ _ l0 t208 t209 true _ ?side1 ?side2 A41.out).mono ?_
         (case side1 => exact Up.Cx HR0 HB)
         (case side2 => exact HC0.out)
         rintro e w' ⟨rfl,⟨nd,rfl⟩⟩
         refine ⟨_,rfl,?_⟩
         refine hK.out _ _ ⟨Up.c0 BK201,Up.c1 BK201,Up.c2 BK201,Up.c3 BK201⟩ (fun hHeld => ?_)
         clear hK K
         refine Up.nm 52 ?_
         refine Up.pu 7 (some 53) HT_ ?_
         refine Up.pu 8 (some 54) HT_ ?_
         refine Up.pu 9 (some 55) HT_ ?_
         refine Up.pu 10 (some 56) HT_ ?_
         refine Up.tk 11 (some 57) HT_ HW_ hHeld ?_ (hy:=by rintro w' ⟨s0,s1,s2,s3⟩;go_simp;with_reducible rfl)
         refine Up.pu 12 (some 58) HT_ ?_
         refine Up.pu 13 (some 59) HT_ ?_
         refine Up.pu 14 (some 60) HT_ ?_
         refine Up.pu 15 (some 61) HT_ ?_
         refine Up.tk 16 (some 62) HT_ HW_ hHeld ?_ (hy:=by rintro w' ⟨s0,s1,s2,s3⟩;go_simp;with_reducible rfl)
         refine Up.pu 17 (some 63) HT_ ?_
         refine Up.pu 18 (some 64) HT_ ?_
         refine Up.pu 19 (some 65) HT_ ?_
         refine Up.pu 20 (some 66) HT_ ?_
         refine Up.pz 21 (some 67) HT_ ?_
         refine Up.pz 22 (some 68) HT_ ?_
         refine Up.pz 23 (some 69) HT_ ?_
         refine Up.pz 24 (some 70) HT_ ?_
         refine Up.pz 25 (some 71) HT_ ?_
         refine Up.pz 26 (some 72) HT_ ?_
         refine Up.pz 27 (some 73) HT_ ?_
         refine Up.pz 28 (some 74) HT_ ?_
         refine Up.pz 29 (some 75) HT_ ?_
         refine Up.pz 30 (some 76) HT_ ?_
         refine Up.pz 31 (some 77) HT_ ?_
         refine Up.pz 32 (some 78) HT_ ?_
         refine Up.pz 33 (some 79) HT_ ?_
         refine Up.pu 34 (some 80) HT_ ?_
         refine done_ (done_of HT_.out (by kernel_rfl)) ?_
         try go_wp2
         go_meet
         case rel => exact ⟨_,(true),(by first | rfl | (simp;done) | (simp [*];done)),H',⟨by first | omega | exact Nat.le_refl _⟩,⟨by (with_reducible repeat (first | refine blk_drewN ?_ _ | refine blk_drew ?_ | refine blk_alloc ?_ _));exact BK201.out⟩,⟨Up.Bx HB⟩⟩
        ·rw [if_neg c44] at H
         have c44b0 : decide (0 < (l1_3.length : Int)) = false:=decide_eq_false c44
         have c44b1 : decide (0 < l1_3.length) = false:=decide_eq_false (by omega)
         clear c44
         by_cases c46 : 0 ≤ t208
         ·rw [if_pos c46] at H
          have c46b0 : decide (0 ≤ t208) = true:=decide_eq_true c46
          clear c46
          by_cases c47 : t208 < (l0.length : Int)
          ·rw [if_pos c47] at H
           have c47b0 : decide (t208 < (l0.length : Int)) = true:=decide_eq_true c47
           clear c47
           by_cases c48 : 0 ≤ t209
           ·rw [if_pos c48] at H
            have c48b0 : decide (0 ≤ t209) = true:=decide_eq_true c48
            clear c48
            by_cases c49 : t209 < ((rd_L4 l0 t208).length : Int)
            ·rw [if_pos c49] at H
             have c49b0 : decide (t209 < ((rd_L4 l0 t208).length : Int)) = true:=decide_eq_true c49
             clear c49
             have H':=Aside0.mk H
             clear H
             try go_wp2
             have BKd_:=Aside0.mk (blk_drewN BK201.out nd)
             have HBd_:=Aside0.mk (pw_below_drewN HB.out nd)
             clear BK201 HB
             have BK201:=BKd_
             have HB:=HBd_
             clear BKd_ HBd_
             generalize w38.drewN nd = w38 at BK201 HB ⊢
             have n0_:=Aside0.mk (blk_drew BK201.out)
             have n1_:=Aside0.mk (below_drew1 HB.out)
             clear BK201
             clear HB
             have BK201:=n0_
             have HB:=n1_
             clear n0_ n1_
             have p212 : 0 ≤ (t208 : Int):=Up.od
             have q212 : t208 < (l0.length : Int):=Up.od
             obtain ⟨ad212,A212_0,c212_0,e212,hx212_0,hl212_0,hi212_0⟩:=at_L4 HR0.out t208 p212 q212
             have hw212_0:=hx212_0
             cases e212
             replace hx212_0:=Up.hc HB hx212_0
             have HR212_0:=Aside0.mk hi212_0
             have HC212_0:=Aside0.mk hl212_0
             clear hi212_0 hl212_0
             replace p212:=eq_true p212
             replace q212:=eq_true q212
             have p213 : 0 ≤ (t209 : Int):=Up.od
             have q213 : t209 < ((rd_L4 l0 t208).length : Int):=Up.od
             obtain ⟨ad213,A213_1,c213_1,e213,hx213_0,hx213_1,hl213_1,hi213_1⟩:=at_T81 HR212_0.out t209 p213 q213
             have hw213_1:=hx213_1
             have hw213_0:=hx213_0
             cases e213
             replace hx213_0:=Up.hc HB hx213_0
             replace hx213_1:=Up.hc HB hx213_1
             have HR213_1:=Aside0.mk hi213_1
             have HC213_1:=Aside0.mk hl213_1
             clear hi213_1 hl213_1
             replace p213:=eq_true p213
             replace q213:=eq_true q213
             refine start_ (n:=35) (S:=fun w' => w'.cell? ⟨gb201,0,none⟩ = some (.string a1_0) ∧ w'.cell? ⟨gb201,1,none⟩ = some (.int .i64 a1_1) ∧ w'.cell? ⟨gb201,2,none⟩ = some (.slice A1_2 l1_2.length c1_2) ∧ w'.cell? ⟨gb201,3,none⟩ = some (.slice A1_3 l1_3.length c1_3) ∧ w'.cell? (ad212.add (t208).toNat) = some (.slice (some ad213) (rd_L4 l0 t208).length c212_0) ∧ w'.cell? (ad213.add ((t209).toNat * 2)) = some (.int .i64 ((rd_T81 (rd_L4 l0 t208) t209).f0)) ∧ w'.cell? ⟨(ad213.add ((t209).toNat * 2)).block,(ad213.add ((t209).toNat * 2)).off + 1,none⟩ = some (.slice A213_1 ((rd_T81 (rd_L4 l0 t208) t209).f1).length c213_1)) (ds:=[]) #[false,false,false,false,false,false,false,false,false,false,false,false,false,false,false,false,false,false,false,false,false,false,false,false,false,false,false,false,false,false,false,false,false,false,false] (by kernel_rfl) rfl rfl ⟨Up.c0 BK201,Up.c1 BK201,Up.c2 BK201,Up.c3 BK201,(Up.hd HB hw212_0),(Up.hd HB hw213_0),(Up.hd HB hw213_1)⟩ (fun hHeld => ?_);refine with_tabW spec_l2Ok.tab8 spec_l2Ok.bits8 (fun HT_ HW_ => ?_)
             generalize w38.drew = w50 at BK201 HB HR212_0 HR213_1 hx212_0 hx213_0 hx213_1 hHeld ⊢
             refine Up.pu 0 (some 46) HT_ ?_
             refine Up.pu 1 (some 47) HT_ ?_
             refine Up.pu 2 (some 48) HT_ ?_
             refine Up.pu 3 (some 49) HT_ ?_
             refine Up.pu 4 (some 50) HT_ ?_
             refine Up.pu 5 (some 51) HT_ ?_
             refine Up.on 6 (some 52) HT_ (fun K hK => ?_)
             refine Up.go Tryd.func52 #[.slice (some ad212) l0.length c0,.int .i64 t208,.int .i64 t209] ?_
             with_reducible refine (spec_l1Has.calls _ _ l0 t208 t209 true _ ?side1 ?side2 A41.out).mono ?_
             (case side1 => exact Up.Cx HR0 HB)
             (case side2 => exact HC0.out)
             rintro e w' ⟨rfl,⟨nd,rfl⟩⟩
             refine ⟨_,rfl,?_⟩
             refine hK.out _ _ ⟨Up.c0 BK201,Up.c1 BK201,Up.c2 BK201,Up.c3 BK201,(Up.hd HB hw212_0),(Up.hd HB hw213_0),(Up.hd HB hw213_1)⟩ (fun hHeld => ?_)
             clear hK K
             refine Up.nm 52 ?_
             refine Up.pu 7 (some 53) HT_ ?_
             refine Up.pu 8 (some 54) HT_ ?_
             refine Up.pu 9 (some 55) HT_ ?_
             refine Up.pu 10 (some 56) HT_ ?_
             refine Up.tk 11 (some 57) HT_ HW_ hHeld ?_ (hy:=by rintro w' ⟨s0,s1,s2,s3,s4,s5,s6⟩;go_simp;with_reducible rfl)
             refine Up.pu 12 (some 58) HT_ ?_
             refine Up.pu 13 (some 59) HT_ ?_
             refine Up.pu 14 (some 60) HT_ ?_
             refine Up.pu 15 (some 61) HT_ ?_
             refine Up.tk 16 (some 62) HT_ HW_ hHeld ?_ (hy:=by rintro w' ⟨s0,s1,s2,s3,s4,s5,s6⟩;go_simp;with_reducible rfl)
             refine Up.pu 17 (some 63) HT_ ?_
             refine Up.pu 18 (some 64) HT_ ?_
             refine Up.pu 19 (some 65) HT_ ?_
             refine Up.pu 20 (some 66) HT_ ?_
             refine Up.pu 21 (some 67) HT_ ?_
             refine Up.pu 24 (some 70) HT_ ?_
             refine Up.pu 25 (some 71) HT_ ?_
             refine Up.pu 26 (some 72) HT_ ?_
             refine Up.pu 28 (some 74) HT_ ?_
             refine Up.tk 22 (some 68) HT_ HW_ hHeld ?_ (hy:=by rintro w' ⟨s0,s1,s2,s3,s4,s5,s6⟩;go_simp;with_reducible rfl)
             refine Up.pu 23 (some 69) HT_ ?_
             refine Up.tk 27 (some 73) HT_ HW_ hHeld ?_ (hy:=by rintro w' ⟨s0,s1,s2,s3,s4,s5,s6⟩;go_simp;with_reducible rfl)
             refine Up.pu 29 (some 75) HT_ ?_
             refine Up.pu 30 (some 76) HT_ ?_
             refine Up.tk 31 (some 77) HT_ HW_ hHeld ?_ (hy:=by rintro w' ⟨s0,s1,s2,s3,s4,s5,s6⟩;go_simp;with_reducible rfl)
             refine Up.pu 32 (some 78) HT_ ?_
             refine Up.pu 33 (some 79) HT_ ?_
             refine Up.pu 34 (some 80) HT_ ?_
             refine done_ (done_of HT_.out (by kernel_rfl)) ?_
             try go_wp2
             go_meet
             case rel => exact ⟨_,(((l1_2.length : Int) != (((rd_T81 (rd_L4 l0 t208) t209).f1).length : Int))),(by first | rfl | (simp;done) | (simp [*];done)),H',⟨by first | omega | exact Nat.le_refl _⟩,⟨by (with_reducible repeat (first | refine blk_drewN ?_ _ | refine blk_drew ?_ | refine blk_alloc ?_ _));exact BK201.out⟩,⟨Up.Bx HB⟩⟩
            ·rw [if_neg c49] at H
             exact absurd H (by simp)
           ·rw [if_neg c48] at H
            exact absurd H (by simp)
          ·rw [if_neg c47] at H
           exact absurd H (by simp)
         ·rw [if_neg c46] at H
          exact absurd H (by simp)
       ·rw [if_neg c43] at H
        have c43b0 : (a1_1 == 0) = false:=beq_eq_false_iff_ne.mpr c43
        have c43b1 : (a1_1 != 0) = true:=bne_iff_ne.mpr c43
        (first | rw [c43b0] | (simp only [i64_w,i32_w];rw [c43b0]) | skip)
        have H':=Aside0.mk H
        clear H
        try go_wp2
        have BKd_:=Aside0.mk (blk_drewN BK201.out nd)
        have HBd_:=Aside0.mk (pw_below_drewN HB.out nd)
        clear BK201 HB
        have BK201:=BKd_
        have HB:=HBd_
        clear BKd_ HBd_
        generalize w38.drewN nd = w38 at BK201 HB ⊢
        have n0_:=Aside0.mk (blk_drew BK201.out)
        have n1_:=Aside0.mk (below_drew1 HB.out)
        clear BK201
        clear HB
        have BK201:=n0_
        have HB:=n1_
        clear n0_ n1_
        refine start_ (n:=35) (S:=fun w' => w'.cell? ⟨gb201,0,none⟩ = some (.string a1_0) ∧ w'.cell? ⟨gb201,1,none⟩ = some (.int .i64 a1_1) ∧ w'.cell? ⟨gb201,2,none⟩ = some (.slice A1_2 l1_2.length c1_2) ∧ w'.cell? ⟨gb201,3,none⟩ = some (.slice A1_3 l1_3.length c1_3)) (ds:=[]) #[false,false,false,false,false,false,false,false,false,false,false,false,false,false,false,false,false,false,false,false,false,false,false,false,false,false,false,false,false,false,false,false,false,false,false] (by kernel_rfl) rfl rfl ⟨Up.c0 BK201,Up.c1 BK201,Up.c2 BK201,Up.c3 BK201⟩ (fun hHeld => ?_);refine with_tabW spec_l2Ok.tab8 spec_l2Ok.bits8 (fun HT_ HW_ => ?_)
        generalize w38.drew = w51 at BK201 HB hHeld ⊢
        refine Up.pu 0 (some 46) HT_ ?_
        refine Up.pu 1 (some 47) HT_ ?_
        refine Up.pu 2 (some 48) HT_ ?_
        refine Up.pu 3 (some 49) HT_ ?_
        refine Up.pu 4 (some 50) HT_ ?_
        refine Up.pu 5 (some 51) HT_ ?_
        refine Up.on 6 (some 52) HT_ (fun K hK => ?_)
        refine Up.go Tryd.func52 #[.slice A0 l0.length c0,.int .i64 t208,.int .i64 t209] ?_
        with_reducible refine (spec_l1Has.calls _ _ l0 t208 t209 true _ ?side1 ?side2 A41.out).mono ?_
        (case side1 => exact Up.Cx HR0 HB)
        (case side2 => exact HC0.out)
        rintro e w' ⟨rfl,⟨nd,rfl⟩⟩
        refine ⟨_,rfl,?_⟩
        refine hK.out _ _ ⟨Up.c0 BK201,Up.c1 BK201,Up.c2 BK201,Up.c3 BK201⟩ (fun hHeld => ?_)
        clear hK K
        refine Up.nm 52 ?_
        refine Up.pu 7 (some 53) HT_ ?_
        refine Up.pu 8 (some 54) HT_ ?_
        refine Up.pu 9 (some 55) HT_ ?_
        refine Up.pu 10 (some 56) HT_ ?_
        refine Up.tk 11 (some 57) HT_ HW_ hHeld ?_ (hy:=by rintro w' ⟨s0,s1,s2,s3⟩;go_simp;with_reducible rfl)
        refine Up.pu 12 (some 58) HT_ ?_
        refine Up.pu 13 (some 59) HT_ ?_
        refine Up.pu 14 (some 60) HT_ ?_
        refine Up.pz 15 (some 61) HT_ ?_
        refine Up.pz 16 (some 62) HT_ ?_
        refine Up.pz 17 (some 63) HT_ ?_
        refine Up.pz 18 (some 64) HT_ ?_
        refine Up.pu 19 (some 65) HT_ ?_
        refine Up.pu 20 (some 66) HT_ ?_
        refine Up.pz 21 (some 67) HT_ ?_
        refine Up.pz 22 (some 68) HT_ ?_
        refine Up.pz 23 (some 69) HT_ ?_
        refine Up.pz 24 (some 70) HT_ ?_
        refine Up.pz 25 (some 71) HT_ ?_
        refine Up.pz 26 (some 72) HT_ ?_
        refine Up.pz 27 (some 73) HT_ ?_
        refine Up.pz 28 (some 74) HT_ ?_
        refine Up.pz 29 (some 75) HT_ ?_
        refine Up.pz 30 (some 76) HT_ ?_
        refine Up.pz 31 (some 77) HT_ ?_
        refine Up.pz 32 (some 78) HT_ ?_
        refine Up.pz 33 (some 79) HT_ ?_
        refine Up.pu 34 (some 80) HT_ ?_
        refine done_ (done_of HT_.out (by kernel_rfl)) ?_
        try go_wp2
        go_meet
        case rel => exact ⟨_,(true),(by first | rfl | (simp;done) | (simp [*];done)),H',⟨by first | omega | exact Nat.le_refl _⟩,⟨by (with_reducible repeat (first | refine blk_drewN ?_ _ | refine blk_drew ?_ | refine blk_alloc ?_ _));exact BK201.out⟩,⟨Up.Bx HB⟩⟩
      ·replace c42:=Bool.eq_false_iff.mpr c42
       subst c42
       have H1 : (spec_l2Ok.j0 k l0 t208 t209 true a1_0 a1_1 l1_2 l1_3) = some r:=by rw [if_neg (show ¬ (false = true) by decide)] at H;exact H
       clear H
       have H:=H1
       clear H1
       have H':=Aside0.mk H
       clear H
       try go_wp2
       have BKd_:=Aside0.mk (blk_drewN BK201.out nd)
       have HBd_:=Aside0.mk (pw_below_drewN HB.out nd)
       clear BK201 HB
       have BK201:=BKd_
       have HB:=HBd_
       clear BKd_ HBd_
       generalize w38.drewN nd = w38 at BK201 HB ⊢
       have n0_:=Aside0.mk (blk_drew BK201.out)
       have n1_:=Aside0.mk (below_drew1 HB.out)
       clear BK201
       clear HB
       have BK201:=n0_
       have HB:=n1_
       clear n0_ n1_
       refine start_ (n:=35) (S:=fun w' => True) (ds:=[]) #[false,false,false,false,false,false,false,false,false,false,false,false,false,false,false,false,false,false,false,false,false,false,false,false,false,false,false,false,false,false,false,false,false,false,false] (by kernel_rfl) rfl rfl trivial (fun hHeld => ?_);refine with_tabW spec_l2Ok.tab8 spec_l2Ok.bits8 (fun HT_ HW_ => ?_)
       generalize w38.drew = w52 at BK201 HB hHeld ⊢
       refine Up.pu 0 (some 46) HT_ ?_
       refine Up.pu 1 (some 47) HT_ ?_
       refine Up.pu 2 (some 48) HT_ ?_
       refine Up.pu 3 (some 49) HT_ ?_
       refine Up.pu 4 (some 50) HT_ ?_
       refine Up.pu 5 (some 51) HT_ ?_
       refine Up.on 6 (some 52) HT_ (fun K hK => ?_)
       refine Up.go Tryd.func52 #[.slice A0 l0.length c0,.int .i64 t208,.int .i64 t209] ?_
       with_reducible refine (spec_l1Has.calls _ _ l0 t208 t209 false _ ?side1 ?side2 A41.out).mono ?_
       (case side1 => exact Up.Cx HR0 HB)
       (case side2 => exact HC0.out)
       rintro e w' ⟨rfl,⟨nd,rfl⟩⟩
       refine ⟨_,rfl,?_⟩
       refine hK.out _ _ trivial (fun hHeld => ?_)
       clear hK K
       refine Up.nm 52 ?_
       refine Up.pu 7 (some 53) HT_ ?_
       refine Up.pu 8 (some 54) HT_ ?_
       refine Up.pu 9 (some 55) HT_ ?_
       refine Up.pz 10 (some 56) HT_ ?_
       refine Up.pz 11 (some 57) HT_ ?_
       refine Up.pz 12 (some 58) HT_ ?_
       refine Up.pu 13 (some 59) HT_ ?_
       refine Up.pu 14 (some 60) HT_ ?_
       refine Up.pz 15 (some 61) HT_ ?_
       refine Up.pz 16 (some 62) HT_ ?_
       refine Up.pz 17 (some 63) HT_ ?_
       refine Up.pz 18 (some 64) HT_ ?_
       refine Up.pu 19 (some 65) HT_ ?_
       refine Up.pu 20 (some 66) HT_ ?_
       refine Up.pz 21 (some 67) HT_ ?_
       refine Up.pz 22 (some 68) HT_ ?_
       refine Up.pz 23 (some 69) HT_ ?_
       refine Up.pz 24 (some 70) HT_ ?_
       refine Up.pz 25 (some 71) HT_ ?_
       refine Up.pz 26 (some 72) HT_ ?_
       refine Up.pz 27 (some 73) HT_ ?_
       refine Up.pz 28 (some 74) HT_ ?_
       refine Up.pz 29 (some 75) HT_ ?_
       refine Up.pz 30 (some 76) HT_ ?_
       refine Up.pz 31 (some 77) HT_ ?_
       refine Up.pz 32 (some 78) HT_ ?_
       refine Up.pz 33 (some 79) HT_ ?_
       refine Up.pu 34 (some 80) HT_ ?_
       refine done_ (done_of HT_.out (by kernel_rfl)) ?_
       try go_wp2
       go_meet
       case rel => exact ⟨_,(true),(by first | rfl | (simp;done) | (simp [*];done)),H',⟨by first | omega | exact Nat.le_refl _⟩,⟨by (with_reducible repeat (first | refine blk_drewN ?_ _ | refine blk_drew ?_ | refine blk_alloc ?_ _));exact BK201.out⟩,⟨Up.Bx HB⟩⟩
     ·replace c40:=Bool.eq_false_iff.mpr c40
      subst c40
      have H1 : (spec_l2Ok.j0 k l0 t208 t209 true a1_0 a1_1 l1_2 l1_3) = some r:=by rw [if_neg (show ¬ (false = true) by decide)] at H;exact H
      clear H
      have H:=H1
      clear H1
      have H':=Aside0.mk H
      clear H
      try go_wp2
      have BKd_:=Aside0.mk (blk_drewN BK201.out nd)
      have HBd_:=Aside0.mk (pw_below_drewN HB.out nd)
      clear BK201 HB
      have BK201:=BKd_
      have HB:=HBd_
      clear BKd_ HBd_
      generalize w38.drewN nd = w38 at BK201 HB ⊢
      have n0_:=Aside0.mk (blk_drew BK201.out)
      have n1_:=Aside0.mk (below_drew1 HB.out)
      clear BK201
      clear HB
      have BK201:=n0_
      have HB:=n1_
      clear n0_ n1_
      refine start_ (n:=35) (S:=fun w' => True) (ds:=[]) #[false,false,false,false,false,false,false,false,false,false,false,false,false,false,false,false,false,false,false,false,false,false,false,false,false,false,false,false,false,false,false,false,false,false,false] (by kernel_rfl) rfl rfl trivial (fun hHeld => ?_);refine with_tabW spec_l2Ok.tab8 spec_l2Ok.bits8 (fun HT_ HW_ => ?_)
      generalize w38.drew = w53 at BK201 HB hHeld ⊢
      refine Up.pu 0 (some 46) HT_ ?_
      refine Up.pu 1 (some 47) HT_ ?_
      refine Up.pu 2 (some 48) HT_ ?_
      refine Up.pz 3 (some 49) HT_ ?_
      refine Up.pz 4 (some 50) HT_ ?_
      refine Up.pz 5 (some 51) HT_ ?_
      refine Up.pz 6 (some 52) HT_ ?_
      refine Up.pz 7 (some 53) HT_ ?_
      refine Up.pu 8 (some 54) HT_ ?_
      refine Up.pu 9 (some 55) HT_ ?_
      refine Up.pz 10 (some 56) HT_ ?_
      refine Up.pz 11 (some 57) HT_ ?_
      refine Up.pz 12 (some 58) HT_ ?_
      refine Up.pu 13 (some 59) HT_ ?_
      refine Up.pu 14 (some 60) HT_ ?_
      refine Up.pz 15 (some 61) HT_ ?_
      refine Up.pz 16 (some 62) HT_ ?_
      refine Up.pz 17 (some 63) HT_ ?_
      refine Up.pz 18 (some 64) HT_ ?_
      refine Up.pu 19 (some 65) HT_ ?_
      refine Up.pu 20 (some 66) HT_ ?_
      refine Up.pz 21 (some 67) HT_ ?_
      refine Up.pz 22 (some 68) HT_ ?_
      refine Up.pz 23 (some 69) HT_ ?_
      refine Up.pz 24 (some 70) HT_ ?_
      refine Up.pz 25 (some 71) HT_ ?_
      refine Up.pz 26 (some 72) HT_ ?_
      refine Up.pz 27 (some 73) HT_ ?_
      refine Up.pz 28 (some 74) HT_ ?_
      refine Up.pz 29 (some 75) HT_ ?_
      refine Up.pz 30 (some 76) HT_ ?_
      refine Up.pz 31 (some 77) HT_ ?_
      refine Up.pz 32 (some 78) HT_ ?_
      refine Up.pz 33 (some 79) HT_ ?_
      refine Up.pu 34 (some 80) HT_ ?_
      refine done_ (done_of HT_.out (by kernel_rfl)) ?_
      try go_wp2
      go_meet
      case rel => exact ⟨_,(true),(by first | rfl | (simp;done) | (simp [*];done)),H',⟨by first | omega | exact Nat.le_refl _⟩,⟨by (with_reducible repeat (first | refine blk_drewN ?_ _ | refine blk_drew ?_ | refine blk_alloc ?_ _));exact BK201.out⟩,⟨Up.Bx HB⟩⟩
    case rest =>
     clear HC37
     try clear p2
     try clear c4
     try clear c5
     try clear c40
     try clear c42
     try clear c52
     obtain ⟨kq,x80_36,rfl,HA,HJ36,BK201,HB⟩:=hcut
     cases kq with
     | zero => exact absurd HA.out (by simp [spec_l2Ok.j0])
     | succ kj36 =>
      have H:=HA.out
      clear HA
      simp only [spec_l2Ok.j0] at H
      by_cases c54 : x80_36 = true
      ·subst c54
       have H1 : (some false) = some r:=by rw [if_pos rfl] at H;exact H
       clear H
       have H:=H1
       clear H1
       obtain rfl:=Option.some.inj H
       go_wp2
       go_ret
       exact Up.e1 (Up.Bx HB)
      ·replace c54:=Bool.eq_false_iff.mpr c54
       subst c54
       have H1 : (spec_l2Ok.l0 kj36 l0 t208 t209 0 a1_0 a1_1 l1_2 l1_3) = some r:=by rw [if_neg (show ¬ (false = true) by decide)] at H;exact H
       clear H
       have H:=H1
       clear H1
       have H':=Aside0.mk H
       clear H
       go_wp2
       go_loopg [8] kj36 (fun kq v8 w' => ∃ (x8_2 : Int),v8 = .int .i64 x8_2 ∧ Aside0 (spec_l2Ok.l0 kq l0 t208 t209 x8_2 a1_0 a1_1 l1_2 l1_3 = some r) ∧ Aside0 (kq ≤ kj36) ∧ Aside0 (w'.heap[gb201]? = some (.cells #[.string a1_0,.int .i64 a1_1,(.slice A1_2 l1_2.length c1_2),(.slice A1_3 l1_3.length c1_3)] 27 (0,0))) ∧ Aside0 (Below w.heap.size w w'))
       case atStart => exact ⟨(0),(by first | rfl | (simp;done) | (simp [*];done)),H',⟨Nat.le_refl _⟩,⟨by (with_reducible repeat (first | refine blk_drewN ?_ _ | refine blk_drew ?_ | refine blk_alloc ?_ _));exact BK201.out⟩,⟨Up.Bx HB⟩⟩
       case round =>
        clear H'
        try clear c1
        try clear p2
        try clear c4
        try clear c5
        try clear c40
        try clear c42
        try clear c52
        try clear c54
        try clear p2
        obtain ⟨x8_2,rfl,HA,HK2,BK201,HB⟩:=hrel
        cases gk with
        | zero => exact absurd HA.out (by simp [spec_l2Ok.l0])
        | succ k2 =>
         have H:=HA.out
         clear HA
         simp only [spec_l2Ok.l0] at H
         by_cases c55 : x8_2 < (l1_2.length : Int)
         ·rw [if_pos c55] at H
          have c55b0 : decide (x8_2 < (l1_2.length : Int)) = true:=decide_eq_true c55
          clear c55
          by_cases c56 : 0 ≤ x8_2
          ·rw [if_pos c56] at H
           have c56b0 : decide (0 ≤ x8_2) = true:=decide_eq_true c56
           clear c56
           by_cases c57 : 0 ≤ t208
           ·rw [if_pos c57] at H
            have c57b0 : decide (0 ≤ t208) = true:=decide_eq_true c57
            clear c57
            by_cases c58 : t208 < (l0.length : Int)
            ·rw [if_pos c58] at H
             have c58b0 : decide (t208 < (l0.length : Int)) = true:=decide_eq_true c58
             clear c58
             by_cases c59 : 0 ≤ t209
             ·rw [if_pos c59] at H
              have c59b0 : decide (0 ≤ t209) = true:=decide_eq_true c59
              clear c59
              by_cases c60 : t209 < ((rd_L4 l0 t208).length : Int)
              ·rw [if_pos c60] at H
               have c60b0 : decide (t209 < ((rd_L4 l0 t208).length : Int)) = true:=decide_eq_true c60
               clear c60
               by_cases c61 : x8_2 < (((rd_T81 (rd_L4 l0 t208) t209).f1).length : Int)
               ·rw [if_pos c61] at H
                have c61b0 : decide (x8_2 < (((rd_T81 (rd_L4 l0 t208) t209).f1).length : Int)) = true:=decide_eq_true c61
                clear c61
                by_cases c62 : ((rd_T27 l1_2 x8_2).f0).toList = (rdOf ByteArray.empty ((rd_T81 (rd_L4 l0 t208) t209).f1) x8_2).toList
                ·rw [if_pos c62] at H
                 have c62b0 : (((rd_T27 l1_2 x8_2).f0).toList == (rdOf ByteArray.empty ((rd_T81 (rd_L4 l0 t208) t209).f1) x8_2).toList) = true:=beq_iff_eq.mpr c62
                 have c62b1 : (((rd_T27 l1_2 x8_2).f0).toList != (rdOf ByteArray.empty ((rd_T81 (rd_L4 l0 t208) t209).f1) x8_2).toList) = false:=bne_eq_false_iff_eq.mpr c62
                 clear c62
                 replace H:=Option.bind_eq_some_iff.mp H
                 obtain ⟨t219,A630,H⟩:=H
                 replace H : (if t219 = true then (spec_l2Ok.l0 k2 l0 t208 t209 (wrap64 (x8_2 + 1)) a1_0 a1_1 l1_2 l1_3) else (some false)) = some r:=H
                 have A63:=Aside0.mk A630
                 clear A630
                 by_cases c64 : t219 = true
                 ·subst c64
                  have H1 : (spec_l2Ok.l0 k2 l0 t208 t209 (wrap64 (x8_2 + 1)) a1_0 a1_1 l1_2 l1_3) = some r:=by rw [if_pos rfl] at H;exact H
                  clear H
                  have H:=H1
                  clear H1
                  have H':=Aside0.mk H
                  clear H
                  have hcz65_0:=Up.c0 BK201
                  have hcz65_1:=Up.c1 BK201
                  have hcz65_2:=Up.c2 BK201
                  have hcz65_3:=Up.c3 BK201
                  have hfz65_0:=blk_frozen BK201.out 0
                  have hfz65_1:=blk_frozen BK201.out 1
                  have hfz65_2:=blk_frozen BK201.out 2
                  have hfz65_3:=blk_frozen BK201.out 3
                  try go_wp2
                  have n0_:=Aside0.mk (blk_drew BK201.out)
                  have n1_:=Aside0.mk (below_drew1 HB.out)
                  clear BK201
                  clear HB
                  have BK201:=n0_
                  have HB:=n1_
                  clear n0_ n1_
                  have p214 : 0 ≤ (x8_2 : Int):=Up.od
                  have q214 : x8_2 < (l1_2.length : Int):=Up.od
                  obtain ⟨ad214,A214_2,c214_2,A214_3,c214_3,e214,hx214_0,hx214_1,hx214_2,hx214_3,hl214_2,hi214_2,hl214_3,hi214_3⟩:=at_T27 HR1_2.out x8_2 p214 q214
                  have hw214_3:=hx214_3
                  have hw214_2:=hx214_2
                  have hw214_1:=hx214_1
                  have hw214_0:=hx214_0
                  cases e214
                  replace hx214_0:=Up.hc HB hx214_0
                  replace hx214_1:=Up.hc HB hx214_1
                  replace hx214_2:=Up.hc HB hx214_2
                  replace hx214_3:=Up.hc HB hx214_3
                  have HR214_2:=Aside0.mk hi214_2
                  have HC214_2:=Aside0.mk hl214_2
                  clear hi214_2 hl214_2
                  have HR214_3:=Aside0.mk hi214_3
                  have HC214_3:=Aside0.mk hl214_3
                  clear hi214_3 hl214_3
                  replace p214:=eq_true p214
                  replace q214:=eq_true q214
                  have p215 : 0 ≤ (t208 : Int):=Up.od
                  have q215 : t208 < (l0.length : Int):=Up.od
                  obtain ⟨ad215,A215_0,c215_0,e215,hx215_0,hl215_0,hi215_0⟩:=at_L4 HR0.out t208 p215 q215
                  have hw215_0:=hx215_0
                  cases e215
                  replace hx215_0:=Up.hc HB hx215_0
                  have HR215_0:=Aside0.mk hi215_0
                  have HC215_0:=Aside0.mk hl215_0
                  clear hi215_0 hl215_0
                  replace p215:=eq_true p215
                  replace q215:=eq_true q215
                  have p216 : 0 ≤ (t209 : Int):=Up.od
                  have q216 : t209 < ((rd_L4 l0 t208).length : Int):=Up.od
                  obtain ⟨ad216,A216_1,c216_1,e216,hx216_0,hx216_1,hl216_1,hi216_1⟩:=at_T81 HR215_0.out t209 p216 q216
                  have hw216_1:=hx216_1
                  have hw216_0:=hx216_0
                  cases e216
                  replace hx216_0:=Up.hc HB hx216_0
                  replace hx216_1:=Up.hc HB hx216_1
                  have HR216_1:=Aside0.mk hi216_1
                  have HC216_1:=Aside0.mk hl216_1
                  clear hi216_1 hl216_1
                  replace p216:=eq_true p216
                  replace q216:=eq_true q216
                  have p217 : 0 ≤ (x8_2 : Int):=Up.od
                  have q217 : x8_2 < (((rd_T81 (rd_L4 l0 t208) t209).f1).length : Int):=Up.od
                  obtain ⟨ad217,e217,hx217_0⟩:=Kd.at_string HR216_1.out x8_2 p217 q217
                  have hw217_0:=hx217_0
                  cases e217
                  replace hx217_0:=Up.hc HB hx217_0
                  replace p217:=eq_true p217
                  replace q217:=eq_true q217
                  have p218 : 0 ≤ (x8_2 : Int):=Up.od
                  have q218 : x8_2 < (l1_2.length : Int):=Up.od
                  obtain ⟨ad218,A218_2,c218_2,A218_3,c218_3,e218,hx218_0,hx218_1,hx218_2,hx218_3,hl218_2,hi218_2,hl218_3,hi218_3⟩:=at_T27 HR1_2.out x8_2 p218 q218
                  have hw218_3:=hx218_3
                  have hw218_2:=hx218_2
                  have hw218_1:=hx218_1
                  have hw218_0:=hx218_0
                  obtain rfl : ad214 = ad218:=(by injection e218)
                  replace hx218_0:=Up.hc HB hx218_0
                  replace hx218_1:=Up.hc HB hx218_1
                  replace hx218_2:=Up.hc HB hx218_2
                  replace hx218_3:=Up.hc HB hx218_3
                  have HR218_2:=Aside0.mk hi218_2
                  have HC218_2:=Aside0.mk hl218_2
                  clear hi218_2 hl218_2
                  have HR218_3:=Aside0.mk hi218_3
                  have HC218_3:=Aside0.mk hl218_3
                  clear hi218_3 hl218_3
                  replace p218:=eq_true p218
                  replace q218:=eq_true q218
                  have ea_:=Option.some.inj (hx214_2.symm.trans hx218_2)
                  injection ea_ with ea_ en_ ec_
                  subst ea_
                  subst ec_
                  clear en_
                  have ea_:=Option.some.inj (hx214_3.symm.trans hx218_3)
                  injection ea_ with ea_ en_ ec_
                  subst ea_
                  subst ec_
                  clear en_
                  refine start_ (n:=28) (S:=fun w' => w'.cell? ⟨gb201,0,none⟩ = some (.string a1_0) ∧ w'.cell? ⟨gb201,1,none⟩ = some (.int .i64 a1_1) ∧ w'.cell? ⟨gb201,2,none⟩ = some (.slice (some ad214) l1_2.length c1_2) ∧ w'.cell? ⟨gb201,3,none⟩ = some (.slice A1_3 l1_3.length c1_3) ∧ w'.cell? (ad214.add ((x8_2).toNat * 4)) = some (.string ((rd_T27 l1_2 x8_2).f0)) ∧ w'.cell? ⟨(ad214.add ((x8_2).toNat * 4)).block,(ad214.add ((x8_2).toNat * 4)).off + 1,none⟩ = some (.int .i64 ((rd_T27 l1_2 x8_2).f1)) ∧ w'.cell? ⟨(ad214.add ((x8_2).toNat * 4)).block,(ad214.add ((x8_2).toNat * 4)).off + 2,none⟩ = some (.slice A214_2 ((rd_T27 l1_2 x8_2).f2).length c214_2) ∧ w'.cell? ⟨(ad214.add ((x8_2).toNat * 4)).block,(ad214.add ((x8_2).toNat * 4)).off + 3,none⟩ = some (.slice A214_3 ((rd_T27 l1_2 x8_2).f3).length c214_3) ∧ w'.cell? (ad215.add (t208).toNat) = some (.slice (some ad216) (rd_L4 l0 t208).length c215_0) ∧ w'.cell? (ad216.add ((t209).toNat * 2)) = some (.int .i64 ((rd_T81 (rd_L4 l0 t208) t209).f0)) ∧ w'.cell? ⟨(ad216.add ((t209).toNat * 2)).block,(ad216.add ((t209).toNat * 2)).off + 1,none⟩ = some (.slice (some ad217) ((rd_T81 (rd_L4 l0 t208) t209).f1).length c216_1) ∧ w'.cell? (ad217.add (x8_2).toNat) = some (.string (rdOf ByteArray.empty ((rd_T81 (rd_L4 l0 t208) t209).f1) x8_2)) ∧ w'.cell? (ad214.add ((x8_2).toNat * 4)) = some (.string ((rd_T27 l1_2 x8_2).f0)) ∧ w'.cell? ⟨(ad214.add ((x8_2).toNat * 4)).block,(ad214.add ((x8_2).toNat * 4)).off + 1,none⟩ = some (.int .i64 ((rd_T27 l1_2 x8_2).f1)) ∧ w'.cell? ⟨(ad214.add ((x8_2).toNat * 4)).block,(ad214.add ((x8_2).toNat * 4)).off + 2,none⟩ = some (.slice A214_2 ((rd_T27 l1_2 x8_2).f2).length c214_2) ∧ w'.cell? ⟨(ad214.add ((x8_2).toNat * 4)).block,(ad214.add ((x8_2).toNat * 4)).off + 3,none⟩ = some (.slice A214_3 ((rd_T27 l1_2 x8_2).f3).length c214_3)) (ds:=[]) #[false,false,false,false,false,false,false,false,false,false,false,false,false,false,false,false,false,false,false,false,false,false,false,false,false,false,false,false] (by kernel_rfl) rfl rfl ⟨Up.c0 BK201,Up.c1 BK201,Up.c2 BK201,Up.c3 BK201,(Up.hd HB hw214_0),(Up.hd HB hw214_1),(Up.hd HB hw214_2),(Up.hd HB hw214_3),(Up.hd HB hw215_0),(Up.hd HB hw216_0),(Up.hd HB hw216_1),(Up.hd HB hw217_0),(Up.hd HB hw218_0),(Up.hd HB hw218_1),(Up.hd HB hw218_2),(Up.hd HB hw218_3)⟩ (fun hHeld => ?_);refine with_tabW spec_l2Ok.tab13 spec_l2Ok.bits13 (fun HT_ HW_ => ?_)
                  generalize wr.drew = w66 at BK201 HB HR214_2 HR214_3 HR215_0 HR216_1 HR218_2 HR218_3 hx214_0 hx214_1 hx214_2 hx214_3 hx215_0 hx216_0 hx216_1 hx217_0 hx218_0 hx218_1 hx218_2 hx218_3 hHeld ⊢
                  refine Up.pu 0 (some 88) HT_ ?_
                  refine Up.pu 2 (some 90) HT_ ?_
                  refine Up.pu 6 (some 94) HT_ ?_
                  refine Up.pu 7 (some 95) HT_ ?_
                  refine Up.pu 8 (some 96) HT_ ?_
                  refine Up.pu 10 (some 98) HT_ ?_
                  refine Up.pu 14 (some 102) HT_ ?_
                  refine Up.tk 1 (some 89) HT_ HW_ hHeld ?_ (hy:=by rintro w' ⟨s0,s1,s2,s3,s4,s5,s6,s7,s8,s9,s10,s11,s12,s13,s14,s15⟩;go_simp;with_reducible rfl)
                  refine Up.pu 3 (some 91) HT_ ?_
                  refine Up.pu 4 (some 92) HT_ ?_
                  refine Up.tk 5 (some 93) HT_ HW_ hHeld ?_ (hy:=by rintro w' ⟨s0,s1,s2,s3,s4,s5,s6,s7,s8,s9,s10,s11,s12,s13,s14,s15⟩;go_simp;with_reducible rfl)
                  refine Up.tk 9 (some 97) HT_ HW_ hHeld ?_ (hy:=by rintro w' ⟨s0,s1,s2,s3,s4,s5,s6,s7,s8,s9,s10,s11,s12,s13,s14,s15⟩;go_simp;with_reducible rfl)
                  refine Up.pu 11 (some 99) HT_ ?_
                  refine Up.pu 12 (some 100) HT_ ?_
                  refine Up.tk 13 (some 101) HT_ HW_ hHeld ?_ (hy:=by rintro w' ⟨s0,s1,s2,s3,s4,s5,s6,s7,s8,s9,s10,s11,s12,s13,s14,s15⟩;go_simp;with_reducible rfl)
                  refine Up.pu 15 (some 103) HT_ ?_
                  refine Up.tk 16 (some 104) HT_ HW_ hHeld ?_ (hy:=by rintro w' ⟨s0,s1,s2,s3,s4,s5,s6,s7,s8,s9,s10,s11,s12,s13,s14,s15⟩;go_simp;with_reducible rfl)
                  refine Up.pu 17 (some 105) HT_ ?_
                  refine Up.pu 18 (some 106) HT_ ?_
                  refine Up.pu 19 (some 107) HT_ ?_
                  refine Up.pu 20 (some 108) HT_ ?_
                  refine Up.pu 22 (some 110) HT_ ?_
                  refine Up.tk 21 (some 109) HT_ HW_ hHeld ?_ (hy:=by rintro w' ⟨s0,s1,s2,s3,s4,s5,s6,s7,s8,s9,s10,s11,s12,s13,s14,s15⟩;go_simp;with_reducible rfl)
                  refine Up.pu 23 (some 111) HT_ ?_
                  refine Up.tk 24 (some 112) HT_ HW_ hHeld ?_ (hy:=by rintro w' ⟨s0,s1,s2,s3,s4,s5,s6,s7,s8,s9,s10,s11,s12,s13,s14,s15⟩;go_simp;with_reducible rfl)
                  refine Up.on 25 (some 113) HT_ (fun K hK => ?_)
                  refine Up.go Tryd.func31 #[.slice (some ad215) l0.length c0,.agg #[.string ((rd_T27 l1_2 x8_2).f0),.int .i64 ((rd_T27 l1_2 x8_2).f1),.slice A214_2 ((rd_T27 l1_2 x8_2).f2).length c214_2,.slice A214_3 ((rd_T27 l1_2 x8_2).f3).length c214_3]] ?_
                  with_reducible refine (ih k2 (by have:=HJ36.out;have:=HK2.out;omega) _ _ l0 ((rd_T27 l1_2 x8_2).f0) ((rd_T27 l1_2 x8_2).f1) _ _ ((rd_T27 l1_2 x8_2).f2) _ _ ((rd_T27 l1_2 x8_2).f3) true _ ?side1 ?side2 ?side3 ?side4 ?side5 ?side6 A63.out).mono ?_
                  (case side1 => exact Up.Cx HR0 HB)
                  (case side2 => exact HC0.out)
                  (case side3 => exact Up.Cx HR218_2 HB)
                  (case side4 => exact HC218_2.out)
                  (case side5 => exact Up.Cx HR218_3 HB)
                  (case side6 => exact HC218_3.out)
                  rintro e w67 ⟨rfl,hb⟩
                  refine ⟨_,rfl,?_⟩
                  have n0_:=Up.KB BK201 hb
                  have n1_:=Aside0.mk (below_step (Up.Bx HB) hb)
                  clear BK201
                  clear HB
                  have BK201:=n0_
                  have HB:=n1_
                  clear n0_ n1_
                  (try clear hb)
                  (try clear hb2)
                  (try clear hk)
                  (try clear hi)
                  refine hK.out _ _ ⟨Up.c0 BK201,Up.c1 BK201,Up.c2 BK201,Up.c3 BK201,(Up.hd HB hw214_0),(Up.hd HB hw214_1),(Up.hd HB hw214_2),(Up.hd HB hw214_3),(Up.hd HB hw215_0),(Up.hd HB hw216_0),(Up.hd HB hw216_1),(Up.hd HB hw217_0),(Up.hd HB hw218_0),(Up.hd HB hw218_1),(Up.hd HB hw218_2),(Up.hd HB hw218_3)⟩ (fun hHeld => ?_)
                  clear hK K
                  refine Up.nm 113 ?_
                  refine Up.pu 26 (some 114) HT_ ?_
                  refine Up.pu 27 (some 115) HT_ ?_
                  refine done_ (done_of HT_.out (by kernel_rfl)) ?_
                  try go_wp2
                  go_roundg k2
                  case measure => have:=HJ36.out;have:=HK2.out;omega
                  case rel => exact ⟨(wrap64 (x8_2 + 1)),(by first | rfl | (simp;done) | (simp [*];done)),H',⟨by have:=HJ36.out;have:=HK2.out;omega⟩,⟨by (with_reducible repeat (first | refine blk_drewN ?_ _ | refine blk_drew ?_ | refine blk_alloc ?_ _));exact BK201.out⟩,⟨Up.Bx HB⟩⟩
                 ·replace c64:=Bool.eq_false_iff.mpr c64
                  subst c64
                  have H1 : (some false) = some r:=by rw [if_neg (show ¬ (false = true) by decide)] at H;exact H
                  clear H
                  have H:=H1
                  clear H1
                  obtain rfl:=Option.some.inj H
                  have hcz68_0:=Up.c0 BK201
                  have hcz68_1:=Up.c1 BK201
                  have hcz68_2:=Up.c2 BK201
                  have hcz68_3:=Up.c3 BK201
                  have hfz68_0:=blk_frozen BK201.out 0
                  have hfz68_1:=blk_frozen BK201.out 1
                  have hfz68_2:=blk_frozen BK201.out 2
                  have hfz68_3:=blk_frozen BK201.out 3
                  try go_wp2
                  have n0_:=Aside0.mk (blk_drew BK201.out)
                  have n1_:=Aside0.mk (below_drew1 HB.out)
                  clear BK201
                  clear HB
                  have BK201:=n0_
                  have HB:=n1_
                  clear n0_ n1_
                  have p214 : 0 ≤ (x8_2 : Int):=Up.od
                  have q214 : x8_2 < (l1_2.length : Int):=Up.od
                  obtain ⟨ad214,A214_2,c214_2,A214_3,c214_3,e214,hx214_0,hx214_1,hx214_2,hx214_3,hl214_2,hi214_2,hl214_3,hi214_3⟩:=at_T27 HR1_2.out x8_2 p214 q214
                  have hw214_3:=hx214_3
                  have hw214_2:=hx214_2
                  have hw214_1:=hx214_1
                  have hw214_0:=hx214_0
                  cases e214
                  replace hx214_0:=Up.hc HB hx214_0
                  replace hx214_1:=Up.hc HB hx214_1
                  replace hx214_2:=Up.hc HB hx214_2
                  replace hx214_3:=Up.hc HB hx214_3
                  have HR214_2:=Aside0.mk hi214_2
                  have HC214_2:=Aside0.mk hl214_2
                  clear hi214_2 hl214_2
                  have HR214_3:=Aside0.mk hi214_3
                  have HC214_3:=Aside0.mk hl214_3
                  clear hi214_3 hl214_3
                  replace p214:=eq_true p214
                  replace q214:=eq_true q214
                  have p215 : 0 ≤ (t208 : Int):=Up.od
                  have q215 : t208 < (l0.length : Int):=Up.od
                  obtain ⟨ad215,A215_0,c215_0,e215,hx215_0,hl215_0,hi215_0⟩:=at_L4 HR0.out t208 p215 q215
                  have hw215_0:=hx215_0
                  cases e215
                  replace hx215_0:=Up.hc HB hx215_0
                  have HR215_0:=Aside0.mk hi215_0
                  have HC215_0:=Aside0.mk hl215_0
                  clear hi215_0 hl215_0
                  replace p215:=eq_true p215
                  replace q215:=eq_true q215
                  have p216 : 0 ≤ (t209 : Int):=Up.od
                  have q216 : t209 < ((rd_L4 l0 t208).length : Int):=Up.od
                  obtain ⟨ad216,A216_1,c216_1,e216,hx216_0,hx216_1,hl216_1,hi216_1⟩:=at_T81 HR215_0.out t209 p216 q216
                  have hw216_1:=hx216_1
                  have hw216_0:=hx216_0
                  cases e216
                  replace hx216_0:=Up.hc HB hx216_0
                  replace hx216_1:=Up.hc HB hx216_1
                  have HR216_1:=Aside0.mk hi216_1
                  have HC216_1:=Aside0.mk hl216_1
                  clear hi216_1 hl216_1
                  replace p216:=eq_true p216
                  replace q216:=eq_true q216
                  have p217 : 0 ≤ (x8_2 : Int):=Up.od
                  have q217 : x8_2 < (((rd_T81 (rd_L4 l0 t208) t209).f1).length : Int):=Up.od
                  obtain ⟨ad217,e217,hx217_0⟩:=Kd.at_string HR216_1.out x8_2 p217 q217
                  have hw217_0:=hx217_0
                  cases e217
                  replace hx217_0:=Up.hc HB hx217_0
                  replace p217:=eq_true p217
                  replace q217:=eq_true q217
                  have p218 : 0 ≤ (x8_2 : Int):=Up.od
                  have q218 : x8_2 < (l1_2.length : Int):=Up.od
                  obtain ⟨ad218,A218_2,c218_2,A218_3,c218_3,e218,hx218_0,hx218_1,hx218_2,hx218_3,hl218_2,hi218_2,hl218_3,hi218_3⟩:=at_T27 HR1_2.out x8_2 p218 q218
                  have hw218_3:=hx218_3
                  have hw218_2:=hx218_2
                  have hw218_1:=hx218_1
                  have hw218_0:=hx218_0
                  obtain rfl : ad214 = ad218:=(by injection e218)
                  replace hx218_0:=Up.hc HB hx218_0
                  replace hx218_1:=Up.hc HB hx218_1
                  replace hx218_2:=Up.hc HB hx218_2
                  replace hx218_3:=Up.hc HB hx218_3
                  have HR218_2:=Aside0.mk hi218_2
                  have HC218_2:=Aside0.mk hl218_2
                  clear hi218_2 hl218_2
                  have HR218_3:=Aside0.mk hi218_3
                  have HC218_3:=Aside0.mk hl218_3
                  clear hi218_3 hl218_3
                  replace p218:=eq_true p218
                  replace q218:=eq_true q218
                  have ea_:=Option.some.inj (hx214_2.symm.trans hx218_2)
                  injection ea_ with ea_ en_ ec_
                  subst ea_
                  subst ec_
                  clear en_
                  have ea_:=Option.some.inj (hx214_3.symm.trans hx218_3)
                  injection ea_ with ea_ en_ ec_
                  subst ea_
                  subst ec_
                  clear en_
                  refine start_ (n:=28) (S:=fun w' => w'.cell? ⟨gb201,0,none⟩ = some (.string a1_0) ∧ w'.cell? ⟨gb201,1,none⟩ = some (.int .i64 a1_1) ∧ w'.cell? ⟨gb201,2,none⟩ = some (.slice (some ad214) l1_2.length c1_2) ∧ w'.cell? ⟨gb201,3,none⟩ = some (.slice A1_3 l1_3.length c1_3) ∧ w'.cell? (ad214.add ((x8_2).toNat * 4)) = some (.string ((rd_T27 l1_2 x8_2).f0)) ∧ w'.cell? ⟨(ad214.add ((x8_2).toNat * 4)).block,(ad214.add ((x8_2).toNat * 4)).off + 1,none⟩ = some (.int .i64 ((rd_T27 l1_2 x8_2).f1)) ∧ w'.cell? ⟨(ad214.add ((x8_2).toNat * 4)).block,(ad214.add ((x8_2).toNat * 4)).off + 2,none⟩ = some (.slice A214_2 ((rd_T27 l1_2 x8_2).f2).length c214_2) ∧ w'.cell? ⟨(ad214.add ((x8_2).toNat * 4)).block,(ad214.add ((x8_2).toNat * 4)).off + 3,none⟩ = some (.slice A214_3 ((rd_T27 l1_2 x8_2).f3).length c214_3) ∧ w'.cell? (ad215.add (t208).toNat) = some (.slice (some ad216) (rd_L4 l0 t208).length c215_0) ∧ w'.cell? (ad216.add ((t209).toNat * 2)) = some (.int .i64 ((rd_T81 (rd_L4 l0 t208) t209).f0)) ∧ w'.cell? ⟨(ad216.add ((t209).toNat * 2)).block,(ad216.add ((t209).toNat * 2)).off + 1,none⟩ = some (.slice (some ad217) ((rd_T81 (rd_L4 l0 t208) t209).f1).length c216_1) ∧ w'.cell? (ad217.add (x8_2).toNat) = some (.string (rdOf ByteArray.empty ((rd_T81 (rd_L4 l0 t208) t209).f1) x8_2)) ∧ w'.cell? (ad214.add ((x8_2).toNat * 4)) = some (.string ((rd_T27 l1_2 x8_2).f0)) ∧ w'.cell? ⟨(ad214.add ((x8_2).toNat * 4)).block,(ad214.add ((x8_2).toNat * 4)).off + 1,none⟩ = some (.int .i64 ((rd_T27 l1_2 x8_2).f1)) ∧ w'.cell? ⟨(ad214.add ((x8_2).toNat * 4)).block,(ad214.add ((x8_2).toNat * 4)).off + 2,none⟩ = some (.slice A214_2 ((rd_T27 l1_2 x8_2).f2).length c214_2) ∧ w'.cell? ⟨(ad214.add ((x8_2).toNat * 4)).block,(ad214.add ((x8_2).toNat * 4)).off + 3,none⟩ = some (.slice A214_3 ((rd_T27 l1_2 x8_2).f3).length c214_3)) (ds:=[]) #[false,false,false,false,false,false,false,false,false,false,false,false,false,false,false,false,false,false,false,false,false,false,false,false,false,false,false,false] (by kernel_rfl) rfl rfl ⟨Up.c0 BK201,Up.c1 BK201,Up.c2 BK201,Up.c3 BK201,(Up.hd HB hw214_0),(Up.hd HB hw214_1),(Up.hd HB hw214_2),(Up.hd HB hw214_3),(Up.hd HB hw215_0),(Up.hd HB hw216_0),(Up.hd HB hw216_1),(Up.hd HB hw217_0),(Up.hd HB hw218_0),(Up.hd HB hw218_1),(Up.hd HB hw218_2),(Up.hd HB hw218_3)⟩ (fun hHeld => ?_);refine with_tabW spec_l2Ok.tab13 spec_l2Ok.bits13 (fun HT_ HW_ => ?_)
                  generalize wr.drew = w69 at BK201 HB HR214_2 HR214_3 HR215_0 HR216_1 HR218_2 HR218_3 hx214_0 hx214_1 hx214_2 hx214_3 hx215_0 hx216_0 hx216_1 hx217_0 hx218_0 hx218_1 hx218_2 hx218_3 hHeld ⊢
                  refine Up.pu 0 (some 88) HT_ ?_
                  refine Up.pu 2 (some 90) HT_ ?_
                  refine Up.pu 6 (some 94) HT_ ?_
                  refine Up.pu 7 (some 95) HT_ ?_
                  refine Up.pu 8 (some 96) HT_ ?_
                  refine Up.pu 10 (some 98) HT_ ?_
                  refine Up.pu 14 (some 102) HT_ ?_
                  refine Up.tk 1 (some 89) HT_ HW_ hHeld ?_ (hy:=by rintro w' ⟨s0,s1,s2,s3,s4,s5,s6,s7,s8,s9,s10,s11,s12,s13,s14,s15⟩;go_simp;with_reducible rfl)
                  refine Up.pu 3 (some 91) HT_ ?_
                  refine Up.pu 4 (some 92) HT_ ?_
                  refine Up.tk 5 (some 93) HT_ HW_ hHeld ?_ (hy:=by rintro w' ⟨s0,s1,s2,s3,s4,s5,s6,s7,s8,s9,s10,s11,s12,s13,s14,s15⟩;go_simp;with_reducible rfl)
                  refine Up.tk 9 (some 97) HT_ HW_ hHeld ?_ (hy:=by rintro w' ⟨s0,s1,s2,s3,s4,s5,s6,s7,s8,s9,s10,s11,s12,s13,s14,s15⟩;go_simp;with_reducible rfl)
                  refine Up.pu 11 (some 99) HT_ ?_
                  refine Up.pu 12 (some 100) HT_ ?_
                  refine Up.tk 13 (some 101) HT_ HW_ hHeld ?_ (hy:=by rintro w' ⟨s0,s1,s2,s3,s4,s5,s6,s7,s8,s9,s10,s11,s12,s13,s14,s15⟩;go_simp;with_reducible rfl)
                  refine Up.pu 15 (some 103) HT_ ?_
                  refine Up.tk 16 (some 104) HT_ HW_ hHeld ?_ (hy:=by rintro w' ⟨s0,s1,s2,s3,s4,s5,s6,s7,s8,s9,s10,s11,s12,s13,s14,s15⟩;go_simp;with_reducible rfl)
                  refine Up.pu 17 (some 105) HT_ ?_
                  refine Up.pu 18 (some 106) HT_ ?_
                  refine Up.pu 19 (some 107) HT_ ?_
                  refine Up.pu 20 (some 108) HT_ ?_
                  refine Up.pu 22 (some 110) HT_ ?_
                  refine Up.tk 21 (some 109) HT_ HW_ hHeld ?_ (hy:=by rintro w' ⟨s0,s1,s2,s3,s4,s5,s6,s7,s8,s9,s10,s11,s12,s13,s14,s15⟩;go_simp;with_reducible rfl)
                  refine Up.pu 23 (some 111) HT_ ?_
                  refine Up.tk 24 (some 112) HT_ HW_ hHeld ?_ (hy:=by rintro w' ⟨s0,s1,s2,s3,s4,s5,s6,s7,s8,s9,s10,s11,s12,s13,s14,s15⟩;go_simp;with_reducible rfl)
                  refine Up.on 25 (some 113) HT_ (fun K hK => ?_)
                  refine Up.go Tryd.func31 #[.slice (some ad215) l0.length c0,.agg #[.string ((rd_T27 l1_2 x8_2).f0),.int .i64 ((rd_T27 l1_2 x8_2).f1),.slice A214_2 ((rd_T27 l1_2 x8_2).f2).length c214_2,.slice A214_3 ((rd_T27 l1_2 x8_2).f3).length c214_3]] ?_
                  with_reducible refine (ih k2 (by have:=HJ36.out;have:=HK2.out;omega) _ _ l0 ((rd_T27 l1_2 x8_2).f0) ((rd_T27 l1_2 x8_2).f1) _ _ ((rd_T27 l1_2 x8_2).f2) _ _ ((rd_T27 l1_2 x8_2).f3) false _ ?side1 ?side2 ?side3 ?side4 ?side5 ?side6 A63.out).mono ?_
                  (case side1 => exact Up.Cx HR0 HB)
                  (case side2 => exact HC0.out)
                  (case side3 => exact Up.Cx HR218_2 HB)
                  (case side4 => exact HC218_2.out)
                  (case side5 => exact Up.Cx HR218_3 HB)
                  (case side6 => exact HC218_3.out)
                  rintro e w70 ⟨rfl,hb⟩
                  refine ⟨_,rfl,?_⟩
                  have n0_:=Up.KB BK201 hb
                  have n1_:=Aside0.mk (below_step (Up.Bx HB) hb)
                  clear BK201
                  clear HB
                  have BK201:=n0_
                  have HB:=n1_
                  clear n0_ n1_
                  (try clear hb)
                  (try clear hb2)
                  (try clear hk)
                  (try clear hi)
                  refine hK.out _ _ ⟨Up.c0 BK201,Up.c1 BK201,Up.c2 BK201,Up.c3 BK201,(Up.hd HB hw214_0),(Up.hd HB hw214_1),(Up.hd HB hw214_2),(Up.hd HB hw214_3),(Up.hd HB hw215_0),(Up.hd HB hw216_0),(Up.hd HB hw216_1),(Up.hd HB hw217_0),(Up.hd HB hw218_0),(Up.hd HB hw218_1),(Up.hd HB hw218_2),(Up.hd HB hw218_3)⟩ (fun hHeld => ?_)
                  clear hK K
                  refine Up.nm 113 ?_
                  refine Up.pu 26 (some 114) HT_ ?_
                  refine Up.pu 27 (some 115) HT_ ?_
                  refine done_ (done_of HT_.out (by kernel_rfl)) ?_
                  try go_wp2
                  go_ret
                  exact Up.e1 (Up.Bx HB)
                ·rw [if_neg c62] at H
                 have c62b0 : (((rd_T27 l1_2 x8_2).f0).toList == (rdOf ByteArray.empty ((rd_T81 (rd_L4 l0 t208) t209).f1) x8_2).toList) = false:=beq_eq_false_iff_ne.mpr c62
                 have c62b1 : (((rd_T27 l1_2 x8_2).f0).toList != (rdOf ByteArray.empty ((rd_T81 (rd_L4 l0 t208) t209).f1) x8_2).toList) = true:=bne_iff_ne.mpr c62
                 obtain rfl:=Option.some.inj H
                 have hcz71_0:=Up.c0 BK201
                 have hcz71_1:=Up.c1 BK201
                 have hcz71_2:=Up.c2 BK201
                 have hcz71_3:=Up.c3 BK201
                 have hfz71_0:=blk_frozen BK201.out 0
                 have hfz71_1:=blk_frozen BK201.out 1
                 have hfz71_2:=blk_frozen BK201.out 2
                 have hfz71_3:=blk_frozen BK201.out 3
                 try go_wp2
                 have n0_:=Aside0.mk (blk_drew BK201.out)
                 have n1_:=Aside0.mk (below_drew1 HB.out)
                 clear BK201
                 clear HB
                 have BK201:=n0_
                 have HB:=n1_
                 clear n0_ n1_
                 have p214 : 0 ≤ (x8_2 : Int):=Up.od
                 have q214 : x8_2 < (l1_2.length : Int):=Up.od
                 obtain ⟨ad214,A214_2,c214_2,A214_3,c214_3,e214,hx214_0,hx214_1,hx214_2,hx214_3,hl214_2,hi214_2,hl214_3,hi214_3⟩:=at_T27 HR1_2.out x8_2 p214 q214
                 have hw214_3:=hx214_3
                 have hw214_2:=hx214_2
                 have hw214_1:=hx214_1
                 have hw214_0:=hx214_0
                 cases e214
                 replace hx214_0:=Up.hc HB hx214_0
                 replace hx214_1:=Up.hc HB hx214_1
                 replace hx214_2:=Up.hc HB hx214_2
                 replace hx214_3:=Up.hc HB hx214_3
                 have HR214_2:=Aside0.mk hi214_2
                 have HC214_2:=Aside0.mk hl214_2
                 clear hi214_2 hl214_2
                 have HR214_3:=Aside0.mk hi214_3
                 have HC214_3:=Aside0.mk hl214_3
                 clear hi214_3 hl214_3
                 replace p214:=eq_true p214
                 replace q214:=eq_true q214
                 have p215 : 0 ≤ (t208 : Int):=Up.od
                 have q215 : t208 < (l0.length : Int):=Up.od
                 obtain ⟨ad215,A215_0,c215_0,e215,hx215_0,hl215_0,hi215_0⟩:=at_L4 HR0.out t208 p215 q215
                 have hw215_0:=hx215_0
                 cases e215
                 replace hx215_0:=Up.hc HB hx215_0
                 have HR215_0:=Aside0.mk hi215_0
                 have HC215_0:=Aside0.mk hl215_0
                 clear hi215_0 hl215_0
                 replace p215:=eq_true p215
                 replace q215:=eq_true q215
                 have p216 : 0 ≤ (t209 : Int):=Up.od
                 have q216 : t209 < ((rd_L4 l0 t208).length : Int):=Up.od
                 obtain ⟨ad216,A216_1,c216_1,e216,hx216_0,hx216_1,hl216_1,hi216_1⟩:=at_T81 HR215_0.out t209 p216 q216
                 have hw216_1:=hx216_1
                 have hw216_0:=hx216_0
                 cases e216
                 replace hx216_0:=Up.hc HB hx216_0
                 replace hx216_1:=Up.hc HB hx216_1
                 have HR216_1:=Aside0.mk hi216_1
                 have HC216_1:=Aside0.mk hl216_1
                 clear hi216_1 hl216_1
                 replace p216:=eq_true p216
                 replace q216:=eq_true q216
                 have p217 : 0 ≤ (x8_2 : Int):=Up.od
                 have q217 : x8_2 < (((rd_T81 (rd_L4 l0 t208) t209).f1).length : Int):=Up.od
                 obtain ⟨ad217,e217,hx217_0⟩:=Kd.at_string HR216_1.out x8_2 p217 q217
                 have hw217_0:=hx217_0
                 cases e217
                 replace hx217_0:=Up.hc HB hx217_0
                 replace p217:=eq_true p217
                 replace q217:=eq_true q217
                 refine start_ (n:=28) (S:=fun w' => w'.cell? ⟨gb201,0,none⟩ = some (.string a1_0) ∧ w'.cell? ⟨gb201,1,none⟩ = some (.int .i64 a1_1) ∧ w'.cell? ⟨gb201,2,none⟩ = some (.slice (some ad214) l1_2.length c1_2) ∧ w'.cell? ⟨gb201,3,none⟩ = some (.slice A1_3 l1_3.length c1_3) ∧ w'.cell? (ad214.add ((x8_2).toNat * 4)) = some (.string ((rd_T27 l1_2 x8_2).f0)) ∧ w'.cell? ⟨(ad214.add ((x8_2).toNat * 4)).block,(ad214.add ((x8_2).toNat * 4)).off + 1,none⟩ = some (.int .i64 ((rd_T27 l1_2 x8_2).f1)) ∧ w'.cell? ⟨(ad214.add ((x8_2).toNat * 4)).block,(ad214.add ((x8_2).toNat * 4)).off + 2,none⟩ = some (.slice A214_2 ((rd_T27 l1_2 x8_2).f2).length c214_2) ∧ w'.cell? ⟨(ad214.add ((x8_2).toNat * 4)).block,(ad214.add ((x8_2).toNat * 4)).off + 3,none⟩ = some (.slice A214_3 ((rd_T27 l1_2 x8_2).f3).length c214_3) ∧ w'.cell? (ad215.add (t208).toNat) = some (.slice (some ad216) (rd_L4 l0 t208).length c215_0) ∧ w'.cell? (ad216.add ((t209).toNat * 2)) = some (.int .i64 ((rd_T81 (rd_L4 l0 t208) t209).f0)) ∧ w'.cell? ⟨(ad216.add ((t209).toNat * 2)).block,(ad216.add ((t209).toNat * 2)).off + 1,none⟩ = some (.slice (some ad217) ((rd_T81 (rd_L4 l0 t208) t209).f1).length c216_1) ∧ w'.cell? (ad217.add (x8_2).toNat) = some (.string (rdOf ByteArray.empty ((rd_T81 (rd_L4 l0 t208) t209).f1) x8_2))) (ds:=[]) #[false,false,false,false,false,false,false,false,false,false,false,false,false,false,false,false,false,false,false,false,false,false,false,false,false,false,false,false] (by kernel_rfl) rfl rfl ⟨Up.c0 BK201,Up.c1 BK201,Up.c2 BK201,Up.c3 BK201,(Up.hd HB hw214_0),(Up.hd HB hw214_1),(Up.hd HB hw214_2),(Up.hd HB hw214_3),(Up.hd HB hw215_0),(Up.hd HB hw216_0),(Up.hd HB hw216_1),(Up.hd HB hw217_0)⟩ (fun hHeld => ?_);refine with_tabW spec_l2Ok.tab13 spec_l2Ok.bits13 (fun HT_ HW_ => ?_)
                 generalize wr.drew = w72 at BK201 HB HR214_2 HR214_3 HR215_0 HR216_1 hx214_0 hx214_1 hx214_2 hx214_3 hx215_0 hx216_0 hx216_1 hx217_0 hHeld ⊢
                 refine Up.pu 0 (some 88) HT_ ?_
                 refine Up.pu 2 (some 90) HT_ ?_
                 refine Up.pu 6 (some 94) HT_ ?_
                 refine Up.pu 7 (some 95) HT_ ?_
                 refine Up.pu 8 (some 96) HT_ ?_
                 refine Up.pu 10 (some 98) HT_ ?_
                 refine Up.pu 14 (some 102) HT_ ?_
                 refine Up.tk 1 (some 89) HT_ HW_ hHeld ?_ (hy:=by rintro w' ⟨s0,s1,s2,s3,s4,s5,s6,s7,s8,s9,s10,s11⟩;go_simp;with_reducible rfl)
                 refine Up.pu 3 (some 91) HT_ ?_
                 refine Up.pu 4 (some 92) HT_ ?_
                 refine Up.tk 5 (some 93) HT_ HW_ hHeld ?_ (hy:=by rintro w' ⟨s0,s1,s2,s3,s4,s5,s6,s7,s8,s9,s10,s11⟩;go_simp;with_reducible rfl)
                 refine Up.tk 9 (some 97) HT_ HW_ hHeld ?_ (hy:=by rintro w' ⟨s0,s1,s2,s3,s4,s5,s6,s7,s8,s9,s10,s11⟩;go_simp;with_reducible rfl)
                 refine Up.pu 11 (some 99) HT_ ?_
                 refine Up.pu 12 (some 100) HT_ ?_
                 refine Up.tk 13 (some 101) HT_ HW_ hHeld ?_ (hy:=by rintro w' ⟨s0,s1,s2,s3,s4,s5,s6,s7,s8,s9,s10,s11⟩;go_simp;with_reducible rfl)
                 refine Up.pu 15 (some 103) HT_ ?_
                 refine Up.tk 16 (some 104) HT_ HW_ hHeld ?_ (hy:=by rintro w' ⟨s0,s1,s2,s3,s4,s5,s6,s7,s8,s9,s10,s11⟩;go_simp;with_reducible rfl)
                 refine Up.pu 17 (some 105) HT_ ?_
                 refine Up.pu 18 (some 106) HT_ ?_
                 refine Up.pz 19 (some 107) HT_ ?_
                 refine Up.pz 20 (some 108) HT_ ?_
                 refine Up.pz 21 (some 109) HT_ ?_
                 refine Up.pz 22 (some 110) HT_ ?_
                 refine Up.pz 23 (some 111) HT_ ?_
                 refine Up.pz 24 (some 112) HT_ ?_
                 refine Up.pz 25 (some 113) HT_ ?_
                 refine Up.pz 26 (some 114) HT_ ?_
                 refine Up.pu 27 (some 115) HT_ ?_
                 refine done_ (done_of HT_.out (by kernel_rfl)) ?_
                 try go_wp2
                 go_ret
                 exact Up.e1 (Up.Bx HB)
               ·rw [if_neg c61] at H
                exact absurd H (by simp)
              ·rw [if_neg c60] at H
               exact absurd H (by simp)
             ·rw [if_neg c59] at H
              exact absurd H (by simp)
            ·rw [if_neg c58] at H
             exact absurd H (by simp)
           ·rw [if_neg c57] at H
            exact absurd H (by simp)
          ·rw [if_neg c56] at H
           exact absurd H (by simp)
         ·rw [if_neg c55] at H
          have c55b0 : decide (x8_2 < (l1_2.length : Int)) = false:=decide_eq_false c55
          clear c55
          obtain rfl:=Option.some.inj H
          have hcz73_0:=Up.c0 BK201
          have hcz73_1:=Up.c1 BK201
          have hcz73_2:=Up.c2 BK201
          have hcz73_3:=Up.c3 BK201
          have hfz73_0:=blk_frozen BK201.out 0
          have hfz73_1:=blk_frozen BK201.out 1
          have hfz73_2:=blk_frozen BK201.out 2
          have hfz73_3:=blk_frozen BK201.out 3
          go_wp2
          go_ret
          exact Up.e1 (Up.Bx HB)

end Go.Proofs.YtdgmlakgnbmbbaaDoor.OFnExactValueText
