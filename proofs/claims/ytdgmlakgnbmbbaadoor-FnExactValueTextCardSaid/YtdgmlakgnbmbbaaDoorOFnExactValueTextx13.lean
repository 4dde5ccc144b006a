-- Laid by a program of this session (wip/myprint.py): the kit's print of the functions, contracts of our own among them.
import Derived.Test.YtdgmlakgnbmbbaaDoorOFnExactValueTextx0
import Derived.Test.YtdgmlakgnbmbbaaDoorOFnExactValueTextx12
namespace Go.Proofs.YtdgmlakgnbmbbaaDoor.OFnExactValueText
open Go.RowKit Go.Proofs.YtdgmlakgnbmbbaaDoorW.PrintWords Go.Proofs.YtdgmlakgnbmbbaaDoorW.PrintLast Go.Proofs.YtdgmlakgnbmbbaaDoorW.PrintMore
attribute [local go_sem] max2_int min2_int max_two min_two max_three min_three max_four min_four   -- for this text's walks alone
set_option linter.unusedVariables false
set_option linter.unusedSimpArgs false

/-! ### laws_eqValueS: function 44 -/
def laws_eqValueS.l0 : Nat → List (S27) → List (S27) → Int → Option (Bool)
 | 0,_,_,_ => none
 | k + 1,x0,x1,x5 => if x5 < (x0.length : Int) then (if 0 ≤ x5 then (if x5 < (x1.length : Int) then (((fun (a0_0 : ByteArray) (a0_1 : Int) (l0_2 : List (S27)) (l0_3 : List Int) (a1_0 : ByteArray) (a1_1 : Int) (l1_2 : List (S27)) (l1_3 : List Int) => if a0_0.toList = a1_0.toList then (if a0_1 = a1_1 then (((fun (l0 : List (S27)) (l1 : List (S27)) => if (l0.length : Int) = (l1.length : Int) then (laws_eqValueS.l0 k l0 l1 0) else (some false)) l0_2 l1_2).bind fun t330 => (if t330 = true then ((laws_eqIntS.f k l0_3 l1_3).bind fun t331 => (if t331 = true then (some true) else (some false))) else (some false))) else (some false)) else (some false)) ((rd_T27 x0 x5).f0) ((rd_T27 x0 x5).f1) ((rd_T27 x0 x5).f2) ((rd_T27 x0 x5).f3) ((rd_T27 x1 x5).f0) ((rd_T27 x1 x5).f1) ((rd_T27 x1 x5).f2) ((rd_T27 x1 x5).f3)).bind fun t325 => (if t325 = true then (laws_eqValueS.l0 k x0 x1 (wrap64 (x5 + 1))) else (some false))) else (none)) else (none)) else (some true)
def laws_eqValueS.f (k : Nat) (l0 : List (S27)) (l1 : List (S27)) : Option (Bool):=if (l0.length : Int) = (l1.length : Int) then (laws_eqValueS.l0 k l0 l1 0) else (some false)
def laws_eqValue.f (k : Nat) (a0_0 : ByteArray) (a0_1 : Int) (l0_2 : List (S27)) (l0_3 : List Int) (a1_0 : ByteArray) (a1_1 : Int) (l1_2 : List (S27)) (l1_3 : List Int) : Option (Bool):=if a0_0.toList = a1_0.toList then (if a0_1 = a1_1 then ((laws_eqValueS.f k l0_2 l1_2).bind fun t330 => (if t330 = true then ((laws_eqIntS.f k l0_3 l1_3).bind fun t331 => (if t331 = true then (some true) else (some false))) else (some false))) else (some false)) else (some false)
theorem laws_eqValueS.l0_eq (k : Nat) (x0 : List (S27)) (x1 : List (S27)) (x5 : Int) : laws_eqValueS.l0 (k + 1) x0 x1 x5 = if x5 < (x0.length : Int) then (if 0 ≤ x5 then (if x5 < (x1.length : Int) then ((laws_eqValue.f k ((rd_T27 x0 x5).f0) ((rd_T27 x0 x5).f1) ((rd_T27 x0 x5).f2) ((rd_T27 x0 x5).f3) ((rd_T27 x1 x5).f0) ((rd_T27 x1 x5).f1) ((rd_T27 x1 x5).f2) ((rd_T27 x1 x5).f3)).bind fun t325 => (if t325 = true then (laws_eqValueS.l0 k x0 x1 (wrap64 (x5 + 1))) else (some false))) else (none)) else (none)) else (some true):=rfl
theorem laws_eqValueS.mono_l : ∀ k,(∀ y0 y1 y2,LeO (laws_eqValueS.l0 k y0 y1 y2) (laws_eqValueS.l0 (k + 1) y0 y1 y2))
 | 0 => fun _ _ _ r h => by simp [laws_eqValueS.l0] at h
 | k + 1 => by
  have ih0:=laws_eqValueS.mono_l k
  ·intro y0 y1 y2
   unfold laws_eqValueS.l0
   dsimp only
   repeat' first
   | (with_reducible exact ih0 _ _ _)
   | (with_reducible exact laws_eqIntS.mono _ _ _)
   | exact laws_eqIntS.mono _ _ _
   | (with_reducible exact LeO.refl _)
   | (with_reducible exact LeO.none _)
   | (with_reducible refine LeO.ite ?_ ?_)
   | (with_reducible refine LeO.bind ?_ (fun _ => ?_))
   | exact ih0 _ _ _
   | exact LeO.none _
   | refine LeO.ite ?_ ?_
   | refine LeO.bind ?_ (fun _ => ?_)
theorem laws_eqValueS.mono : ∀ a0 a1 k,LeO (laws_eqValueS.f k a0 a1) (laws_eqValueS.f (k + 1) a0 a1):=by
 intro a0 a1 k
 have ih0:=laws_eqValueS.mono_l k
 unfold laws_eqValueS.f
 repeat' first
   | (with_reducible exact ih0 _ _ _)
   | (with_reducible exact laws_eqIntS.mono _ _ _)
   | exact laws_eqIntS.mono _ _ _
   | (with_reducible exact LeO.refl _)
   | (with_reducible exact LeO.none _)
   | (with_reducible refine LeO.ite ?_ ?_)
   | (with_reducible refine LeO.bind ?_ (fun _ => ?_))
   | exact ih0 _ _ _
   | exact LeO.none _
   | refine LeO.ite ?_ ?_
   | refine LeO.bind ?_ (fun _ => ?_)
def laws_eqValueS.T6 : Bool × List (List Nat × List Nat):=(true,[([],[]),([],[]),([0,1],[0,1]),([2],[2]),([],[]),([],[]),([4,5],[4,5]),([6],[6]),([3,7],[3,7]),([8],[8])])
def laws_eqValueS.B6 : List Nat:=[0,0,3,7,0,0,48,112,255,511]
theorem laws_eqValueS.tab6 : rtab .any (opsOf Tryd.f44 6) = laws_eqValueS.T6:=by kernel_rfl
theorem laws_eqValueS.bits6 : waitsOk laws_eqValueS.T6.2 laws_eqValueS.B6 = true:=by kernel_rfl
theorem laws_eqValue.mono : ∀ a0 a1 a2 a3 a4 a5 a6 a7 k,LeO (laws_eqValue.f k a0 a1 a2 a3 a4 a5 a6 a7) (laws_eqValue.f (k + 1) a0 a1 a2 a3 a4 a5 a6 a7):=by
 intro a0 a1 a2 a3 a4 a5 a6 a7 k
 unfold laws_eqValue.f
 repeat' first
   | (with_reducible exact laws_eqIntS.mono _ _ _)
   | (with_reducible exact laws_eqValueS.mono _ _ _)
   | (with_reducible exact LeO.refl _)
   | (with_reducible exact LeO.none _)
   | (with_reducible refine LeO.ite ?_ ?_)
   | (with_reducible refine LeO.bind ?_ (fun _ => ?_))
   | exact laws_eqIntS.mono _ _ _
   | exact laws_eqValueS.mono _ _ _
   | exact LeO.none _
   | refine LeO.ite ?_ ?_
   | refine LeO.bind ?_ (fun _ => ?_)
/-! ### of laws_eqValue: function 20 -/
set_option maxHeartbeats 8000000 in
set_option maxRecDepth 100000 in
theorem laws_eqValue.calls_of (k : Nat) (hS_ : ∀ (A0 : Option Addr) (c0 : Nat) (l0 : List (S27)) (A1 : Option Addr) (c1 : Nat) (l1 : List (S27)) (r : Bool) (w : World) (hr0 : Kd.C k27 w A0 l0.length l0) (hc0 : l0.length ≤ c0) (hr1 : Kd.C k27 w A1 l1.length l1) (hc1 : l1.length ≤ c1) (h : laws_eqValueS.f k l0 l1 = some r),Calls Tryd.prog 44 #[.slice A0 l0.length c0,.slice A1 l1.length c1] w fun e w' => e = .returned (.bool r) ∧ Below w.heap.size w w') (a0_0 : ByteArray) (a0_1 : Int) (A0_2 : Option Addr) (c0_2 : Nat) (l0_2 : List (S27)) (A0_3 : Option Addr) (c0_3 : Nat) (l0_3 : List Int) (a1_0 : ByteArray) (a1_1 : Int) (A1_2 : Option Addr) (c1_2 : Nat) (l1_2 : List (S27)) (A1_3 : Option Addr) (c1_3 : Nat) (l1_3 : List Int) (r : Bool) (w : World) (hr0_2 : Kd.C k27 w A0_2 l0_2.length l0_2) (hc0_2 : l0_2.length ≤ c0_2) (hr0_3 : Kd.C (Kd.int .i64) w A0_3 l0_3.length l0_3) (hc0_3 : l0_3.length ≤ c0_3) (hr1_2 : Kd.C k27 w A1_2 l1_2.length l1_2) (hc1_2 : l1_2.length ≤ c1_2) (hr1_3 : Kd.C (Kd.int .i64) w A1_3 l1_3.length l1_3) (hc1_3 : l1_3.length ≤ c1_3) (h : laws_eqValue.f k a0_0 a0_1 l0_2 l0_3 a1_0 a1_1 l1_2 l1_3 = some r) :
  Calls Tryd.prog 20 #[.agg #[.string a0_0,.int .i64 a0_1,.slice A0_2 l0_2.length c0_2,.slice A0_3 l0_3.length c0_3],.agg #[.string a1_0,.int .i64 a1_1,.slice A1_2 l1_2.length c1_2,.slice A1_3 l1_3.length c1_3]] w fun e w' => e = .returned (.bool r) ∧ Below w.heap.size w w':=by
 have hu27:=Tryd.underlying27
 have HR0_2:=Aside0.mk hr0_2
 have HC0_2:=Aside0.mk hc0_2
 clear hr0_2 hc0_2
 have HR0_3:=Aside0.mk hr0_3
 have HC0_3:=Aside0.mk hc0_3
 clear hr0_3 hc0_3
 have HR1_2:=Aside0.mk hr1_2
 have HC1_2:=Aside0.mk hc1_2
 clear hr1_2 hc1_2
 have HR1_3:=Aside0.mk hr1_3
 have HC1_3:=Aside0.mk hc1_3
 clear hr1_3 hc1_3
 have HB:=Aside0.mk (Below.refl w.heap.size w)
 have H : (if a0_0.toList = a1_0.toList then (if a0_1 = a1_1 then ((laws_eqValueS.f k l0_2 l1_2).bind fun t330 => (if t330 = true then ((laws_eqIntS.f k l0_3 l1_3).bind fun t331 => (if t331 = true then (some true) else (some false))) else (some false))) else (some false)) else (some false)) = some r:=h
 clear h
 by_cases c3 : a0_0.toList = a1_0.toList
 ·rw [if_pos c3] at H
  have c3b0 : (a0_0.toList == a1_0.toList) = true:=beq_iff_eq.mpr c3
  have c3b1 : (a0_0.toList != a1_0.toList) = false:=bne_eq_false_iff_eq.mpr c3
  clear c3
  by_cases c4 : a0_1 = a1_1
  ·rw [if_pos c4] at H
   have c4b0 : (a0_1 == a1_1) = true:=beq_iff_eq.mpr c4
   have c4b1 : (a0_1 != a1_1) = false:=bne_eq_false_iff_eq.mpr c4
   clear c4
   replace H:=Option.bind_eq_some_iff.mp H
   obtain ⟨t330,A50,H⟩:=H
   replace H : (if t330 = true then ((laws_eqIntS.f k l0_3 l1_3).bind fun t331 => (if t331 = true then (some true) else (some false))) else (some false)) = some r:=H
   have A5:=Aside0.mk A50
   clear A50
   by_cases c6 : t330 = true
   ·subst c6
    have H1 : ((laws_eqIntS.f k l0_3 l1_3).bind fun t331 => (if t331 = true then (some true) else (some false))) = some r:=by rw [if_pos rfl] at H;exact H
    clear H
    have H:=H1
    clear H1
    replace H:=Option.bind_eq_some_iff.mp H
    obtain ⟨t331,A70,H⟩:=H
    replace H : (if t331 = true then (some true) else (some false)) = some r:=H
    have A7:=Aside0.mk A70
    clear A70
    by_cases c8 : t331 = true
    ·subst c8
     have H1 : (some true) = some r:=by rw [if_pos rfl] at H;exact H
     clear H
     have H:=H1
     clear H1
     obtain rfl:=Option.some.inj H
     go_enter Tryd.func20,Tryd.ntmps20
     go_wp2_with (first | ((with_reducible refine gate_dst (N:=2) rfl ?_);refine Up.bx 2 27 #[.string a0_0,.int .i64 a0_1,.slice A0_2 l0_2.length c0_2,.slice A0_3 l0_3.length c0_3] ?_;intro gb328 hg w9 hbox hb;have n0_:=Up.BB HB hb;have n1_:=Aside0.mk (hbox);have n2_:=Up.gw hg HB;have n3_:=Up.gw hg HB;clear HB;have HB:=n0_;have BK328:=n1_;have GW328:=n2_;have GE328:=n3_;clear n0_ n1_ n2_ n3_ hb hbox hg) | ((with_reducible refine gate_dst (N:=3) rfl ?_);refine Up.bx 3 27 #[.string a1_0,.int .i64 a1_1,.slice A1_2 l1_2.length c1_2,.slice A1_3 l1_3.length c1_3] ?_;intro gb329 hg w10 hbox hb;have n0_:=Up.KB BK328 hb;have n1_:=Aside0.mk (below_step (Up.Bx HB) hb);have n2_:=Aside0.mk (hbox);have n3_:=Up.gw hg HB;have n4_:=Up.gw hg HB;have n5_:=Up.nl hg BK328;have n6_:=Up.ng hg BK328;clear BK328 HB;have BK328:=n0_;have HB:=n1_;have BK329:=n2_;have GW329:=n3_;have GE329:=n4_;have NB328_329:=n5_;have NB329_328:=n6_;clear n0_ n1_ n2_ n3_ n4_ n5_ n6_ hb hbox hg;have hnb11:=NB328_329.out;have hnc11:=NB329_328.out;have hcz12_0:=Up.c0 BK328;have hcz12_1:=Up.c1 BK328;have hcz12_2:=Up.c2 BK328;have hcz12_3:=Up.c3 BK328;have hfz12_0:=blk_frozen BK328.out 0;have hfz12_1:=blk_frozen BK328.out 1;have hfz12_2:=blk_frozen BK328.out 2;have hfz12_3:=blk_frozen BK328.out 3;have hcz13_0:=Up.c0 BK329;have hcz13_1:=Up.c1 BK329;have hcz13_2:=Up.c2 BK329;have hcz13_3:=Up.c3 BK329;have hfz13_0:=blk_frozen BK329.out 0;have hfz13_1:=blk_frozen BK329.out 1;have hfz13_2:=blk_frozen BK329.out 2;have hfz13_3:=blk_frozen BK329.out 3) | ((with_reducible refine gate_callee (f:=44) rfl ?_);refine Up.gl (some 19) Tryd.func44 #[.slice A0_2 l0_2.length c0_2,.slice A1_2 l1_2.length c1_2] ?_;(with_reducible refine (hS_ _ _ l0_2 _ _ l1_2 true _ ?side1 ?side2 ?side3 ?side4 A5.out).mono ?_);(case side1 => exact Up.Cx HR0_2 HB);(case side2 => exact HC0_2.out);(case side3 => exact Up.Cx HR1_2 HB);(case side4 => exact HC1_2.out);rintro e w14 ⟨rfl,hb⟩;refine ⟨_,rfl,?_⟩;have n0_:=Up.KB BK328 hb;have n1_:=Up.KB BK329 hb;have n2_:=Aside0.mk (below_step (Up.Bx HB) hb);clear BK328 BK329 HB;have BK328:=n0_;have BK329:=n1_;have HB:=n2_;clear n0_ n1_ n2_;(try clear hb);(try clear hb2);(try clear hk);(try clear hi);have hcz15_0:=Up.c0 BK328;have hcz15_1:=Up.c1 BK328;have hcz15_2:=Up.c2 BK328;have hcz15_3:=Up.c3 BK328;have hfz15_0:=blk_frozen BK328.out 0;have hfz15_1:=blk_frozen BK328.out 1;have hfz15_2:=blk_frozen BK328.out 2;have hfz15_3:=blk_frozen BK328.out 3;have hcz16_0:=Up.c0 BK329;have hcz16_1:=Up.c1 BK329;have hcz16_2:=Up.c2 BK329;have hcz16_3:=Up.c3 BK329;have hfz16_0:=blk_frozen BK329.out 0;have hfz16_1:=blk_frozen BK329.out 1;have hfz16_2:=blk_frozen BK329.out 2;have hfz16_3:=blk_frozen BK329.out 3) | ((with_reducible refine gate_callee (f:=45) rfl ?_);refine Up.gl (some 25) Tryd.func45 #[.slice A0_3 l0_3.length c0_3,.slice A1_3 l1_3.length c1_3] ?_;(with_reducible refine (laws_eqIntS.calls k _ _ l0_3 _ _ l1_3 true _ ?side1 ?side2 ?side3 ?side4 A7.out).mono ?_);(case side1 => exact Up.Cx HR0_3 HB);(case side2 => exact HC0_3.out);(case side3 => exact Up.Cx HR1_3 HB);(case side4 => exact HC1_3.out);rintro e w' ⟨rfl,⟨nd,rfl⟩⟩;refine ⟨_,rfl,?_⟩))
     go_ret
     exact Up.e1 (Up.Bx HB)
    ·replace c8:=Bool.eq_false_iff.mpr c8
     subst c8
     have H1 : (some false) = some r:=by rw [if_neg (show ¬ (false = true) by decide)] at H;exact H
     clear H
     have H:=H1
     clear H1
     obtain rfl:=Option.some.inj H
     go_enter Tryd.func20,Tryd.ntmps20
     go_wp2_with (first | ((with_reducible refine gate_dst (N:=2) rfl ?_);refine Up.bx 2 27 #[.string a0_0,.int .i64 a0_1,.slice A0_2 l0_2.length c0_2,.slice A0_3 l0_3.length c0_3] ?_;intro gb328 hg w17 hbox hb;have n0_:=Up.BB HB hb;have n1_:=Aside0.mk (hbox);have n2_:=Up.gw hg HB;have n3_:=Up.gw hg HB;clear HB;have HB:=n0_;have BK328:=n1_;have GW328:=n2_;have GE328:=n3_;clear n0_ n1_ n2_ n3_ hb hbox hg) | ((with_reducible refine gate_dst (N:=3) rfl ?_);refine Up.bx 3 27 #[.string a1_0,.int .i64 a1_1,.slice A1_2 l1_2.length c1_2,.slice A1_3 l1_3.length c1_3] ?_;intro gb329 hg w18 hbox hb;have n0_:=Up.KB BK328 hb;have n1_:=Aside0.mk (below_step (Up.Bx HB) hb);have n2_:=Aside0.mk (hbox);have n3_:=Up.gw hg HB;have n4_:=Up.gw hg HB;have n5_:=Up.nl hg BK328;have n6_:=Up.ng hg BK328;clear BK328 HB;have BK328:=n0_;have HB:=n1_;have BK329:=n2_;have GW329:=n3_;have GE329:=n4_;have NB328_329:=n5_;have NB329_328:=n6_;clear n0_ n1_ n2_ n3_ n4_ n5_ n6_ hb hbox hg;have hnb19:=NB328_329.out;have hnc19:=NB329_328.out;have hcz20_0:=Up.c0 BK328;have hcz20_1:=Up.c1 BK328;have hcz20_2:=Up.c2 BK328;have hcz20_3:=Up.c3 BK328;have hfz20_0:=blk_frozen BK328.out 0;have hfz20_1:=blk_frozen BK328.out 1;have hfz20_2:=blk_frozen BK328.out 2;have hfz20_3:=blk_frozen BK328.out 3;have hcz21_0:=Up.c0 BK329;have hcz21_1:=Up.c1 BK329;have hcz21_2:=Up.c2 BK329;have hcz21_3:=Up.c3 BK329;have hfz21_0:=blk_frozen BK329.out 0;have hfz21_1:=blk_frozen BK329.out 1;have hfz21_2:=blk_frozen BK329.out 2;have hfz21_3:=blk_frozen BK329.out 3) | ((with_reducible refine gate_callee (f:=44) rfl ?_);refine Up.gl (some 19) Tryd.func44 #[.slice A0_2 l0_2.length c0_2,.slice A1_2 l1_2.length c1_2] ?_;(with_reducible refine (hS_ _ _ l0_2 _ _ l1_2 true _ ?side1 ?side2 ?side3 ?side4 A5.out).mono ?_);(case side1 => exact Up.Cx HR0_2 HB);(case side2 => exact HC0_2.out);(case side3 => exact Up.Cx HR1_2 HB);(case side4 => exact HC1_2.out);rintro e w22 ⟨rfl,hb⟩;refine ⟨_,rfl,?_⟩;have n0_:=Up.KB BK328 hb;have n1_:=Up.KB BK329 hb;have n2_:=Aside0.mk (below_step (Up.Bx HB) hb);clear BK328 BK329 HB;have BK328:=n0_;have BK329:=n1_;have HB:=n2_;clear n0_ n1_ n2_;(try clear hb);(try clear hb2);(try clear hk);(try clear hi);have hcz23_0:=Up.c0 BK328;have hcz23_1:=Up.c1 BK328;have hcz23_2:=Up.c2 BK328;have hcz23_3:=Up.c3 BK328;have hfz23_0:=blk_frozen BK328.out 0;have hfz23_1:=blk_frozen BK328.out 1;have hfz23_2:=blk_frozen BK328.out 2;have hfz23_3:=blk_frozen BK328.out 3;have hcz24_0:=Up.c0 BK329;have hcz24_1:=Up.c1 BK329;have hcz24_2:=Up.c2 BK329;have hcz24_3:=Up.c3 BK329;have hfz24_0:=blk_frozen BK329.out 0;have hfz24_1:=blk_frozen BK329.out 1;have hfz24_2:=blk_frozen BK329.out 2;have hfz24_3:=blk_frozen BK329.out 3) | ((with_reducible refine gate_callee (f:=45) rfl ?_);refine Up.gl (some 25) Tryd.func45 #[.slice A0_3 l0_3.length c0_3,.slice A1_3 l1_3.length c1_3] ?_;(with_reducible refine (laws_eqIntS.calls k _ _ l0_3 _ _ l1_3 false _ ?side1 ?side2 ?side3 ?side4 A7.out).mono ?_);(case side1 => exact Up.Cx HR0_3 HB);(case side2 => exact HC0_3.out);(case side3 => exact Up.Cx HR1_3 HB);(case side4 => exact HC1_3.out);rintro e w' ⟨rfl,⟨nd,rfl⟩⟩;refine ⟨_,rfl,?_⟩))
     go_ret
     exact Up.e1 (Up.Bx HB)
   ·replace c6:=Bool.eq_false_iff.mpr c6
    subst c6
    have H1 : (some false) = some r:=by rw [if_neg (show ¬ (false = true) by decide)] at H;exact H
    clear H
    have H:=H1
    clear H1
    obtain rfl:=Option.some.inj H
    go_enter Tryd.func20,Tryd.ntmps20
    go_wp2_with (first | ((with_reducible refine gate_dst (N:=2) rfl ?_);refine Up.bx 2 27 #[.string a0_0,.int .i64 a0_1,.slice A0_2 l0_2.length c0_2,.slice A0_3 l0_3.length c0_3] ?_;intro gb328 hg w25 hbox hb;have n0_:=Up.BB HB hb;have n1_:=Aside0.mk (hbox);have n2_:=Up.gw hg HB;have n3_:=Up.gw hg HB;clear HB;have HB:=n0_;have BK328:=n1_;have GW328:=n2_;have GE328:=n3_;clear n0_ n1_ n2_ n3_ hb hbox hg) | ((with_reducible refine gate_dst (N:=3) rfl ?_);refine Up.bx 3 27 #[.string a1_0,.int .i64 a1_1,.slice A1_2 l1_2.length c1_2,.slice A1_3 l1_3.length c1_3] ?_;intro gb329 hg w26 hbox hb;have n0_:=Up.KB BK328 hb;have n1_:=Aside0.mk (below_step (Up.Bx HB) hb);have n2_:=Aside0.mk (hbox);have n3_:=Up.gw hg HB;have n4_:=Up.gw hg HB;have n5_:=Up.nl hg BK328;have n6_:=Up.ng hg BK328;clear BK328 HB;have BK328:=n0_;have HB:=n1_;have BK329:=n2_;have GW329:=n3_;have GE329:=n4_;have NB328_329:=n5_;have NB329_328:=n6_;clear n0_ n1_ n2_ n3_ n4_ n5_ n6_ hb hbox hg;have hnb27:=NB328_329.out;have hnc27:=NB329_328.out;have hcz28_0:=Up.c0 BK328;have hcz28_1:=Up.c1 BK328;have hcz28_2:=Up.c2 BK328;have hcz28_3:=Up.c3 BK328;have hfz28_0:=blk_frozen BK328.out 0;have hfz28_1:=blk_frozen BK328.out 1;have hfz28_2:=blk_frozen BK328.out 2;have hfz28_3:=blk_frozen BK328.out 3;have hcz29_0:=Up.c0 BK329;have hcz29_1:=Up.c1 BK329;have hcz29_2:=Up.c2 BK329;have hcz29_3:=Up.c3 BK329;have hfz29_0:=blk_frozen BK329.out 0;have hfz29_1:=blk_frozen BK329.out 1;have hfz29_2:=blk_frozen BK329.out 2;have hfz29_3:=blk_frozen BK329.out 3) | ((with_reducible refine gate_callee (f:=44) rfl ?_);refine Up.gl (some 19) Tryd.func44 #[.slice A0_2 l0_2.length c0_2,.slice A1_2 l1_2.length c1_2] ?_;(with_reducible refine (hS_ _ _ l0_2 _ _ l1_2 false _ ?side1 ?side2 ?side3 ?side4 A5.out).mono ?_);(case side1 => exact Up.Cx HR0_2 HB);(case side2 => exact HC0_2.out);(case side3 => exact Up.Cx HR1_2 HB);(case side4 => exact HC1_2.out);rintro e w30 ⟨rfl,hb⟩;refine ⟨_,rfl,?_⟩;have n0_:=Up.KB BK328 hb;have n1_:=Up.KB BK329 hb;have n2_:=Aside0.mk (below_step (Up.Bx HB) hb);clear BK328 BK329 HB;have BK328:=n0_;have BK329:=n1_;have HB:=n2_;clear n0_ n1_ n2_;(try clear hb);(try clear hb2);(try clear hk);(try clear hi)))
    go_ret
    exact Up.e1 (Up.Bx HB)
  ·rw [if_neg c4] at H
   have c4b0 : (a0_1 == a1_1) = false:=beq_eq_false_iff_ne.mpr c4
   have c4b1 : (a0_1 != a1_1) = true:=bne_iff_ne.mpr c4
   obtain rfl:=Option.some.inj H
   go_enter Tryd.func20,Tryd.ntmps20
   go_wp2_with (first | ((with_reducible refine gate_dst (N:=2) rfl ?_);refine Up.bx 2 27 #[.string a0_0,.int .i64 a0_1,.slice A0_2 l0_2.length c0_2,.slice A0_3 l0_3.length c0_3] ?_;intro gb328 hg w31 hbox hb;have n0_:=Up.BB HB hb;have n1_:=Aside0.mk (hbox);have n2_:=Up.gw hg HB;have n3_:=Up.gw hg HB;clear HB;have HB:=n0_;have BK328:=n1_;have GW328:=n2_;have GE328:=n3_;clear n0_ n1_ n2_ n3_ hb hbox hg) | ((with_reducible refine gate_dst (N:=3) rfl ?_);refine Up.bx 3 27 #[.string a1_0,.int .i64 a1_1,.slice A1_2 l1_2.length c1_2,.slice A1_3 l1_3.length c1_3] ?_;intro gb329 hg w32 hbox hb;have n0_:=Up.KB BK328 hb;have n1_:=Aside0.mk (below_step (Up.Bx HB) hb);have n2_:=Aside0.mk (hbox);have n3_:=Up.gw hg HB;have n4_:=Up.gw hg HB;have n5_:=Up.nl hg BK328;have n6_:=Up.ng hg BK328;clear BK328 HB;have BK328:=n0_;have HB:=n1_;have BK329:=n2_;have GW329:=n3_;have GE329:=n4_;have NB328_329:=n5_;have NB329_328:=n6_;clear n0_ n1_ n2_ n3_ n4_ n5_ n6_ hb hbox hg;have hnb33:=NB328_329.out;have hnc33:=NB329_328.out;have hcz34_0:=Up.c0 BK328;have hcz34_1:=Up.c1 BK328;have hcz34_2:=Up.c2 BK328;have hcz34_3:=Up.c3 BK328;have hfz34_0:=blk_frozen BK328.out 0;have hfz34_1:=blk_frozen BK328.out 1;have hfz34_2:=blk_frozen BK328.out 2;have hfz34_3:=blk_frozen BK328.out 3;have hcz35_0:=Up.c0 BK329;have hcz35_1:=Up.c1 BK329;have hcz35_2:=Up.c2 BK329;have hcz35_3:=Up.c3 BK329;have hfz35_0:=blk_frozen BK329.out 0;have hfz35_1:=blk_frozen BK329.out 1;have hfz35_2:=blk_frozen BK329.out 2;have hfz35_3:=blk_frozen BK329.out 3))
   go_ret
   exact Up.e1 (Up.Bx HB)
 ·rw [if_neg c3] at H
  have c3b0 : (a0_0.toList == a1_0.toList) = false:=beq_eq_false_iff_ne.mpr c3
  have c3b1 : (a0_0.toList != a1_0.toList) = true:=bne_iff_ne.mpr c3
  obtain rfl:=Option.some.inj H
  go_enter Tryd.func20,Tryd.ntmps20
  go_wp2_with (first | ((with_reducible refine gate_dst (N:=2) rfl ?_);refine Up.bx 2 27 #[.string a0_0,.int .i64 a0_1,.slice A0_2 l0_2.length c0_2,.slice A0_3 l0_3.length c0_3] ?_;intro gb328 hg w36 hbox hb;have n0_:=Up.BB HB hb;have n1_:=Aside0.mk (hbox);have n2_:=Up.gw hg HB;have n3_:=Up.gw hg HB;clear HB;have HB:=n0_;have BK328:=n1_;have GW328:=n2_;have GE328:=n3_;clear n0_ n1_ n2_ n3_ hb hbox hg) | ((with_reducible refine gate_dst (N:=3) rfl ?_);refine Up.bx 3 27 #[.string a1_0,.int .i64 a1_1,.slice A1_2 l1_2.length c1_2,.slice A1_3 l1_3.length c1_3] ?_;intro gb329 hg w37 hbox hb;have n0_:=Up.KB BK328 hb;have n1_:=Aside0.mk (below_step (Up.Bx HB) hb);have n2_:=Aside0.mk (hbox);have n3_:=Up.gw hg HB;have n4_:=Up.gw hg HB;have n5_:=Up.nl hg BK328;have n6_:=Up.ng hg BK328;clear BK328 HB;have BK328:=n0_;have HB:=n1_;have BK329:=n2_;have GW329:=n3_;have GE329:=n4_;have NB328_329:=n5_;have NB329_328:=n6_;clear n0_ n1_ n2_ n3_ n4_ n5_ n6_ hb hbox hg;have hnb38:=NB328_329.out;have hnc38:=NB329_328.out;have hcz39_0:=Up.c0 BK328;have hcz39_1:=Up.c1 BK328;have hcz39_2:=Up.c2 BK328;have hcz39_3:=Up.c3 BK328;have hfz39_0:=blk_frozen BK328.out 0;have hfz39_1:=blk_frozen BK328.out 1;have hfz39_2:=blk_frozen BK328.out 2;have hfz39_3:=blk_frozen BK328.out 3;have hcz40_0:=Up.c0 BK329;have hcz40_1:=Up.c1 BK329;have hcz40_2:=Up.c2 BK329;have hcz40_3:=Up.c3 BK329;have hfz40_0:=blk_frozen BK329.out 0;have hfz40_1:=blk_frozen BK329.out 1;have hfz40_2:=blk_frozen BK329.out 2;have hfz40_3:=blk_frozen BK329.out 3))
  go_ret
  exact Up.e1 (Up.Bx HB)
set_option maxHeartbeats 8000000 in
set_option maxRecDepth 100000 in
theorem laws_eqValueS.calls (k : Nat) : ∀ (A0 : Option Addr) (c0 : Nat) (l0 : List (S27)) (A1 : Option Addr) (c1 : Nat) (l1 : List (S27)) (r : Bool) (w : World) (hr0 : Kd.C k27 w A0 l0.length l0) (hc0 : l0.length ≤ c0) (hr1 : Kd.C k27 w A1 l1.length l1) (hc1 : l1.length ≤ c1) (h : laws_eqValueS.f k l0 l1 = some r),Calls Tryd.prog 44 #[.slice A0 l0.length c0,.slice A1 l1.length c1] w fun e w' => e = .returned (.bool r) ∧ Below w.heap.size w w':=by
 refine Nat.strongRecOn (motive:=fun k => ∀ (A0 : Option Addr) (c0 : Nat) (l0 : List (S27)) (A1 : Option Addr) (c1 : Nat) (l1 : List (S27)) (r : Bool) (w : World) (hr0 : Kd.C k27 w A0 l0.length l0) (hc0 : l0.length ≤ c0) (hr1 : Kd.C k27 w A1 l1.length l1) (hc1 : l1.length ≤ c1) (h : laws_eqValueS.f k l0 l1 = some r),Calls Tryd.prog 44 #[.slice A0 l0.length c0,.slice A1 l1.length c1] w fun e w' => e = .returned (.bool r) ∧ Below w.heap.size w w') k (fun k ihS_ => ?_)
 intro A0 c0 l0 A1 c1 l1 r w hr0 hc0 hr1 hc1 h
 have hu27:=Tryd.underlying27
 have HR0:=Aside0.mk hr0
 have HC0:=Aside0.mk hc0
 clear hr0 hc0
 have HR1:=Aside0.mk hr1
 have HC1:=Aside0.mk hc1
 clear hr1 hc1
 have HB:=Aside0.mk (Below.refl w.heap.size w)
 have H : (if (l0.length : Int) = (l1.length : Int) then (laws_eqValueS.l0 k l0 l1 0) else (some false)) = some r:=h
 clear h
 by_cases c3 : (l0.length : Int) = (l1.length : Int)
 ·rw [if_pos c3] at H
  have c3b0 : ((l0.length : Int) == (l1.length : Int)) = true:=beq_iff_eq.mpr c3
  have c3b1 : ((l0.length : Int) != (l1.length : Int)) = false:=bne_eq_false_iff_eq.mpr c3
  have c3b2 : (l0.length == l1.length) = true:=by first | simpa using c3 | (simp at c3 ⊢;omega)
  clear c3
  have H':=Aside0.mk H
  clear H
  go_enter Tryd.func44,Tryd.ntmps44
  go_wp2
  go_loopg [5] k (fun kq v5 w' => ∃ (x5_1 : Int),v5 = .int .i64 x5_1 ∧ Aside0 (laws_eqValueS.l0 kq l0 l1 x5_1 = some r) ∧ Aside0 (kq ≤ k) ∧ Aside0 (Below w.heap.size w w'))
  case atStart => exact ⟨(0),(by first | rfl | (simp;done) | (simp [*];done)),H',⟨Nat.le_refl _⟩,⟨Up.Bup HB⟩⟩
  case round =>
   clear H'
   try clear c1
   try clear p2
   try clear c3
   try clear c3b0
   try clear c3b1
   try clear c3b2
   obtain ⟨x5_1,rfl,HA,HK1,HB⟩:=hrel
   cases gk with
   | zero => exact absurd HA.out (by simp [laws_eqValueS.l0])
   | succ k1 =>
    have H:=HA.out
    clear HA
    simp only [laws_eqValueS.l0_eq] at H
    by_cases c4 : x5_1 < (l0.length : Int)
    ·rw [if_pos c4] at H
     have c4b0 : decide (x5_1 < (l0.length : Int)) = true:=decide_eq_true c4
     clear c4
     by_cases c5 : 0 ≤ x5_1
     ·rw [if_pos c5] at H
      have c5b0 : decide (0 ≤ x5_1) = true:=decide_eq_true c5
      clear c5
      by_cases c6 : x5_1 < (l1.length : Int)
      ·rw [if_pos c6] at H
       have c6b0 : decide (x5_1 < (l1.length : Int)) = true:=decide_eq_true c6
       clear c6
       replace H:=Option.bind_eq_some_iff.mp H
       obtain ⟨t325,A70,H⟩:=H
       replace H : (if t325 = true then (laws_eqValueS.l0 k1 l0 l1 (wrap64 (x5_1 + 1))) else (some false)) = some r:=H
       have A7:=Aside0.mk A70
       clear A70
       by_cases c8 : t325 = true
       ·subst c8
        have H1 : (laws_eqValueS.l0 k1 l0 l1 (wrap64 (x5_1 + 1))) = some r:=by rw [if_pos rfl] at H;exact H
        clear H
        have H:=H1
        clear H1
        have H':=Aside0.mk H
        clear H
        try go_wp2
        have n0_:=Aside0.mk (below_drew1 HB.out)
        clear HB
        have HB:=n0_
        clear n0_
        have p323 : 0 ≤ (x5_1 : Int):=Up.od
        have q323 : x5_1 < (l0.length : Int):=Up.od
        obtain ⟨ad323,A323_2,c323_2,A323_3,c323_3,e323,hx323_0,hx323_1,hx323_2,hx323_3,hl323_2,hi323_2,hl323_3,hi323_3⟩:=at_T27 HR0.out x5_1 p323 q323
        have hw323_3:=hx323_3
        have hw323_2:=hx323_2
        have hw323_1:=hx323_1
        have hw323_0:=hx323_0
        cases e323
        replace hx323_0:=Up.hc HB hx323_0
        replace hx323_1:=Up.hc HB hx323_1
        replace hx323_2:=Up.hc HB hx323_2
        replace hx323_3:=Up.hc HB hx323_3
        have HR323_2:=Aside0.mk hi323_2
        have HC323_2:=Aside0.mk hl323_2
        clear hi323_2 hl323_2
        have HR323_3:=Aside0.mk hi323_3
        have HC323_3:=Aside0.mk hl323_3
        clear hi323_3 hl323_3
        replace p323:=eq_true p323
        replace q323:=eq_true q323
        have p324 : 0 ≤ (x5_1 : Int):=Up.od
        have q324 : x5_1 < (l1.length : Int):=Up.od
        obtain ⟨ad324,A324_2,c324_2,A324_3,c324_3,e324,hx324_0,hx324_1,hx324_2,hx324_3,hl324_2,hi324_2,hl324_3,hi324_3⟩:=at_T27 HR1.out x5_1 p324 q324
        have hw324_3:=hx324_3
        have hw324_2:=hx324_2
        have hw324_1:=hx324_1
        have hw324_0:=hx324_0
        cases e324
        replace hx324_0:=Up.hc HB hx324_0
        replace hx324_1:=Up.hc HB hx324_1
        replace hx324_2:=Up.hc HB hx324_2
        replace hx324_3:=Up.hc HB hx324_3
        have HR324_2:=Aside0.mk hi324_2
        have HC324_2:=Aside0.mk hl324_2
        clear hi324_2 hl324_2
        have HR324_3:=Aside0.mk hi324_3
        have HC324_3:=Aside0.mk hl324_3
        clear hi324_3 hl324_3
        replace p324:=eq_true p324
        replace q324:=eq_true q324
        refine start_ (n:=10) (S:=fun w' => w'.cell? (ad323.add ((x5_1).toNat * 4)) = some (.string ((rd_T27 l0 x5_1).f0)) ∧ w'.cell? ⟨(ad323.add ((x5_1).toNat * 4)).block,(ad323.add ((x5_1).toNat * 4)).off + 1,none⟩ = some (.int .i64 ((rd_T27 l0 x5_1).f1)) ∧ w'.cell? ⟨(ad323.add ((x5_1).toNat * 4)).block,(ad323.add ((x5_1).toNat * 4)).off + 2,none⟩ = some (.slice A323_2 ((rd_T27 l0 x5_1).f2).length c323_2) ∧ w'.cell? ⟨(ad323.add ((x5_1).toNat * 4)).block,(ad323.add ((x5_1).toNat * 4)).off + 3,none⟩ = some (.slice A323_3 ((rd_T27 l0 x5_1).f3).length c323_3) ∧ w'.cell? (ad324.add ((x5_1).toNat * 4)) = some (.string ((rd_T27 l1 x5_1).f0)) ∧ w'.cell? ⟨(ad324.add ((x5_1).toNat * 4)).block,(ad324.add ((x5_1).toNat * 4)).off + 1,none⟩ = some (.int .i64 ((rd_T27 l1 x5_1).f1)) ∧ w'.cell? ⟨(ad324.add ((x5_1).toNat * 4)).block,(ad324.add ((x5_1).toNat * 4)).off + 2,none⟩ = some (.slice A324_2 ((rd_T27 l1 x5_1).f2).length c324_2) ∧ w'.cell? ⟨(ad324.add ((x5_1).toNat * 4)).block,(ad324.add ((x5_1).toNat * 4)).off + 3,none⟩ = some (.slice A324_3 ((rd_T27 l1 x5_1).f3).length c324_3)) (ds:=[]) #[false,false,false,false,false,false,false,false,false,false] (by kernel_rfl) rfl rfl ⟨(Up.hd HB hw323_0),(Up.hd HB hw323_1),(Up.hd HB hw323_2),(Up.hd HB hw323_3),(Up.hd HB hw324_0),(Up.hd HB hw324_1),(Up.hd HB hw324_2),(Up.hd HB hw324_3)⟩ (fun hHeld => ?_);refine with_tabW laws_eqValueS.tab6 laws_eqValueS.bits6 (fun HT_ HW_ => ?_)
        generalize wr.drew = w9 at HB HR323_2 HR323_3 HR324_2 HR324_3 hx323_0 hx323_1 hx323_2 hx323_3 hx324_0 hx324_1 hx324_2 hx324_3 hHeld ⊢
        refine Up.pu 0 (some 17) HT_ ?_
        refine Up.pu 1 (some 18) HT_ ?_
        refine Up.pu 2 (some 19) HT_ ?_
        refine Up.pu 4 (some 21) HT_ ?_
        refine Up.pu 5 (some 22) HT_ ?_
        refine Up.pu 6 (some 23) HT_ ?_
        refine Up.tk 3 (some 20) HT_ HW_ hHeld ?_ (hy:=by rintro w' ⟨s0,s1,s2,s3,s4,s5,s6,s7⟩;go_simp;with_reducible rfl)
        refine Up.tk 7 (some 24) HT_ HW_ hHeld ?_ (hy:=by rintro w' ⟨s0,s1,s2,s3,s4,s5,s6,s7⟩;go_simp;with_reducible rfl)
        refine Up.on 8 (some 25) HT_ (fun K hK => ?_)
        refine Up.go Tryd.func20 #[.agg #[.string ((rd_T27 l0 x5_1).f0),.int .i64 ((rd_T27 l0 x5_1).f1),.slice A323_2 ((rd_T27 l0 x5_1).f2).length c323_2,.slice A323_3 ((rd_T27 l0 x5_1).f3).length c323_3],.agg #[.string ((rd_T27 l1 x5_1).f0),.int .i64 ((rd_T27 l1 x5_1).f1),.slice A324_2 ((rd_T27 l1 x5_1).f2).length c324_2,.slice A324_3 ((rd_T27 l1 x5_1).f3).length c324_3]] ?_
        with_reducible refine (laws_eqValue.calls_of k1 (ihS_ k1 (by have h_:=HK1.out;omega)) ((rd_T27 l0 x5_1).f0) ((rd_T27 l0 x5_1).f1) _ _ ((rd_T27 l0 x5_1).f2) _ _ ((rd_T27 l0 x5_1).f3) ((rd_T27 l1 x5_1).f0) ((rd_T27 l1 x5_1).f1) _ _ ((rd_T27 l1 x5_1).f2) _ _ ((rd_T27 l1 x5_1).f3) true _ ?side1 ?side2 ?side3 ?side4 ?side5 ?side6 ?side7 ?side8 A7.out).mono ?_
        (case side1 => exact Up.Cx HR323_2 HB)
        (case side2 => exact HC323_2.out)
        (case side3 => exact Up.Cx HR323_3 HB)
        (case side4 => exact HC323_3.out)
        (case side5 => exact Up.Cx HR324_2 HB)
        (case side6 => exact HC324_2.out)
        (case side7 => exact Up.Cx HR324_3 HB)
        (case side8 => exact HC324_3.out)
        rintro e w10 ⟨rfl,hb⟩
        refine ⟨_,rfl,?_⟩
        have n0_:=Up.BB HB hb
        clear HB
        have HB:=n0_
        clear n0_
        (try clear hb)
        (try clear hb2)
        (try clear hk)
        (try clear hi)
        refine hK.out _ _ ⟨(Up.hd HB hw323_0),(Up.hd HB hw323_1),(Up.hd HB hw323_2),(Up.hd HB hw323_3),(Up.hd HB hw324_0),(Up.hd HB hw324_1),(Up.hd HB hw324_2),(Up.hd HB hw324_3)⟩ (fun hHeld => ?_)
        clear hK K
        refine Up.nm 25 ?_
        refine Up.pu 9 (some 26) HT_ ?_
        refine done_ (done_of HT_.out (by kernel_rfl)) ?_
        try go_wp2
        go_roundg k1
        case measure => have:=HK1.out;omega
        case rel => exact ⟨(wrap64 (x5_1 + 1)),(by first | rfl | (simp;done) | (simp [*];done)),H',⟨by have:=HK1.out;omega⟩,⟨Up.Bup HB⟩⟩
       ·replace c8:=Bool.eq_false_iff.mpr c8
        subst c8
        have H1 : (some false) = some r:=by rw [if_neg (show ¬ (false = true) by decide)] at H;exact H
        clear H
        have H:=H1
        clear H1
        obtain rfl:=Option.some.inj H
        try go_wp2
        have n0_:=Aside0.mk (below_drew1 HB.out)
        clear HB
        have HB:=n0_
        clear n0_
        have p323 : 0 ≤ (x5_1 : Int):=Up.od
        have q323 : x5_1 < (l0.length : Int):=Up.od
        obtain ⟨ad323,A323_2,c323_2,A323_3,c323_3,e323,hx323_0,hx323_1,hx323_2,hx323_3,hl323_2,hi323_2,hl323_3,hi323_3⟩:=at_T27 HR0.out x5_1 p323 q323
        have hw323_3:=hx323_3
        have hw323_2:=hx323_2
        have hw323_1:=hx323_1
        have hw323_0:=hx323_0
        cases e323
        replace hx323_0:=Up.hc HB hx323_0
        replace hx323_1:=Up.hc HB hx323_1
        replace hx323_2:=Up.hc HB hx323_2
        replace hx323_3:=Up.hc HB hx323_3
        have HR323_2:=Aside0.mk hi323_2
        have HC323_2:=Aside0.mk hl323_2
        clear hi323_2 hl323_2
        have HR323_3:=Aside0.mk hi323_3
        have HC323_3:=Aside0.mk hl323_3
        clear hi323_3 hl323_3
        replace p323:=eq_true p323
        replace q323:=eq_true q323
        have p324 : 0 ≤ (x5_1 : Int):=Up.od
        have q324 : x5_1 < (l1.length : Int):=Up.od
        obtain ⟨ad324,A324_2,c324_2,A324_3,c324_3,e324,hx324_0,hx324_1,hx324_2,hx324_3,hl324_2,hi324_2,hl324_3,hi324_3⟩:=at_T27 HR1.out x5_1 p324 q324
        have hw324_3:=hx324_3
        have hw324_2:=hx324_2
        have hw324_1:=hx324_1
        have hw324_0:=hx324_0
        cases e324
        replace hx324_0:=Up.hc HB hx324_0
        replace hx324_1:=Up.hc HB hx324_1
        replace hx324_2:=Up.hc HB hx324_2
        replace hx324_3:=Up.hc HB hx324_3
        have HR324_2:=Aside0.mk hi324_2
        have HC324_2:=Aside0.mk hl324_2
        clear hi324_2 hl324_2
        have HR324_3:=Aside0.mk hi324_3
        have HC324_3:=Aside0.mk hl324_3
        clear hi324_3 hl324_3
        replace p324:=eq_true p324
        replace q324:=eq_true q324
        refine start_ (n:=10) (S:=fun w' => w'.cell? (ad323.add ((x5_1).toNat * 4)) = some (.string ((rd_T27 l0 x5_1).f0)) ∧ w'.cell? ⟨(ad323.add ((x5_1).toNat * 4)).block,(ad323.add ((x5_1).toNat * 4)).off + 1,none⟩ = some (.int .i64 ((rd_T27 l0 x5_1).f1)) ∧ w'.cell? ⟨(ad323.add ((x5_1).toNat * 4)).block,(ad323.add ((x5_1).toNat * 4)).off + 2,none⟩ = some (.slice A323_2 ((rd_T27 l0 x5_1).f2).length c323_2) ∧ w'.cell? ⟨(ad323.add ((x5_1).toNat * 4)).block,(ad323.add ((x5_1).toNat * 4)).off + 3,none⟩ = some (.slice A323_3 ((rd_T27 l0 x5_1).f3).length c323_3) ∧ w'.cell? (ad324.add ((x5_1).toNat * 4)) = some (.string ((rd_T27 l1 x5_1).f0)) ∧ w'.cell? ⟨(ad324.add ((x5_1).toNat * 4)).block,(ad324.add ((x5_1).toNat * 4)).off + 1,none⟩ = some (.int .i64 ((rd_T27 l1 x5_1).f1)) ∧ w'.cell? ⟨(ad324.add ((x5_1).toNat * 4)).block,(ad324.add ((x5_1).toNat * 4)).off + 2,none⟩ = some (.slice A324_2 ((rd_T27 l1 x5_1).f2).length c324_2) ∧ w'.cell? ⟨(ad324.add ((x5_1).toNat * 4)).block,(ad324.add ((x5_1).toNat * 4)).off + 3,none⟩ = some (.slice A324_3 ((rd_T27 l1 x5_1).f3).length c324_3)) (ds:=[]) #[false,false,false,false,false,false,false,false,false,false] (by kernel_rfl) rfl rfl ⟨(Up.hd HB hw323_0),(Up.hd HB hw323_1),(Up.hd HB hw323_2),(Up.hd HB hw323_3),(Up.hd HB hw324_0),(Up.hd HB hw324_1),(Up.hd HB hw324_2),(Up.hd HB hw324_3)⟩ (fun hHeld => ?_);refine with_tabW laws_eqValueS.tab6 laws_eqValueS.bits6 (fun HT_ HW_ => ?_)
        generalize wr.drew = w11 at HB HR323_2 HR323_3 HR324_2 HR324_3 hx323_0 hx323_1 hx323_2 hx323_3 hx324_0 hx324_1 hx324_2 hx324_3 hHeld ⊢
        refine Up.pu 0 (some 17) HT_ ?_
        refine Up.pu 1 (some 18) HT_ ?_
        refine Up.pu 2 (some 19) HT_ ?_
        refine Up.pu 4 (some 21) HT_ ?_
        refine Up.pu 5 (some 22) HT_ ?_
        refine Up.pu 6 (some 23) HT_ ?_
        refine Up.tk 3 (some 20) HT_ HW_ hHeld ?_ (hy:=by rintro w' ⟨s0,s1,s2,s3,s4,s5,s6,s7⟩;go_simp;with_reducible rfl)
        refine Up.tk 7 (some 24) HT_ HW_ hHeld ?_ (hy:=by rintro w' ⟨s0,s1,s2,s3,s4,s5,s6,s7⟩;go_simp;with_reducible rfl)
        refine Up.on 8 (some 25) HT_ (fun K hK => ?_)
        refine Up.go Tryd.func20 #[.agg #[.string ((rd_T27 l0 x5_1).f0),.int .i64 ((rd_T27 l0 x5_1).f1),.slice A323_2 ((rd_T27 l0 x5_1).f2).length c323_2,.slice A323_3 ((rd_T27 l0 x5_1).f3).length c323_3],.agg #[.string ((rd_T27 l1 x5_1).f0),.int .i64 ((rd_T27 l1 x5_1).f1),.slice A324_2 ((rd_T27 l1 x5_1).f2).length c324_2,.slice A324_3 ((rd_T27 l1 x5_1).f3).length c324_3]] ?_
        with_reducible refine (laws_eqValue.calls_of k1 (ihS_ k1 (by have h_:=HK1.out;omega)) ((rd_T27 l0 x5_1).f0) ((rd_T27 l0 x5_1).f1) _ _ ((rd_T27 l0 x5_1).f2) _ _ ((rd_T27 l0 x5_1).f3) ((rd_T27 l1 x5_1).f0) ((rd_T27 l1 x5_1).f1) _ _ ((rd_T27 l1 x5_1).f2) _ _ ((rd_T27 l1 x5_1).f3) false _ ?side1 ?side2 ?side3 ?side4 ?side5 ?side6 ?side7 ?side8 A7.out).mono ?_
        (case side1 => exact Up.Cx HR323_2 HB)
        (case side2 => exact HC323_2.out)
        (case side3 => exact Up.Cx HR323_3 HB)
        (case side4 => exact HC323_3.out)
        (case side5 => exact Up.Cx HR324_2 HB)
        (case side6 => exact HC324_2.out)
        (case side7 => exact Up.Cx HR324_3 HB)
        (case side8 => exact HC324_3.out)
        rintro e w12 ⟨rfl,hb⟩
        refine ⟨_,rfl,?_⟩
        have n0_:=Up.BB HB hb
        clear HB
        have HB:=n0_
        clear n0_
        (try clear hb)
        (try clear hb2)
        (try clear hk)
        (try clear hi)
        refine hK.out _ _ ⟨(Up.hd HB hw323_0),(Up.hd HB hw323_1),(Up.hd HB hw323_2),(Up.hd HB hw323_3),(Up.hd HB hw324_0),(Up.hd HB hw324_1),(Up.hd HB hw324_2),(Up.hd HB hw324_3)⟩ (fun hHeld => ?_)
        clear hK K
        refine Up.nm 25 ?_
        refine Up.pu 9 (some 26) HT_ ?_
        refine done_ (done_of HT_.out (by kernel_rfl)) ?_
        try go_wp2
        go_ret
        exact Up.e1 (Up.Bup HB)
      ·rw [if_neg c6] at H
       exact absurd H (by simp)
     ·rw [if_neg c5] at H
      exact absurd H (by simp)
    ·rw [if_neg c4] at H
     have c4b0 : decide (x5_1 < (l0.length : Int)) = false:=decide_eq_false c4
     clear c4
     obtain rfl:=Option.some.inj H
     go_wp2
     go_ret
     exact Up.e1 (Up.Bup HB)
 ·rw [if_neg c3] at H
  have c3b0 : ((l0.length : Int) == (l1.length : Int)) = false:=beq_eq_false_iff_ne.mpr c3
  have c3b1 : ((l0.length : Int) != (l1.length : Int)) = true:=bne_iff_ne.mpr c3
  have c3b2 : (l0.length == l1.length) = false:=by first | simpa using c3 | (simp at c3 ⊢;omega)
  obtain rfl:=Option.some.inj H
  go_enter Tryd.func44,Tryd.ntmps44
  go_wp2
  go_ret
  exact Up.e1 (Up.Bup HB)
theorem laws_eqValue.calls (k : Nat) (a0_0 : ByteArray) (a0_1 : Int) (A0_2 : Option Addr) (c0_2 : Nat) (l0_2 : List (S27)) (A0_3 : Option Addr) (c0_3 : Nat) (l0_3 : List Int) (a1_0 : ByteArray) (a1_1 : Int) (A1_2 : Option Addr) (c1_2 : Nat) (l1_2 : List (S27)) (A1_3 : Option Addr) (c1_3 : Nat) (l1_3 : List Int) (r : Bool) (w : World) (hr0_2 : Kd.C k27 w A0_2 l0_2.length l0_2) (hc0_2 : l0_2.length ≤ c0_2) (hr0_3 : Kd.C (Kd.int .i64) w A0_3 l0_3.length l0_3) (hc0_3 : l0_3.length ≤ c0_3) (hr1_2 : Kd.C k27 w A1_2 l1_2.length l1_2) (hc1_2 : l1_2.length ≤ c1_2) (hr1_3 : Kd.C (Kd.int .i64) w A1_3 l1_3.length l1_3) (hc1_3 : l1_3.length ≤ c1_3) (h : laws_eqValue.f k a0_0 a0_1 l0_2 l0_3 a1_0 a1_1 l1_2 l1_3 = some r) :
  Calls Tryd.prog 20 #[.agg #[.string a0_0,.int .i64 a0_1,.slice A0_2 l0_2.length c0_2,.slice A0_3 l0_3.length c0_3],.agg #[.string a1_0,.int .i64 a1_1,.slice A1_2 l1_2.length c1_2,.slice A1_3 l1_3.length c1_3]] w fun e w' => e = .returned (.bool r) ∧ Below w.heap.size w w':=laws_eqValue.calls_of k (laws_eqValueS.calls k) a0_0 a0_1 A0_2 c0_2 l0_2 A0_3 c0_3 l0_3 a1_0 a1_1 A1_2 c1_2 l1_2 A1_3 c1_3 l1_3 r w hr0_2 hc0_2 hr0_3 hc0_3 hr1_2 hc1_2 hr1_3 hc1_3 h

end Go.Proofs.YtdgmlakgnbmbbaaDoor.OFnExactValueText
