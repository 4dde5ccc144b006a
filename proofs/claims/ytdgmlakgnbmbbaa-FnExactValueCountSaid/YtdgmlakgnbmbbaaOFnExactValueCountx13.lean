-- Laid by a program of this session (wip/myprint.py): the kit's print of the functions, contracts of our own among them.
import Derived.Test.YtdgmlakgnbmbbaaOFnExactValueCountx0
import Derived.Test.YtdgmlakgnbmbbaaOFnExactValueCountx4
import Derived.Test.YtdgmlakgnbmbbaaOFnExactValueCountx9
import Derived.Test.YtdgmlakgnbmbbaaOFnExactValueCountx10
import Derived.Test.YtdgmlakgnbmbbaaOFnExactValueCountx11
import Derived.Test.YtdgmlakgnbmbbaaOFnExactValueCountx12
namespace Go.Proofs.Ytdgmlakgnbmbbaa.OFnExactValueCount
open Go.RowKit Go.Proofs.YtdgmlakgnbmbbaaW.PrintWords Go.Proofs.YtdgmlakgnbmbbaaW.PrintLast Go.Proofs.YtdgmlakgnbmbbaaW.PrintMore
attribute [local go_sem] max2_int min2_int max_two min_two max_three min_three max_four min_four   -- for this text's walks alone
set_option linter.unusedVariables false
set_option linter.unusedSimpArgs false

/-! ### laws_FnExactValueCount: function 7 -/
def laws_FnExactValueCount.f (k : Nat) (l0 : List (List (S124))) (a1_0 : ByteArray) (a1_1 : Int) (l1_2 : List (S39)) (l1_3 : List Int) (a2 : ByteArray) : Option (Bool):=if (a2.size : Int) > 1048576 then (some true) else ((laws_szRecordSS.f k l0 1048576).bind fun t314 => (if t314 < 0 then (some true) else ((laws_szValue.f k a1_0 a1_1 l1_2 l1_3 t314).bind fun t315 => (if t315 < 0 then (some true) else ((laws_toRecordSS.f k l0).bind fun t316 => ((laws_toValue.f k a1_0 a1_1 l1_2 l1_3).bind fun bt319 => ((spec_ValueCount.f k t316 bt319.1 bt319.2.1 bt319.2.2.1 bt319.2.2.2 a2).bind fun t327 => ((laws_toRecordSS.f k l0).bind fun t328 => ((laws_toValue.f k a1_0 a1_1 l1_2 l1_3).bind fun bt331 => ((impl_ValueCount.f k t328 bt331.1 bt331.2.1 bt331.2.2.1 bt331.2.2.2 a2).bind fun t340 => (if t340 = t327 then ((laws_toRecordSS.f k l0).bind fun t341 => ((laws_eqRecordSS.f k t328 t341).bind fun t344 => (if t344 = true then ((laws_toValue.f k a1_0 a1_1 l1_2 l1_3).bind fun bt345 => ((laws_eqValue.f k bt331.1 bt331.2.1 bt331.2.2.1 bt331.2.2.2 bt345.1 bt345.2.1 bt345.2.2.1 bt345.2.2.2).bind fun t353 => (if t353 = true then (some true) else (some false)))) else (some false)))) else (some false))))))))))))
theorem laws_FnExactValueCount.mono : ∀ a0 a1 a2 a3 a4 a5 k,LeO (laws_FnExactValueCount.f k a0 a1 a2 a3 a4 a5) (laws_FnExactValueCount.f (k + 1) a0 a1 a2 a3 a4 a5):=by
 intro a0 a1 a2 a3 a4 a5 k
 unfold laws_FnExactValueCount.f
 repeat' first
   | (with_reducible exact impl_ValueCount.mono _ _ _ _ _ _ _)
   | (with_reducible exact laws_eqRecordSS.mono _ _ _)
   | (with_reducible exact laws_eqValue.mono _ _ _ _ _ _ _ _ _)
   | (with_reducible exact laws_szRecordSS.mono _ _ _)
   | (with_reducible exact laws_szValue.mono _ _ _ _ _ _)
   | (with_reducible exact laws_toRecordSS.mono _ _)
   | (with_reducible exact laws_toValue.mono _ _ _ _ _)
   | (with_reducible exact spec_ValueCount.mono _ _ _ _ _ _ _)
   | (with_reducible exact LeO.refl _)
   | (with_reducible exact LeO.none _)
   | (with_reducible refine LeO.ite ?_ ?_)
   | (with_reducible refine LeO.bind ?_ (fun _ => ?_))
   | exact impl_ValueCount.mono _ _ _ _ _ _ _
   | exact laws_eqRecordSS.mono _ _ _
   | exact laws_eqValue.mono _ _ _ _ _ _ _ _ _
   | exact laws_szRecordSS.mono _ _ _
   | exact laws_szValue.mono _ _ _ _ _ _
   | exact laws_toRecordSS.mono _ _
   | exact laws_toValue.mono _ _ _ _ _
   | exact spec_ValueCount.mono _ _ _ _ _ _ _
   | exact LeO.none _
   | refine LeO.ite ?_ ?_
   | refine LeO.bind ?_ (fun _ => ?_)
set_option maxHeartbeats 8000000 in
set_option maxRecDepth 100000 in
theorem laws_FnExactValueCount.calls (k : Nat) (A0 : Option Addr) (c0 : Nat) (l0 : List (List (S124))) (a1_0 : ByteArray) (a1_1 : Int) (A1_2 : Option Addr) (c1_2 : Nat) (l1_2 : List (S39)) (A1_3 : Option Addr) (c1_3 : Nat) (l1_3 : List Int) (a2 : ByteArray) (r : Bool) (w : World) (hr0 : Kd.C (Kd.slice 124 k124) w A0 l0.length l0) (hc0 : l0.length ≤ c0) (hr1_2 : Kd.C k39 w A1_2 l1_2.length l1_2) (hc1_2 : l1_2.length ≤ c1_2) (hr1_3 : Kd.C (Kd.int .i64) w A1_3 l1_3.length l1_3) (hc1_3 : l1_3.length ≤ c1_3) (h : laws_FnExactValueCount.f k l0 a1_0 a1_1 l1_2 l1_3 a2 = some r) :
  Calls Try.prog 7 #[.slice A0 l0.length c0,.agg #[.string a1_0,.int .i64 a1_1,.slice A1_2 l1_2.length c1_2,.slice A1_3 l1_3.length c1_3],.string a2] w fun e w' => e = .returned (.bool r) ∧ Below w.heap.size w w':=by
 have hu39:=Try.underlying39
 have hu27:=Try.underlying27
 have HR0:=Aside0.mk hr0
 have HC0:=Aside0.mk hc0
 clear hr0 hc0
 have HR1_2:=Aside0.mk hr1_2
 have HC1_2:=Aside0.mk hc1_2
 clear hr1_2 hc1_2
 have HR1_3:=Aside0.mk hr1_3
 have HC1_3:=Aside0.mk hc1_3
 clear hr1_3 hc1_3
 have HB:=Aside0.mk (Below.refl w.heap.size w)
 have H : (if (a2.size : Int) > 1048576 then (some true) else ((laws_szRecordSS.f k l0 1048576).bind fun t314 => (if t314 < 0 then (some true) else ((laws_szValue.f k a1_0 a1_1 l1_2 l1_3 t314).bind fun t315 => (if t315 < 0 then (some true) else ((laws_toRecordSS.f k l0).bind fun t316 => ((laws_toValue.f k a1_0 a1_1 l1_2 l1_3).bind fun bt319 => ((spec_ValueCount.f k t316 bt319.1 bt319.2.1 bt319.2.2.1 bt319.2.2.2 a2).bind fun t327 => ((laws_toRecordSS.f k l0).bind fun t328 => ((laws_toValue.f k a1_0 a1_1 l1_2 l1_3).bind fun bt331 => ((impl_ValueCount.f k t328 bt331.1 bt331.2.1 bt331.2.2.1 bt331.2.2.2 a2).bind fun t340 => (if t340 = t327 then ((laws_toRecordSS.f k l0).bind fun t341 => ((laws_eqRecordSS.f k t328 t341).bind fun t344 => (if t344 = true then ((laws_toValue.f k a1_0 a1_1 l1_2 l1_3).bind fun bt345 => ((laws_eqValue.f k bt331.1 bt331.2.1 bt331.2.2.1 bt331.2.2.2 bt345.1 bt345.2.1 bt345.2.2.1 bt345.2.2.2).bind fun t353 => (if t353 = true then (some true) else (some false)))) else (some false)))) else (some false))))))))))))) = some r:=h
 clear h
 by_cases c4 : (a2.size : Int) > 1048576
 ·rw [if_pos c4] at H
  have c4b0 : decide (1048576 < (a2.size : Int)) = true:=decide_eq_true c4
  have c4b1 : decide (1048576 < a2.size) = true:=decide_eq_true (by omega)
  clear c4
  obtain rfl:=Option.some.inj H
  go_enter Try.func7,Try.ntmps7
  go_wp2_with (first | ((with_reducible refine gate_dst (N:=4) rfl ?_);refine Up.bx 4 39 #[.string a1_0,.int .i64 a1_1,.slice A1_2 l1_2.length c1_2,.slice A1_3 l1_3.length c1_3] ?_;intro gb313 hg w5 hbox hb;have n0_:=Up.BB HB hb;have n1_:=Aside0.mk (hbox);have n2_:=Up.gw hg HB;have n3_:=Up.gw hg HB;clear HB;have HB:=n0_;have BK313:=n1_;have GW313:=n2_;have GE313:=n3_;clear n0_ n1_ n2_ n3_ hb hbox hg))
  go_ret
  exact Up.e1 (Up.Bx HB)
 ·rw [if_neg c4] at H
  have c4b0 : decide (1048576 < (a2.size : Int)) = false:=decide_eq_false c4
  have c4b1 : decide (1048576 < a2.size) = false:=decide_eq_false (by omega)
  clear c4
  replace H:=Option.bind_eq_some_iff.mp H
  obtain ⟨t314,A60,H⟩:=H
  replace H : (if t314 < 0 then (some true) else ((laws_szValue.f k a1_0 a1_1 l1_2 l1_3 t314).bind fun t315 => (if t315 < 0 then (some true) else ((laws_toRecordSS.f k l0).bind fun t316 => ((laws_toValue.f k a1_0 a1_1 l1_2 l1_3).bind fun bt319 => ((spec_ValueCount.f k t316 bt319.1 bt319.2.1 bt319.2.2.1 bt319.2.2.2 a2).bind fun t327 => ((laws_toRecordSS.f k l0).bind fun t328 => ((laws_toValue.f k a1_0 a1_1 l1_2 l1_3).bind fun bt331 => ((impl_ValueCount.f k t328 bt331.1 bt331.2.1 bt331.2.2.1 bt331.2.2.2 a2).bind fun t340 => (if t340 = t327 then ((laws_toRecordSS.f k l0).bind fun t341 => ((laws_eqRecordSS.f k t328 t341).bind fun t344 => (if t344 = true then ((laws_toValue.f k a1_0 a1_1 l1_2 l1_3).bind fun bt345 => ((laws_eqValue.f k bt331.1 bt331.2.1 bt331.2.2.1 bt331.2.2.2 bt345.1 bt345.2.1 bt345.2.2.1 bt345.2.2.2).bind fun t353 => (if t353 = true then (some true) else (some false)))) else (some false)))) else (some false))))))))))) = some r:=H
  have A6:=Aside0.mk A60
  clear A60
  by_cases c7 : t314 < 0
  ·rw [if_pos c7] at H
   have c7b0 : decide (t314 < 0) = true:=decide_eq_true c7
   clear c7
   obtain rfl:=Option.some.inj H
   go_enter Try.func7,Try.ntmps7
   go_wp2_with (first | ((with_reducible refine gate_dst (N:=4) rfl ?_);refine Up.bx 4 39 #[.string a1_0,.int .i64 a1_1,.slice A1_2 l1_2.length c1_2,.slice A1_3 l1_3.length c1_3] ?_;intro gb313 hg w8 hbox hb;have n0_:=Up.BB HB hb;have n1_:=Aside0.mk (hbox);have n2_:=Up.gw hg HB;have n3_:=Up.gw hg HB;clear HB;have HB:=n0_;have BK313:=n1_;have GW313:=n2_;have GE313:=n3_;clear n0_ n1_ n2_ n3_ hb hbox hg) | ((with_reducible refine gate_callee (f:=18) rfl ?_);refine Up.gl (some 17) Try.func18 #[.slice A0 l0.length c0,.int .i64 1048576] ?_;(with_reducible refine (laws_szRecordSS.calls k _ _ l0 1048576 t314 _ ?side1 ?side2 A6.out).mono ?_);(case side1 => exact Up.Cx HR0 HB);(case side2 => exact HC0.out);rintro e w9 ⟨rfl,hb⟩;refine ⟨_,rfl,?_⟩;have n0_:=Up.KB BK313 hb;have n1_:=Aside0.mk (below_step (Up.Bx HB) hb);clear BK313 HB;have BK313:=n0_;have HB:=n1_;clear n0_ n1_;(try clear hb);(try clear hb2);(try clear hk);(try clear hi)))
   go_ret
   exact Up.e1 (Up.Bx HB)
  ·rw [if_neg c7] at H
   have c7b0 : decide (t314 < 0) = false:=decide_eq_false c7
   clear c7
   replace H:=Option.bind_eq_some_iff.mp H
   obtain ⟨t315,A100,H⟩:=H
   replace H : (if t315 < 0 then (some true) else ((laws_toRecordSS.f k l0).bind fun t316 => ((laws_toValue.f k a1_0 a1_1 l1_2 l1_3).bind fun bt319 => ((spec_ValueCount.f k t316 bt319.1 bt319.2.1 bt319.2.2.1 bt319.2.2.2 a2).bind fun t327 => ((laws_toRecordSS.f k l0).bind fun t328 => ((laws_toValue.f k a1_0 a1_1 l1_2 l1_3).bind fun bt331 => ((impl_ValueCount.f k t328 bt331.1 bt331.2.1 bt331.2.2.1 bt331.2.2.2 a2).bind fun t340 => (if t340 = t327 then ((laws_toRecordSS.f k l0).bind fun t341 => ((laws_eqRecordSS.f k t328 t341).bind fun t344 => (if t344 = true then ((laws_toValue.f k a1_0 a1_1 l1_2 l1_3).bind fun bt345 => ((laws_eqValue.f k bt331.1 bt331.2.1 bt331.2.2.1 bt331.2.2.2 bt345.1 bt345.2.1 bt345.2.2.1 bt345.2.2.2).bind fun t353 => (if t353 = true then (some true) else (some false)))) else (some false)))) else (some false))))))))) = some r:=H
   have A10:=Aside0.mk A100
   clear A100
   by_cases c11 : t315 < 0
   ·rw [if_pos c11] at H
    have c11b0 : decide (t315 < 0) = true:=decide_eq_true c11
    clear c11
    obtain rfl:=Option.some.inj H
    go_enter Try.func7,Try.ntmps7
    go_wp2_with (first | ((with_reducible refine gate_dst (N:=4) rfl ?_);refine Up.bx 4 39 #[.string a1_0,.int .i64 a1_1,.slice A1_2 l1_2.length c1_2,.slice A1_3 l1_3.length c1_3] ?_;intro gb313 hg w12 hbox hb;have n0_:=Up.BB HB hb;have n1_:=Aside0.mk (hbox);have n2_:=Up.gw hg HB;have n3_:=Up.gw hg HB;clear HB;have HB:=n0_;have BK313:=n1_;have GW313:=n2_;have GE313:=n3_;clear n0_ n1_ n2_ n3_ hb hbox hg) | ((with_reducible refine gate_callee (f:=18) rfl ?_);refine Up.gl (some 17) Try.func18 #[.slice A0 l0.length c0,.int .i64 1048576] ?_;(with_reducible refine (laws_szRecordSS.calls k _ _ l0 1048576 t314 _ ?side1 ?side2 A6.out).mono ?_);(case side1 => exact Up.Cx HR0 HB);(case side2 => exact HC0.out);rintro e w13 ⟨rfl,hb⟩;refine ⟨_,rfl,?_⟩;have n0_:=Up.KB BK313 hb;have n1_:=Aside0.mk (below_step (Up.Bx HB) hb);clear BK313 HB;have BK313:=n0_;have HB:=n1_;clear n0_ n1_;(try clear hb);(try clear hb2);(try clear hk);(try clear hi);have hcz14_0:=Up.c0 BK313;have hcz14_1:=Up.c1 BK313;have hcz14_2:=Up.c2 BK313;have hcz14_3:=Up.c3 BK313;have hfz14_0:=blk_frozen BK313.out 0;have hfz14_1:=blk_frozen BK313.out 1;have hfz14_2:=blk_frozen BK313.out 2;have hfz14_3:=blk_frozen BK313.out 3) | ((with_reducible refine gate_callee (f:=19) rfl ?_);refine Up.gl (some 22) Try.func19 #[.agg #[.string a1_0,.int .i64 a1_1,.slice A1_2 l1_2.length c1_2,.slice A1_3 l1_3.length c1_3],.int .i64 t314] ?_;(with_reducible refine (laws_szValue.calls k a1_0 a1_1 _ _ l1_2 _ _ l1_3 t314 t315 _ ?side1 ?side2 ?side3 ?side4 A10.out).mono ?_);(case side1 => exact Up.Cx HR1_2 HB);(case side2 => exact HC1_2.out);(case side3 => exact Up.Cx HR1_3 HB);(case side4 => exact HC1_3.out);rintro e w15 ⟨rfl,hb⟩;refine ⟨_,rfl,?_⟩;have n0_:=Up.KB BK313 hb;have n1_:=Aside0.mk (below_step (Up.Bx HB) hb);clear BK313 HB;have BK313:=n0_;have HB:=n1_;clear n0_ n1_;(try clear hb);(try clear hb2);(try clear hk);(try clear hi)))
    go_ret
    exact Up.e1 (Up.Bx HB)
   ·rw [if_neg c11] at H
    have c11b0 : decide (t315 < 0) = false:=decide_eq_false c11
    clear c11
    replace H:=Option.bind_eq_some_iff.mp H
    obtain ⟨t316,A160,H⟩:=H
    replace H : ((laws_toValue.f k a1_0 a1_1 l1_2 l1_3).bind fun bt319 => ((spec_ValueCount.f k t316 bt319.1 bt319.2.1 bt319.2.2.1 bt319.2.2.2 a2).bind fun t327 => ((laws_toRecordSS.f k l0).bind fun t328 => ((laws_toValue.f k a1_0 a1_1 l1_2 l1_3).bind fun bt331 => ((impl_ValueCount.f k t328 bt331.1 bt331.2.1 bt331.2.2.1 bt331.2.2.2 a2).bind fun t340 => (if t340 = t327 then ((laws_toRecordSS.f k l0).bind fun t341 => ((laws_eqRecordSS.f k t328 t341).bind fun t344 => (if t344 = true then ((laws_toValue.f k a1_0 a1_1 l1_2 l1_3).bind fun bt345 => ((laws_eqValue.f k bt331.1 bt331.2.1 bt331.2.2.1 bt331.2.2.2 bt345.1 bt345.2.1 bt345.2.2.1 bt345.2.2.2).bind fun t353 => (if t353 = true then (some true) else (some false)))) else (some false)))) else (some false))))))) = some r:=H
    have A16:=Aside0.mk A160
    clear A160
    replace H:=Option.bind_eq_some_iff.mp H
    obtain ⟨⟨t319,t320,t321,t324⟩,A170,H⟩:=H
    replace H : ((spec_ValueCount.f k t316 t319 t320 t321 t324 a2).bind fun t327 => ((laws_toRecordSS.f k l0).bind fun t328 => ((laws_toValue.f k a1_0 a1_1 l1_2 l1_3).bind fun bt331 => ((impl_ValueCount.f k t328 bt331.1 bt331.2.1 bt331.2.2.1 bt331.2.2.2 a2).bind fun t340 => (if t340 = t327 then ((laws_toRecordSS.f k l0).bind fun t341 => ((laws_eqRecordSS.f k t328 t341).bind fun t344 => (if t344 = true then ((laws_toValue.f k a1_0 a1_1 l1_2 l1_3).bind fun bt345 => ((laws_eqValue.f k bt331.1 bt331.2.1 bt331.2.2.1 bt331.2.2.2 bt345.1 bt345.2.1 bt345.2.2.1 bt345.2.2.2).bind fun t353 => (if t353 = true then (some true) else (some false)))) else (some false)))) else (some false)))))) = some r:=H
    have A17:=Aside0.mk A170
    clear A170
    replace H:=Option.bind_eq_some_iff.mp H
    obtain ⟨t327,A180,H⟩:=H
    replace H : ((laws_toRecordSS.f k l0).bind fun t328 => ((laws_toValue.f k a1_0 a1_1 l1_2 l1_3).bind fun bt331 => ((impl_ValueCount.f k t328 bt331.1 bt331.2.1 bt331.2.2.1 bt331.2.2.2 a2).bind fun t340 => (if t340 = t327 then ((laws_toRecordSS.f k l0).bind fun t341 => ((laws_eqRecordSS.f k t328 t341).bind fun t344 => (if t344 = true then ((laws_toValue.f k a1_0 a1_1 l1_2 l1_3).bind fun bt345 => ((laws_eqValue.f k bt331.1 bt331.2.1 bt331.2.2.1 bt331.2.2.2 bt345.1 bt345.2.1 bt345.2.2.1 bt345.2.2.2).bind fun t353 => (if t353 = true then (some true) else (some false)))) else (some false)))) else (some false))))) = some r:=H
    have A18:=Aside0.mk A180
    clear A180
    replace H:=Option.bind_eq_some_iff.mp H
    obtain ⟨t328,A190,H⟩:=H
    replace H : ((laws_toValue.f k a1_0 a1_1 l1_2 l1_3).bind fun bt331 => ((impl_ValueCount.f k t328 bt331.1 bt331.2.1 bt331.2.2.1 bt331.2.2.2 a2).bind fun t340 => (if t340 = t327 then ((laws_toRecordSS.f k l0).bind fun t341 => ((laws_eqRecordSS.f k t328 t341).bind fun t344 => (if t344 = true then ((laws_toValue.f k a1_0 a1_1 l1_2 l1_3).bind fun bt345 => ((laws_eqValue.f k bt331.1 bt331.2.1 bt331.2.2.1 bt331.2.2.2 bt345.1 bt345.2.1 bt345.2.2.1 bt345.2.2.2).bind fun t353 => (if t353 = true then (some true) else (some false)))) else (some false)))) else (some false)))) = some r:=H
    have A19:=Aside0.mk A190
    clear A190
    replace H:=Option.bind_eq_some_iff.mp H
    obtain ⟨⟨t331,t332,t333,t336⟩,A200,H⟩:=H
    replace H : ((impl_ValueCount.f k t328 t331 t332 t333 t336 a2).bind fun t340 => (if t340 = t327 then ((laws_toRecordSS.f k l0).bind fun t341 => ((laws_eqRecordSS.f k t328 t341).bind fun t344 => (if t344 = true then ((laws_toValue.f k a1_0 a1_1 l1_2 l1_3).bind fun bt345 => ((laws_eqValue.f k t331 t332 t333 t336 bt345.1 bt345.2.1 bt345.2.2.1 bt345.2.2.2).bind fun t353 => (if t353 = true then (some true) else (some false)))) else (some false)))) else (some false))) = some r:=H
    have A20:=Aside0.mk A200
    clear A200
    replace H:=Option.bind_eq_some_iff.mp H
    obtain ⟨t340,A210,H⟩:=H
    replace H : (if t340 = t327 then ((laws_toRecordSS.f k l0).bind fun t341 => ((laws_eqRecordSS.f k t328 t341).bind fun t344 => (if t344 = true then ((laws_toValue.f k a1_0 a1_1 l1_2 l1_3).bind fun bt345 => ((laws_eqValue.f k t331 t332 t333 t336 bt345.1 bt345.2.1 bt345.2.2.1 bt345.2.2.2).bind fun t353 => (if t353 = true then (some true) else (some false)))) else (some false)))) else (some false)) = some r:=H
    have A21:=Aside0.mk A210
    clear A210
    by_cases c22 : t340 = t327
    ·rw [if_pos c22] at H
     have c22b0 : (t340 == t327) = true:=beq_iff_eq.mpr c22
     have c22b1 : (t340 != t327) = false:=bne_eq_false_iff_eq.mpr c22
     clear c22
     replace H:=Option.bind_eq_some_iff.mp H
     obtain ⟨t341,A230,H⟩:=H
     replace H : ((laws_eqRecordSS.f k t328 t341).bind fun t344 => (if t344 = true then ((laws_toValue.f k a1_0 a1_1 l1_2 l1_3).bind fun bt345 => ((laws_eqValue.f k t331 t332 t333 t336 bt345.1 bt345.2.1 bt345.2.2.1 bt345.2.2.2).bind fun t353 => (if t353 = true then (some true) else (some false)))) else (some false))) = some r:=H
     have A23:=Aside0.mk A230
     clear A230
     replace H:=Option.bind_eq_some_iff.mp H
     obtain ⟨t344,A240,H⟩:=H
     replace H : (if t344 = true then ((laws_toValue.f k a1_0 a1_1 l1_2 l1_3).bind fun bt345 => ((laws_eqValue.f k t331 t332 t333 t336 bt345.1 bt345.2.1 bt345.2.2.1 bt345.2.2.2).bind fun t353 => (if t353 = true then (some true) else (some false)))) else (some false)) = some r:=H
     have A24:=Aside0.mk A240
     clear A240
     by_cases c25 : t344 = true
     ·subst c25
      have H1 : ((laws_toValue.f k a1_0 a1_1 l1_2 l1_3).bind fun bt345 => ((laws_eqValue.f k t331 t332 t333 t336 bt345.1 bt345.2.1 bt345.2.2.1 bt345.2.2.2).bind fun t353 => (if t353 = true then (some true) else (some false)))) = some r:=by rw [if_pos rfl] at H;exact H
      clear H
      have H:=H1
      clear H1
      replace H:=Option.bind_eq_some_iff.mp H
      obtain ⟨⟨t345,t346,t347,t350⟩,A260,H⟩:=H
      replace H : ((laws_eqValue.f k t331 t332 t333 t336 t345 t346 t347 t350).bind fun t353 => (if t353 = true then (some true) else (some false))) = some r:=H
      have A26:=Aside0.mk A260
      clear A260
      replace H:=Option.bind_eq_some_iff.mp H
      obtain ⟨t353,A270,H⟩:=H
      replace H : (if t353 = true then (some true) else (some false)) = some r:=H
      have A27:=Aside0.mk A270
      clear A270
      by_cases c28 : t353 = true
      ·subst c28
       have H1 : (some true) = some r:=by rw [if_pos rfl] at H;exact H
       clear H
       have H:=H1
       clear H1
       obtain rfl:=Option.some.inj H
       go_enter Try.func7,Try.ntmps7
       try go_wp2_with (first | ((with_reducible refine gate_dst (N:=4) rfl ?_);refine Up.bx 4 39 #[.string a1_0,.int .i64 a1_1,.slice A1_2 l1_2.length c1_2,.slice A1_3 l1_3.length c1_3] ?_;intro gb313 hg w29 hbox hb;have n0_:=Up.BB HB hb;have n1_:=Aside0.mk (hbox);have n2_:=Up.gw hg HB;have n3_:=Up.gw hg HB;clear HB;have HB:=n0_;have BK313:=n1_;have GW313:=n2_;have GE313:=n3_;clear n0_ n1_ n2_ n3_ hb hbox hg) | ((with_reducible refine gate_callee (f:=18) rfl ?_);refine Up.gl (some 17) Try.func18 #[.slice A0 l0.length c0,.int .i64 1048576] ?_;(with_reducible refine (laws_szRecordSS.calls k _ _ l0 1048576 t314 _ ?side1 ?side2 A6.out).mono ?_);(case side1 => exact Up.Cx HR0 HB);(case side2 => exact HC0.out);rintro e w30 ⟨rfl,hb⟩;refine ⟨_,rfl,?_⟩;have n0_:=Up.KB BK313 hb;have n1_:=Aside0.mk (below_step (Up.Bx HB) hb);clear BK313 HB;have BK313:=n0_;have HB:=n1_;clear n0_ n1_;(try clear hb);(try clear hb2);(try clear hk);(try clear hi);have hcz31_0:=Up.c0 BK313;have hcz31_1:=Up.c1 BK313;have hcz31_2:=Up.c2 BK313;have hcz31_3:=Up.c3 BK313;have hfz31_0:=blk_frozen BK313.out 0;have hfz31_1:=blk_frozen BK313.out 1;have hfz31_2:=blk_frozen BK313.out 2;have hfz31_3:=blk_frozen BK313.out 3) | ((with_reducible refine gate_callee (f:=19) rfl ?_);refine Up.gl (some 22) Try.func19 #[.agg #[.string a1_0,.int .i64 a1_1,.slice A1_2 l1_2.length c1_2,.slice A1_3 l1_3.length c1_3],.int .i64 t314] ?_;(with_reducible refine (laws_szValue.calls k a1_0 a1_1 _ _ l1_2 _ _ l1_3 t314 t315 _ ?side1 ?side2 ?side3 ?side4 A10.out).mono ?_);(case side1 => exact Up.Cx HR1_2 HB);(case side2 => exact HC1_2.out);(case side3 => exact Up.Cx HR1_3 HB);(case side4 => exact HC1_3.out);rintro e w32 ⟨rfl,hb⟩;refine ⟨_,rfl,?_⟩;have n0_:=Up.KB BK313 hb;have n1_:=Aside0.mk (below_step (Up.Bx HB) hb);clear BK313 HB;have BK313:=n0_;have HB:=n1_;clear n0_ n1_;(try clear hb);(try clear hb2);(try clear hk);(try clear hi)))
       have n0_:=Aside0.mk (blk_drew BK313.out)
       have n1_:=Aside0.mk (below_drew1 HB.out)
       clear BK313
       clear HB
       have BK313:=n0_
       have HB:=n1_
       clear n0_ n1_
       refine start_ (n:=7) (S:=fun w' => w'.cell? ⟨gb313,0,none⟩ = some (.string a1_0) ∧ w'.cell? ⟨gb313,1,none⟩ = some (.int .i64 a1_1) ∧ w'.cell? ⟨gb313,2,none⟩ = some (.slice A1_2 l1_2.length c1_2) ∧ w'.cell? ⟨gb313,3,none⟩ = some (.slice A1_3 l1_3.length c1_3)) (ds:=[]) #[false,false,false,false,false,false,false] (by kernel_rfl) rfl rfl ⟨Up.c0 BK313,Up.c1 BK313,Up.c2 BK313,Up.c3 BK313⟩ (fun hHeld => ?_)
       generalize w32.drew = w33 at BK313 HB hHeld ⊢
       refine Up.pn 0 (some 25) ?_
       refine Up.pn 4 (some 29) ?_
       refine take_ (i:=2) (N:=some 27) (v:=?_) (a':=?_) #[true,false,true,false,true,false,false] rfl rfl (by kernel_rfl) (fun _ _ _ h => h) (Or.inl ⟨by rfl,?_⟩) hHeld ?_ ?_
       rotate_left
       ·rintro w' ⟨s0,s1,s2,s3⟩
        go_simp
        with_reducible rfl
       rotate_left
       ·simp only [Act.put,List.setIfInBounds_toArray,List.set_cons_zero,List.set_cons_succ,i64_w,i32_w]
        rfl
       refine one_ (i:=1) (N:=some 26) #[true,true,true,false,true,false,false] rfl rfl (by kernel_rfl) (by decide) (fun K hK => ?_)
       refine Up.go Try.func21 #[.slice A0 l0.length c0] ?_
       with_reducible refine (laws_toRecordSS.calls k _ _ l0 t316 _ ?side1 ?side2 A16.out).mono ?_
       (case side1 => exact Up.Cx HR0 HB)
       (case side2 => exact HC0.out)
       rintro e w34 ⟨v317,rfl,ho0,hb⟩
       refine ⟨_,rfl,?_⟩
       have n0_:=Aside0.mk (Kd.R_lower ho0 (below_size (Up.Bx HB)))
       have n1_:=Up.KB BK313 hb
       have n2_:=Aside0.mk (below_step (Up.Bx HB) hb)
       clear BK313
       clear HB
       have HO318:=n0_
       have BK313:=n1_
       have HB:=n2_
       clear n0_ n1_ n2_
       (try clear hb)
       (try clear hb2)
       (try clear hk)
       (try clear hi)
       (try clear ho0)
       refine hK.out _ _ ⟨Up.c0 BK313,Up.c1 BK313,Up.c2 BK313,Up.c3 BK313⟩ (fun hHeld => ?_)
       clear hK K
       refine Up.nm 26 ?_
       refine one_ (i:=3) (N:=some 28) #[true,true,true,true,true,false,false] rfl rfl (by kernel_rfl) (by decide) (fun K hK => ?_)
       refine Up.go Try.func22 #[.agg #[.string a1_0,.int .i64 a1_1,.slice A1_2 l1_2.length c1_2,.slice A1_3 l1_3.length c1_3]] ?_
       with_reducible refine (laws_toValue.calls k a1_0 a1_1 _ _ l1_2 _ _ l1_3 t319 t320 t321 t324 _ ?side1 ?side2 ?side3 ?side4 A17.out).mono ?_
       (case side1 => exact Up.Cx HR1_2 HB)
       (case side2 => exact HC1_2.out)
       (case side3 => exact Up.Cx HR1_3 HB)
       (case side4 => exact HC1_3.out)
       rintro e w35 ⟨v322,v325,rfl,ho0,ho1,hb⟩
       refine ⟨_,rfl,?_⟩
       have n0_:=Up.RB HO318 hb
       have n1_:=Aside0.mk (Kd.R_lower ho0 (below_size (Up.Bx HB)))
       have n2_:=Aside0.mk (Kd.R_lower ho1 (below_size (Up.Bx HB)))
       have n3_:=Up.KB BK313 hb
       have n4_:=Aside0.mk (below_step (Up.Bx HB) hb)
       clear HO318
       clear BK313
       clear HB
       have HO318:=n0_
       have HO323:=n1_
       have HO326:=n2_
       have BK313:=n3_
       have HB:=n4_
       clear n0_ n1_ n2_ n3_ n4_
       (try clear hb)
       (try clear hb2)
       (try clear hk)
       (try clear hi)
       (try clear ho0)
       (try clear ho1)
       obtain ⟨Ao36,co36,eo36⟩:=Kd.R_slice HO318.out
       (first | subst eo36 | (injection eo36 with f1_ f2_ f3_;have f4_:=f1_.symm;have f5_:=f3_.symm;clear f1_ f2_ f3_;subst f4_;subst f5_))
       obtain ⟨Ao37,co37,eo37⟩:=Kd.R_slice HO323.out
       (first | subst eo37 | (injection eo37 with f1_ f2_ f3_;have f4_:=f1_.symm;have f5_:=f3_.symm;clear f1_ f2_ f3_;subst f4_;subst f5_))
       obtain ⟨Ao38,co38,eo38⟩:=Kd.R_slice HO326.out
       (first | subst eo38 | (injection eo38 with f1_ f2_ f3_;have f4_:=f1_.symm;have f5_:=f3_.symm;clear f1_ f2_ f3_;subst f4_;subst f5_))
       refine hK.out _ _ ⟨Up.c0 BK313,Up.c1 BK313,Up.c2 BK313,Up.c3 BK313⟩ (fun hHeld => ?_)
       clear hK K
       refine Up.nm 28 ?_
       refine one_ (i:=5) (N:=some 30) #[true,true,true,true,true,true,false] rfl rfl (by kernel_rfl) (by decide) (fun K hK => ?_)
       refine Up.go Try.func17 #[.slice Ao36 t316.length co36,.agg #[.string t319,.int .i64 t320,.slice Ao37 t321.length co37,.slice Ao38 t324.length co38],.string a2] ?_
       with_reducible refine (spec_ValueCount.calls k _ _ t316 t319 t320 _ _ t321 _ _ t324 a2 t327 _ ?side1 ?side2 ?side3 ?side4 ?side5 ?side6 A18.out).mono ?_
       (case side1 => repeat (first | exact (Kd.R_reads' HO318.out).2.2 | (with_reducible refine Kd.C_alloc ?_ _) | (with_reducible refine Kd.C_drewN ?_ _) | (with_reducible refine Kd.C_drew ?_)))
       (case side2 => exact (Kd.R_reads' HO318.out).2.1)
       (case side3 => repeat (first | exact (Kd.R_reads' HO323.out).2.2 | (with_reducible refine Kd.C_alloc ?_ _) | (with_reducible refine Kd.C_drewN ?_ _) | (with_reducible refine Kd.C_drew ?_)))
       (case side4 => exact (Kd.R_reads' HO323.out).2.1)
       (case side5 => repeat (first | exact (Kd.R_reads' HO326.out).2.2 | (with_reducible refine Kd.C_alloc ?_ _) | (with_reducible refine Kd.C_drewN ?_ _) | (with_reducible refine Kd.C_drew ?_)))
       (case side6 => exact (Kd.R_reads' HO326.out).2.1)
       rintro e w39 ⟨rfl,hb⟩
       refine ⟨_,rfl,?_⟩
       have n0_:=Up.RB HO318 hb
       have n1_:=Up.RB HO323 hb
       have n2_:=Up.RB HO326 hb
       have n3_:=Up.KB BK313 hb
       have n4_:=Aside0.mk (below_step (Up.Bx HB) hb)
       clear HO318
       clear HO323
       clear HO326
       clear BK313
       clear HB
       have HO318:=n0_
       have HO323:=n1_
       have HO326:=n2_
       have BK313:=n3_
       have HB:=n4_
       clear n0_ n1_ n2_ n3_ n4_
       (try clear hb)
       (try clear hb2)
       (try clear hk)
       (try clear hi)
       refine hK.out _ _ ⟨Up.c0 BK313,Up.c1 BK313,Up.c2 BK313,Up.c3 BK313⟩ (fun hHeld => ?_)
       clear hK K
       refine Up.nm 30 ?_
       refine Up.pn 6 (some 8) ?_
       refine done_ (by kernel_rfl) ?_
       try go_wp2_with (first | ((with_reducible refine gate_callee (f:=21) rfl ?_);refine Up.gl (some 32) Try.func21 #[.slice A0 l0.length c0] ?_;(with_reducible refine (laws_toRecordSS.calls k _ _ l0 t328 _ ?side1 ?side2 A19.out).mono ?_);(case side1 => exact Up.Cx HR0 HB);(case side2 => exact HC0.out);rintro e w40 ⟨v329,rfl,ho0,hb⟩;refine ⟨_,rfl,?_⟩;have n0_:=Aside0.mk (Kd.R_elder' (Up.Rup HO318) (Kd.R_base ho0) hb);have n1_:=Up.RB HO323 hb;have n2_:=Up.RB HO326 hb;have n3_:=Aside0.mk (Kd.R_lower (Kd.R_new' ho0 (Kd.R_lt (Up.Rup HO318))) (below_size (Up.Bx HB)));have n4_:=Up.KB BK313 hb;have n5_:=Aside0.mk (below_step (Up.Bx HB) hb);clear HO318 HO323 HO326 BK313 HB;have HO318:=n0_;have HO323:=n1_;have HO326:=n2_;have HO330:=n3_;have BK313:=n4_;have HB:=n5_;clear n0_ n1_ n2_ n3_ n4_ n5_;(try clear hb);(try clear hb2);(try clear hk);(try clear hi);(try clear ho0);have hcz41_0:=Up.c0 BK313;have hcz41_1:=Up.c1 BK313;have hcz41_2:=Up.c2 BK313;have hcz41_3:=Up.c3 BK313;have hfz41_0:=blk_frozen BK313.out 0;have hfz41_1:=blk_frozen BK313.out 1;have hfz41_2:=blk_frozen BK313.out 2;have hfz41_3:=blk_frozen BK313.out 3) | ((with_reducible refine gate_callee (f:=22) rfl ?_);refine Up.gl (some 34) Try.func22 #[.agg #[.string a1_0,.int .i64 a1_1,.slice A1_2 l1_2.length c1_2,.slice A1_3 l1_3.length c1_3]] ?_;(with_reducible refine (laws_toValue.calls k a1_0 a1_1 _ _ l1_2 _ _ l1_3 t331 t332 t333 t336 _ ?side1 ?side2 ?side3 ?side4 A20.out).mono ?_);(case side1 => exact Up.Cx HR1_2 HB);(case side2 => exact HC1_2.out);(case side3 => exact Up.Cx HR1_3 HB);(case side4 => exact HC1_3.out);rintro e w42 ⟨v334,v337,rfl,ho0,ho1,hb⟩;refine ⟨_,rfl,?_⟩;have n0_:=Up.RB HO318 hb;have n1_:=Aside0.mk (Kd.R_mono (Kd.R_told (Kd.R_told (Kd.R_old (Up.Rup HO323) hb) (Kd.R_base ho0)) (Kd.R_base ho1)) (fun _ h_ => h_.1));have n2_:=Aside0.mk (Kd.R_elder' (Up.Rup HO326) (Kd.R_base ho1) hb);have n3_:=Up.RB HO330 hb;have n4_:=Aside0.mk (Kd.R_lower (Kd.R_new' (Kd.R_new' ho0 (Kd.R_lt (Up.Rup HO323))) (Kd.R_lt (Up.Rup HO326))) (below_size (Up.Bx HB)));have n5_:=Aside0.mk (Kd.R_lower (Kd.R_new' ho1 (Kd.R_lt (Up.Rup HO326))) (below_size (Up.Bx HB)));have n6_:=Up.KB BK313 hb;have n7_:=Aside0.mk (below_step (Up.Bx HB) hb);clear HO318 HO323 HO326 HO330 BK313 HB;have HO318:=n0_;have HO323:=n1_;have HO326:=n2_;have HO330:=n3_;have HO335:=n4_;have HO338:=n5_;have BK313:=n6_;have HB:=n7_;clear n0_ n1_ n2_ n3_ n4_ n5_ n6_ n7_;(try clear hb);(try clear hb2);(try clear hk);(try clear hi);(try clear ho0);(try clear ho1)) | ((with_reducible refine gate_dst (N:=10) rfl ?_);refine Up.bx 10 27 #[.string (⟨#[]⟩ : ByteArray),.int .i64 0,.slice none 0 0,.slice none 0 0] ?_;intro gb339 hg w43 hbox hb;have n0_:=Up.RB HO318 hb;have n1_:=Aside0.mk (Kd.R_below (Kd.R_elderB (Up.Rup HO323) gb339 (Nat.le_of_eq hg.symm)) hb);have n2_:=Up.RB HO326 hb;have n3_:=Up.RB HO330 hb;have n4_:=Aside0.mk (Kd.R_below (Kd.R_elderB (Up.Rup HO335) gb339 (Nat.le_of_eq hg.symm)) hb);have n5_:=Up.RB HO338 hb;have n6_:=Up.KB BK313 hb;have n7_:=Aside0.mk (below_step (Up.Bx HB) hb);have n8_:=Aside0.mk (hbox);have n9_:=Up.gw hg HB;have n10_:=Up.gw hg HB;have n11_:=Up.nl hg BK313;have n12_:=Up.ng hg BK313;clear HO318 HO323 HO326 HO330 HO335 HO338 BK313 HB;have HO318:=n0_;have HO323:=n1_;have HO326:=n2_;have HO330:=n3_;have HO335:=n4_;have HO338:=n5_;have BK313:=n6_;have HB:=n7_;have BK339:=n8_;have GW339:=n9_;have GE339:=n10_;have NB313_339:=n11_;have NB339_313:=n12_;clear n0_ n1_ n2_ n3_ n4_ n5_ n6_ n7_ n8_ n9_ n10_ n11_ n12_ hb hbox hg;have hnb44:=NB339_313.out;have hnc44:=NB313_339.out;have hcz45_0:=Up.c0 BK339;have hcz45_1:=Up.c1 BK339;have hcz45_2:=Up.c2 BK339;have hcz45_3:=Up.c3 BK339;have hfz45_0:=blk_frozen BK339.out 0;have hfz45_1:=blk_frozen BK339.out 1;have hfz45_2:=blk_frozen BK339.out 2;have hfz45_3:=blk_frozen BK339.out 3;obtain ⟨Ao46,co46,eo46⟩:=Kd.R_slice HO335.out;subst eo46;obtain ⟨Ao47,co47,eo47⟩:=Kd.R_slice HO338.out;subst eo47;obtain ⟨Ao48,co48,eo48⟩:=Kd.R_slice HO330.out;subst eo48) | ((with_reducible refine gate_callee (f:=16) rfl ?_);refine Up.gl (some 38) Try.func16 #[.slice Ao48 t328.length co48,.agg #[.string t331,.int .i64 t332,.slice Ao46 t333.length co46,.slice Ao47 t336.length co47],.string a2] ?_;(with_reducible refine (impl_ValueCount.calls k _ _ t328 t331 t332 _ _ t333 _ _ t336 a2 t340 _ ?side1 ?side2 ?side3 ?side4 ?side5 ?side6 A21.out).mono ?_);(case side1 => refine (Kd.R_reads' (e:=82) (base:=w.heap.size) (ok:=fun k_ => (True ∧ some k_ ≠ (.slice Ao36 t316.length co36 : Value).ownBlock)) (n:=t328.length) (c:=co48) ?_).2.2;exact (by (with_reducible repeat (first | apply Kd.R_alloc | apply Kd.R_drewN | apply Kd.R_drew));exact (Kd.R_mono (Kd.R_far (p:=⟨gb339,3,none⟩) (Kd.R_far (p:=⟨gb339,2,none⟩) (Kd.R_far (p:=⟨gb339,1,none⟩) (Kd.R_far (p:=⟨gb339,0,none⟩) (Kd.R_types HO330.out BK339.out (by decide)) (fun _ hk => hk.2) (.string t331)) (fun _ hk => hk.2) (.int .i64 t332)) (fun _ hk => hk.2) (.slice Ao46 t333.length co46)) (fun _ hk => hk.2) (.slice Ao47 t336.length co47)) (fun _ h_ => h_.1))));(case side2 => exact (Kd.R_reads' HO330.out).2.1);(case side3 => refine (Kd.R_reads' (e:=27) (base:=w.heap.size) (ok:=fun k_ => (((some k_ ≠ (.slice Ao47 t336.length co47 : Value).ownBlock ∧ some k_ ≠ (.slice Ao37 t321.length co37 : Value).ownBlock) ∧ some k_ ≠ (.slice Ao38 t324.length co38 : Value).ownBlock) ∧ k_ ≠ gb339)) (n:=t333.length) (c:=co46) ?_).2.2;exact (by (with_reducible repeat (first | apply Kd.R_alloc | apply Kd.R_drewN | apply Kd.R_drew));exact (Kd.R_mono (Kd.R_far (p:=⟨gb339,3,none⟩) (Kd.R_far (p:=⟨gb339,2,none⟩) (Kd.R_far (p:=⟨gb339,1,none⟩) (Kd.R_far (p:=⟨gb339,0,none⟩) (Kd.R_mono HO335.out (fun k_ hk => (⟨hk,hk.2⟩ : _ ∧ k_ ≠ gb339))) (fun _ hk => hk.2) (.string t331)) (fun _ hk => hk.2) (.int .i64 t332)) (fun _ hk => hk.2) (.slice Ao46 t333.length co46)) (fun _ hk => hk.2) (.slice Ao47 t336.length co47)) (fun _ h_ => h_.1))));(case side4 => exact (Kd.R_reads' HO335.out).2.1);(case side5 => refine (Kd.R_reads' (e:=3) (base:=w.heap.size) (ok:=fun k_ => (True ∧ some k_ ≠ (.slice Ao38 t324.length co38 : Value).ownBlock)) (n:=t336.length) (c:=co47) ?_).2.2;exact (by (with_reducible repeat (first | apply Kd.R_alloc | apply Kd.R_drewN | apply Kd.R_drew));exact (Kd.R_mono (Kd.R_far (p:=⟨gb339,3,none⟩) (Kd.R_far (p:=⟨gb339,2,none⟩) (Kd.R_far (p:=⟨gb339,1,none⟩) (Kd.R_far (p:=⟨gb339,0,none⟩) (Kd.R_types HO338.out BK339.out (by decide)) (fun _ hk => hk.2) (.string t331)) (fun _ hk => hk.2) (.int .i64 t332)) (fun _ hk => hk.2) (.slice Ao46 t333.length co46)) (fun _ hk => hk.2) (.slice Ao47 t336.length co47)) (fun _ h_ => h_.1))));(case side6 => exact (Kd.R_reads' HO338.out).2.1);rintro e w49 ⟨rfl,hb⟩;refine ⟨_,rfl,?_⟩;have n0_:=Aside0.mk (Kd.R_below (by (with_reducible repeat (first | apply Kd.R_alloc | apply Kd.R_drewN | apply Kd.R_drew));exact (Kd.R_mono (Kd.R_far (p:=⟨gb339,3,none⟩) (Kd.R_far (p:=⟨gb339,2,none⟩) (Kd.R_far (p:=⟨gb339,1,none⟩) (Kd.R_far (p:=⟨gb339,0,none⟩) (Kd.R_types HO318.out BK339.out (by decide)) (fun _ hk => hk.2) (.string t331)) (fun _ hk => hk.2) (.int .i64 t332)) (fun _ hk => hk.2) (.slice Ao46 t333.length co46)) (fun _ hk => hk.2) (.slice Ao47 t336.length co47)) (fun _ h_ => h_.1))) hb);have n1_:=Aside0.mk (Kd.R_below (by (with_reducible repeat (first | apply Kd.R_alloc | apply Kd.R_drewN | apply Kd.R_drew));exact (Kd.R_mono (Kd.R_far (p:=⟨gb339,3,none⟩) (Kd.R_far (p:=⟨gb339,2,none⟩) (Kd.R_far (p:=⟨gb339,1,none⟩) (Kd.R_far (p:=⟨gb339,0,none⟩) (Kd.R_mono HO323.out (fun k_ hk => (⟨hk,hk.2⟩ : _ ∧ k_ ≠ gb339))) (fun _ hk => hk.2) (.string t331)) (fun _ hk => hk.2) (.int .i64 t332)) (fun _ hk => hk.2) (.slice Ao46 t333.length co46)) (fun _ hk => hk.2) (.slice Ao47 t336.length co47)) (fun _ h_ => h_.1))) hb);have n2_:=Aside0.mk (Kd.R_below (by (with_reducible repeat (first | apply Kd.R_alloc | apply Kd.R_drewN | apply Kd.R_drew));exact (Kd.R_mono (Kd.R_far (p:=⟨gb339,3,none⟩) (Kd.R_far (p:=⟨gb339,2,none⟩) (Kd.R_far (p:=⟨gb339,1,none⟩) (Kd.R_far (p:=⟨gb339,0,none⟩) (Kd.R_types HO326.out BK339.out (by decide)) (fun _ hk => hk.2) (.string t331)) (fun _ hk => hk.2) (.int .i64 t332)) (fun _ hk => hk.2) (.slice Ao46 t333.length co46)) (fun _ hk => hk.2) (.slice Ao47 t336.length co47)) (fun _ h_ => h_.1))) hb);have n3_:=Aside0.mk (Kd.R_below (by (with_reducible repeat (first | apply Kd.R_alloc | apply Kd.R_drewN | apply Kd.R_drew));exact (Kd.R_mono (Kd.R_far (p:=⟨gb339,3,none⟩) (Kd.R_far (p:=⟨gb339,2,none⟩) (Kd.R_far (p:=⟨gb339,1,none⟩) (Kd.R_far (p:=⟨gb339,0,none⟩) (Kd.R_types HO330.out BK339.out (by decide)) (fun _ hk => hk.2) (.string t331)) (fun _ hk => hk.2) (.int .i64 t332)) (fun _ hk => hk.2) (.slice Ao46 t333.length co46)) (fun _ hk => hk.2) (.slice Ao47 t336.length co47)) (fun _ h_ => h_.1))) hb);have n4_:=Aside0.mk (Kd.R_below (by (with_reducible repeat (first | apply Kd.R_alloc | apply Kd.R_drewN | apply Kd.R_drew));exact (Kd.R_mono (Kd.R_far (p:=⟨gb339,3,none⟩) (Kd.R_far (p:=⟨gb339,2,none⟩) (Kd.R_far (p:=⟨gb339,1,none⟩) (Kd.R_far (p:=⟨gb339,0,none⟩) (Kd.R_mono HO335.out (fun k_ hk => (⟨hk,hk.2⟩ : _ ∧ k_ ≠ gb339))) (fun _ hk => hk.2) (.string t331)) (fun _ hk => hk.2) (.int .i64 t332)) (fun _ hk => hk.2) (.slice Ao46 t333.length co46)) (fun _ hk => hk.2) (.slice Ao47 t336.length co47)) (fun _ h_ => h_.1))) hb);have n5_:=Aside0.mk (Kd.R_below (by (with_reducible repeat (first | apply Kd.R_alloc | apply Kd.R_drewN | apply Kd.R_drew));exact (Kd.R_mono (Kd.R_far (p:=⟨gb339,3,none⟩) (Kd.R_far (p:=⟨gb339,2,none⟩) (Kd.R_far (p:=⟨gb339,1,none⟩) (Kd.R_far (p:=⟨gb339,0,none⟩) (Kd.R_types HO338.out BK339.out (by decide)) (fun _ hk => hk.2) (.string t331)) (fun _ hk => hk.2) (.int .i64 t332)) (fun _ hk => hk.2) (.slice Ao46 t333.length co46)) (fun _ hk => hk.2) (.slice Ao47 t336.length co47)) (fun _ h_ => h_.1))) hb);have n6_:=Aside0.mk (blk_below (g:=gb313) (o:=.cells #[.string a1_0,.int .i64 a1_1,.slice A1_2 l1_2.length c1_2,.slice A1_3 l1_3.length c1_3] 39 (0,0)) (Up.Kx BK313) hb);have n7_:=Aside0.mk (blk_below (g:=gb339) (o:=.cells #[.string t331,.int .i64 t332,.slice Ao46 t333.length co46,.slice Ao47 t336.length co47] 27 (0,0)) (Up.Kx BK339) hb);have n8_:=Aside0.mk (below_step (Up.Bx HB) hb);clear HO318 HO323 HO326 HO330 HO335 HO338 BK313 BK339 HB;have HO318:=n0_;have HO323:=n1_;have HO326:=n2_;have HO330:=n3_;have HO335:=n4_;have HO338:=n5_;have BK313:=n6_;have BK339:=n7_;have HB:=n8_;clear n0_ n1_ n2_ n3_ n4_ n5_ n6_ n7_ n8_;(try clear hb);(try clear hb2);(try clear hk);(try clear hi)) | ((with_reducible refine gate_callee (f:=21) rfl ?_);refine Up.gl (some 44) Try.func21 #[.slice A0 l0.length c0] ?_;(with_reducible refine (laws_toRecordSS.calls k _ _ l0 t341 _ ?side1 ?side2 A23.out).mono ?_);(case side1 => exact Up.Cx HR0 HB);(case side2 => exact HC0.out);rintro e w50 ⟨v342,rfl,ho0,hb⟩;refine ⟨_,rfl,?_⟩;have n0_:=Aside0.mk (Kd.R_elder' (Up.Rup HO318) (Kd.R_base ho0) hb);have n1_:=Up.RB HO323 hb;have n2_:=Up.RB HO326 hb;have n3_:=Aside0.mk (Kd.R_elder' (Up.Rup HO330) (Kd.R_base ho0) hb);have n4_:=Up.RB HO335 hb;have n5_:=Up.RB HO338 hb;have n6_:=Aside0.mk (Kd.R_lower (Kd.R_new' (Kd.R_new' ho0 (Kd.R_lt (Up.Rup HO318))) (Kd.R_lt (Up.Rup HO330))) (below_size (Up.Bx HB)));have n7_:=Up.KB BK313 hb;have n8_:=Up.KB BK339 hb;have n9_:=Aside0.mk (below_step (Up.Bx HB) hb);clear HO318 HO323 HO326 HO330 HO335 HO338 BK313 BK339 HB;have HO318:=n0_;have HO323:=n1_;have HO326:=n2_;have HO330:=n3_;have HO335:=n4_;have HO338:=n5_;have HO343:=n6_;have BK313:=n7_;have BK339:=n8_;have HB:=n9_;clear n0_ n1_ n2_ n3_ n4_ n5_ n6_ n7_ n8_ n9_;(try clear hb);(try clear hb2);(try clear hk);(try clear hi);(try clear ho0);obtain ⟨Ao51,co51,eo51⟩:=Kd.R_slice HO343.out;subst eo51) | ((with_reducible refine gate_callee (f:=23) rfl ?_);refine Up.gl (some 45) Try.func23 #[.slice Ao48 t328.length co48,.slice Ao51 t341.length co51] ?_;(with_reducible refine (laws_eqRecordSS.calls k _ _ t328 _ _ t341 true _ ?side1 ?side2 ?side3 ?side4 A24.out).mono ?_);(case side1 => repeat (first | exact (Kd.R_reads' HO330.out).2.2 | (with_reducible refine Kd.C_alloc ?_ _) | (with_reducible refine Kd.C_drewN ?_ _) | (with_reducible refine Kd.C_drew ?_)));(case side2 => exact (Kd.R_reads' HO330.out).2.1);(case side3 => repeat (first | exact (Kd.R_reads' HO343.out).2.2 | (with_reducible refine Kd.C_alloc ?_ _) | (with_reducible refine Kd.C_drewN ?_ _) | (with_reducible refine Kd.C_drew ?_)));(case side4 => exact (Kd.R_reads' HO343.out).2.1);rintro e w52 ⟨rfl,hb⟩;refine ⟨_,rfl,?_⟩;have n0_:=Up.RB HO318 hb;have n1_:=Up.RB HO323 hb;have n2_:=Up.RB HO326 hb;have n3_:=Up.RB HO330 hb;have n4_:=Up.RB HO335 hb;have n5_:=Up.RB HO338 hb;have n6_:=Up.RB HO343 hb;have n7_:=Up.KB BK313 hb;have n8_:=Up.KB BK339 hb;have n9_:=Aside0.mk (below_step (Up.Bx HB) hb);clear HO318 HO323 HO326 HO330 HO335 HO338 HO343 BK313 BK339 HB;have HO318:=n0_;have HO323:=n1_;have HO326:=n2_;have HO330:=n3_;have HO335:=n4_;have HO338:=n5_;have HO343:=n6_;have BK313:=n7_;have BK339:=n8_;have HB:=n9_;clear n0_ n1_ n2_ n3_ n4_ n5_ n6_ n7_ n8_ n9_;(try clear hb);(try clear hb2);(try clear hk);(try clear hi)))
       have n0_:=Aside0.mk (Kd.R_drew HO318.out)
       have n1_:=Aside0.mk (Kd.R_drew HO323.out)
       have n2_:=Aside0.mk (Kd.R_drew HO326.out)
       have n3_:=Aside0.mk (Kd.R_drew HO330.out)
       have n4_:=Aside0.mk (Kd.R_drew HO335.out)
       have n5_:=Aside0.mk (Kd.R_drew HO338.out)
       have n6_:=Aside0.mk (Kd.R_drew HO343.out)
       have n7_:=Aside0.mk (blk_drew BK313.out)
       have n8_:=Aside0.mk (blk_drew BK339.out)
       have n9_:=Aside0.mk (below_drew1 HB.out)
       clear HO318
       clear HO323
       clear HO326
       clear HO330
       clear HO335
       clear HO338
       clear HO343
       clear BK313
       clear BK339
       clear HB
       have HO318:=n0_
       have HO323:=n1_
       have HO326:=n2_
       have HO330:=n3_
       have HO335:=n4_
       have HO338:=n5_
       have HO343:=n6_
       have BK313:=n7_
       have BK339:=n8_
       have HB:=n9_
       clear n0_ n1_ n2_ n3_ n4_ n5_ n6_ n7_ n8_ n9_
       refine start_ (n:=5) (S:=fun w' => w'.cell? ⟨gb339,0,none⟩ = some (.string t331) ∧ w'.cell? ⟨gb339,1,none⟩ = some (.int .i64 t332) ∧ w'.cell? ⟨gb339,2,none⟩ = some (.slice Ao46 t333.length co46) ∧ w'.cell? ⟨gb339,3,none⟩ = some (.slice Ao47 t336.length co47) ∧ w'.cell? ⟨gb313,0,none⟩ = some (.string a1_0) ∧ w'.cell? ⟨gb313,1,none⟩ = some (.int .i64 a1_1) ∧ w'.cell? ⟨gb313,2,none⟩ = some (.slice A1_2 l1_2.length c1_2) ∧ w'.cell? ⟨gb313,3,none⟩ = some (.slice A1_3 l1_3.length c1_3)) (ds:=[]) #[false,false,false,false,false] (by kernel_rfl) rfl rfl ⟨Up.c0 BK339,Up.c1 BK339,Up.c2 BK339,Up.c3 BK339,Up.c0 BK313,Up.c1 BK313,Up.c2 BK313,Up.c3 BK313⟩ (fun hHeld => ?_)
       generalize w52.drew = w53 at HO318 HO323 HO326 HO330 HO335 HO338 HO343 BK313 BK339 HB hHeld ⊢
       refine take_ (i:=0) (N:=some 47) (v:=?_) (a':=?_) #[true,false,false,false,false] rfl rfl (by kernel_rfl) (fun _ _ _ h => h) (Or.inl ⟨by rfl,?_⟩) hHeld ?_ ?_
       rotate_left
       ·rintro w' ⟨s0,s1,s2,s3,s4,s5,s6,s7⟩
        go_simp
        with_reducible rfl
       rotate_left
       ·simp only [Act.put,List.setIfInBounds_toArray,List.set_cons_zero,List.set_cons_succ,i64_w,i32_w]
        rfl
       refine take_ (i:=1) (N:=some 48) (v:=?_) (a':=?_) #[true,true,false,false,false] rfl rfl (by kernel_rfl) (fun _ _ _ h => h) (Or.inl ⟨by rfl,?_⟩) hHeld ?_ ?_
       rotate_left
       ·rintro w' ⟨s0,s1,s2,s3,s4,s5,s6,s7⟩
        go_simp
        with_reducible rfl
       rotate_left
       ·simp only [Act.put,List.setIfInBounds_toArray,List.set_cons_zero,List.set_cons_succ,i64_w,i32_w]
        rfl
       refine one_ (i:=2) (N:=some 49) #[true,true,true,false,false] rfl rfl (by kernel_rfl) (by decide) (fun K hK => ?_)
       refine Up.go Try.func22 #[.agg #[.string a1_0,.int .i64 a1_1,.slice A1_2 l1_2.length c1_2,.slice A1_3 l1_3.length c1_3]] ?_
       with_reducible refine (laws_toValue.calls k a1_0 a1_1 _ _ l1_2 _ _ l1_3 t345 t346 t347 t350 _ ?side1 ?side2 ?side3 ?side4 A26.out).mono ?_
       (case side1 => exact Up.Cx HR1_2 HB)
       (case side2 => exact HC1_2.out)
       (case side3 => exact Up.Cx HR1_3 HB)
       (case side4 => exact HC1_3.out)
       rintro e w54 ⟨v348,v351,rfl,ho0,ho1,hb⟩
       refine ⟨_,rfl,?_⟩
       have n0_:=Up.RB HO318 hb
       have n1_:=Aside0.mk (Kd.R_mono (Kd.R_told (Kd.R_told (Kd.R_old (Up.Rup HO323) hb) (Kd.R_base ho0)) (Kd.R_base ho1)) (fun _ h_ => h_.1))
       have n2_:=Aside0.mk (Kd.R_elder' (Up.Rup HO326) (Kd.R_base ho1) hb)
       have n3_:=Up.RB HO330 hb
       have n4_:=Aside0.mk (Kd.R_mono (Kd.R_told (Kd.R_told (Kd.R_old (Up.Rup HO335) hb) (Kd.R_base ho0)) (Kd.R_base ho1)) (fun _ h_ => h_.1))
       have n5_:=Aside0.mk (Kd.R_elder' (Up.Rup HO338) (Kd.R_base ho1) hb)
       have n6_:=Up.RB HO343 hb
       have n7_:=Aside0.mk (Kd.R_lower (Kd.R_newB (Kd.R_new' (Kd.R_new' (Kd.R_new' (Kd.R_new' ho0 (Kd.R_lt (Up.Rup HO323))) (Kd.R_lt (Up.Rup HO326))) (Kd.R_lt (Up.Rup HO335))) (Kd.R_lt (Up.Rup HO338))) (g:=gb339) (o:=.cells #[.string t331,.int .i64 t332,.slice Ao46 t333.length co46,.slice Ao47 t336.length co47] 27 (0,0)) (Up.Kup BK339)) (below_size (Up.Bx HB)))
       have n8_:=Aside0.mk (Kd.R_lower (Kd.R_new' (Kd.R_new' ho1 (Kd.R_lt (Up.Rup HO326))) (Kd.R_lt (Up.Rup HO338))) (below_size (Up.Bx HB)))
       have n9_:=Up.KB BK313 hb
       have n10_:=Up.KB BK339 hb
       have n11_:=Aside0.mk (below_step (Up.Bx HB) hb)
       clear HO318
       clear HO323
       clear HO326
       clear HO330
       clear HO335
       clear HO338
       clear HO343
       clear BK313
       clear BK339
       clear HB
       have HO318:=n0_
       have HO323:=n1_
       have HO326:=n2_
       have HO330:=n3_
       have HO335:=n4_
       have HO338:=n5_
       have HO343:=n6_
       have HO349:=n7_
       have HO352:=n8_
       have BK313:=n9_
       have BK339:=n10_
       have HB:=n11_
       clear n0_ n1_ n2_ n3_ n4_ n5_ n6_ n7_ n8_ n9_ n10_ n11_
       (try clear hb)
       (try clear hb2)
       (try clear hk)
       (try clear hi)
       (try clear ho0)
       (try clear ho1)
       obtain ⟨Ao55,co55,eo55⟩:=Kd.R_slice HO349.out
       (first | subst eo55 | (injection eo55 with f1_ f2_ f3_;have f4_:=f1_.symm;have f5_:=f3_.symm;clear f1_ f2_ f3_;subst f4_;subst f5_))
       obtain ⟨Ao56,co56,eo56⟩:=Kd.R_slice HO352.out
       (first | subst eo56 | (injection eo56 with f1_ f2_ f3_;have f4_:=f1_.symm;have f5_:=f3_.symm;clear f1_ f2_ f3_;subst f4_;subst f5_))
       refine hK.out _ _ ⟨Up.c0 BK339,Up.c1 BK339,Up.c2 BK339,Up.c3 BK339,Up.c0 BK313,Up.c1 BK313,Up.c2 BK313,Up.c3 BK313⟩ (fun hHeld => ?_)
       clear hK K
       refine Up.nm 49 ?_
       refine one_ (i:=3) (N:=some 50) #[true,true,true,true,false] rfl rfl (by kernel_rfl) (by decide) (fun K hK => ?_)
       refine Up.go Try.func24 #[.agg #[.string t331,.int .i64 t332,.slice Ao46 t333.length co46,.slice Ao47 t336.length co47],.agg #[.string t345,.int .i64 t346,.slice Ao55 t347.length co55,.slice Ao56 t350.length co56]] ?_
       with_reducible refine (laws_eqValue.calls k t331 t332 _ _ t333 _ _ t336 t345 t346 _ _ t347 _ _ t350 true _ ?side1 ?side2 ?side3 ?side4 ?side5 ?side6 ?side7 ?side8 A27.out).mono ?_
       (case side1 => repeat (first | exact (Kd.R_reads' HO335.out).2.2 | (with_reducible refine Kd.C_alloc ?_ _) | (with_reducible refine Kd.C_drewN ?_ _) | (with_reducible refine Kd.C_drew ?_)))
       (case side2 => exact (Kd.R_reads' HO335.out).2.1)
       (case side3 => repeat (first | exact (Kd.R_reads' HO338.out).2.2 | (with_reducible refine Kd.C_alloc ?_ _) | (with_reducible refine Kd.C_drewN ?_ _) | (with_reducible refine Kd.C_drew ?_)))
       (case side4 => exact (Kd.R_reads' HO338.out).2.1)
       (case side5 => repeat (first | exact (Kd.R_reads' HO349.out).2.2 | (with_reducible refine Kd.C_alloc ?_ _) | (with_reducible refine Kd.C_drewN ?_ _) | (with_reducible refine Kd.C_drew ?_)))
       (case side6 => exact (Kd.R_reads' HO349.out).2.1)
       (case side7 => repeat (first | exact (Kd.R_reads' HO352.out).2.2 | (with_reducible refine Kd.C_alloc ?_ _) | (with_reducible refine Kd.C_drewN ?_ _) | (with_reducible refine Kd.C_drew ?_)))
       (case side8 => exact (Kd.R_reads' HO352.out).2.1)
       rintro e w57 ⟨rfl,hb⟩
       refine ⟨_,rfl,?_⟩
       have n0_:=Up.RB HO318 hb
       have n1_:=Up.RB HO323 hb
       have n2_:=Up.RB HO326 hb
       have n3_:=Up.RB HO330 hb
       have n4_:=Up.RB HO335 hb
       have n5_:=Up.RB HO338 hb
       have n6_:=Up.RB HO343 hb
       have n7_:=Up.RB HO349 hb
       have n8_:=Up.RB HO352 hb
       have n9_:=Up.KB BK313 hb
       have n10_:=Up.KB BK339 hb
       have n11_:=Aside0.mk (below_step (Up.Bx HB) hb)
       clear HO318
       clear HO323
       clear HO326
       clear HO330
       clear HO335
       clear HO338
       clear HO343
       clear HO349
       clear HO352
       clear BK313
       clear BK339
       clear HB
       have HO318:=n0_
       have HO323:=n1_
       have HO326:=n2_
       have HO330:=n3_
       have HO335:=n4_
       have HO338:=n5_
       have HO343:=n6_
       have HO349:=n7_
       have HO352:=n8_
       have BK313:=n9_
       have BK339:=n10_
       have HB:=n11_
       clear n0_ n1_ n2_ n3_ n4_ n5_ n6_ n7_ n8_ n9_ n10_ n11_
       (try clear hb)
       (try clear hb2)
       (try clear hk)
       (try clear hi)
       refine hK.out _ _ ⟨Up.c0 BK339,Up.c1 BK339,Up.c2 BK339,Up.c3 BK339,Up.c0 BK313,Up.c1 BK313,Up.c2 BK313,Up.c3 BK313⟩ (fun hHeld => ?_)
       clear hK K
       refine Up.nm 50 ?_
       refine Up.pn 4 (some 51) ?_
       refine done_ (by kernel_rfl) ?_
       try go_wp2
       go_ret
       exact Up.e1 (Up.Bx HB)
      ·replace c28:=Bool.eq_false_iff.mpr c28
       subst c28
       have H1 : (some false) = some r:=by rw [if_neg (show ¬ (false = true) by decide)] at H;exact H
       clear H
       have H:=H1
       clear H1
       obtain rfl:=Option.some.inj H
       go_enter Try.func7,Try.ntmps7
       try go_wp2_with (first | ((with_reducible refine gate_dst (N:=4) rfl ?_);refine Up.bx 4 39 #[.string a1_0,.int .i64 a1_1,.slice A1_2 l1_2.length c1_2,.slice A1_3 l1_3.length c1_3] ?_;intro gb313 hg w58 hbox hb;have n0_:=Up.BB HB hb;have n1_:=Aside0.mk (hbox);have n2_:=Up.gw hg HB;have n3_:=Up.gw hg HB;clear HB;have HB:=n0_;have BK313:=n1_;have GW313:=n2_;have GE313:=n3_;clear n0_ n1_ n2_ n3_ hb hbox hg) | ((with_reducible refine gate_callee (f:=18) rfl ?_);refine Up.gl (some 17) Try.func18 #[.slice A0 l0.length c0,.int .i64 1048576] ?_;(with_reducible refine (laws_szRecordSS.calls k _ _ l0 1048576 t314 _ ?side1 ?side2 A6.out).mono ?_);(case side1 => exact Up.Cx HR0 HB);(case side2 => exact HC0.out);rintro e w59 ⟨rfl,hb⟩;refine ⟨_,rfl,?_⟩;have n0_:=Up.KB BK313 hb;have n1_:=Aside0.mk (below_step (Up.Bx HB) hb);clear BK313 HB;have BK313:=n0_;have HB:=n1_;clear n0_ n1_;(try clear hb);(try clear hb2);(try clear hk);(try clear hi);have hcz60_0:=Up.c0 BK313;have hcz60_1:=Up.c1 BK313;have hcz60_2:=Up.c2 BK313;have hcz60_3:=Up.c3 BK313;have hfz60_0:=blk_frozen BK313.out 0;have hfz60_1:=blk_frozen BK313.out 1;have hfz60_2:=blk_frozen BK313.out 2;have hfz60_3:=blk_frozen BK313.out 3) | ((with_reducible refine gate_callee (f:=19) rfl ?_);refine Up.gl (some 22) Try.func19 #[.agg #[.string a1_0,.int .i64 a1_1,.slice A1_2 l1_2.length c1_2,.slice A1_3 l1_3.length c1_3],.int .i64 t314] ?_;(with_reducible refine (laws_szValue.calls k a1_0 a1_1 _ _ l1_2 _ _ l1_3 t314 t315 _ ?side1 ?side2 ?side3 ?side4 A10.out).mono ?_);(case side1 => exact Up.Cx HR1_2 HB);(case side2 => exact HC1_2.out);(case side3 => exact Up.Cx HR1_3 HB);(case side4 => exact HC1_3.out);rintro e w61 ⟨rfl,hb⟩;refine ⟨_,rfl,?_⟩;have n0_:=Up.KB BK313 hb;have n1_:=Aside0.mk (below_step (Up.Bx HB) hb);clear BK313 HB;have BK313:=n0_;have HB:=n1_;clear n0_ n1_;(try clear hb);(try clear hb2);(try clear hk);(try clear hi)))
       have n0_:=Aside0.mk (blk_drew BK313.out)
       have n1_:=Aside0.mk (below_drew1 HB.out)
       clear BK313
       clear HB
       have BK313:=n0_
       have HB:=n1_
       clear n0_ n1_
       refine start_ (n:=7) (S:=fun w' => w'.cell? ⟨gb313,0,none⟩ = some (.string a1_0) ∧ w'.cell? ⟨gb313,1,none⟩ = some (.int .i64 a1_1) ∧ w'.cell? ⟨gb313,2,none⟩ = some (.slice A1_2 l1_2.length c1_2) ∧ w'.cell? ⟨gb313,3,none⟩ = some (.slice A1_3 l1_3.length c1_3)) (ds:=[]) #[false,false,false,false,false,false,false] (by kernel_rfl) rfl rfl ⟨Up.c0 BK313,Up.c1 BK313,Up.c2 BK313,Up.c3 BK313⟩ (fun hHeld => ?_)
       generalize w61.drew = w62 at BK313 HB hHeld ⊢
       refine Up.pn 0 (some 25) ?_
       refine Up.pn 4 (some 29) ?_
       refine take_ (i:=2) (N:=some 27) (v:=?_) (a':=?_) #[true,false,true,false,true,false,false] rfl rfl (by kernel_rfl) (fun _ _ _ h => h) (Or.inl ⟨by rfl,?_⟩) hHeld ?_ ?_
       rotate_left
       ·rintro w' ⟨s0,s1,s2,s3⟩
        go_simp
        with_reducible rfl
       rotate_left
       ·simp only [Act.put,List.setIfInBounds_toArray,List.set_cons_zero,List.set_cons_succ,i64_w,i32_w]
        rfl
       refine one_ (i:=1) (N:=some 26) #[true,true,true,false,true,false,false] rfl rfl (by kernel_rfl) (by decide) (fun K hK => ?_)
       refine Up.go Try.func21 #[.slice A0 l0.length c0] ?_
       with_reducible refine (laws_toRecordSS.calls k _ _ l0 t316 _ ?side1 ?side2 A16.out).mono ?_
       (case side1 => exact Up.Cx HR0 HB)
       (case side2 => exact HC0.out)
       rintro e w63 ⟨v317,rfl,ho0,hb⟩
       refine ⟨_,rfl,?_⟩
       have n0_:=Aside0.mk (Kd.R_lower ho0 (below_size (Up.Bx HB)))
       have n1_:=Up.KB BK313 hb
       have n2_:=Aside0.mk (below_step (Up.Bx HB) hb)
       clear BK313
       clear HB
       have HO318:=n0_
       have BK313:=n1_
       have HB:=n2_
       clear n0_ n1_ n2_
       (try clear hb)
       (try clear hb2)
       (try clear hk)
       (try clear hi)
       (try clear ho0)
       refine hK.out _ _ ⟨Up.c0 BK313,Up.c1 BK313,Up.c2 BK313,Up.c3 BK313⟩ (fun hHeld => ?_)
       clear hK K
       refine Up.nm 26 ?_
       refine one_ (i:=3) (N:=some 28) #[true,true,true,true,true,false,false] rfl rfl (by kernel_rfl) (by decide) (fun K hK => ?_)
       refine Up.go Try.func22 #[.agg #[.string a1_0,.int .i64 a1_1,.slice A1_2 l1_2.length c1_2,.slice A1_3 l1_3.length c1_3]] ?_
       with_reducible refine (laws_toValue.calls k a1_0 a1_1 _ _ l1_2 _ _ l1_3 t319 t320 t321 t324 _ ?side1 ?side2 ?side3 ?side4 A17.out).mono ?_
       (case side1 => exact Up.Cx HR1_2 HB)
       (case side2 => exact HC1_2.out)
       (case side3 => exact Up.Cx HR1_3 HB)
       (case side4 => exact HC1_3.out)
       rintro e w64 ⟨v322,v325,rfl,ho0,ho1,hb⟩
       refine ⟨_,rfl,?_⟩
       have n0_:=Up.RB HO318 hb
       have n1_:=Aside0.mk (Kd.R_lower ho0 (below_size (Up.Bx HB)))
       have n2_:=Aside0.mk (Kd.R_lower ho1 (below_size (Up.Bx HB)))
       have n3_:=Up.KB BK313 hb
       have n4_:=Aside0.mk (below_step (Up.Bx HB) hb)
       clear HO318
       clear BK313
       clear HB
       have HO318:=n0_
       have HO323:=n1_
       have HO326:=n2_
       have BK313:=n3_
       have HB:=n4_
       clear n0_ n1_ n2_ n3_ n4_
       (try clear hb)
       (try clear hb2)
       (try clear hk)
       (try clear hi)
       (try clear ho0)
       (try clear ho1)
       obtain ⟨Ao65,co65,eo65⟩:=Kd.R_slice HO318.out
       (first | subst eo65 | (injection eo65 with f1_ f2_ f3_;have f4_:=f1_.symm;have f5_:=f3_.symm;clear f1_ f2_ f3_;subst f4_;subst f5_))
       obtain ⟨Ao66,co66,eo66⟩:=Kd.R_slice HO323.out
       (first | subst eo66 | (injection eo66 with f1_ f2_ f3_;have f4_:=f1_.symm;have f5_:=f3_.symm;clear f1_ f2_ f3_;subst f4_;subst f5_))
       obtain ⟨Ao67,co67,eo67⟩:=Kd.R_slice HO326.out
       (first | subst eo67 | (injection eo67 with f1_ f2_ f3_;have f4_:=f1_.symm;have f5_:=f3_.symm;clear f1_ f2_ f3_;subst f4_;subst f5_))
       refine hK.out _ _ ⟨Up.c0 BK313,Up.c1 BK313,Up.c2 BK313,Up.c3 BK313⟩ (fun hHeld => ?_)
       clear hK K
       refine Up.nm 28 ?_
       refine one_ (i:=5) (N:=some 30) #[true,true,true,true,true,true,false] rfl rfl (by kernel_rfl) (by decide) (fun K hK => ?_)
       refine Up.go Try.func17 #[.slice Ao65 t316.length co65,.agg #[.string t319,.int .i64 t320,.slice Ao66 t321.length co66,.slice Ao67 t324.length co67],.string a2] ?_
       with_reducible refine (spec_ValueCount.calls k _ _ t316 t319 t320 _ _ t321 _ _ t324 a2 t327 _ ?side1 ?side2 ?side3 ?side4 ?side5 ?side6 A18.out).mono ?_
       (case side1 => repeat (first | exact (Kd.R_reads' HO318.out).2.2 | (with_reducible refine Kd.C_alloc ?_ _) | (with_reducible refine Kd.C_drewN ?_ _) | (with_reducible refine Kd.C_drew ?_)))
       (case side2 => exact (Kd.R_reads' HO318.out).2.1)
       (case side3 => repeat (first | exact (Kd.R_reads' HO323.out).2.2 | (with_reducible refine Kd.C_alloc ?_ _) | (with_reducible refine Kd.C_drewN ?_ _) | (with_reducible refine Kd.C_drew ?_)))
       (case side4 => exact (Kd.R_reads' HO323.out).2.1)
       (case side5 => repeat (first | exact (Kd.R_reads' HO326.out).2.2 | (with_reducible refine Kd.C_alloc ?_ _) | (with_reducible refine Kd.C_drewN ?_ _) | (with_reducible refine Kd.C_drew ?_)))
       (case side6 => exact (Kd.R_reads' HO326.out).2.1)
       rintro e w68 ⟨rfl,hb⟩
       refine ⟨_,rfl,?_⟩
       have n0_:=Up.RB HO318 hb
       have n1_:=Up.RB HO323 hb
       have n2_:=Up.RB HO326 hb
       have n3_:=Up.KB BK313 hb
       have n4_:=Aside0.mk (below_step (Up.Bx HB) hb)
       clear HO318
       clear HO323
       clear HO326
       clear BK313
       clear HB
       have HO318:=n0_
       have HO323:=n1_
       have HO326:=n2_
       have BK313:=n3_
       have HB:=n4_
       clear n0_ n1_ n2_ n3_ n4_
       (try clear hb)
       (try clear hb2)
       (try clear hk)
       (try clear hi)
       refine hK.out _ _ ⟨Up.c0 BK313,Up.c1 BK313,Up.c2 BK313,Up.c3 BK313⟩ (fun hHeld => ?_)
       clear hK K
       refine Up.nm 30 ?_
       refine Up.pn 6 (some 8) ?_
       refine done_ (by kernel_rfl) ?_
       try go_wp2_with (first | ((with_reducible refine gate_callee (f:=21) rfl ?_);refine Up.gl (some 32) Try.func21 #[.slice A0 l0.length c0] ?_;(with_reducible refine (laws_toRecordSS.calls k _ _ l0 t328 _ ?side1 ?side2 A19.out).mono ?_);(case side1 => exact Up.Cx HR0 HB);(case side2 => exact HC0.out);rintro e w69 ⟨v329,rfl,ho0,hb⟩;refine ⟨_,rfl,?_⟩;have n0_:=Aside0.mk (Kd.R_elder' (Up.Rup HO318) (Kd.R_base ho0) hb);have n1_:=Up.RB HO323 hb;have n2_:=Up.RB HO326 hb;have n3_:=Aside0.mk (Kd.R_lower (Kd.R_new' ho0 (Kd.R_lt (Up.Rup HO318))) (below_size (Up.Bx HB)));have n4_:=Up.KB BK313 hb;have n5_:=Aside0.mk (below_step (Up.Bx HB) hb);clear HO318 HO323 HO326 BK313 HB;have HO318:=n0_;have HO323:=n1_;have HO326:=n2_;have HO330:=n3_;have BK313:=n4_;have HB:=n5_;clear n0_ n1_ n2_ n3_ n4_ n5_;(try clear hb);(try clear hb2);(try clear hk);(try clear hi);(try clear ho0);have hcz70_0:=Up.c0 BK313;have hcz70_1:=Up.c1 BK313;have hcz70_2:=Up.c2 BK313;have hcz70_3:=Up.c3 BK313;have hfz70_0:=blk_frozen BK313.out 0;have hfz70_1:=blk_frozen BK313.out 1;have hfz70_2:=blk_frozen BK313.out 2;have hfz70_3:=blk_frozen BK313.out 3) | ((with_reducible refine gate_callee (f:=22) rfl ?_);refine Up.gl (some 34) Try.func22 #[.agg #[.string a1_0,.int .i64 a1_1,.slice A1_2 l1_2.length c1_2,.slice A1_3 l1_3.length c1_3]] ?_;(with_reducible refine (laws_toValue.calls k a1_0 a1_1 _ _ l1_2 _ _ l1_3 t331 t332 t333 t336 _ ?side1 ?side2 ?side3 ?side4 A20.out).mono ?_);(case side1 => exact Up.Cx HR1_2 HB);(case side2 => exact HC1_2.out);(case side3 => exact Up.Cx HR1_3 HB);(case side4 => exact HC1_3.out);rintro e w71 ⟨v334,v337,rfl,ho0,ho1,hb⟩;refine ⟨_,rfl,?_⟩;have n0_:=Up.RB HO318 hb;have n1_:=Aside0.mk (Kd.R_mono (Kd.R_told (Kd.R_told (Kd.R_old (Up.Rup HO323) hb) (Kd.R_base ho0)) (Kd.R_base ho1)) (fun _ h_ => h_.1));have n2_:=Aside0.mk (Kd.R_elder' (Up.Rup HO326) (Kd.R_base ho1) hb);have n3_:=Up.RB HO330 hb;have n4_:=Aside0.mk (Kd.R_lower (Kd.R_new' (Kd.R_new' ho0 (Kd.R_lt (Up.Rup HO323))) (Kd.R_lt (Up.Rup HO326))) (below_size (Up.Bx HB)));have n5_:=Aside0.mk (Kd.R_lower (Kd.R_new' ho1 (Kd.R_lt (Up.Rup HO326))) (below_size (Up.Bx HB)));have n6_:=Up.KB BK313 hb;have n7_:=Aside0.mk (below_step (Up.Bx HB) hb);clear HO318 HO323 HO326 HO330 BK313 HB;have HO318:=n0_;have HO323:=n1_;have HO326:=n2_;have HO330:=n3_;have HO335:=n4_;have HO338:=n5_;have BK313:=n6_;have HB:=n7_;clear n0_ n1_ n2_ n3_ n4_ n5_ n6_ n7_;(try clear hb);(try clear hb2);(try clear hk);(try clear hi);(try clear ho0);(try clear ho1)) | ((with_reducible refine gate_dst (N:=10) rfl ?_);refine Up.bx 10 27 #[.string (⟨#[]⟩ : ByteArray),.int .i64 0,.slice none 0 0,.slice none 0 0] ?_;intro gb339 hg w72 hbox hb;have n0_:=Up.RB HO318 hb;have n1_:=Aside0.mk (Kd.R_below (Kd.R_elderB (Up.Rup HO323) gb339 (Nat.le_of_eq hg.symm)) hb);have n2_:=Up.RB HO326 hb;have n3_:=Up.RB HO330 hb;have n4_:=Aside0.mk (Kd.R_below (Kd.R_elderB (Up.Rup HO335) gb339 (Nat.le_of_eq hg.symm)) hb);have n5_:=Up.RB HO338 hb;have n6_:=Up.KB BK313 hb;have n7_:=Aside0.mk (below_step (Up.Bx HB) hb);have n8_:=Aside0.mk (hbox);have n9_:=Up.gw hg HB;have n10_:=Up.gw hg HB;have n11_:=Up.nl hg BK313;have n12_:=Up.ng hg BK313;clear HO318 HO323 HO326 HO330 HO335 HO338 BK313 HB;have HO318:=n0_;have HO323:=n1_;have HO326:=n2_;have HO330:=n3_;have HO335:=n4_;have HO338:=n5_;have BK313:=n6_;have HB:=n7_;have BK339:=n8_;have GW339:=n9_;have GE339:=n10_;have NB313_339:=n11_;have NB339_313:=n12_;clear n0_ n1_ n2_ n3_ n4_ n5_ n6_ n7_ n8_ n9_ n10_ n11_ n12_ hb hbox hg;have hnb73:=NB339_313.out;have hnc73:=NB313_339.out;have hcz74_0:=Up.c0 BK339;have hcz74_1:=Up.c1 BK339;have hcz74_2:=Up.c2 BK339;have hcz74_3:=Up.c3 BK339;have hfz74_0:=blk_frozen BK339.out 0;have hfz74_1:=blk_frozen BK339.out 1;have hfz74_2:=blk_frozen BK339.out 2;have hfz74_3:=blk_frozen BK339.out 3;obtain ⟨Ao75,co75,eo75⟩:=Kd.R_slice HO335.out;subst eo75;obtain ⟨Ao76,co76,eo76⟩:=Kd.R_slice HO338.out;subst eo76;obtain ⟨Ao77,co77,eo77⟩:=Kd.R_slice HO330.out;subst eo77) | ((with_reducible refine gate_callee (f:=16) rfl ?_);refine Up.gl (some 38) Try.func16 #[.slice Ao77 t328.length co77,.agg #[.string t331,.int .i64 t332,.slice Ao75 t333.length co75,.slice Ao76 t336.length co76],.string a2] ?_;(with_reducible refine (impl_ValueCount.calls k _ _ t328 t331 t332 _ _ t333 _ _ t336 a2 t340 _ ?side1 ?side2 ?side3 ?side4 ?side5 ?side6 A21.out).mono ?_);(case side1 => refine (Kd.R_reads' (e:=82) (base:=w.heap.size) (ok:=fun k_ => (True ∧ some k_ ≠ (.slice Ao65 t316.length co65 : Value).ownBlock)) (n:=t328.length) (c:=co77) ?_).2.2;exact (by (with_reducible repeat (first | apply Kd.R_alloc | apply Kd.R_drewN | apply Kd.R_drew));exact (Kd.R_mono (Kd.R_far (p:=⟨gb339,3,none⟩) (Kd.R_far (p:=⟨gb339,2,none⟩) (Kd.R_far (p:=⟨gb339,1,none⟩) (Kd.R_far (p:=⟨gb339,0,none⟩) (Kd.R_types HO330.out BK339.out (by decide)) (fun _ hk => hk.2) (.string t331)) (fun _ hk => hk.2) (.int .i64 t332)) (fun _ hk => hk.2) (.slice Ao75 t333.length co75)) (fun _ hk => hk.2) (.slice Ao76 t336.length co76)) (fun _ h_ => h_.1))));(case side2 => exact (Kd.R_reads' HO330.out).2.1);(case side3 => refine (Kd.R_reads' (e:=27) (base:=w.heap.size) (ok:=fun k_ => (((some k_ ≠ (.slice Ao76 t336.length co76 : Value).ownBlock ∧ some k_ ≠ (.slice Ao66 t321.length co66 : Value).ownBlock) ∧ some k_ ≠ (.slice Ao67 t324.length co67 : Value).ownBlock) ∧ k_ ≠ gb339)) (n:=t333.length) (c:=co75) ?_).2.2;exact (by (with_reducible repeat (first | apply Kd.R_alloc | apply Kd.R_drewN | apply Kd.R_drew));exact (Kd.R_mono (Kd.R_far (p:=⟨gb339,3,none⟩) (Kd.R_far (p:=⟨gb339,2,none⟩) (Kd.R_far (p:=⟨gb339,1,none⟩) (Kd.R_far (p:=⟨gb339,0,none⟩) (Kd.R_mono HO335.out (fun k_ hk => (⟨hk,hk.2⟩ : _ ∧ k_ ≠ gb339))) (fun _ hk => hk.2) (.string t331)) (fun _ hk => hk.2) (.int .i64 t332)) (fun _ hk => hk.2) (.slice Ao75 t333.length co75)) (fun _ hk => hk.2) (.slice Ao76 t336.length co76)) (fun _ h_ => h_.1))));(case side4 => exact (Kd.R_reads' HO335.out).2.1);(case side5 => refine (Kd.R_reads' (e:=3) (base:=w.heap.size) (ok:=fun k_ => (True ∧ some k_ ≠ (.slice Ao67 t324.length co67 : Value).ownBlock)) (n:=t336.length) (c:=co76) ?_).2.2;exact (by (with_reducible repeat (first | apply Kd.R_alloc | apply Kd.R_drewN | apply Kd.R_drew));exact (Kd.R_mono (Kd.R_far (p:=⟨gb339,3,none⟩) (Kd.R_far (p:=⟨gb339,2,none⟩) (Kd.R_far (p:=⟨gb339,1,none⟩) (Kd.R_far (p:=⟨gb339,0,none⟩) (Kd.R_types HO338.out BK339.out (by decide)) (fun _ hk => hk.2) (.string t331)) (fun _ hk => hk.2) (.int .i64 t332)) (fun _ hk => hk.2) (.slice Ao75 t333.length co75)) (fun _ hk => hk.2) (.slice Ao76 t336.length co76)) (fun _ h_ => h_.1))));(case side6 => exact (Kd.R_reads' HO338.out).2.1);rintro e w78 ⟨rfl,hb⟩;refine ⟨_,rfl,?_⟩;have n0_:=Aside0.mk (Kd.R_below (by (with_reducible repeat (first | apply Kd.R_alloc | apply Kd.R_drewN | apply Kd.R_drew));exact (Kd.R_mono (Kd.R_far (p:=⟨gb339,3,none⟩) (Kd.R_far (p:=⟨gb339,2,none⟩) (Kd.R_far (p:=⟨gb339,1,none⟩) (Kd.R_far (p:=⟨gb339,0,none⟩) (Kd.R_types HO318.out BK339.out (by decide)) (fun _ hk => hk.2) (.string t331)) (fun _ hk => hk.2) (.int .i64 t332)) (fun _ hk => hk.2) (.slice Ao75 t333.length co75)) (fun _ hk => hk.2) (.slice Ao76 t336.length co76)) (fun _ h_ => h_.1))) hb);have n1_:=Aside0.mk (Kd.R_below (by (with_reducible repeat (first | apply Kd.R_alloc | apply Kd.R_drewN | apply Kd.R_drew));exact (Kd.R_mono (Kd.R_far (p:=⟨gb339,3,none⟩) (Kd.R_far (p:=⟨gb339,2,none⟩) (Kd.R_far (p:=⟨gb339,1,none⟩) (Kd.R_far (p:=⟨gb339,0,none⟩) (Kd.R_mono HO323.out (fun k_ hk => (⟨hk,hk.2⟩ : _ ∧ k_ ≠ gb339))) (fun _ hk => hk.2) (.string t331)) (fun _ hk => hk.2) (.int .i64 t332)) (fun _ hk => hk.2) (.slice Ao75 t333.length co75)) (fun _ hk => hk.2) (.slice Ao76 t336.length co76)) (fun _ h_ => h_.1))) hb);have n2_:=Aside0.mk (Kd.R_below (by (with_reducible repeat (first | apply Kd.R_alloc | apply Kd.R_drewN | apply Kd.R_drew));exact (Kd.R_mono (Kd.R_far (p:=⟨gb339,3,none⟩) (Kd.R_far (p:=⟨gb339,2,none⟩) (Kd.R_far (p:=⟨gb339,1,none⟩) (Kd.R_far (p:=⟨gb339,0,none⟩) (Kd.R_types HO326.out BK339.out (by decide)) (fun _ hk => hk.2) (.string t331)) (fun _ hk => hk.2) (.int .i64 t332)) (fun _ hk => hk.2) (.slice Ao75 t333.length co75)) (fun _ hk => hk.2) (.slice Ao76 t336.length co76)) (fun _ h_ => h_.1))) hb);have n3_:=Aside0.mk (Kd.R_below (by (with_reducible repeat (first | apply Kd.R_alloc | apply Kd.R_drewN | apply Kd.R_drew));exact (Kd.R_mono (Kd.R_far (p:=⟨gb339,3,none⟩) (Kd.R_far (p:=⟨gb339,2,none⟩) (Kd.R_far (p:=⟨gb339,1,none⟩) (Kd.R_far (p:=⟨gb339,0,none⟩) (Kd.R_types HO330.out BK339.out (by decide)) (fun _ hk => hk.2) (.string t331)) (fun _ hk => hk.2) (.int .i64 t332)) (fun _ hk => hk.2) (.slice Ao75 t333.length co75)) (fun _ hk => hk.2) (.slice Ao76 t336.length co76)) (fun _ h_ => h_.1))) hb);have n4_:=Aside0.mk (Kd.R_below (by (with_reducible repeat (first | apply Kd.R_alloc | apply Kd.R_drewN | apply Kd.R_drew));exact (Kd.R_mono (Kd.R_far (p:=⟨gb339,3,none⟩) (Kd.R_far (p:=⟨gb339,2,none⟩) (Kd.R_far (p:=⟨gb339,1,none⟩) (Kd.R_far (p:=⟨gb339,0,none⟩) (Kd.R_mono HO335.out (fun k_ hk => (⟨hk,hk.2⟩ : _ ∧ k_ ≠ gb339))) (fun _ hk => hk.2) (.string t331)) (fun _ hk => hk.2) (.int .i64 t332)) (fun _ hk => hk.2) (.slice Ao75 t333.length co75)) (fun _ hk => hk.2) (.slice Ao76 t336.length co76)) (fun _ h_ => h_.1))) hb);have n5_:=Aside0.mk (Kd.R_below (by (with_reducible repeat (first | apply Kd.R_alloc | apply Kd.R_drewN | apply Kd.R_drew));exact (Kd.R_mono (Kd.R_far (p:=⟨gb339,3,none⟩) (Kd.R_far (p:=⟨gb339,2,none⟩) (Kd.R_far (p:=⟨gb339,1,none⟩) (Kd.R_far (p:=⟨gb339,0,none⟩) (Kd.R_types HO338.out BK339.out (by decide)) (fun _ hk => hk.2) (.string t331)) (fun _ hk => hk.2) (.int .i64 t332)) (fun _ hk => hk.2) (.slice Ao75 t333.length co75)) (fun _ hk => hk.2) (.slice Ao76 t336.length co76)) (fun _ h_ => h_.1))) hb);have n6_:=Aside0.mk (blk_below (g:=gb313) (o:=.cells #[.string a1_0,.int .i64 a1_1,.slice A1_2 l1_2.length c1_2,.slice A1_3 l1_3.length c1_3] 39 (0,0)) (Up.Kx BK313) hb);have n7_:=Aside0.mk (blk_below (g:=gb339) (o:=.cells #[.string t331,.int .i64 t332,.slice Ao75 t333.length co75,.slice Ao76 t336.length co76] 27 (0,0)) (Up.Kx BK339) hb);have n8_:=Aside0.mk (below_step (Up.Bx HB) hb);clear HO318 HO323 HO326 HO330 HO335 HO338 BK313 BK339 HB;have HO318:=n0_;have HO323:=n1_;have HO326:=n2_;have HO330:=n3_;have HO335:=n4_;have HO338:=n5_;have BK313:=n6_;have BK339:=n7_;have HB:=n8_;clear n0_ n1_ n2_ n3_ n4_ n5_ n6_ n7_ n8_;(try clear hb);(try clear hb2);(try clear hk);(try clear hi)) | ((with_reducible refine gate_callee (f:=21) rfl ?_);refine Up.gl (some 44) Try.func21 #[.slice A0 l0.length c0] ?_;(with_reducible refine (laws_toRecordSS.calls k _ _ l0 t341 _ ?side1 ?side2 A23.out).mono ?_);(case side1 => exact Up.Cx HR0 HB);(case side2 => exact HC0.out);rintro e w79 ⟨v342,rfl,ho0,hb⟩;refine ⟨_,rfl,?_⟩;have n0_:=Aside0.mk (Kd.R_elder' (Up.Rup HO318) (Kd.R_base ho0) hb);have n1_:=Up.RB HO323 hb;have n2_:=Up.RB HO326 hb;have n3_:=Aside0.mk (Kd.R_elder' (Up.Rup HO330) (Kd.R_base ho0) hb);have n4_:=Up.RB HO335 hb;have n5_:=Up.RB HO338 hb;have n6_:=Aside0.mk (Kd.R_lower (Kd.R_new' (Kd.R_new' ho0 (Kd.R_lt (Up.Rup HO318))) (Kd.R_lt (Up.Rup HO330))) (below_size (Up.Bx HB)));have n7_:=Up.KB BK313 hb;have n8_:=Up.KB BK339 hb;have n9_:=Aside0.mk (below_step (Up.Bx HB) hb);clear HO318 HO323 HO326 HO330 HO335 HO338 BK313 BK339 HB;have HO318:=n0_;have HO323:=n1_;have HO326:=n2_;have HO330:=n3_;have HO335:=n4_;have HO338:=n5_;have HO343:=n6_;have BK313:=n7_;have BK339:=n8_;have HB:=n9_;clear n0_ n1_ n2_ n3_ n4_ n5_ n6_ n7_ n8_ n9_;(try clear hb);(try clear hb2);(try clear hk);(try clear hi);(try clear ho0);obtain ⟨Ao80,co80,eo80⟩:=Kd.R_slice HO343.out;subst eo80) | ((with_reducible refine gate_callee (f:=23) rfl ?_);refine Up.gl (some 45) Try.func23 #[.slice Ao77 t328.length co77,.slice Ao80 t341.length co80] ?_;(with_reducible refine (laws_eqRecordSS.calls k _ _ t328 _ _ t341 true _ ?side1 ?side2 ?side3 ?side4 A24.out).mono ?_);(case side1 => repeat (first | exact (Kd.R_reads' HO330.out).2.2 | (with_reducible refine Kd.C_alloc ?_ _) | (with_reducible refine Kd.C_drewN ?_ _) | (with_reducible refine Kd.C_drew ?_)));(case side2 => exact (Kd.R_reads' HO330.out).2.1);(case side3 => repeat (first | exact (Kd.R_reads' HO343.out).2.2 | (with_reducible refine Kd.C_alloc ?_ _) | (with_reducible refine Kd.C_drewN ?_ _) | (with_reducible refine Kd.C_drew ?_)));(case side4 => exact (Kd.R_reads' HO343.out).2.1);rintro e w81 ⟨rfl,hb⟩;refine ⟨_,rfl,?_⟩;have n0_:=Up.RB HO318 hb;have n1_:=Up.RB HO323 hb;have n2_:=Up.RB HO326 hb;have n3_:=Up.RB HO330 hb;have n4_:=Up.RB HO335 hb;have n5_:=Up.RB HO338 hb;have n6_:=Up.RB HO343 hb;have n7_:=Up.KB BK313 hb;have n8_:=Up.KB BK339 hb;have n9_:=Aside0.mk (below_step (Up.Bx HB) hb);clear HO318 HO323 HO326 HO330 HO335 HO338 HO343 BK313 BK339 HB;have HO318:=n0_;have HO323:=n1_;have HO326:=n2_;have HO330:=n3_;have HO335:=n4_;have HO338:=n5_;have HO343:=n6_;have BK313:=n7_;have BK339:=n8_;have HB:=n9_;clear n0_ n1_ n2_ n3_ n4_ n5_ n6_ n7_ n8_ n9_;(try clear hb);(try clear hb2);(try clear hk);(try clear hi)))
       have n0_:=Aside0.mk (Kd.R_drew HO318.out)
       have n1_:=Aside0.mk (Kd.R_drew HO323.out)
       have n2_:=Aside0.mk (Kd.R_drew HO326.out)
       have n3_:=Aside0.mk (Kd.R_drew HO330.out)
       have n4_:=Aside0.mk (Kd.R_drew HO335.out)
       have n5_:=Aside0.mk (Kd.R_drew HO338.out)
       have n6_:=Aside0.mk (Kd.R_drew HO343.out)
       have n7_:=Aside0.mk (blk_drew BK313.out)
       have n8_:=Aside0.mk (blk_drew BK339.out)
       have n9_:=Aside0.mk (below_drew1 HB.out)
       clear HO318
       clear HO323
       clear HO326
       clear HO330
       clear HO335
       clear HO338
       clear HO343
       clear BK313
       clear BK339
       clear HB
       have HO318:=n0_
       have HO323:=n1_
       have HO326:=n2_
       have HO330:=n3_
       have HO335:=n4_
       have HO338:=n5_
       have HO343:=n6_
       have BK313:=n7_
       have BK339:=n8_
       have HB:=n9_
       clear n0_ n1_ n2_ n3_ n4_ n5_ n6_ n7_ n8_ n9_
       refine start_ (n:=5) (S:=fun w' => w'.cell? ⟨gb339,0,none⟩ = some (.string t331) ∧ w'.cell? ⟨gb339,1,none⟩ = some (.int .i64 t332) ∧ w'.cell? ⟨gb339,2,none⟩ = some (.slice Ao75 t333.length co75) ∧ w'.cell? ⟨gb339,3,none⟩ = some (.slice Ao76 t336.length co76) ∧ w'.cell? ⟨gb313,0,none⟩ = some (.string a1_0) ∧ w'.cell? ⟨gb313,1,none⟩ = some (.int .i64 a1_1) ∧ w'.cell? ⟨gb313,2,none⟩ = some (.slice A1_2 l1_2.length c1_2) ∧ w'.cell? ⟨gb313,3,none⟩ = some (.slice A1_3 l1_3.length c1_3)) (ds:=[]) #[false,false,false,false,false] (by kernel_rfl) rfl rfl ⟨Up.c0 BK339,Up.c1 BK339,Up.c2 BK339,Up.c3 BK339,Up.c0 BK313,Up.c1 BK313,Up.c2 BK313,Up.c3 BK313⟩ (fun hHeld => ?_)
       generalize w81.drew = w82 at HO318 HO323 HO326 HO330 HO335 HO338 HO343 BK313 BK339 HB hHeld ⊢
       refine take_ (i:=0) (N:=some 47) (v:=?_) (a':=?_) #[true,false,false,false,false] rfl rfl (by kernel_rfl) (fun _ _ _ h => h) (Or.inl ⟨by rfl,?_⟩) hHeld ?_ ?_
       rotate_left
       ·rintro w' ⟨s0,s1,s2,s3,s4,s5,s6,s7⟩
        go_simp
        with_reducible rfl
       rotate_left
       ·simp only [Act.put,List.setIfInBounds_toArray,List.set_cons_zero,List.set_cons_succ,i64_w,i32_w]
        rfl
       refine take_ (i:=1) (N:=some 48) (v:=?_) (a':=?_) #[true,true,false,false,false] rfl rfl (by kernel_rfl) (fun _ _ _ h => h) (Or.inl ⟨by rfl,?_⟩) hHeld ?_ ?_
       rotate_left
       ·rintro w' ⟨s0,s1,s2,s3,s4,s5,s6,s7⟩
        go_simp
        with_reducible rfl
       rotate_left
       ·simp only [Act.put,List.setIfInBounds_toArray,List.set_cons_zero,List.set_cons_succ,i64_w,i32_w]
        rfl
       refine one_ (i:=2) (N:=some 49) #[true,true,true,false,false] rfl rfl (by kernel_rfl) (by decide) (fun K hK => ?_)
       refine Up.go Try.func22 #[.agg #[.string a1_0,.int .i64 a1_1,.slice A1_2 l1_2.length c1_2,.slice A1_3 l1_3.length c1_3]] ?_
       with_reducible refine (laws_toValue.calls k a1_0 a1_1 _ _ l1_2 _ _ l1_3 t345 t346 t347 t350 _ ?side1 ?side2 ?side3 ?side4 A26.out).mono ?_
       (case side1 => exact Up.Cx HR1_2 HB)
       (case side2 => exact HC1_2.out)
       (case side3 => exact Up.Cx HR1_3 HB)
       (case side4 => exact HC1_3.out)
       rintro e w83 ⟨v348,v351,rfl,ho0,ho1,hb⟩
       refine ⟨_,rfl,?_⟩
       have n0_:=Up.RB HO318 hb
       have n1_:=Aside0.mk (Kd.R_mono (Kd.R_told (Kd.R_told (Kd.R_old (Up.Rup HO323) hb) (Kd.R_base ho0)) (Kd.R_base ho1)) (fun _ h_ => h_.1))
       have n2_:=Aside0.mk (Kd.R_elder' (Up.Rup HO326) (Kd.R_base ho1) hb)
       have n3_:=Up.RB HO330 hb
       have n4_:=Aside0.mk (Kd.R_mono (Kd.R_told (Kd.R_told (Kd.R_old (Up.Rup HO335) hb) (Kd.R_base ho0)) (Kd.R_base ho1)) (fun _ h_ => h_.1))
       have n5_:=Aside0.mk (Kd.R_elder' (Up.Rup HO338) (Kd.R_base ho1) hb)
       have n6_:=Up.RB HO343 hb
       have n7_:=Aside0.mk (Kd.R_lower (Kd.R_newB (Kd.R_new' (Kd.R_new' (Kd.R_new' (Kd.R_new' ho0 (Kd.R_lt (Up.Rup HO323))) (Kd.R_lt (Up.Rup HO326))) (Kd.R_lt (Up.Rup HO335))) (Kd.R_lt (Up.Rup HO338))) (g:=gb339) (o:=.cells #[.string t331,.int .i64 t332,.slice Ao75 t333.length co75,.slice Ao76 t336.length co76] 27 (0,0)) (Up.Kup BK339)) (below_size (Up.Bx HB)))
       have n8_:=Aside0.mk (Kd.R_lower (Kd.R_new' (Kd.R_new' ho1 (Kd.R_lt (Up.Rup HO326))) (Kd.R_lt (Up.Rup HO338))) (below_size (Up.Bx HB)))
       have n9_:=Up.KB BK313 hb
       have n10_:=Up.KB BK339 hb
       have n11_:=Aside0.mk (below_step (Up.Bx HB) hb)
       clear HO318
       clear HO323
       clear HO326
       clear HO330
       clear HO335
       clear HO338
       clear HO343
       clear BK313
       clear BK339
       clear HB
       have HO318:=n0_
       have HO323:=n1_
       have HO326:=n2_
       have HO330:=n3_
       have HO335:=n4_
       have HO338:=n5_
       have HO343:=n6_
       have HO349:=n7_
       have HO352:=n8_
       have BK313:=n9_
       have BK339:=n10_
       have HB:=n11_
       clear n0_ n1_ n2_ n3_ n4_ n5_ n6_ n7_ n8_ n9_ n10_ n11_
       (try clear hb)
       (try clear hb2)
       (try clear hk)
       (try clear hi)
       (try clear ho0)
       (try clear ho1)
       obtain ⟨Ao84,co84,eo84⟩:=Kd.R_slice HO349.out
       (first | subst eo84 | (injection eo84 with f1_ f2_ f3_;have f4_:=f1_.symm;have f5_:=f3_.symm;clear f1_ f2_ f3_;subst f4_;subst f5_))
       obtain ⟨Ao85,co85,eo85⟩:=Kd.R_slice HO352.out
       (first | subst eo85 | (injection eo85 with f1_ f2_ f3_;have f4_:=f1_.symm;have f5_:=f3_.symm;clear f1_ f2_ f3_;subst f4_;subst f5_))
       refine hK.out _ _ ⟨Up.c0 BK339,Up.c1 BK339,Up.c2 BK339,Up.c3 BK339,Up.c0 BK313,Up.c1 BK313,Up.c2 BK313,Up.c3 BK313⟩ (fun hHeld => ?_)
       clear hK K
       refine Up.nm 49 ?_
       refine one_ (i:=3) (N:=some 50) #[true,true,true,true,false] rfl rfl (by kernel_rfl) (by decide) (fun K hK => ?_)
       refine Up.go Try.func24 #[.agg #[.string t331,.int .i64 t332,.slice Ao75 t333.length co75,.slice Ao76 t336.length co76],.agg #[.string t345,.int .i64 t346,.slice Ao84 t347.length co84,.slice Ao85 t350.length co85]] ?_
       with_reducible refine (laws_eqValue.calls k t331 t332 _ _ t333 _ _ t336 t345 t346 _ _ t347 _ _ t350 false _ ?side1 ?side2 ?side3 ?side4 ?side5 ?side6 ?side7 ?side8 A27.out).mono ?_
       (case side1 => repeat (first | exact (Kd.R_reads' HO335.out).2.2 | (with_reducible refine Kd.C_alloc ?_ _) | (with_reducible refine Kd.C_drewN ?_ _) | (with_reducible refine Kd.C_drew ?_)))
       (case side2 => exact (Kd.R_reads' HO335.out).2.1)
       (case side3 => repeat (first | exact (Kd.R_reads' HO338.out).2.2 | (with_reducible refine Kd.C_alloc ?_ _) | (with_reducible refine Kd.C_drewN ?_ _) | (with_reducible refine Kd.C_drew ?_)))
       (case side4 => exact (Kd.R_reads' HO338.out).2.1)
       (case side5 => repeat (first | exact (Kd.R_reads' HO349.out).2.2 | (with_reducible refine Kd.C_alloc ?_ _) | (with_reducible refine Kd.C_drewN ?_ _) | (with_reducible refine Kd.C_drew ?_)))
       (case side6 => exact (Kd.R_reads' HO349.out).2.1)
       (case side7 => repeat (first | exact (Kd.R_reads' HO352.out).2.2 | (with_reducible refine Kd.C_alloc ?_ _) | (with_reducible refine Kd.C_drewN ?_ _) | (with_reducible refine Kd.C_drew ?_)))
       (case side8 => exact (Kd.R_reads' HO352.out).2.1)
       rintro e w86 ⟨rfl,hb⟩
       refine ⟨_,rfl,?_⟩
       have n0_:=Up.RB HO318 hb
       have n1_:=Up.RB HO323 hb
       have n2_:=Up.RB HO326 hb
       have n3_:=Up.RB HO330 hb
       have n4_:=Up.RB HO335 hb
       have n5_:=Up.RB HO338 hb
       have n6_:=Up.RB HO343 hb
       have n7_:=Up.RB HO349 hb
       have n8_:=Up.RB HO352 hb
       have n9_:=Up.KB BK313 hb
       have n10_:=Up.KB BK339 hb
       have n11_:=Aside0.mk (below_step (Up.Bx HB) hb)
       clear HO318
       clear HO323
       clear HO326
       clear HO330
       clear HO335
       clear HO338
       clear HO343
       clear HO349
       clear HO352
       clear BK313
       clear BK339
       clear HB
       have HO318:=n0_
       have HO323:=n1_
       have HO326:=n2_
       have HO330:=n3_
       have HO335:=n4_
       have HO338:=n5_
       have HO343:=n6_
       have HO349:=n7_
       have HO352:=n8_
       have BK313:=n9_
       have BK339:=n10_
       have HB:=n11_
       clear n0_ n1_ n2_ n3_ n4_ n5_ n6_ n7_ n8_ n9_ n10_ n11_
       (try clear hb)
       (try clear hb2)
       (try clear hk)
       (try clear hi)
       refine hK.out _ _ ⟨Up.c0 BK339,Up.c1 BK339,Up.c2 BK339,Up.c3 BK339,Up.c0 BK313,Up.c1 BK313,Up.c2 BK313,Up.c3 BK313⟩ (fun hHeld => ?_)
       clear hK K
       refine Up.nm 50 ?_
       refine Up.pn 4 (some 51) ?_
       refine done_ (by kernel_rfl) ?_
       try go_wp2
       go_ret
       exact Up.e1 (Up.Bx HB)
     ·replace c25:=Bool.eq_false_iff.mpr c25
      subst c25
      have H1 : (some false) = some r:=by rw [if_neg (show ¬ (false = true) by decide)] at H;exact H
      clear H
      have H:=H1
      clear H1
      obtain rfl:=Option.some.inj H
      go_enter Try.func7,Try.ntmps7
      try go_wp2_with (first | ((with_reducible refine gate_dst (N:=4) rfl ?_);refine Up.bx 4 39 #[.string a1_0,.int .i64 a1_1,.slice A1_2 l1_2.length c1_2,.slice A1_3 l1_3.length c1_3] ?_;intro gb313 hg w87 hbox hb;have n0_:=Up.BB HB hb;have n1_:=Aside0.mk (hbox);have n2_:=Up.gw hg HB;have n3_:=Up.gw hg HB;clear HB;have HB:=n0_;have BK313:=n1_;have GW313:=n2_;have GE313:=n3_;clear n0_ n1_ n2_ n3_ hb hbox hg) | ((with_reducible refine gate_callee (f:=18) rfl ?_);refine Up.gl (some 17) Try.func18 #[.slice A0 l0.length c0,.int .i64 1048576] ?_;(with_reducible refine (laws_szRecordSS.calls k _ _ l0 1048576 t314 _ ?side1 ?side2 A6.out).mono ?_);(case side1 => exact Up.Cx HR0 HB);(case side2 => exact HC0.out);rintro e w88 ⟨rfl,hb⟩;refine ⟨_,rfl,?_⟩;have n0_:=Up.KB BK313 hb;have n1_:=Aside0.mk (below_step (Up.Bx HB) hb);clear BK313 HB;have BK313:=n0_;have HB:=n1_;clear n0_ n1_;(try clear hb);(try clear hb2);(try clear hk);(try clear hi);have hcz89_0:=Up.c0 BK313;have hcz89_1:=Up.c1 BK313;have hcz89_2:=Up.c2 BK313;have hcz89_3:=Up.c3 BK313;have hfz89_0:=blk_frozen BK313.out 0;have hfz89_1:=blk_frozen BK313.out 1;have hfz89_2:=blk_frozen BK313.out 2;have hfz89_3:=blk_frozen BK313.out 3) | ((with_reducible refine gate_callee (f:=19) rfl ?_);refine Up.gl (some 22) Try.func19 #[.agg #[.string a1_0,.int .i64 a1_1,.slice A1_2 l1_2.length c1_2,.slice A1_3 l1_3.length c1_3],.int .i64 t314] ?_;(with_reducible refine (laws_szValue.calls k a1_0 a1_1 _ _ l1_2 _ _ l1_3 t314 t315 _ ?side1 ?side2 ?side3 ?side4 A10.out).mono ?_);(case side1 => exact Up.Cx HR1_2 HB);(case side2 => exact HC1_2.out);(case side3 => exact Up.Cx HR1_3 HB);(case side4 => exact HC1_3.out);rintro e w90 ⟨rfl,hb⟩;refine ⟨_,rfl,?_⟩;have n0_:=Up.KB BK313 hb;have n1_:=Aside0.mk (below_step (Up.Bx HB) hb);clear BK313 HB;have BK313:=n0_;have HB:=n1_;clear n0_ n1_;(try clear hb);(try clear hb2);(try clear hk);(try clear hi)))
      have n0_:=Aside0.mk (blk_drew BK313.out)
      have n1_:=Aside0.mk (below_drew1 HB.out)
      clear BK313
      clear HB
      have BK313:=n0_
      have HB:=n1_
      clear n0_ n1_
      refine start_ (n:=7) (S:=fun w' => w'.cell? ⟨gb313,0,none⟩ = some (.string a1_0) ∧ w'.cell? ⟨gb313,1,none⟩ = some (.int .i64 a1_1) ∧ w'.cell? ⟨gb313,2,none⟩ = some (.slice A1_2 l1_2.length c1_2) ∧ w'.cell? ⟨gb313,3,none⟩ = some (.slice A1_3 l1_3.length c1_3)) (ds:=[]) #[false,false,false,false,false,false,false] (by kernel_rfl) rfl rfl ⟨Up.c0 BK313,Up.c1 BK313,Up.c2 BK313,Up.c3 BK313⟩ (fun hHeld => ?_)
      generalize w90.drew = w91 at BK313 HB hHeld ⊢
      refine Up.pn 0 (some 25) ?_
      refine Up.pn 4 (some 29) ?_
      refine take_ (i:=2) (N:=some 27) (v:=?_) (a':=?_) #[true,false,true,false,true,false,false] rfl rfl (by kernel_rfl) (fun _ _ _ h => h) (Or.inl ⟨by rfl,?_⟩) hHeld ?_ ?_
      rotate_left
      ·rintro w' ⟨s0,s1,s2,s3⟩
       go_simp
       with_reducible rfl
      rotate_left
      ·simp only [Act.put,List.setIfInBounds_toArray,List.set_cons_zero,List.set_cons_succ,i64_w,i32_w]
       rfl
      refine one_ (i:=1) (N:=some 26) #[true,true,true,false,true,false,false] rfl rfl (by kernel_rfl) (by decide) (fun K hK => ?_)
      refine Up.go Try.func21 #[.slice A0 l0.length c0] ?_
      with_reducible refine (laws_toRecordSS.calls k _ _ l0 t316 _ ?side1 ?side2 A16.out).mono ?_
      (case side1 => exact Up.Cx HR0 HB)
      (case side2 => exact HC0.out)
      rintro e w92 ⟨v317,rfl,ho0,hb⟩
      refine ⟨_,rfl,?_⟩
      have n0_:=Aside0.mk (Kd.R_lower ho0 (below_size (Up.Bx HB)))
      have n1_:=Up.KB BK313 hb
      have n2_:=Aside0.mk (below_step (Up.Bx HB) hb)
      clear BK313
      clear HB
      have HO318:=n0_
      have BK313:=n1_
      have HB:=n2_
      clear n0_ n1_ n2_
      (try clear hb)
      (try clear hb2)
      (try clear hk)
      (try clear hi)
      (try clear ho0)
      refine hK.out _ _ ⟨Up.c0 BK313,Up.c1 BK313,Up.c2 BK313,Up.c3 BK313⟩ (fun hHeld => ?_)
      clear hK K
      refine Up.nm 26 ?_
      refine one_ (i:=3) (N:=some 28) #[true,true,true,true,true,false,false] rfl rfl (by kernel_rfl) (by decide) (fun K hK => ?_)
      refine Up.go Try.func22 #[.agg #[.string a1_0,.int .i64 a1_1,.slice A1_2 l1_2.length c1_2,.slice A1_3 l1_3.length c1_3]] ?_
      with_reducible refine (laws_toValue.calls k a1_0 a1_1 _ _ l1_2 _ _ l1_3 t319 t320 t321 t324 _ ?side1 ?side2 ?side3 ?side4 A17.out).mono ?_
      (case side1 => exact Up.Cx HR1_2 HB)
      (case side2 => exact HC1_2.out)
      (case side3 => exact Up.Cx HR1_3 HB)
      (case side4 => exact HC1_3.out)
      rintro e w93 ⟨v322,v325,rfl,ho0,ho1,hb⟩
      refine ⟨_,rfl,?_⟩
      have n0_:=Up.RB HO318 hb
      have n1_:=Aside0.mk (Kd.R_lower ho0 (below_size (Up.Bx HB)))
      have n2_:=Aside0.mk (Kd.R_lower ho1 (below_size (Up.Bx HB)))
      have n3_:=Up.KB BK313 hb
      have n4_:=Aside0.mk (below_step (Up.Bx HB) hb)
      clear HO318
      clear BK313
      clear HB
      have HO318:=n0_
      have HO323:=n1_
      have HO326:=n2_
      have BK313:=n3_
      have HB:=n4_
      clear n0_ n1_ n2_ n3_ n4_
      (try clear hb)
      (try clear hb2)
      (try clear hk)
      (try clear hi)
      (try clear ho0)
      (try clear ho1)
      obtain ⟨Ao94,co94,eo94⟩:=Kd.R_slice HO318.out
      (first | subst eo94 | (injection eo94 with f1_ f2_ f3_;have f4_:=f1_.symm;have f5_:=f3_.symm;clear f1_ f2_ f3_;subst f4_;subst f5_))
      obtain ⟨Ao95,co95,eo95⟩:=Kd.R_slice HO323.out
      (first | subst eo95 | (injection eo95 with f1_ f2_ f3_;have f4_:=f1_.symm;have f5_:=f3_.symm;clear f1_ f2_ f3_;subst f4_;subst f5_))
      obtain ⟨Ao96,co96,eo96⟩:=Kd.R_slice HO326.out
      (first | subst eo96 | (injection eo96 with f1_ f2_ f3_;have f4_:=f1_.symm;have f5_:=f3_.symm;clear f1_ f2_ f3_;subst f4_;subst f5_))
      refine hK.out _ _ ⟨Up.c0 BK313,Up.c1 BK313,Up.c2 BK313,Up.c3 BK313⟩ (fun hHeld => ?_)
      clear hK K
      refine Up.nm 28 ?_
      refine one_ (i:=5) (N:=some 30) #[true,true,true,true,true,true,false] rfl rfl (by kernel_rfl) (by decide) (fun K hK => ?_)
      refine Up.go Try.func17 #[.slice Ao94 t316.length co94,.agg #[.string t319,.int .i64 t320,.slice Ao95 t321.length co95,.slice Ao96 t324.length co96],.string a2] ?_
      with_reducible refine (spec_ValueCount.calls k _ _ t316 t319 t320 _ _ t321 _ _ t324 a2 t327 _ ?side1 ?side2 ?side3 ?side4 ?side5 ?side6 A18.out).mono ?_
      (case side1 => repeat (first | exact (Kd.R_reads' HO318.out).2.2 | (with_reducible refine Kd.C_alloc ?_ _) | (with_reducible refine Kd.C_drewN ?_ _) | (with_reducible refine Kd.C_drew ?_)))
      (case side2 => exact (Kd.R_reads' HO318.out).2.1)
      (case side3 => repeat (first | exact (Kd.R_reads' HO323.out).2.2 | (with_reducible refine Kd.C_alloc ?_ _) | (with_reducible refine Kd.C_drewN ?_ _) | (with_reducible refine Kd.C_drew ?_)))
      (case side4 => exact (Kd.R_reads' HO323.out).2.1)
      (case side5 => repeat (first | exact (Kd.R_reads' HO326.out).2.2 | (with_reducible refine Kd.C_alloc ?_ _) | (with_reducible refine Kd.C_drewN ?_ _) | (with_reducible refine Kd.C_drew ?_)))
      (case side6 => exact (Kd.R_reads' HO326.out).2.1)
      rintro e w97 ⟨rfl,hb⟩
      refine ⟨_,rfl,?_⟩
      have n0_:=Up.RB HO318 hb
      have n1_:=Up.RB HO323 hb
      have n2_:=Up.RB HO326 hb
      have n3_:=Up.KB BK313 hb
      have n4_:=Aside0.mk (below_step (Up.Bx HB) hb)
      clear HO318
      clear HO323
      clear HO326
      clear BK313
      clear HB
      have HO318:=n0_
      have HO323:=n1_
      have HO326:=n2_
      have BK313:=n3_
      have HB:=n4_
      clear n0_ n1_ n2_ n3_ n4_
      (try clear hb)
      (try clear hb2)
      (try clear hk)
      (try clear hi)
      refine hK.out _ _ ⟨Up.c0 BK313,Up.c1 BK313,Up.c2 BK313,Up.c3 BK313⟩ (fun hHeld => ?_)
      clear hK K
      refine Up.nm 30 ?_
      refine Up.pn 6 (some 8) ?_
      refine done_ (by kernel_rfl) ?_
      try go_wp2_with (first | ((with_reducible refine gate_callee (f:=21) rfl ?_);refine Up.gl (some 32) Try.func21 #[.slice A0 l0.length c0] ?_;(with_reducible refine (laws_toRecordSS.calls k _ _ l0 t328 _ ?side1 ?side2 A19.out).mono ?_);(case side1 => exact Up.Cx HR0 HB);(case side2 => exact HC0.out);rintro e w98 ⟨v329,rfl,ho0,hb⟩;refine ⟨_,rfl,?_⟩;have n0_:=Aside0.mk (Kd.R_elder' (Up.Rup HO318) (Kd.R_base ho0) hb);have n1_:=Up.RB HO323 hb;have n2_:=Up.RB HO326 hb;have n3_:=Aside0.mk (Kd.R_lower (Kd.R_new' ho0 (Kd.R_lt (Up.Rup HO318))) (below_size (Up.Bx HB)));have n4_:=Up.KB BK313 hb;have n5_:=Aside0.mk (below_step (Up.Bx HB) hb);clear HO318 HO323 HO326 BK313 HB;have HO318:=n0_;have HO323:=n1_;have HO326:=n2_;have HO330:=n3_;have BK313:=n4_;have HB:=n5_;clear n0_ n1_ n2_ n3_ n4_ n5_;(try clear hb);(try clear hb2);(try clear hk);(try clear hi);(try clear ho0);have hcz99_0:=Up.c0 BK313;have hcz99_1:=Up.c1 BK313;have hcz99_2:=Up.c2 BK313;have hcz99_3:=Up.c3 BK313;have hfz99_0:=blk_frozen BK313.out 0;have hfz99_1:=blk_frozen BK313.out 1;have hfz99_2:=blk_frozen BK313.out 2;have hfz99_3:=blk_frozen BK313.out 3) | ((with_reducible refine gate_callee (f:=22) rfl ?_);refine Up.gl (some 34) Try.func22 #[.agg #[.string a1_0,.int .i64 a1_1,.slice A1_2 l1_2.length c1_2,.slice A1_3 l1_3.length c1_3]] ?_;(with_reducible refine (laws_toValue.calls k a1_0 a1_1 _ _ l1_2 _ _ l1_3 t331 t332 t333 t336 _ ?side1 ?side2 ?side3 ?side4 A20.out).mono ?_);(case side1 => exact Up.Cx HR1_2 HB);(case side2 => exact HC1_2.out);(case side3 => exact Up.Cx HR1_3 HB);(case side4 => exact HC1_3.out);rintro e w100 ⟨v334,v337,rfl,ho0,ho1,hb⟩;refine ⟨_,rfl,?_⟩;have n0_:=Up.RB HO318 hb;have n1_:=Aside0.mk (Kd.R_mono (Kd.R_told (Kd.R_told (Kd.R_old (Up.Rup HO323) hb) (Kd.R_base ho0)) (Kd.R_base ho1)) (fun _ h_ => h_.1));have n2_:=Aside0.mk (Kd.R_elder' (Up.Rup HO326) (Kd.R_base ho1) hb);have n3_:=Up.RB HO330 hb;have n4_:=Aside0.mk (Kd.R_lower (Kd.R_new' (Kd.R_new' ho0 (Kd.R_lt (Up.Rup HO323))) (Kd.R_lt (Up.Rup HO326))) (below_size (Up.Bx HB)));have n5_:=Aside0.mk (Kd.R_lower (Kd.R_new' ho1 (Kd.R_lt (Up.Rup HO326))) (below_size (Up.Bx HB)));have n6_:=Up.KB BK313 hb;have n7_:=Aside0.mk (below_step (Up.Bx HB) hb);clear HO318 HO323 HO326 HO330 BK313 HB;have HO318:=n0_;have HO323:=n1_;have HO326:=n2_;have HO330:=n3_;have HO335:=n4_;have HO338:=n5_;have BK313:=n6_;have HB:=n7_;clear n0_ n1_ n2_ n3_ n4_ n5_ n6_ n7_;(try clear hb);(try clear hb2);(try clear hk);(try clear hi);(try clear ho0);(try clear ho1)) | ((with_reducible refine gate_dst (N:=10) rfl ?_);refine Up.bx 10 27 #[.string (⟨#[]⟩ : ByteArray),.int .i64 0,.slice none 0 0,.slice none 0 0] ?_;intro gb339 hg w101 hbox hb;have n0_:=Up.RB HO318 hb;have n1_:=Aside0.mk (Kd.R_below (Kd.R_elderB (Up.Rup HO323) gb339 (Nat.le_of_eq hg.symm)) hb);have n2_:=Up.RB HO326 hb;have n3_:=Up.RB HO330 hb;have n4_:=Aside0.mk (Kd.R_below (Kd.R_elderB (Up.Rup HO335) gb339 (Nat.le_of_eq hg.symm)) hb);have n5_:=Up.RB HO338 hb;have n6_:=Up.KB BK313 hb;have n7_:=Aside0.mk (below_step (Up.Bx HB) hb);have n8_:=Aside0.mk (hbox);have n9_:=Up.gw hg HB;have n10_:=Up.gw hg HB;have n11_:=Up.nl hg BK313;have n12_:=Up.ng hg BK313;clear HO318 HO323 HO326 HO330 HO335 HO338 BK313 HB;have HO318:=n0_;have HO323:=n1_;have HO326:=n2_;have HO330:=n3_;have HO335:=n4_;have HO338:=n5_;have BK313:=n6_;have HB:=n7_;have BK339:=n8_;have GW339:=n9_;have GE339:=n10_;have NB313_339:=n11_;have NB339_313:=n12_;clear n0_ n1_ n2_ n3_ n4_ n5_ n6_ n7_ n8_ n9_ n10_ n11_ n12_ hb hbox hg;have hnb102:=NB339_313.out;have hnc102:=NB313_339.out;have hcz103_0:=Up.c0 BK339;have hcz103_1:=Up.c1 BK339;have hcz103_2:=Up.c2 BK339;have hcz103_3:=Up.c3 BK339;have hfz103_0:=blk_frozen BK339.out 0;have hfz103_1:=blk_frozen BK339.out 1;have hfz103_2:=blk_frozen BK339.out 2;have hfz103_3:=blk_frozen BK339.out 3;obtain ⟨Ao104,co104,eo104⟩:=Kd.R_slice HO335.out;subst eo104;obtain ⟨Ao105,co105,eo105⟩:=Kd.R_slice HO338.out;subst eo105;obtain ⟨Ao106,co106,eo106⟩:=Kd.R_slice HO330.out;subst eo106) | ((with_reducible refine gate_callee (f:=16) rfl ?_);refine Up.gl (some 38) Try.func16 #[.slice Ao106 t328.length co106,.agg #[.string t331,.int .i64 t332,.slice Ao104 t333.length co104,.slice Ao105 t336.length co105],.string a2] ?_;(with_reducible refine (impl_ValueCount.calls k _ _ t328 t331 t332 _ _ t333 _ _ t336 a2 t340 _ ?side1 ?side2 ?side3 ?side4 ?side5 ?side6 A21.out).mono ?_);(case side1 => refine (Kd.R_reads' (e:=82) (base:=w.heap.size) (ok:=fun k_ => (True ∧ some k_ ≠ (.slice Ao94 t316.length co94 : Value).ownBlock)) (n:=t328.length) (c:=co106) ?_).2.2;exact (by (with_reducible repeat (first | apply Kd.R_alloc | apply Kd.R_drewN | apply Kd.R_drew));exact (Kd.R_mono (Kd.R_far (p:=⟨gb339,3,none⟩) (Kd.R_far (p:=⟨gb339,2,none⟩) (Kd.R_far (p:=⟨gb339,1,none⟩) (Kd.R_far (p:=⟨gb339,0,none⟩) (Kd.R_types HO330.out BK339.out (by decide)) (fun _ hk => hk.2) (.string t331)) (fun _ hk => hk.2) (.int .i64 t332)) (fun _ hk => hk.2) (.slice Ao104 t333.length co104)) (fun _ hk => hk.2) (.slice Ao105 t336.length co105)) (fun _ h_ => h_.1))));(case side2 => exact (Kd.R_reads' HO330.out).2.1);(case side3 => refine (Kd.R_reads' (e:=27) (base:=w.heap.size) (ok:=fun k_ => (((some k_ ≠ (.slice Ao105 t336.length co105 : Value).ownBlock ∧ some k_ ≠ (.slice Ao95 t321.length co95 : Value).ownBlock) ∧ some k_ ≠ (.slice Ao96 t324.length co96 : Value).ownBlock) ∧ k_ ≠ gb339)) (n:=t333.length) (c:=co104) ?_).2.2;exact (by (with_reducible repeat (first | apply Kd.R_alloc | apply Kd.R_drewN | apply Kd.R_drew));exact (Kd.R_mono (Kd.R_far (p:=⟨gb339,3,none⟩) (Kd.R_far (p:=⟨gb339,2,none⟩) (Kd.R_far (p:=⟨gb339,1,none⟩) (Kd.R_far (p:=⟨gb339,0,none⟩) (Kd.R_mono HO335.out (fun k_ hk => (⟨hk,hk.2⟩ : _ ∧ k_ ≠ gb339))) (fun _ hk => hk.2) (.string t331)) (fun _ hk => hk.2) (.int .i64 t332)) (fun _ hk => hk.2) (.slice Ao104 t333.length co104)) (fun _ hk => hk.2) (.slice Ao105 t336.length co105)) (fun _ h_ => h_.1))));(case side4 => exact (Kd.R_reads' HO335.out).2.1);(case side5 => refine (Kd.R_reads' (e:=3) (base:=w.heap.size) (ok:=fun k_ => (True ∧ some k_ ≠ (.slice Ao96 t324.length co96 : Value).ownBlock)) (n:=t336.length) (c:=co105) ?_).2.2;exact (by (with_reducible repeat (first | apply Kd.R_alloc | apply Kd.R_drewN | apply Kd.R_drew));exact (Kd.R_mono (Kd.R_far (p:=⟨gb339,3,none⟩) (Kd.R_far (p:=⟨gb339,2,none⟩) (Kd.R_far (p:=⟨gb339,1,none⟩) (Kd.R_far (p:=⟨gb339,0,none⟩) (Kd.R_types HO338.out BK339.out (by decide)) (fun _ hk => hk.2) (.string t331)) (fun _ hk => hk.2) (.int .i64 t332)) (fun _ hk => hk.2) (.slice Ao104 t333.length co104)) (fun _ hk => hk.2) (.slice Ao105 t336.length co105)) (fun _ h_ => h_.1))));(case side6 => exact (Kd.R_reads' HO338.out).2.1);rintro e w107 ⟨rfl,hb⟩;refine ⟨_,rfl,?_⟩;have n0_:=Aside0.mk (Kd.R_below (by (with_reducible repeat (first | apply Kd.R_alloc | apply Kd.R_drewN | apply Kd.R_drew));exact (Kd.R_mono (Kd.R_far (p:=⟨gb339,3,none⟩) (Kd.R_far (p:=⟨gb339,2,none⟩) (Kd.R_far (p:=⟨gb339,1,none⟩) (Kd.R_far (p:=⟨gb339,0,none⟩) (Kd.R_types HO318.out BK339.out (by decide)) (fun _ hk => hk.2) (.string t331)) (fun _ hk => hk.2) (.int .i64 t332)) (fun _ hk => hk.2) (.slice Ao104 t333.length co104)) (fun _ hk => hk.2) (.slice Ao105 t336.length co105)) (fun _ h_ => h_.1))) hb);have n1_:=Aside0.mk (Kd.R_below (by (with_reducible repeat (first | apply Kd.R_alloc | apply Kd.R_drewN | apply Kd.R_drew));exact (Kd.R_mono (Kd.R_far (p:=⟨gb339,3,none⟩) (Kd.R_far (p:=⟨gb339,2,none⟩) (Kd.R_far (p:=⟨gb339,1,none⟩) (Kd.R_far (p:=⟨gb339,0,none⟩) (Kd.R_mono HO323.out (fun k_ hk => (⟨hk,hk.2⟩ : _ ∧ k_ ≠ gb339))) (fun _ hk => hk.2) (.string t331)) (fun _ hk => hk.2) (.int .i64 t332)) (fun _ hk => hk.2) (.slice Ao104 t333.length co104)) (fun _ hk => hk.2) (.slice Ao105 t336.length co105)) (fun _ h_ => h_.1))) hb);have n2_:=Aside0.mk (Kd.R_below (by (with_reducible repeat (first | apply Kd.R_alloc | apply Kd.R_drewN | apply Kd.R_drew));exact (Kd.R_mono (Kd.R_far (p:=⟨gb339,3,none⟩) (Kd.R_far (p:=⟨gb339,2,none⟩) (Kd.R_far (p:=⟨gb339,1,none⟩) (Kd.R_far (p:=⟨gb339,0,none⟩) (Kd.R_types HO326.out BK339.out (by decide)) (fun _ hk => hk.2) (.string t331)) (fun _ hk => hk.2) (.int .i64 t332)) (fun _ hk => hk.2) (.slice Ao104 t333.length co104)) (fun _ hk => hk.2) (.slice Ao105 t336.length co105)) (fun _ h_ => h_.1))) hb);have n3_:=Aside0.mk (Kd.R_below (by (with_reducible repeat (first | apply Kd.R_alloc | apply Kd.R_drewN | apply Kd.R_drew));exact (Kd.R_mono (Kd.R_far (p:=⟨gb339,3,none⟩) (Kd.R_far (p:=⟨gb339,2,none⟩) (Kd.R_far (p:=⟨gb339,1,none⟩) (Kd.R_far (p:=⟨gb339,0,none⟩) (Kd.R_types HO330.out BK339.out (by decide)) (fun _ hk => hk.2) (.string t331)) (fun _ hk => hk.2) (.int .i64 t332)) (fun _ hk => hk.2) (.slice Ao104 t333.length co104)) (fun _ hk => hk.2) (.slice Ao105 t336.length co105)) (fun _ h_ => h_.1))) hb);have n4_:=Aside0.mk (Kd.R_below (by (with_reducible repeat (first | apply Kd.R_alloc | apply Kd.R_drewN | apply Kd.R_drew));exact (Kd.R_mono (Kd.R_far (p:=⟨gb339,3,none⟩) (Kd.R_far (p:=⟨gb339,2,none⟩) (Kd.R_far (p:=⟨gb339,1,none⟩) (Kd.R_far (p:=⟨gb339,0,none⟩) (Kd.R_mono HO335.out (fun k_ hk => (⟨hk,hk.2⟩ : _ ∧ k_ ≠ gb339))) (fun _ hk => hk.2) (.string t331)) (fun _ hk => hk.2) (.int .i64 t332)) (fun _ hk => hk.2) (.slice Ao104 t333.length co104)) (fun _ hk => hk.2) (.slice Ao105 t336.length co105)) (fun _ h_ => h_.1))) hb);have n5_:=Aside0.mk (Kd.R_below (by (with_reducible repeat (first | apply Kd.R_alloc | apply Kd.R_drewN | apply Kd.R_drew));exact (Kd.R_mono (Kd.R_far (p:=⟨gb339,3,none⟩) (Kd.R_far (p:=⟨gb339,2,none⟩) (Kd.R_far (p:=⟨gb339,1,none⟩) (Kd.R_far (p:=⟨gb339,0,none⟩) (Kd.R_types HO338.out BK339.out (by decide)) (fun _ hk => hk.2) (.string t331)) (fun _ hk => hk.2) (.int .i64 t332)) (fun _ hk => hk.2) (.slice Ao104 t333.length co104)) (fun _ hk => hk.2) (.slice Ao105 t336.length co105)) (fun _ h_ => h_.1))) hb);have n6_:=Aside0.mk (blk_below (g:=gb313) (o:=.cells #[.string a1_0,.int .i64 a1_1,.slice A1_2 l1_2.length c1_2,.slice A1_3 l1_3.length c1_3] 39 (0,0)) (Up.Kx BK313) hb);have n7_:=Aside0.mk (blk_below (g:=gb339) (o:=.cells #[.string t331,.int .i64 t332,.slice Ao104 t333.length co104,.slice Ao105 t336.length co105] 27 (0,0)) (Up.Kx BK339) hb);have n8_:=Aside0.mk (below_step (Up.Bx HB) hb);clear HO318 HO323 HO326 HO330 HO335 HO338 BK313 BK339 HB;have HO318:=n0_;have HO323:=n1_;have HO326:=n2_;have HO330:=n3_;have HO335:=n4_;have HO338:=n5_;have BK313:=n6_;have BK339:=n7_;have HB:=n8_;clear n0_ n1_ n2_ n3_ n4_ n5_ n6_ n7_ n8_;(try clear hb);(try clear hb2);(try clear hk);(try clear hi)) | ((with_reducible refine gate_callee (f:=21) rfl ?_);refine Up.gl (some 44) Try.func21 #[.slice A0 l0.length c0] ?_;(with_reducible refine (laws_toRecordSS.calls k _ _ l0 t341 _ ?side1 ?side2 A23.out).mono ?_);(case side1 => exact Up.Cx HR0 HB);(case side2 => exact HC0.out);rintro e w108 ⟨v342,rfl,ho0,hb⟩;refine ⟨_,rfl,?_⟩;have n0_:=Aside0.mk (Kd.R_elder' (Up.Rup HO318) (Kd.R_base ho0) hb);have n1_:=Up.RB HO323 hb;have n2_:=Up.RB HO326 hb;have n3_:=Aside0.mk (Kd.R_elder' (Up.Rup HO330) (Kd.R_base ho0) hb);have n4_:=Up.RB HO335 hb;have n5_:=Up.RB HO338 hb;have n6_:=Aside0.mk (Kd.R_lower (Kd.R_new' (Kd.R_new' ho0 (Kd.R_lt (Up.Rup HO318))) (Kd.R_lt (Up.Rup HO330))) (below_size (Up.Bx HB)));have n7_:=Up.KB BK313 hb;have n8_:=Up.KB BK339 hb;have n9_:=Aside0.mk (below_step (Up.Bx HB) hb);clear HO318 HO323 HO326 HO330 HO335 HO338 BK313 BK339 HB;have HO318:=n0_;have HO323:=n1_;have HO326:=n2_;have HO330:=n3_;have HO335:=n4_;have HO338:=n5_;have HO343:=n6_;have BK313:=n7_;have BK339:=n8_;have HB:=n9_;clear n0_ n1_ n2_ n3_ n4_ n5_ n6_ n7_ n8_ n9_;(try clear hb);(try clear hb2);(try clear hk);(try clear hi);(try clear ho0);obtain ⟨Ao109,co109,eo109⟩:=Kd.R_slice HO343.out;subst eo109) | ((with_reducible refine gate_callee (f:=23) rfl ?_);refine Up.gl (some 45) Try.func23 #[.slice Ao106 t328.length co106,.slice Ao109 t341.length co109] ?_;(with_reducible refine (laws_eqRecordSS.calls k _ _ t328 _ _ t341 false _ ?side1 ?side2 ?side3 ?side4 A24.out).mono ?_);(case side1 => repeat (first | exact (Kd.R_reads' HO330.out).2.2 | (with_reducible refine Kd.C_alloc ?_ _) | (with_reducible refine Kd.C_drewN ?_ _) | (with_reducible refine Kd.C_drew ?_)));(case side2 => exact (Kd.R_reads' HO330.out).2.1);(case side3 => repeat (first | exact (Kd.R_reads' HO343.out).2.2 | (with_reducible refine Kd.C_alloc ?_ _) | (with_reducible refine Kd.C_drewN ?_ _) | (with_reducible refine Kd.C_drew ?_)));(case side4 => exact (Kd.R_reads' HO343.out).2.1);rintro e w110 ⟨rfl,hb⟩;refine ⟨_,rfl,?_⟩;have n0_:=Up.RB HO318 hb;have n1_:=Up.RB HO323 hb;have n2_:=Up.RB HO326 hb;have n3_:=Up.RB HO330 hb;have n4_:=Up.RB HO335 hb;have n5_:=Up.RB HO338 hb;have n6_:=Up.RB HO343 hb;have n7_:=Up.KB BK313 hb;have n8_:=Up.KB BK339 hb;have n9_:=Aside0.mk (below_step (Up.Bx HB) hb);clear HO318 HO323 HO326 HO330 HO335 HO338 HO343 BK313 BK339 HB;have HO318:=n0_;have HO323:=n1_;have HO326:=n2_;have HO330:=n3_;have HO335:=n4_;have HO338:=n5_;have HO343:=n6_;have BK313:=n7_;have BK339:=n8_;have HB:=n9_;clear n0_ n1_ n2_ n3_ n4_ n5_ n6_ n7_ n8_ n9_;(try clear hb);(try clear hb2);(try clear hk);(try clear hi)))
      go_ret
      exact Up.e1 (Up.Bx HB)
    ·rw [if_neg c22] at H
     have c22b0 : (t340 == t327) = false:=beq_eq_false_iff_ne.mpr c22
     have c22b1 : (t340 != t327) = true:=bne_iff_ne.mpr c22
     obtain rfl:=Option.some.inj H
     go_enter Try.func7,Try.ntmps7
     try go_wp2_with (first | ((with_reducible refine gate_dst (N:=4) rfl ?_);refine Up.bx 4 39 #[.string a1_0,.int .i64 a1_1,.slice A1_2 l1_2.length c1_2,.slice A1_3 l1_3.length c1_3] ?_;intro gb313 hg w111 hbox hb;have n0_:=Up.BB HB hb;have n1_:=Aside0.mk (hbox);have n2_:=Up.gw hg HB;have n3_:=Up.gw hg HB;clear HB;have HB:=n0_;have BK313:=n1_;have GW313:=n2_;have GE313:=n3_;clear n0_ n1_ n2_ n3_ hb hbox hg) | ((with_reducible refine gate_callee (f:=18) rfl ?_);refine Up.gl (some 17) Try.func18 #[.slice A0 l0.length c0,.int .i64 1048576] ?_;(with_reducible refine (laws_szRecordSS.calls k _ _ l0 1048576 t314 _ ?side1 ?side2 A6.out).mono ?_);(case side1 => exact Up.Cx HR0 HB);(case side2 => exact HC0.out);rintro e w112 ⟨rfl,hb⟩;refine ⟨_,rfl,?_⟩;have n0_:=Up.KB BK313 hb;have n1_:=Aside0.mk (below_step (Up.Bx HB) hb);clear BK313 HB;have BK313:=n0_;have HB:=n1_;clear n0_ n1_;(try clear hb);(try clear hb2);(try clear hk);(try clear hi);have hcz113_0:=Up.c0 BK313;have hcz113_1:=Up.c1 BK313;have hcz113_2:=Up.c2 BK313;have hcz113_3:=Up.c3 BK313;have hfz113_0:=blk_frozen BK313.out 0;have hfz113_1:=blk_frozen BK313.out 1;have hfz113_2:=blk_frozen BK313.out 2;have hfz113_3:=blk_frozen BK313.out 3) | ((with_reducible refine gate_callee (f:=19) rfl ?_);refine Up.gl (some 22) Try.func19 #[.agg #[.string a1_0,.int .i64 a1_1,.slice A1_2 l1_2.length c1_2,.slice A1_3 l1_3.length c1_3],.int .i64 t314] ?_;(with_reducible refine (laws_szValue.calls k a1_0 a1_1 _ _ l1_2 _ _ l1_3 t314 t315 _ ?side1 ?side2 ?side3 ?side4 A10.out).mono ?_);(case side1 => exact Up.Cx HR1_2 HB);(case side2 => exact HC1_2.out);(case side3 => exact Up.Cx HR1_3 HB);(case side4 => exact HC1_3.out);rintro e w114 ⟨rfl,hb⟩;refine ⟨_,rfl,?_⟩;have n0_:=Up.KB BK313 hb;have n1_:=Aside0.mk (below_step (Up.Bx HB) hb);clear BK313 HB;have BK313:=n0_;have HB:=n1_;clear n0_ n1_;(try clear hb);(try clear hb2);(try clear hk);(try clear hi)))
     have n0_:=Aside0.mk (blk_drew BK313.out)
     have n1_:=Aside0.mk (below_drew1 HB.out)
     clear BK313
     clear HB
     have BK313:=n0_
     have HB:=n1_
     clear n0_ n1_
     refine start_ (n:=7) (S:=fun w' => w'.cell? ⟨gb313,0,none⟩ = some (.string a1_0) ∧ w'.cell? ⟨gb313,1,none⟩ = some (.int .i64 a1_1) ∧ w'.cell? ⟨gb313,2,none⟩ = some (.slice A1_2 l1_2.length c1_2) ∧ w'.cell? ⟨gb313,3,none⟩ = some (.slice A1_3 l1_3.length c1_3)) (ds:=[]) #[false,false,false,false,false,false,false] (by kernel_rfl) rfl rfl ⟨Up.c0 BK313,Up.c1 BK313,Up.c2 BK313,Up.c3 BK313⟩ (fun hHeld => ?_)
     generalize w114.drew = w115 at BK313 HB hHeld ⊢
     refine Up.pn 0 (some 25) ?_
     refine Up.pn 4 (some 29) ?_
     refine take_ (i:=2) (N:=some 27) (v:=?_) (a':=?_) #[true,false,true,false,true,false,false] rfl rfl (by kernel_rfl) (fun _ _ _ h => h) (Or.inl ⟨by rfl,?_⟩) hHeld ?_ ?_
     rotate_left
     ·rintro w' ⟨s0,s1,s2,s3⟩
      go_simp
      with_reducible rfl
     rotate_left
     ·simp only [Act.put,List.setIfInBounds_toArray,List.set_cons_zero,List.set_cons_succ,i64_w,i32_w]
      rfl
     refine one_ (i:=1) (N:=some 26) #[true,true,true,false,true,false,false] rfl rfl (by kernel_rfl) (by decide) (fun K hK => ?_)
     refine Up.go Try.func21 #[.slice A0 l0.length c0] ?_
     with_reducible refine (laws_toRecordSS.calls k _ _ l0 t316 _ ?side1 ?side2 A16.out).mono ?_
     (case side1 => exact Up.Cx HR0 HB)
     (case side2 => exact HC0.out)
     rintro e w116 ⟨v317,rfl,ho0,hb⟩
     refine ⟨_,rfl,?_⟩
     have n0_:=Aside0.mk (Kd.R_lower ho0 (below_size (Up.Bx HB)))
     have n1_:=Up.KB BK313 hb
     have n2_:=Aside0.mk (below_step (Up.Bx HB) hb)
     clear BK313
     clear HB
     have HO318:=n0_
     have BK313:=n1_
     have HB:=n2_
     clear n0_ n1_ n2_
     (try clear hb)
     (try clear hb2)
     (try clear hk)
     (try clear hi)
     (try clear ho0)
     refine hK.out _ _ ⟨Up.c0 BK313,Up.c1 BK313,Up.c2 BK313,Up.c3 BK313⟩ (fun hHeld => ?_)
     clear hK K
     refine Up.nm 26 ?_
     refine one_ (i:=3) (N:=some 28) #[true,true,true,true,true,false,false] rfl rfl (by kernel_rfl) (by decide) (fun K hK => ?_)
     refine Up.go Try.func22 #[.agg #[.string a1_0,.int .i64 a1_1,.slice A1_2 l1_2.length c1_2,.slice A1_3 l1_3.length c1_3]] ?_
     with_reducible refine (laws_toValue.calls k a1_0 a1_1 _ _ l1_2 _ _ l1_3 t319 t320 t321 t324 _ ?side1 ?side2 ?side3 ?side4 A17.out).mono ?_
     (case side1 => exact Up.Cx HR1_2 HB)
     (case side2 => exact HC1_2.out)
     (case side3 => exact Up.Cx HR1_3 HB)
     (case side4 => exact HC1_3.out)
     rintro e w117 ⟨v322,v325,rfl,ho0,ho1,hb⟩
     refine ⟨_,rfl,?_⟩
     have n0_:=Up.RB HO318 hb
     have n1_:=Aside0.mk (Kd.R_lower ho0 (below_size (Up.Bx HB)))
     have n2_:=Aside0.mk (Kd.R_lower ho1 (below_size (Up.Bx HB)))
     have n3_:=Up.KB BK313 hb
     have n4_:=Aside0.mk (below_step (Up.Bx HB) hb)
     clear HO318
     clear BK313
     clear HB
     have HO318:=n0_
     have HO323:=n1_
     have HO326:=n2_
     have BK313:=n3_
     have HB:=n4_
     clear n0_ n1_ n2_ n3_ n4_
     (try clear hb)
     (try clear hb2)
     (try clear hk)
     (try clear hi)
     (try clear ho0)
     (try clear ho1)
     obtain ⟨Ao118,co118,eo118⟩:=Kd.R_slice HO318.out
     (first | subst eo118 | (injection eo118 with f1_ f2_ f3_;have f4_:=f1_.symm;have f5_:=f3_.symm;clear f1_ f2_ f3_;subst f4_;subst f5_))
     obtain ⟨Ao119,co119,eo119⟩:=Kd.R_slice HO323.out
     (first | subst eo119 | (injection eo119 with f1_ f2_ f3_;have f4_:=f1_.symm;have f5_:=f3_.symm;clear f1_ f2_ f3_;subst f4_;subst f5_))
     obtain ⟨Ao120,co120,eo120⟩:=Kd.R_slice HO326.out
     (first | subst eo120 | (injection eo120 with f1_ f2_ f3_;have f4_:=f1_.symm;have f5_:=f3_.symm;clear f1_ f2_ f3_;subst f4_;subst f5_))
     refine hK.out _ _ ⟨Up.c0 BK313,Up.c1 BK313,Up.c2 BK313,Up.c3 BK313⟩ (fun hHeld => ?_)
     clear hK K
     refine Up.nm 28 ?_
     refine one_ (i:=5) (N:=some 30) #[true,true,true,true,true,true,false] rfl rfl (by kernel_rfl) (by decide) (fun K hK => ?_)
     refine Up.go Try.func17 #[.slice Ao118 t316.length co118,.agg #[.string t319,.int .i64 t320,.slice Ao119 t321.length co119,.slice Ao120 t324.length co120],.string a2] ?_
     with_reducible refine (spec_ValueCount.calls k _ _ t316 t319 t320 _ _ t321 _ _ t324 a2 t327 _ ?side1 ?side2 ?side3 ?side4 ?side5 ?side6 A18.out).mono ?_
     (case side1 => repeat (first | exact (Kd.R_reads' HO318.out).2.2 | (with_reducible refine Kd.C_alloc ?_ _) | (with_reducible refine Kd.C_drewN ?_ _) | (with_reducible refine Kd.C_drew ?_)))
     (case side2 => exact (Kd.R_reads' HO318.out).2.1)
     (case side3 => repeat (first | exact (Kd.R_reads' HO323.out).2.2 | (with_reducible refine Kd.C_alloc ?_ _) | (with_reducible refine Kd.C_drewN ?_ _) | (with_reducible refine Kd.C_drew ?_)))
     (case side4 => exact (Kd.R_reads' HO323.out).2.1)
     (case side5 => repeat (first | exact (Kd.R_reads' HO326.out).2.2 | (with_reducible refine Kd.C_alloc ?_ _) | (with_reducible refine Kd.C_drewN ?_ _) | (with_reducible refine Kd.C_drew ?_)))
     (case side6 => exact (Kd.R_reads' HO326.out).2.1)
     rintro e w121 ⟨rfl,hb⟩
     refine ⟨_,rfl,?_⟩
     have n0_:=Up.RB HO318 hb
     have n1_:=Up.RB HO323 hb
     have n2_:=Up.RB HO326 hb
     have n3_:=Up.KB BK313 hb
     have n4_:=Aside0.mk (below_step (Up.Bx HB) hb)
     clear HO318
     clear HO323
     clear HO326
     clear BK313
     clear HB
     have HO318:=n0_
     have HO323:=n1_
     have HO326:=n2_
     have BK313:=n3_
     have HB:=n4_
     clear n0_ n1_ n2_ n3_ n4_
     (try clear hb)
     (try clear hb2)
     (try clear hk)
     (try clear hi)
     refine hK.out _ _ ⟨Up.c0 BK313,Up.c1 BK313,Up.c2 BK313,Up.c3 BK313⟩ (fun hHeld => ?_)
     clear hK K
     refine Up.nm 30 ?_
     refine Up.pn 6 (some 8) ?_
     refine done_ (by kernel_rfl) ?_
     try go_wp2_with (first | ((with_reducible refine gate_callee (f:=21) rfl ?_);refine Up.gl (some 32) Try.func21 #[.slice A0 l0.length c0] ?_;(with_reducible refine (laws_toRecordSS.calls k _ _ l0 t328 _ ?side1 ?side2 A19.out).mono ?_);(case side1 => exact Up.Cx HR0 HB);(case side2 => exact HC0.out);rintro e w122 ⟨v329,rfl,ho0,hb⟩;refine ⟨_,rfl,?_⟩;have n0_:=Aside0.mk (Kd.R_elder' (Up.Rup HO318) (Kd.R_base ho0) hb);have n1_:=Up.RB HO323 hb;have n2_:=Up.RB HO326 hb;have n3_:=Aside0.mk (Kd.R_lower (Kd.R_new' ho0 (Kd.R_lt (Up.Rup HO318))) (below_size (Up.Bx HB)));have n4_:=Up.KB BK313 hb;have n5_:=Aside0.mk (below_step (Up.Bx HB) hb);clear HO318 HO323 HO326 BK313 HB;have HO318:=n0_;have HO323:=n1_;have HO326:=n2_;have HO330:=n3_;have BK313:=n4_;have HB:=n5_;clear n0_ n1_ n2_ n3_ n4_ n5_;(try clear hb);(try clear hb2);(try clear hk);(try clear hi);(try clear ho0);have hcz123_0:=Up.c0 BK313;have hcz123_1:=Up.c1 BK313;have hcz123_2:=Up.c2 BK313;have hcz123_3:=Up.c3 BK313;have hfz123_0:=blk_frozen BK313.out 0;have hfz123_1:=blk_frozen BK313.out 1;have hfz123_2:=blk_frozen BK313.out 2;have hfz123_3:=blk_frozen BK313.out 3) | ((with_reducible refine gate_callee (f:=22) rfl ?_);refine Up.gl (some 34) Try.func22 #[.agg #[.string a1_0,.int .i64 a1_1,.slice A1_2 l1_2.length c1_2,.slice A1_3 l1_3.length c1_3]] ?_;(with_reducible refine (laws_toValue.calls k a1_0 a1_1 _ _ l1_2 _ _ l1_3 t331 t332 t333 t336 _ ?side1 ?side2 ?side3 ?side4 A20.out).mono ?_);(case side1 => exact Up.Cx HR1_2 HB);(case side2 => exact HC1_2.out);(case side3 => exact Up.Cx HR1_3 HB);(case side4 => exact HC1_3.out);rintro e w124 ⟨v334,v337,rfl,ho0,ho1,hb⟩;refine ⟨_,rfl,?_⟩;have n0_:=Up.RB HO318 hb;have n1_:=Aside0.mk (Kd.R_mono (Kd.R_told (Kd.R_told (Kd.R_old (Up.Rup HO323) hb) (Kd.R_base ho0)) (Kd.R_base ho1)) (fun _ h_ => h_.1));have n2_:=Aside0.mk (Kd.R_elder' (Up.Rup HO326) (Kd.R_base ho1) hb);have n3_:=Up.RB HO330 hb;have n4_:=Aside0.mk (Kd.R_lower (Kd.R_new' (Kd.R_new' ho0 (Kd.R_lt (Up.Rup HO323))) (Kd.R_lt (Up.Rup HO326))) (below_size (Up.Bx HB)));have n5_:=Aside0.mk (Kd.R_lower (Kd.R_new' ho1 (Kd.R_lt (Up.Rup HO326))) (below_size (Up.Bx HB)));have n6_:=Up.KB BK313 hb;have n7_:=Aside0.mk (below_step (Up.Bx HB) hb);clear HO318 HO323 HO326 HO330 BK313 HB;have HO318:=n0_;have HO323:=n1_;have HO326:=n2_;have HO330:=n3_;have HO335:=n4_;have HO338:=n5_;have BK313:=n6_;have HB:=n7_;clear n0_ n1_ n2_ n3_ n4_ n5_ n6_ n7_;(try clear hb);(try clear hb2);(try clear hk);(try clear hi);(try clear ho0);(try clear ho1)) | ((with_reducible refine gate_dst (N:=10) rfl ?_);refine Up.bx 10 27 #[.string (⟨#[]⟩ : ByteArray),.int .i64 0,.slice none 0 0,.slice none 0 0] ?_;intro gb339 hg w125 hbox hb;have n0_:=Up.RB HO318 hb;have n1_:=Aside0.mk (Kd.R_below (Kd.R_elderB (Up.Rup HO323) gb339 (Nat.le_of_eq hg.symm)) hb);have n2_:=Up.RB HO326 hb;have n3_:=Up.RB HO330 hb;have n4_:=Aside0.mk (Kd.R_below (Kd.R_elderB (Up.Rup HO335) gb339 (Nat.le_of_eq hg.symm)) hb);have n5_:=Up.RB HO338 hb;have n6_:=Up.KB BK313 hb;have n7_:=Aside0.mk (below_step (Up.Bx HB) hb);have n8_:=Aside0.mk (hbox);have n9_:=Up.gw hg HB;have n10_:=Up.gw hg HB;have n11_:=Up.nl hg BK313;have n12_:=Up.ng hg BK313;clear HO318 HO323 HO326 HO330 HO335 HO338 BK313 HB;have HO318:=n0_;have HO323:=n1_;have HO326:=n2_;have HO330:=n3_;have HO335:=n4_;have HO338:=n5_;have BK313:=n6_;have HB:=n7_;have BK339:=n8_;have GW339:=n9_;have GE339:=n10_;have NB313_339:=n11_;have NB339_313:=n12_;clear n0_ n1_ n2_ n3_ n4_ n5_ n6_ n7_ n8_ n9_ n10_ n11_ n12_ hb hbox hg;have hnb126:=NB339_313.out;have hnc126:=NB313_339.out;have hcz127_0:=Up.c0 BK339;have hcz127_1:=Up.c1 BK339;have hcz127_2:=Up.c2 BK339;have hcz127_3:=Up.c3 BK339;have hfz127_0:=blk_frozen BK339.out 0;have hfz127_1:=blk_frozen BK339.out 1;have hfz127_2:=blk_frozen BK339.out 2;have hfz127_3:=blk_frozen BK339.out 3;obtain ⟨Ao128,co128,eo128⟩:=Kd.R_slice HO335.out;subst eo128;obtain ⟨Ao129,co129,eo129⟩:=Kd.R_slice HO338.out;subst eo129;obtain ⟨Ao130,co130,eo130⟩:=Kd.R_slice HO330.out;subst eo130) | ((with_reducible refine gate_callee (f:=16) rfl ?_);refine Up.gl (some 38) Try.func16 #[.slice Ao130 t328.length co130,.agg #[.string t331,.int .i64 t332,.slice Ao128 t333.length co128,.slice Ao129 t336.length co129],.string a2] ?_;(with_reducible refine (impl_ValueCount.calls k _ _ t328 t331 t332 _ _ t333 _ _ t336 a2 t340 _ ?side1 ?side2 ?side3 ?side4 ?side5 ?side6 A21.out).mono ?_);(case side1 => refine (Kd.R_reads' (e:=82) (base:=w.heap.size) (ok:=fun k_ => (True ∧ some k_ ≠ (.slice Ao118 t316.length co118 : Value).ownBlock)) (n:=t328.length) (c:=co130) ?_).2.2;exact (by (with_reducible repeat (first | apply Kd.R_alloc | apply Kd.R_drewN | apply Kd.R_drew));exact (Kd.R_mono (Kd.R_far (p:=⟨gb339,3,none⟩) (Kd.R_far (p:=⟨gb339,2,none⟩) (Kd.R_far (p:=⟨gb339,1,none⟩) (Kd.R_far (p:=⟨gb339,0,none⟩) (Kd.R_types HO330.out BK339.out (by decide)) (fun _ hk => hk.2) (.string t331)) (fun _ hk => hk.2) (.int .i64 t332)) (fun _ hk => hk.2) (.slice Ao128 t333.length co128)) (fun _ hk => hk.2) (.slice Ao129 t336.length co129)) (fun _ h_ => h_.1))));(case side2 => exact (Kd.R_reads' HO330.out).2.1);(case side3 => refine (Kd.R_reads' (e:=27) (base:=w.heap.size) (ok:=fun k_ => (((some k_ ≠ (.slice Ao129 t336.length co129 : Value).ownBlock ∧ some k_ ≠ (.slice Ao119 t321.length co119 : Value).ownBlock) ∧ some k_ ≠ (.slice Ao120 t324.length co120 : Value).ownBlock) ∧ k_ ≠ gb339)) (n:=t333.length) (c:=co128) ?_).2.2;exact (by (with_reducible repeat (first | apply Kd.R_alloc | apply Kd.R_drewN | apply Kd.R_drew));exact (Kd.R_mono (Kd.R_far (p:=⟨gb339,3,none⟩) (Kd.R_far (p:=⟨gb339,2,none⟩) (Kd.R_far (p:=⟨gb339,1,none⟩) (Kd.R_far (p:=⟨gb339,0,none⟩) (Kd.R_mono HO335.out (fun k_ hk => (⟨hk,hk.2⟩ : _ ∧ k_ ≠ gb339))) (fun _ hk => hk.2) (.string t331)) (fun _ hk => hk.2) (.int .i64 t332)) (fun _ hk => hk.2) (.slice Ao128 t333.length co128)) (fun _ hk => hk.2) (.slice Ao129 t336.length co129)) (fun _ h_ => h_.1))));(case side4 => exact (Kd.R_reads' HO335.out).2.1);(case side5 => refine (Kd.R_reads' (e:=3) (base:=w.heap.size) (ok:=fun k_ => (True ∧ some k_ ≠ (.slice Ao120 t324.length co120 : Value).ownBlock)) (n:=t336.length) (c:=co129) ?_).2.2;exact (by (with_reducible repeat (first | apply Kd.R_alloc | apply Kd.R_drewN | apply Kd.R_drew));exact (Kd.R_mono (Kd.R_far (p:=⟨gb339,3,none⟩) (Kd.R_far (p:=⟨gb339,2,none⟩) (Kd.R_far (p:=⟨gb339,1,none⟩) (Kd.R_far (p:=⟨gb339,0,none⟩) (Kd.R_types HO338.out BK339.out (by decide)) (fun _ hk => hk.2) (.string t331)) (fun _ hk => hk.2) (.int .i64 t332)) (fun _ hk => hk.2) (.slice Ao128 t333.length co128)) (fun _ hk => hk.2) (.slice Ao129 t336.length co129)) (fun _ h_ => h_.1))));(case side6 => exact (Kd.R_reads' HO338.out).2.1);rintro e w131 ⟨rfl,hb⟩;refine ⟨_,rfl,?_⟩;have n0_:=Aside0.mk (Kd.R_below (by (with_reducible repeat (first | apply Kd.R_alloc | apply Kd.R_drewN | apply Kd.R_drew));exact (Kd.R_mono (Kd.R_far (p:=⟨gb339,3,none⟩) (Kd.R_far (p:=⟨gb339,2,none⟩) (Kd.R_far (p:=⟨gb339,1,none⟩) (Kd.R_far (p:=⟨gb339,0,none⟩) (Kd.R_types HO318.out BK339.out (by decide)) (fun _ hk => hk.2) (.string t331)) (fun _ hk => hk.2) (.int .i64 t332)) (fun _ hk => hk.2) (.slice Ao128 t333.length co128)) (fun _ hk => hk.2) (.slice Ao129 t336.length co129)) (fun _ h_ => h_.1))) hb);have n1_:=Aside0.mk (Kd.R_below (by (with_reducible repeat (first | apply Kd.R_alloc | apply Kd.R_drewN | apply Kd.R_drew));exact (Kd.R_mono (Kd.R_far (p:=⟨gb339,3,none⟩) (Kd.R_far (p:=⟨gb339,2,none⟩) (Kd.R_far (p:=⟨gb339,1,none⟩) (Kd.R_far (p:=⟨gb339,0,none⟩) (Kd.R_mono HO323.out (fun k_ hk => (⟨hk,hk.2⟩ : _ ∧ k_ ≠ gb339))) (fun _ hk => hk.2) (.string t331)) (fun _ hk => hk.2) (.int .i64 t332)) (fun _ hk => hk.2) (.slice Ao128 t333.length co128)) (fun _ hk => hk.2) (.slice Ao129 t336.length co129)) (fun _ h_ => h_.1))) hb);have n2_:=Aside0.mk (Kd.R_below (by (with_reducible repeat (first | apply Kd.R_alloc | apply Kd.R_drewN | apply Kd.R_drew));exact (Kd.R_mono (Kd.R_far (p:=⟨gb339,3,none⟩) (Kd.R_far (p:=⟨gb339,2,none⟩) (Kd.R_far (p:=⟨gb339,1,none⟩) (Kd.R_far (p:=⟨gb339,0,none⟩) (Kd.R_types HO326.out BK339.out (by decide)) (fun _ hk => hk.2) (.string t331)) (fun _ hk => hk.2) (.int .i64 t332)) (fun _ hk => hk.2) (.slice Ao128 t333.length co128)) (fun _ hk => hk.2) (.slice Ao129 t336.length co129)) (fun _ h_ => h_.1))) hb);have n3_:=Aside0.mk (Kd.R_below (by (with_reducible repeat (first | apply Kd.R_alloc | apply Kd.R_drewN | apply Kd.R_drew));exact (Kd.R_mono (Kd.R_far (p:=⟨gb339,3,none⟩) (Kd.R_far (p:=⟨gb339,2,none⟩) (Kd.R_far (p:=⟨gb339,1,none⟩) (Kd.R_far (p:=⟨gb339,0,none⟩) (Kd.R_types HO330.out BK339.out (by decide)) (fun _ hk => hk.2) (.string t331)) (fun _ hk => hk.2) (.int .i64 t332)) (fun _ hk => hk.2) (.slice Ao128 t333.length co128)) (fun _ hk => hk.2) (.slice Ao129 t336.length co129)) (fun _ h_ => h_.1))) hb);have n4_:=Aside0.mk (Kd.R_below (by (with_reducible repeat (first | apply Kd.R_alloc | apply Kd.R_drewN | apply Kd.R_drew));exact (Kd.R_mono (Kd.R_far (p:=⟨gb339,3,none⟩) (Kd.R_far (p:=⟨gb339,2,none⟩) (Kd.R_far (p:=⟨gb339,1,none⟩) (Kd.R_far (p:=⟨gb339,0,none⟩) (Kd.R_mono HO335.out (fun k_ hk => (⟨hk,hk.2⟩ : _ ∧ k_ ≠ gb339))) (fun _ hk => hk.2) (.string t331)) (fun _ hk => hk.2) (.int .i64 t332)) (fun _ hk => hk.2) (.slice Ao128 t333.length co128)) (fun _ hk => hk.2) (.slice Ao129 t336.length co129)) (fun _ h_ => h_.1))) hb);have n5_:=Aside0.mk (Kd.R_below (by (with_reducible repeat (first | apply Kd.R_alloc | apply Kd.R_drewN | apply Kd.R_drew));exact (Kd.R_mono (Kd.R_far (p:=⟨gb339,3,none⟩) (Kd.R_far (p:=⟨gb339,2,none⟩) (Kd.R_far (p:=⟨gb339,1,none⟩) (Kd.R_far (p:=⟨gb339,0,none⟩) (Kd.R_types HO338.out BK339.out (by decide)) (fun _ hk => hk.2) (.string t331)) (fun _ hk => hk.2) (.int .i64 t332)) (fun _ hk => hk.2) (.slice Ao128 t333.length co128)) (fun _ hk => hk.2) (.slice Ao129 t336.length co129)) (fun _ h_ => h_.1))) hb);have n6_:=Aside0.mk (blk_below (g:=gb313) (o:=.cells #[.string a1_0,.int .i64 a1_1,.slice A1_2 l1_2.length c1_2,.slice A1_3 l1_3.length c1_3] 39 (0,0)) (Up.Kx BK313) hb);have n7_:=Aside0.mk (blk_below (g:=gb339) (o:=.cells #[.string t331,.int .i64 t332,.slice Ao128 t333.length co128,.slice Ao129 t336.length co129] 27 (0,0)) (Up.Kx BK339) hb);have n8_:=Aside0.mk (below_step (Up.Bx HB) hb);clear HO318 HO323 HO326 HO330 HO335 HO338 BK313 BK339 HB;have HO318:=n0_;have HO323:=n1_;have HO326:=n2_;have HO330:=n3_;have HO335:=n4_;have HO338:=n5_;have BK313:=n6_;have BK339:=n7_;have HB:=n8_;clear n0_ n1_ n2_ n3_ n4_ n5_ n6_ n7_ n8_;(try clear hb);(try clear hb2);(try clear hk);(try clear hi)))
     go_ret
     exact Up.e1 (Up.Bx HB)

end Go.Proofs.Ytdgmlakgnbmbbaa.OFnExactValueCount
