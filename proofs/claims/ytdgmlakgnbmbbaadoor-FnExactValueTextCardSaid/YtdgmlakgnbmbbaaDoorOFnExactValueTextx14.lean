-- Laid by a program of this session (wip/myprint.py): the kit's print of the functions, contracts of our own among them.
import Derived.Test.YtdgmlakgnbmbbaaDoorOFnExactValueTextx0
import Derived.Test.YtdgmlakgnbmbbaaDoorOFnExactValueTextx4
import Derived.Test.YtdgmlakgnbmbbaaDoorOFnExactValueTextx9
import Derived.Test.YtdgmlakgnbmbbaaDoorOFnExactValueTextx10
import Derived.Test.YtdgmlakgnbmbbaaDoorOFnExactValueTextx11
import Derived.Test.YtdgmlakgnbmbbaaDoorOFnExactValueTextx12
import Derived.Test.YtdgmlakgnbmbbaaDoorOFnExactValueTextx13
namespace Go.Proofs.YtdgmlakgnbmbbaaDoor.OFnExactValueText
open Go.RowKit Go.Proofs.YtdgmlakgnbmbbaaDoorW.PrintWords Go.Proofs.YtdgmlakgnbmbbaaDoorW.PrintLast Go.Proofs.YtdgmlakgnbmbbaaDoorW.PrintMore
attribute [local go_sem] max2_int min2_int max_two min_two max_three min_three max_four min_four   -- for this text's walks alone
set_option linter.unusedVariables false
set_option linter.unusedSimpArgs false

/-! ### laws_FnExactValueText: function 5 -/
def laws_FnExactValueText.f (k : Nat) (l0 : List (List (S99))) (a1_0 : ByteArray) (a1_1 : Int) (l1_2 : List (S39)) (l1_3 : List Int) : Option (Bool):=(laws_szRecordSS.f k l0 1048576).bind fun t333 => (if t333 < 0 then (some true) else ((laws_szValue.f k a1_0 a1_1 l1_2 l1_3 t333).bind fun t334 => (if t334 < 0 then (some true) else ((laws_toRecordSS.f k l0).bind fun t335 => ((laws_toValue.f k a1_0 a1_1 l1_2 l1_3).bind fun bt338 => ((spec_ValueText.f k t335 bt338.1 bt338.2.1 bt338.2.2.1 bt338.2.2.2).bind fun t346 => ((laws_toRecordSS.f k l0).bind fun t347 => ((laws_toValue.f k a1_0 a1_1 l1_2 l1_3).bind fun bt350 => ((impl_ValueText.f k t347 bt350.1 bt350.2.1 bt350.2.2.1 bt350.2.2.2).bind fun t359 => (if t359.toList = t346.toList then ((laws_toRecordSS.f k l0).bind fun t360 => ((laws_eqRecordSS.f k t347 t360).bind fun t363 => (if t363 = true then ((laws_toValue.f k a1_0 a1_1 l1_2 l1_3).bind fun bt364 => ((laws_eqValue.f k bt350.1 bt350.2.1 bt350.2.2.1 bt350.2.2.2 bt364.1 bt364.2.1 bt364.2.2.1 bt364.2.2.2).bind fun t372 => (if t372 = true then (some true) else (some false)))) else (some false)))) else (some false)))))))))))
theorem laws_FnExactValueText.mono : ∀ a0 a1 a2 a3 a4 k,LeO (laws_FnExactValueText.f k a0 a1 a2 a3 a4) (laws_FnExactValueText.f (k + 1) a0 a1 a2 a3 a4):=by
 intro a0 a1 a2 a3 a4 k
 unfold laws_FnExactValueText.f
 repeat' first
   | (with_reducible exact impl_ValueText.mono _ _ _ _ _ _)
   | (with_reducible exact laws_eqRecordSS.mono _ _ _)
   | (with_reducible exact laws_eqValue.mono _ _ _ _ _ _ _ _ _)
   | (with_reducible exact laws_szRecordSS.mono _ _ _)
   | (with_reducible exact laws_szValue.mono _ _ _ _ _ _)
   | (with_reducible exact laws_toRecordSS.mono _ _)
   | (with_reducible exact laws_toValue.mono _ _ _ _ _)
   | (with_reducible exact spec_ValueText.mono _ _ _ _ _ _)
   | (with_reducible exact LeO.refl _)
   | (with_reducible exact LeO.none _)
   | (with_reducible refine LeO.ite ?_ ?_)
   | (with_reducible refine LeO.bind ?_ (fun _ => ?_))
   | exact impl_ValueText.mono _ _ _ _ _ _
   | exact laws_eqRecordSS.mono _ _ _
   | exact laws_eqValue.mono _ _ _ _ _ _ _ _ _
   | exact laws_szRecordSS.mono _ _ _
   | exact laws_szValue.mono _ _ _ _ _ _
   | exact laws_toRecordSS.mono _ _
   | exact laws_toValue.mono _ _ _ _ _
   | exact spec_ValueText.mono _ _ _ _ _ _
   | exact LeO.none _
   | refine LeO.ite ?_ ?_
   | refine LeO.bind ?_ (fun _ => ?_)
set_option maxHeartbeats 8000000 in
set_option maxRecDepth 100000 in
theorem laws_FnExactValueText.calls (k : Nat) (A0 : Option Addr) (c0 : Nat) (l0 : List (List (S99))) (a1_0 : ByteArray) (a1_1 : Int) (A1_2 : Option Addr) (c1_2 : Nat) (l1_2 : List (S39)) (A1_3 : Option Addr) (c1_3 : Nat) (l1_3 : List Int) (r : Bool) (w : World) (hT_ : Tab w) (hr0 : Kd.C (Kd.slice 99 k99) w A0 l0.length l0) (hc0 : l0.length ≤ c0) (hr1_2 : Kd.C k39 w A1_2 l1_2.length l1_2) (hc1_2 : l1_2.length ≤ c1_2) (hr1_3 : Kd.C (Kd.int .i64) w A1_3 l1_3.length l1_3) (hc1_3 : l1_3.length ≤ c1_3) (h : laws_FnExactValueText.f k l0 a1_0 a1_1 l1_2 l1_3 = some r) :
  Calls Tryd.prog 5 #[.slice A0 l0.length c0,.agg #[.string a1_0,.int .i64 a1_1,.slice A1_2 l1_2.length c1_2,.slice A1_3 l1_3.length c1_3]] w fun e w' => e = .returned (.bool r) ∧ Below w.heap.size w w':=by
 have hu39:=Tryd.underlying39
 have hu27:=Tryd.underlying27
 have HR0:=Aside0.mk hr0
 have HC0:=Aside0.mk hc0
 clear hr0 hc0
 have HR1_2:=Aside0.mk hr1_2
 have HC1_2:=Aside0.mk hc1_2
 clear hr1_2 hc1_2
 have HR1_3:=Aside0.mk hr1_3
 have HC1_3:=Aside0.mk hc1_3
 clear hr1_3 hc1_3
 have HB:=Aside0.mk (Below.refl w.heap.size w)
 have H : ((laws_szRecordSS.f k l0 1048576).bind fun t333 => (if t333 < 0 then (some true) else ((laws_szValue.f k a1_0 a1_1 l1_2 l1_3 t333).bind fun t334 => (if t334 < 0 then (some true) else ((laws_toRecordSS.f k l0).bind fun t335 => ((laws_toValue.f k a1_0 a1_1 l1_2 l1_3).bind fun bt338 => ((spec_ValueText.f k t335 bt338.1 bt338.2.1 bt338.2.2.1 bt338.2.2.2).bind fun t346 => ((laws_toRecordSS.f k l0).bind fun t347 => ((laws_toValue.f k a1_0 a1_1 l1_2 l1_3).bind fun bt350 => ((impl_ValueText.f k t347 bt350.1 bt350.2.1 bt350.2.2.1 bt350.2.2.2).bind fun t359 => (if t359.toList = t346.toList then ((laws_toRecordSS.f k l0).bind fun t360 => ((laws_eqRecordSS.f k t347 t360).bind fun t363 => (if t363 = true then ((laws_toValue.f k a1_0 a1_1 l1_2 l1_3).bind fun bt364 => ((laws_eqValue.f k bt350.1 bt350.2.1 bt350.2.2.1 bt350.2.2.2 bt364.1 bt364.2.1 bt364.2.2.1 bt364.2.2.2).bind fun t372 => (if t372 = true then (some true) else (some false)))) else (some false)))) else (some false)))))))))))) = some r:=h
 clear h
 replace H:=Option.bind_eq_some_iff.mp H
 obtain ⟨t333,A30,H⟩:=H
 replace H : (if t333 < 0 then (some true) else ((laws_szValue.f k a1_0 a1_1 l1_2 l1_3 t333).bind fun t334 => (if t334 < 0 then (some true) else ((laws_toRecordSS.f k l0).bind fun t335 => ((laws_toValue.f k a1_0 a1_1 l1_2 l1_3).bind fun bt338 => ((spec_ValueText.f k t335 bt338.1 bt338.2.1 bt338.2.2.1 bt338.2.2.2).bind fun t346 => ((laws_toRecordSS.f k l0).bind fun t347 => ((laws_toValue.f k a1_0 a1_1 l1_2 l1_3).bind fun bt350 => ((impl_ValueText.f k t347 bt350.1 bt350.2.1 bt350.2.2.1 bt350.2.2.2).bind fun t359 => (if t359.toList = t346.toList then ((laws_toRecordSS.f k l0).bind fun t360 => ((laws_eqRecordSS.f k t347 t360).bind fun t363 => (if t363 = true then ((laws_toValue.f k a1_0 a1_1 l1_2 l1_3).bind fun bt364 => ((laws_eqValue.f k bt350.1 bt350.2.1 bt350.2.2.1 bt350.2.2.2 bt364.1 bt364.2.1 bt364.2.2.1 bt364.2.2.2).bind fun t372 => (if t372 = true then (some true) else (some false)))) else (some false)))) else (some false))))))))))) = some r:=H
 have A3:=Aside0.mk A30
 clear A30
 by_cases c4 : t333 < 0
 ·rw [if_pos c4] at H
  have c4b0 : decide (t333 < 0) = true:=decide_eq_true c4
  clear c4
  obtain rfl:=Option.some.inj H
  go_enter Tryd.func5,Tryd.ntmps5
  go_wp2_with (first | ((with_reducible refine gate_dst (N:=3) rfl ?_);refine Up.bx 3 39 #[.string a1_0,.int .i64 a1_1,.slice A1_2 l1_2.length c1_2,.slice A1_3 l1_3.length c1_3] ?_;intro gb332 hg w5 hbox hb;have n0_:=Up.BB HB hb;have n1_:=Aside0.mk (hbox);have n2_:=Up.gw hg HB;have n3_:=Up.gw hg HB;clear HB;have HB:=n0_;have BK332:=n1_;have GW332:=n2_;have GE332:=n3_;clear n0_ n1_ n2_ n3_ hb hbox hg) | ((with_reducible refine gate_callee (f:=15) rfl ?_);refine Up.gl (some 12) Tryd.func15 #[.slice A0 l0.length c0,.int .i64 1048576] ?_;(with_reducible refine (laws_szRecordSS.calls k _ _ l0 1048576 t333 _ ?side1 ?side2 A3.out).mono ?_);(case side1 => exact Up.Cx HR0 HB);(case side2 => exact HC0.out);rintro e w6 ⟨rfl,hb⟩;refine ⟨_,rfl,?_⟩;have n0_:=Up.KB BK332 hb;have n1_:=Aside0.mk (below_step (Up.Bx HB) hb);clear BK332 HB;have BK332:=n0_;have HB:=n1_;clear n0_ n1_;(try clear hb);(try clear hb2);(try clear hk);(try clear hi)))
  go_ret
  exact Up.e1 (Up.Bx HB)
 ·rw [if_neg c4] at H
  have c4b0 : decide (t333 < 0) = false:=decide_eq_false c4
  clear c4
  replace H:=Option.bind_eq_some_iff.mp H
  obtain ⟨t334,A70,H⟩:=H
  replace H : (if t334 < 0 then (some true) else ((laws_toRecordSS.f k l0).bind fun t335 => ((laws_toValue.f k a1_0 a1_1 l1_2 l1_3).bind fun bt338 => ((spec_ValueText.f k t335 bt338.1 bt338.2.1 bt338.2.2.1 bt338.2.2.2).bind fun t346 => ((laws_toRecordSS.f k l0).bind fun t347 => ((laws_toValue.f k a1_0 a1_1 l1_2 l1_3).bind fun bt350 => ((impl_ValueText.f k t347 bt350.1 bt350.2.1 bt350.2.2.1 bt350.2.2.2).bind fun t359 => (if t359.toList = t346.toList then ((laws_toRecordSS.f k l0).bind fun t360 => ((laws_eqRecordSS.f k t347 t360).bind fun t363 => (if t363 = true then ((laws_toValue.f k a1_0 a1_1 l1_2 l1_3).bind fun bt364 => ((laws_eqValue.f k bt350.1 bt350.2.1 bt350.2.2.1 bt350.2.2.2 bt364.1 bt364.2.1 bt364.2.2.1 bt364.2.2.2).bind fun t372 => (if t372 = true then (some true) else (some false)))) else (some false)))) else (some false))))))))) = some r:=H
  have A7:=Aside0.mk A70
  clear A70
  by_cases c8 : t334 < 0
  ·rw [if_pos c8] at H
   have c8b0 : decide (t334 < 0) = true:=decide_eq_true c8
   clear c8
   obtain rfl:=Option.some.inj H
   go_enter Tryd.func5,Tryd.ntmps5
   go_wp2_with (first | ((with_reducible refine gate_dst (N:=3) rfl ?_);refine Up.bx 3 39 #[.string a1_0,.int .i64 a1_1,.slice A1_2 l1_2.length c1_2,.slice A1_3 l1_3.length c1_3] ?_;intro gb332 hg w9 hbox hb;have n0_:=Up.BB HB hb;have n1_:=Aside0.mk (hbox);have n2_:=Up.gw hg HB;have n3_:=Up.gw hg HB;clear HB;have HB:=n0_;have BK332:=n1_;have GW332:=n2_;have GE332:=n3_;clear n0_ n1_ n2_ n3_ hb hbox hg) | ((with_reducible refine gate_callee (f:=15) rfl ?_);refine Up.gl (some 12) Tryd.func15 #[.slice A0 l0.length c0,.int .i64 1048576] ?_;(with_reducible refine (laws_szRecordSS.calls k _ _ l0 1048576 t333 _ ?side1 ?side2 A3.out).mono ?_);(case side1 => exact Up.Cx HR0 HB);(case side2 => exact HC0.out);rintro e w10 ⟨rfl,hb⟩;refine ⟨_,rfl,?_⟩;have n0_:=Up.KB BK332 hb;have n1_:=Aside0.mk (below_step (Up.Bx HB) hb);clear BK332 HB;have BK332:=n0_;have HB:=n1_;clear n0_ n1_;(try clear hb);(try clear hb2);(try clear hk);(try clear hi);have hcz11_0:=Up.c0 BK332;have hcz11_1:=Up.c1 BK332;have hcz11_2:=Up.c2 BK332;have hcz11_3:=Up.c3 BK332;have hfz11_0:=blk_frozen BK332.out 0;have hfz11_1:=blk_frozen BK332.out 1;have hfz11_2:=blk_frozen BK332.out 2;have hfz11_3:=blk_frozen BK332.out 3) | ((with_reducible refine gate_callee (f:=16) rfl ?_);refine Up.gl (some 17) Tryd.func16 #[.agg #[.string a1_0,.int .i64 a1_1,.slice A1_2 l1_2.length c1_2,.slice A1_3 l1_3.length c1_3],.int .i64 t333] ?_;(with_reducible refine (laws_szValue.calls k a1_0 a1_1 _ _ l1_2 _ _ l1_3 t333 t334 _ ?side1 ?side2 ?side3 ?side4 A7.out).mono ?_);(case side1 => exact Up.Cx HR1_2 HB);(case side2 => exact HC1_2.out);(case side3 => exact Up.Cx HR1_3 HB);(case side4 => exact HC1_3.out);rintro e w12 ⟨rfl,hb⟩;refine ⟨_,rfl,?_⟩;have n0_:=Up.KB BK332 hb;have n1_:=Aside0.mk (below_step (Up.Bx HB) hb);clear BK332 HB;have BK332:=n0_;have HB:=n1_;clear n0_ n1_;(try clear hb);(try clear hb2);(try clear hk);(try clear hi)))
   go_ret
   exact Up.e1 (Up.Bx HB)
  ·rw [if_neg c8] at H
   have c8b0 : decide (t334 < 0) = false:=decide_eq_false c8
   clear c8
   replace H:=Option.bind_eq_some_iff.mp H
   obtain ⟨t335,A130,H⟩:=H
   replace H : ((laws_toValue.f k a1_0 a1_1 l1_2 l1_3).bind fun bt338 => ((spec_ValueText.f k t335 bt338.1 bt338.2.1 bt338.2.2.1 bt338.2.2.2).bind fun t346 => ((laws_toRecordSS.f k l0).bind fun t347 => ((laws_toValue.f k a1_0 a1_1 l1_2 l1_3).bind fun bt350 => ((impl_ValueText.f k t347 bt350.1 bt350.2.1 bt350.2.2.1 bt350.2.2.2).bind fun t359 => (if t359.toList = t346.toList then ((laws_toRecordSS.f k l0).bind fun t360 => ((laws_eqRecordSS.f k t347 t360).bind fun t363 => (if t363 = true then ((laws_toValue.f k a1_0 a1_1 l1_2 l1_3).bind fun bt364 => ((laws_eqValue.f k bt350.1 bt350.2.1 bt350.2.2.1 bt350.2.2.2 bt364.1 bt364.2.1 bt364.2.2.1 bt364.2.2.2).bind fun t372 => (if t372 = true then (some true) else (some false)))) else (some false)))) else (some false))))))) = some r:=H
   have A13:=Aside0.mk A130
   clear A130
   replace H:=Option.bind_eq_some_iff.mp H
   obtain ⟨⟨t338,t339,t340,t343⟩,A140,H⟩:=H
   replace H : ((spec_ValueText.f k t335 t338 t339 t340 t343).bind fun t346 => ((laws_toRecordSS.f k l0).bind fun t347 => ((laws_toValue.f k a1_0 a1_1 l1_2 l1_3).bind fun bt350 => ((impl_ValueText.f k t347 bt350.1 bt350.2.1 bt350.2.2.1 bt350.2.2.2).bind fun t359 => (if t359.toList = t346.toList then ((laws_toRecordSS.f k l0).bind fun t360 => ((laws_eqRecordSS.f k t347 t360).bind fun t363 => (if t363 = true then ((laws_toValue.f k a1_0 a1_1 l1_2 l1_3).bind fun bt364 => ((laws_eqValue.f k bt350.1 bt350.2.1 bt350.2.2.1 bt350.2.2.2 bt364.1 bt364.2.1 bt364.2.2.1 bt364.2.2.2).bind fun t372 => (if t372 = true then (some true) else (some false)))) else (some false)))) else (some false)))))) = some r:=H
   have A14:=Aside0.mk A140
   clear A140
   replace H:=Option.bind_eq_some_iff.mp H
   obtain ⟨t346,A150,H⟩:=H
   replace H : ((laws_toRecordSS.f k l0).bind fun t347 => ((laws_toValue.f k a1_0 a1_1 l1_2 l1_3).bind fun bt350 => ((impl_ValueText.f k t347 bt350.1 bt350.2.1 bt350.2.2.1 bt350.2.2.2).bind fun t359 => (if t359.toList = t346.toList then ((laws_toRecordSS.f k l0).bind fun t360 => ((laws_eqRecordSS.f k t347 t360).bind fun t363 => (if t363 = true then ((laws_toValue.f k a1_0 a1_1 l1_2 l1_3).bind fun bt364 => ((laws_eqValue.f k bt350.1 bt350.2.1 bt350.2.2.1 bt350.2.2.2 bt364.1 bt364.2.1 bt364.2.2.1 bt364.2.2.2).bind fun t372 => (if t372 = true then (some true) else (some false)))) else (some false)))) else (some false))))) = some r:=H
   have A15:=Aside0.mk A150
   clear A150
   replace H:=Option.bind_eq_some_iff.mp H
   obtain ⟨t347,A160,H⟩:=H
   replace H : ((laws_toValue.f k a1_0 a1_1 l1_2 l1_3).bind fun bt350 => ((impl_ValueText.f k t347 bt350.1 bt350.2.1 bt350.2.2.1 bt350.2.2.2).bind fun t359 => (if t359.toList = t346.toList then ((laws_toRecordSS.f k l0).bind fun t360 => ((laws_eqRecordSS.f k t347 t360).bind fun t363 => (if t363 = true then ((laws_toValue.f k a1_0 a1_1 l1_2 l1_3).bind fun bt364 => ((laws_eqValue.f k bt350.1 bt350.2.1 bt350.2.2.1 bt350.2.2.2 bt364.1 bt364.2.1 bt364.2.2.1 bt364.2.2.2).bind fun t372 => (if t372 = true then (some true) else (some false)))) else (some false)))) else (some false)))) = some r:=H
   have A16:=Aside0.mk A160
   clear A160
   replace H:=Option.bind_eq_some_iff.mp H
   obtain ⟨⟨t350,t351,t352,t355⟩,A170,H⟩:=H
   replace H : ((impl_ValueText.f k t347 t350 t351 t352 t355).bind fun t359 => (if t359.toList = t346.toList then ((laws_toRecordSS.f k l0).bind fun t360 => ((laws_eqRecordSS.f k t347 t360).bind fun t363 => (if t363 = true then ((laws_toValue.f k a1_0 a1_1 l1_2 l1_3).bind fun bt364 => ((laws_eqValue.f k t350 t351 t352 t355 bt364.1 bt364.2.1 bt364.2.2.1 bt364.2.2.2).bind fun t372 => (if t372 = true then (some true) else (some false)))) else (some false)))) else (some false))) = some r:=H
   have A17:=Aside0.mk A170
   clear A170
   replace H:=Option.bind_eq_some_iff.mp H
   obtain ⟨t359,A180,H⟩:=H
   replace H : (if t359.toList = t346.toList then ((laws_toRecordSS.f k l0).bind fun t360 => ((laws_eqRecordSS.f k t347 t360).bind fun t363 => (if t363 = true then ((laws_toValue.f k a1_0 a1_1 l1_2 l1_3).bind fun bt364 => ((laws_eqValue.f k t350 t351 t352 t355 bt364.1 bt364.2.1 bt364.2.2.1 bt364.2.2.2).bind fun t372 => (if t372 = true then (some true) else (some false)))) else (some false)))) else (some false)) = some r:=H
   have A18:=Aside0.mk A180
   clear A180
   by_cases c19 : t359.toList = t346.toList
   ·rw [if_pos c19] at H
    have c19b0 : (t359.toList == t346.toList) = true:=beq_iff_eq.mpr c19
    have c19b1 : (t359.toList != t346.toList) = false:=bne_eq_false_iff_eq.mpr c19
    clear c19
    replace H:=Option.bind_eq_some_iff.mp H
    obtain ⟨t360,A200,H⟩:=H
    replace H : ((laws_eqRecordSS.f k t347 t360).bind fun t363 => (if t363 = true then ((laws_toValue.f k a1_0 a1_1 l1_2 l1_3).bind fun bt364 => ((laws_eqValue.f k t350 t351 t352 t355 bt364.1 bt364.2.1 bt364.2.2.1 bt364.2.2.2).bind fun t372 => (if t372 = true then (some true) else (some false)))) else (some false))) = some r:=H
    have A20:=Aside0.mk A200
    clear A200
    replace H:=Option.bind_eq_some_iff.mp H
    obtain ⟨t363,A210,H⟩:=H
    replace H : (if t363 = true then ((laws_toValue.f k a1_0 a1_1 l1_2 l1_3).bind fun bt364 => ((laws_eqValue.f k t350 t351 t352 t355 bt364.1 bt364.2.1 bt364.2.2.1 bt364.2.2.2).bind fun t372 => (if t372 = true then (some true) else (some false)))) else (some false)) = some r:=H
    have A21:=Aside0.mk A210
    clear A210
    by_cases c22 : t363 = true
    ·subst c22
     have H1 : ((laws_toValue.f k a1_0 a1_1 l1_2 l1_3).bind fun bt364 => ((laws_eqValue.f k t350 t351 t352 t355 bt364.1 bt364.2.1 bt364.2.2.1 bt364.2.2.2).bind fun t372 => (if t372 = true then (some true) else (some false)))) = some r:=by rw [if_pos rfl] at H;exact H
     clear H
     have H:=H1
     clear H1
     replace H:=Option.bind_eq_some_iff.mp H
     obtain ⟨⟨t364,t365,t366,t369⟩,A230,H⟩:=H
     replace H : ((laws_eqValue.f k t350 t351 t352 t355 t364 t365 t366 t369).bind fun t372 => (if t372 = true then (some true) else (some false))) = some r:=H
     have A23:=Aside0.mk A230
     clear A230
     replace H:=Option.bind_eq_some_iff.mp H
     obtain ⟨t372,A240,H⟩:=H
     replace H : (if t372 = true then (some true) else (some false)) = some r:=H
     have A24:=Aside0.mk A240
     clear A240
     by_cases c25 : t372 = true
     ·subst c25
      have H1 : (some true) = some r:=by rw [if_pos rfl] at H;exact H
      clear H
      have H:=H1
      clear H1
      obtain rfl:=Option.some.inj H
      go_enter Tryd.func5,Tryd.ntmps5
      try go_wp2_with (first | ((with_reducible refine gate_dst (N:=3) rfl ?_);refine Up.bx 3 39 #[.string a1_0,.int .i64 a1_1,.slice A1_2 l1_2.length c1_2,.slice A1_3 l1_3.length c1_3] ?_;intro gb332 hg w26 hbox hb;have n0_:=Up.BB HB hb;have n1_:=Aside0.mk (hbox);have n2_:=Up.gw hg HB;have n3_:=Up.gw hg HB;clear HB;have HB:=n0_;have BK332:=n1_;have GW332:=n2_;have GE332:=n3_;clear n0_ n1_ n2_ n3_ hb hbox hg) | ((with_reducible refine gate_callee (f:=15) rfl ?_);refine Up.gl (some 12) Tryd.func15 #[.slice A0 l0.length c0,.int .i64 1048576] ?_;(with_reducible refine (laws_szRecordSS.calls k _ _ l0 1048576 t333 _ ?side1 ?side2 A3.out).mono ?_);(case side1 => exact Up.Cx HR0 HB);(case side2 => exact HC0.out);rintro e w27 ⟨rfl,hb⟩;refine ⟨_,rfl,?_⟩;have n0_:=Up.KB BK332 hb;have n1_:=Aside0.mk (below_step (Up.Bx HB) hb);clear BK332 HB;have BK332:=n0_;have HB:=n1_;clear n0_ n1_;(try clear hb);(try clear hb2);(try clear hk);(try clear hi);have hcz28_0:=Up.c0 BK332;have hcz28_1:=Up.c1 BK332;have hcz28_2:=Up.c2 BK332;have hcz28_3:=Up.c3 BK332;have hfz28_0:=blk_frozen BK332.out 0;have hfz28_1:=blk_frozen BK332.out 1;have hfz28_2:=blk_frozen BK332.out 2;have hfz28_3:=blk_frozen BK332.out 3) | ((with_reducible refine gate_callee (f:=16) rfl ?_);refine Up.gl (some 17) Tryd.func16 #[.agg #[.string a1_0,.int .i64 a1_1,.slice A1_2 l1_2.length c1_2,.slice A1_3 l1_3.length c1_3],.int .i64 t333] ?_;(with_reducible refine (laws_szValue.calls k a1_0 a1_1 _ _ l1_2 _ _ l1_3 t333 t334 _ ?side1 ?side2 ?side3 ?side4 A7.out).mono ?_);(case side1 => exact Up.Cx HR1_2 HB);(case side2 => exact HC1_2.out);(case side3 => exact Up.Cx HR1_3 HB);(case side4 => exact HC1_3.out);rintro e w29 ⟨rfl,hb⟩;refine ⟨_,rfl,?_⟩;have n0_:=Up.KB BK332 hb;have n1_:=Aside0.mk (below_step (Up.Bx HB) hb);clear BK332 HB;have BK332:=n0_;have HB:=n1_;clear n0_ n1_;(try clear hb);(try clear hb2);(try clear hk);(try clear hi)))
      have n0_:=Aside0.mk (blk_drew BK332.out)
      have n1_:=Aside0.mk (below_drew1 HB.out)
      clear BK332
      clear HB
      have BK332:=n0_
      have HB:=n1_
      clear n0_ n1_
      refine start_ (n:=6) (S:=fun w' => w'.cell? ⟨gb332,0,none⟩ = some (.string a1_0) ∧ w'.cell? ⟨gb332,1,none⟩ = some (.int .i64 a1_1) ∧ w'.cell? ⟨gb332,2,none⟩ = some (.slice A1_2 l1_2.length c1_2) ∧ w'.cell? ⟨gb332,3,none⟩ = some (.slice A1_3 l1_3.length c1_3)) (ds:=[]) #[false,false,false,false,false,false] (by kernel_rfl) rfl rfl ⟨Up.c0 BK332,Up.c1 BK332,Up.c2 BK332,Up.c3 BK332⟩ (fun hHeld => ?_)
      generalize w29.drew = w30 at BK332 HB hHeld ⊢
      refine Up.pn 0 (some 20) ?_
      refine take_ (i:=2) (N:=some 22) (v:=?_) (a':=?_) #[true,false,true,false,false,false] rfl rfl (by kernel_rfl) (fun _ _ _ h => h) (Or.inl ⟨by rfl,?_⟩) hHeld ?_ ?_
      rotate_left
      ·rintro w' ⟨s0,s1,s2,s3⟩
       go_simp
       with_reducible rfl
      rotate_left
      ·simp only [Act.put,List.setIfInBounds_toArray,List.set_cons_zero,List.set_cons_succ,i64_w,i32_w]
       rfl
      refine one_ (i:=1) (N:=some 21) #[true,true,true,false,false,false] rfl rfl (by kernel_rfl) (by decide) (fun K hK => ?_)
      refine Up.go Tryd.func17 #[.slice A0 l0.length c0] ?_
      with_reducible refine (laws_toRecordSS.calls k _ _ l0 t335 _ ?side1 ?side2 A13.out).mono ?_
      (case side1 => exact Up.Cx HR0 HB)
      (case side2 => exact HC0.out)
      rintro e w31 ⟨v336,rfl,ho0,hb⟩
      refine ⟨_,rfl,?_⟩
      have n0_:=Aside0.mk (Kd.R_lower ho0 (below_size (Up.Bx HB)))
      have n1_:=Up.KB BK332 hb
      have n2_:=Aside0.mk (below_step (Up.Bx HB) hb)
      clear BK332
      clear HB
      have HO337:=n0_
      have BK332:=n1_
      have HB:=n2_
      clear n0_ n1_ n2_
      (try clear hb)
      (try clear hb2)
      (try clear hk)
      (try clear hi)
      (try clear ho0)
      refine hK.out _ _ ⟨Up.c0 BK332,Up.c1 BK332,Up.c2 BK332,Up.c3 BK332⟩ (fun hHeld => ?_)
      clear hK K
      refine Up.nm 21 ?_
      refine one_ (i:=3) (N:=some 23) #[true,true,true,true,false,false] rfl rfl (by kernel_rfl) (by decide) (fun K hK => ?_)
      refine Up.go Tryd.func18 #[.agg #[.string a1_0,.int .i64 a1_1,.slice A1_2 l1_2.length c1_2,.slice A1_3 l1_3.length c1_3]] ?_
      with_reducible refine (laws_toValue.calls k a1_0 a1_1 _ _ l1_2 _ _ l1_3 t338 t339 t340 t343 _ ?side1 ?side2 ?side3 ?side4 A14.out).mono ?_
      (case side1 => exact Up.Cx HR1_2 HB)
      (case side2 => exact HC1_2.out)
      (case side3 => exact Up.Cx HR1_3 HB)
      (case side4 => exact HC1_3.out)
      rintro e w32 ⟨v341,v344,rfl,ho0,ho1,hb⟩
      refine ⟨_,rfl,?_⟩
      have n0_:=Up.RB HO337 hb
      have n1_:=Aside0.mk (Kd.R_lower ho0 (below_size (Up.Bx HB)))
      have n2_:=Aside0.mk (Kd.R_lower ho1 (below_size (Up.Bx HB)))
      have n3_:=Up.KB BK332 hb
      have n4_:=Aside0.mk (below_step (Up.Bx HB) hb)
      clear HO337
      clear BK332
      clear HB
      have HO337:=n0_
      have HO342:=n1_
      have HO345:=n2_
      have BK332:=n3_
      have HB:=n4_
      clear n0_ n1_ n2_ n3_ n4_
      (try clear hb)
      (try clear hb2)
      (try clear hk)
      (try clear hi)
      (try clear ho0)
      (try clear ho1)
      obtain ⟨Ao33,co33,eo33⟩:=Kd.R_slice HO337.out
      (first | subst eo33 | (injection eo33 with f1_ f2_ f3_;have f4_:=f1_.symm;have f5_:=f3_.symm;clear f1_ f2_ f3_;subst f4_;subst f5_))
      obtain ⟨Ao34,co34,eo34⟩:=Kd.R_slice HO342.out
      (first | subst eo34 | (injection eo34 with f1_ f2_ f3_;have f4_:=f1_.symm;have f5_:=f3_.symm;clear f1_ f2_ f3_;subst f4_;subst f5_))
      obtain ⟨Ao35,co35,eo35⟩:=Kd.R_slice HO345.out
      (first | subst eo35 | (injection eo35 with f1_ f2_ f3_;have f4_:=f1_.symm;have f5_:=f3_.symm;clear f1_ f2_ f3_;subst f4_;subst f5_))
      refine hK.out _ _ ⟨Up.c0 BK332,Up.c1 BK332,Up.c2 BK332,Up.c3 BK332⟩ (fun hHeld => ?_)
      clear hK K
      refine Up.nm 23 ?_
      refine one_ (i:=4) (N:=some 24) #[true,true,true,true,true,false] rfl rfl (by kernel_rfl) (by decide) (fun K hK => ?_)
      refine Up.go Tryd.func12 #[.slice Ao33 t335.length co33,.agg #[.string t338,.int .i64 t339,.slice Ao34 t340.length co34,.slice Ao35 t343.length co35]] ?_
      with_reducible refine (spec_ValueText.calls k _ _ t335 t338 t339 _ _ t340 _ _ t343 t346 _ ?side1 ?side2 ?side3 ?side4 ?side5 ?side6 A15.out).mono ?_
      (case side1 => repeat (first | exact (Kd.R_reads' HO337.out).2.2 | (with_reducible refine Kd.C_alloc ?_ _) | (with_reducible refine Kd.C_drewN ?_ _) | (with_reducible refine Kd.C_drew ?_)))
      (case side2 => exact (Kd.R_reads' HO337.out).2.1)
      (case side3 => repeat (first | exact (Kd.R_reads' HO342.out).2.2 | (with_reducible refine Kd.C_alloc ?_ _) | (with_reducible refine Kd.C_drewN ?_ _) | (with_reducible refine Kd.C_drew ?_)))
      (case side4 => exact (Kd.R_reads' HO342.out).2.1)
      (case side5 => repeat (first | exact (Kd.R_reads' HO345.out).2.2 | (with_reducible refine Kd.C_alloc ?_ _) | (with_reducible refine Kd.C_drewN ?_ _) | (with_reducible refine Kd.C_drew ?_)))
      (case side6 => exact (Kd.R_reads' HO345.out).2.1)
      rintro e w36 ⟨rfl,hb⟩
      refine ⟨_,rfl,?_⟩
      have n0_:=Up.RB HO337 hb
      have n1_:=Up.RB HO342 hb
      have n2_:=Up.RB HO345 hb
      have n3_:=Up.KB BK332 hb
      have n4_:=Aside0.mk (below_step (Up.Bx HB) hb)
      clear HO337
      clear HO342
      clear HO345
      clear BK332
      clear HB
      have HO337:=n0_
      have HO342:=n1_
      have HO345:=n2_
      have BK332:=n3_
      have HB:=n4_
      clear n0_ n1_ n2_ n3_ n4_
      (try clear hb)
      (try clear hb2)
      (try clear hk)
      (try clear hi)
      refine hK.out _ _ ⟨Up.c0 BK332,Up.c1 BK332,Up.c2 BK332,Up.c3 BK332⟩ (fun hHeld => ?_)
      clear hK K
      refine Up.nm 24 ?_
      refine Up.pn 5 (some 6) ?_
      refine done_ (by kernel_rfl) ?_
      try go_wp2_with (first | ((with_reducible refine gate_callee (f:=17) rfl ?_);refine Up.gl (some 26) Tryd.func17 #[.slice A0 l0.length c0] ?_;(with_reducible refine (laws_toRecordSS.calls k _ _ l0 t347 _ ?side1 ?side2 A16.out).mono ?_);(case side1 => exact Up.Cx HR0 HB);(case side2 => exact HC0.out);rintro e w37 ⟨v348,rfl,ho0,hb⟩;refine ⟨_,rfl,?_⟩;have n0_:=Aside0.mk (Kd.R_elder' (Up.Rup HO337) (Kd.R_base ho0) hb);have n1_:=Up.RB HO342 hb;have n2_:=Up.RB HO345 hb;have n3_:=Aside0.mk (Kd.R_lower (Kd.R_new' ho0 (Kd.R_lt (Up.Rup HO337))) (below_size (Up.Bx HB)));have n4_:=Up.KB BK332 hb;have n5_:=Aside0.mk (below_step (Up.Bx HB) hb);clear HO337 HO342 HO345 BK332 HB;have HO337:=n0_;have HO342:=n1_;have HO345:=n2_;have HO349:=n3_;have BK332:=n4_;have HB:=n5_;clear n0_ n1_ n2_ n3_ n4_ n5_;(try clear hb);(try clear hb2);(try clear hk);(try clear hi);(try clear ho0);have hcz38_0:=Up.c0 BK332;have hcz38_1:=Up.c1 BK332;have hcz38_2:=Up.c2 BK332;have hcz38_3:=Up.c3 BK332;have hfz38_0:=blk_frozen BK332.out 0;have hfz38_1:=blk_frozen BK332.out 1;have hfz38_2:=blk_frozen BK332.out 2;have hfz38_3:=blk_frozen BK332.out 3) | ((with_reducible refine gate_callee (f:=18) rfl ?_);refine Up.gl (some 28) Tryd.func18 #[.agg #[.string a1_0,.int .i64 a1_1,.slice A1_2 l1_2.length c1_2,.slice A1_3 l1_3.length c1_3]] ?_;(with_reducible refine (laws_toValue.calls k a1_0 a1_1 _ _ l1_2 _ _ l1_3 t350 t351 t352 t355 _ ?side1 ?side2 ?side3 ?side4 A17.out).mono ?_);(case side1 => exact Up.Cx HR1_2 HB);(case side2 => exact HC1_2.out);(case side3 => exact Up.Cx HR1_3 HB);(case side4 => exact HC1_3.out);rintro e w39 ⟨v353,v356,rfl,ho0,ho1,hb⟩;refine ⟨_,rfl,?_⟩;have n0_:=Up.RB HO337 hb;have n1_:=Aside0.mk (Kd.R_mono (Kd.R_told (Kd.R_told (Kd.R_old (Up.Rup HO342) hb) (Kd.R_base ho0)) (Kd.R_base ho1)) (fun _ h_ => h_.1));have n2_:=Aside0.mk (Kd.R_elder' (Up.Rup HO345) (Kd.R_base ho1) hb);have n3_:=Up.RB HO349 hb;have n4_:=Aside0.mk (Kd.R_lower (Kd.R_new' (Kd.R_new' ho0 (Kd.R_lt (Up.Rup HO342))) (Kd.R_lt (Up.Rup HO345))) (below_size (Up.Bx HB)));have n5_:=Aside0.mk (Kd.R_lower (Kd.R_new' ho1 (Kd.R_lt (Up.Rup HO345))) (below_size (Up.Bx HB)));have n6_:=Up.KB BK332 hb;have n7_:=Aside0.mk (below_step (Up.Bx HB) hb);clear HO337 HO342 HO345 HO349 BK332 HB;have HO337:=n0_;have HO342:=n1_;have HO345:=n2_;have HO349:=n3_;have HO354:=n4_;have HO357:=n5_;have BK332:=n6_;have HB:=n7_;clear n0_ n1_ n2_ n3_ n4_ n5_ n6_ n7_;(try clear hb);(try clear hb2);(try clear hk);(try clear hi);(try clear ho0);(try clear ho1)) | ((with_reducible refine gate_dst (N:=8) rfl ?_);refine Up.bx 8 27 #[.string (⟨#[]⟩ : ByteArray),.int .i64 0,.slice none 0 0,.slice none 0 0] ?_;intro gb358 hg w40 hbox hb;have n0_:=Up.RB HO337 hb;have n1_:=Aside0.mk (Kd.R_below (Kd.R_elderB (Up.Rup HO342) gb358 (Nat.le_of_eq hg.symm)) hb);have n2_:=Up.RB HO345 hb;have n3_:=Up.RB HO349 hb;have n4_:=Aside0.mk (Kd.R_below (Kd.R_elderB (Up.Rup HO354) gb358 (Nat.le_of_eq hg.symm)) hb);have n5_:=Up.RB HO357 hb;have n6_:=Up.KB BK332 hb;have n7_:=Aside0.mk (below_step (Up.Bx HB) hb);have n8_:=Aside0.mk (hbox);have n9_:=Up.gw hg HB;have n10_:=Up.gw hg HB;have n11_:=Up.nl hg BK332;have n12_:=Up.ng hg BK332;clear HO337 HO342 HO345 HO349 HO354 HO357 BK332 HB;have HO337:=n0_;have HO342:=n1_;have HO345:=n2_;have HO349:=n3_;have HO354:=n4_;have HO357:=n5_;have BK332:=n6_;have HB:=n7_;have BK358:=n8_;have GW358:=n9_;have GE358:=n10_;have NB332_358:=n11_;have NB358_332:=n12_;clear n0_ n1_ n2_ n3_ n4_ n5_ n6_ n7_ n8_ n9_ n10_ n11_ n12_ hb hbox hg;have hnb41:=NB358_332.out;have hnc41:=NB332_358.out;have hcz42_0:=Up.c0 BK358;have hcz42_1:=Up.c1 BK358;have hcz42_2:=Up.c2 BK358;have hcz42_3:=Up.c3 BK358;have hfz42_0:=blk_frozen BK358.out 0;have hfz42_1:=blk_frozen BK358.out 1;have hfz42_2:=blk_frozen BK358.out 2;have hfz42_3:=blk_frozen BK358.out 3;obtain ⟨Ao43,co43,eo43⟩:=Kd.R_slice HO354.out;subst eo43;obtain ⟨Ao44,co44,eo44⟩:=Kd.R_slice HO357.out;subst eo44;obtain ⟨Ao45,co45,eo45⟩:=Kd.R_slice HO349.out;subst eo45) | ((with_reducible refine gate_callee (f:=10) rfl ?_);refine Up.gl (some 31) Tryd.func10 #[.slice Ao45 t347.length co45,.agg #[.string t350,.int .i64 t351,.slice Ao43 t352.length co43,.slice Ao44 t355.length co44]] ?_;(with_reducible refine (impl_ValueText.calls (hT_:=?tab1) k _ _ t347 t350 t351 _ _ t352 _ _ t355 t359 _ ?side1 ?side2 ?side3 ?side4 ?side5 ?side6 A18.out).mono ?_);(case tab1 => exact hT_.below (Up.Bx HB));(case side1 => refine (Kd.R_reads' (e:=66) (base:=w.heap.size) (ok:=fun k_ => (True ∧ some k_ ≠ (.slice Ao33 t335.length co33 : Value).ownBlock)) (n:=t347.length) (c:=co45) ?_).2.2;exact (by (with_reducible repeat (first | apply Kd.R_alloc | apply Kd.R_drewN | apply Kd.R_drew));exact (Kd.R_mono (Kd.R_far (p:=⟨gb358,3,none⟩) (Kd.R_far (p:=⟨gb358,2,none⟩) (Kd.R_far (p:=⟨gb358,1,none⟩) (Kd.R_far (p:=⟨gb358,0,none⟩) (Kd.R_types HO349.out BK358.out (by decide)) (fun _ hk => hk.2) (.string t350)) (fun _ hk => hk.2) (.int .i64 t351)) (fun _ hk => hk.2) (.slice Ao43 t352.length co43)) (fun _ hk => hk.2) (.slice Ao44 t355.length co44)) (fun _ h_ => h_.1))));(case side2 => exact (Kd.R_reads' HO349.out).2.1);(case side3 => refine (Kd.R_reads' (e:=27) (base:=w.heap.size) (ok:=fun k_ => (((some k_ ≠ (.slice Ao44 t355.length co44 : Value).ownBlock ∧ some k_ ≠ (.slice Ao34 t340.length co34 : Value).ownBlock) ∧ some k_ ≠ (.slice Ao35 t343.length co35 : Value).ownBlock) ∧ k_ ≠ gb358)) (n:=t352.length) (c:=co43) ?_).2.2;exact (by (with_reducible repeat (first | apply Kd.R_alloc | apply Kd.R_drewN | apply Kd.R_drew));exact (Kd.R_mono (Kd.R_far (p:=⟨gb358,3,none⟩) (Kd.R_far (p:=⟨gb358,2,none⟩) (Kd.R_far (p:=⟨gb358,1,none⟩) (Kd.R_far (p:=⟨gb358,0,none⟩) (Kd.R_mono HO354.out (fun k_ hk => (⟨hk,hk.2⟩ : _ ∧ k_ ≠ gb358))) (fun _ hk => hk.2) (.string t350)) (fun _ hk => hk.2) (.int .i64 t351)) (fun _ hk => hk.2) (.slice Ao43 t352.length co43)) (fun _ hk => hk.2) (.slice Ao44 t355.length co44)) (fun _ h_ => h_.1))));(case side4 => exact (Kd.R_reads' HO354.out).2.1);(case side5 => refine (Kd.R_reads' (e:=3) (base:=w.heap.size) (ok:=fun k_ => (True ∧ some k_ ≠ (.slice Ao35 t343.length co35 : Value).ownBlock)) (n:=t355.length) (c:=co44) ?_).2.2;exact (by (with_reducible repeat (first | apply Kd.R_alloc | apply Kd.R_drewN | apply Kd.R_drew));exact (Kd.R_mono (Kd.R_far (p:=⟨gb358,3,none⟩) (Kd.R_far (p:=⟨gb358,2,none⟩) (Kd.R_far (p:=⟨gb358,1,none⟩) (Kd.R_far (p:=⟨gb358,0,none⟩) (Kd.R_types HO357.out BK358.out (by decide)) (fun _ hk => hk.2) (.string t350)) (fun _ hk => hk.2) (.int .i64 t351)) (fun _ hk => hk.2) (.slice Ao43 t352.length co43)) (fun _ hk => hk.2) (.slice Ao44 t355.length co44)) (fun _ h_ => h_.1))));(case side6 => exact (Kd.R_reads' HO357.out).2.1);rintro e w46 ⟨rfl,hb⟩;refine ⟨_,rfl,?_⟩;have n0_:=Aside0.mk (Kd.R_below (by (with_reducible repeat (first | apply Kd.R_alloc | apply Kd.R_drewN | apply Kd.R_drew));exact (Kd.R_mono (Kd.R_far (p:=⟨gb358,3,none⟩) (Kd.R_far (p:=⟨gb358,2,none⟩) (Kd.R_far (p:=⟨gb358,1,none⟩) (Kd.R_far (p:=⟨gb358,0,none⟩) (Kd.R_types HO337.out BK358.out (by decide)) (fun _ hk => hk.2) (.string t350)) (fun _ hk => hk.2) (.int .i64 t351)) (fun _ hk => hk.2) (.slice Ao43 t352.length co43)) (fun _ hk => hk.2) (.slice Ao44 t355.length co44)) (fun _ h_ => h_.1))) hb);have n1_:=Aside0.mk (Kd.R_below (by (with_reducible repeat (first | apply Kd.R_alloc | apply Kd.R_drewN | apply Kd.R_drew));exact (Kd.R_mono (Kd.R_far (p:=⟨gb358,3,none⟩) (Kd.R_far (p:=⟨gb358,2,none⟩) (Kd.R_far (p:=⟨gb358,1,none⟩) (Kd.R_far (p:=⟨gb358,0,none⟩) (Kd.R_mono HO342.out (fun k_ hk => (⟨hk,hk.2⟩ : _ ∧ k_ ≠ gb358))) (fun _ hk => hk.2) (.string t350)) (fun _ hk => hk.2) (.int .i64 t351)) (fun _ hk => hk.2) (.slice Ao43 t352.length co43)) (fun _ hk => hk.2) (.slice Ao44 t355.length co44)) (fun _ h_ => h_.1))) hb);have n2_:=Aside0.mk (Kd.R_below (by (with_reducible repeat (first | apply Kd.R_alloc | apply Kd.R_drewN | apply Kd.R_drew));exact (Kd.R_mono (Kd.R_far (p:=⟨gb358,3,none⟩) (Kd.R_far (p:=⟨gb358,2,none⟩) (Kd.R_far (p:=⟨gb358,1,none⟩) (Kd.R_far (p:=⟨gb358,0,none⟩) (Kd.R_types HO345.out BK358.out (by decide)) (fun _ hk => hk.2) (.string t350)) (fun _ hk => hk.2) (.int .i64 t351)) (fun _ hk => hk.2) (.slice Ao43 t352.length co43)) (fun _ hk => hk.2) (.slice Ao44 t355.length co44)) (fun _ h_ => h_.1))) hb);have n3_:=Aside0.mk (Kd.R_below (by (with_reducible repeat (first | apply Kd.R_alloc | apply Kd.R_drewN | apply Kd.R_drew));exact (Kd.R_mono (Kd.R_far (p:=⟨gb358,3,none⟩) (Kd.R_far (p:=⟨gb358,2,none⟩) (Kd.R_far (p:=⟨gb358,1,none⟩) (Kd.R_far (p:=⟨gb358,0,none⟩) (Kd.R_types HO349.out BK358.out (by decide)) (fun _ hk => hk.2) (.string t350)) (fun _ hk => hk.2) (.int .i64 t351)) (fun _ hk => hk.2) (.slice Ao43 t352.length co43)) (fun _ hk => hk.2) (.slice Ao44 t355.length co44)) (fun _ h_ => h_.1))) hb);have n4_:=Aside0.mk (Kd.R_below (by (with_reducible repeat (first | apply Kd.R_alloc | apply Kd.R_drewN | apply Kd.R_drew));exact (Kd.R_mono (Kd.R_far (p:=⟨gb358,3,none⟩) (Kd.R_far (p:=⟨gb358,2,none⟩) (Kd.R_far (p:=⟨gb358,1,none⟩) (Kd.R_far (p:=⟨gb358,0,none⟩) (Kd.R_mono HO354.out (fun k_ hk => (⟨hk,hk.2⟩ : _ ∧ k_ ≠ gb358))) (fun _ hk => hk.2) (.string t350)) (fun _ hk => hk.2) (.int .i64 t351)) (fun _ hk => hk.2) (.slice Ao43 t352.length co43)) (fun _ hk => hk.2) (.slice Ao44 t355.length co44)) (fun _ h_ => h_.1))) hb);have n5_:=Aside0.mk (Kd.R_below (by (with_reducible repeat (first | apply Kd.R_alloc | apply Kd.R_drewN | apply Kd.R_drew));exact (Kd.R_mono (Kd.R_far (p:=⟨gb358,3,none⟩) (Kd.R_far (p:=⟨gb358,2,none⟩) (Kd.R_far (p:=⟨gb358,1,none⟩) (Kd.R_far (p:=⟨gb358,0,none⟩) (Kd.R_types HO357.out BK358.out (by decide)) (fun _ hk => hk.2) (.string t350)) (fun _ hk => hk.2) (.int .i64 t351)) (fun _ hk => hk.2) (.slice Ao43 t352.length co43)) (fun _ hk => hk.2) (.slice Ao44 t355.length co44)) (fun _ h_ => h_.1))) hb);have n6_:=Aside0.mk (blk_below (g:=gb332) (o:=.cells #[.string a1_0,.int .i64 a1_1,.slice A1_2 l1_2.length c1_2,.slice A1_3 l1_3.length c1_3] 39 (0,0)) (Up.Kx BK332) hb);have n7_:=Aside0.mk (blk_below (g:=gb358) (o:=.cells #[.string t350,.int .i64 t351,.slice Ao43 t352.length co43,.slice Ao44 t355.length co44] 27 (0,0)) (Up.Kx BK358) hb);have n8_:=Aside0.mk (below_step (Up.Bx HB) hb);clear HO337 HO342 HO345 HO349 HO354 HO357 BK332 BK358 HB;have HO337:=n0_;have HO342:=n1_;have HO345:=n2_;have HO349:=n3_;have HO354:=n4_;have HO357:=n5_;have BK332:=n6_;have BK358:=n7_;have HB:=n8_;clear n0_ n1_ n2_ n3_ n4_ n5_ n6_ n7_ n8_;(try clear hb);(try clear hb2);(try clear hk);(try clear hi)) | ((with_reducible refine gate_callee (f:=17) rfl ?_);refine Up.gl (some 37) Tryd.func17 #[.slice A0 l0.length c0] ?_;(with_reducible refine (laws_toRecordSS.calls k _ _ l0 t360 _ ?side1 ?side2 A20.out).mono ?_);(case side1 => exact Up.Cx HR0 HB);(case side2 => exact HC0.out);rintro e w47 ⟨v361,rfl,ho0,hb⟩;refine ⟨_,rfl,?_⟩;have n0_:=Aside0.mk (Kd.R_elder' (Up.Rup HO337) (Kd.R_base ho0) hb);have n1_:=Up.RB HO342 hb;have n2_:=Up.RB HO345 hb;have n3_:=Aside0.mk (Kd.R_elder' (Up.Rup HO349) (Kd.R_base ho0) hb);have n4_:=Up.RB HO354 hb;have n5_:=Up.RB HO357 hb;have n6_:=Aside0.mk (Kd.R_lower (Kd.R_new' (Kd.R_new' ho0 (Kd.R_lt (Up.Rup HO337))) (Kd.R_lt (Up.Rup HO349))) (below_size (Up.Bx HB)));have n7_:=Up.KB BK332 hb;have n8_:=Up.KB BK358 hb;have n9_:=Aside0.mk (below_step (Up.Bx HB) hb);clear HO337 HO342 HO345 HO349 HO354 HO357 BK332 BK358 HB;have HO337:=n0_;have HO342:=n1_;have HO345:=n2_;have HO349:=n3_;have HO354:=n4_;have HO357:=n5_;have HO362:=n6_;have BK332:=n7_;have BK358:=n8_;have HB:=n9_;clear n0_ n1_ n2_ n3_ n4_ n5_ n6_ n7_ n8_ n9_;(try clear hb);(try clear hb2);(try clear hk);(try clear hi);(try clear ho0);obtain ⟨Ao48,co48,eo48⟩:=Kd.R_slice HO362.out;subst eo48) | ((with_reducible refine gate_callee (f:=19) rfl ?_);refine Up.gl (some 38) Tryd.func19 #[.slice Ao45 t347.length co45,.slice Ao48 t360.length co48] ?_;(with_reducible refine (laws_eqRecordSS.calls k _ _ t347 _ _ t360 true _ ?side1 ?side2 ?side3 ?side4 A21.out).mono ?_);(case side1 => repeat (first | exact (Kd.R_reads' HO349.out).2.2 | (with_reducible refine Kd.C_alloc ?_ _) | (with_reducible refine Kd.C_drewN ?_ _) | (with_reducible refine Kd.C_drew ?_)));(case side2 => exact (Kd.R_reads' HO349.out).2.1);(case side3 => repeat (first | exact (Kd.R_reads' HO362.out).2.2 | (with_reducible refine Kd.C_alloc ?_ _) | (with_reducible refine Kd.C_drewN ?_ _) | (with_reducible refine Kd.C_drew ?_)));(case side4 => exact (Kd.R_reads' HO362.out).2.1);rintro e w49 ⟨rfl,hb⟩;refine ⟨_,rfl,?_⟩;have n0_:=Up.RB HO337 hb;have n1_:=Up.RB HO342 hb;have n2_:=Up.RB HO345 hb;have n3_:=Up.RB HO349 hb;have n4_:=Up.RB HO354 hb;have n5_:=Up.RB HO357 hb;have n6_:=Up.RB HO362 hb;have n7_:=Up.KB BK332 hb;have n8_:=Up.KB BK358 hb;have n9_:=Aside0.mk (below_step (Up.Bx HB) hb);clear HO337 HO342 HO345 HO349 HO354 HO357 HO362 BK332 BK358 HB;have HO337:=n0_;have HO342:=n1_;have HO345:=n2_;have HO349:=n3_;have HO354:=n4_;have HO357:=n5_;have HO362:=n6_;have BK332:=n7_;have BK358:=n8_;have HB:=n9_;clear n0_ n1_ n2_ n3_ n4_ n5_ n6_ n7_ n8_ n9_;(try clear hb);(try clear hb2);(try clear hk);(try clear hi)))
      have n0_:=Aside0.mk (Kd.R_drew HO337.out)
      have n1_:=Aside0.mk (Kd.R_drew HO342.out)
      have n2_:=Aside0.mk (Kd.R_drew HO345.out)
      have n3_:=Aside0.mk (Kd.R_drew HO349.out)
      have n4_:=Aside0.mk (Kd.R_drew HO354.out)
      have n5_:=Aside0.mk (Kd.R_drew HO357.out)
      have n6_:=Aside0.mk (Kd.R_drew HO362.out)
      have n7_:=Aside0.mk (blk_drew BK332.out)
      have n8_:=Aside0.mk (blk_drew BK358.out)
      have n9_:=Aside0.mk (below_drew1 HB.out)
      clear HO337
      clear HO342
      clear HO345
      clear HO349
      clear HO354
      clear HO357
      clear HO362
      clear BK332
      clear BK358
      clear HB
      have HO337:=n0_
      have HO342:=n1_
      have HO345:=n2_
      have HO349:=n3_
      have HO354:=n4_
      have HO357:=n5_
      have HO362:=n6_
      have BK332:=n7_
      have BK358:=n8_
      have HB:=n9_
      clear n0_ n1_ n2_ n3_ n4_ n5_ n6_ n7_ n8_ n9_
      refine start_ (n:=5) (S:=fun w' => w'.cell? ⟨gb358,0,none⟩ = some (.string t350) ∧ w'.cell? ⟨gb358,1,none⟩ = some (.int .i64 t351) ∧ w'.cell? ⟨gb358,2,none⟩ = some (.slice Ao43 t352.length co43) ∧ w'.cell? ⟨gb358,3,none⟩ = some (.slice Ao44 t355.length co44) ∧ w'.cell? ⟨gb332,0,none⟩ = some (.string a1_0) ∧ w'.cell? ⟨gb332,1,none⟩ = some (.int .i64 a1_1) ∧ w'.cell? ⟨gb332,2,none⟩ = some (.slice A1_2 l1_2.length c1_2) ∧ w'.cell? ⟨gb332,3,none⟩ = some (.slice A1_3 l1_3.length c1_3)) (ds:=[]) #[false,false,false,false,false] (by kernel_rfl) rfl rfl ⟨Up.c0 BK358,Up.c1 BK358,Up.c2 BK358,Up.c3 BK358,Up.c0 BK332,Up.c1 BK332,Up.c2 BK332,Up.c3 BK332⟩ (fun hHeld => ?_)
      generalize w49.drew = w50 at HO337 HO342 HO345 HO349 HO354 HO357 HO362 BK332 BK358 HB hHeld ⊢
      refine take_ (i:=0) (N:=some 40) (v:=?_) (a':=?_) #[true,false,false,false,false] rfl rfl (by kernel_rfl) (fun _ _ _ h => h) (Or.inl ⟨by rfl,?_⟩) hHeld ?_ ?_
      rotate_left
      ·rintro w' ⟨s0,s1,s2,s3,s4,s5,s6,s7⟩
       go_simp
       with_reducible rfl
      rotate_left
      ·simp only [Act.put,List.setIfInBounds_toArray,List.set_cons_zero,List.set_cons_succ,i64_w,i32_w]
       rfl
      refine take_ (i:=1) (N:=some 41) (v:=?_) (a':=?_) #[true,true,false,false,false] rfl rfl (by kernel_rfl) (fun _ _ _ h => h) (Or.inl ⟨by rfl,?_⟩) hHeld ?_ ?_
      rotate_left
      ·rintro w' ⟨s0,s1,s2,s3,s4,s5,s6,s7⟩
       go_simp
       with_reducible rfl
      rotate_left
      ·simp only [Act.put,List.setIfInBounds_toArray,List.set_cons_zero,List.set_cons_succ,i64_w,i32_w]
       rfl
      refine one_ (i:=2) (N:=some 42) #[true,true,true,false,false] rfl rfl (by kernel_rfl) (by decide) (fun K hK => ?_)
      refine Up.go Tryd.func18 #[.agg #[.string a1_0,.int .i64 a1_1,.slice A1_2 l1_2.length c1_2,.slice A1_3 l1_3.length c1_3]] ?_
      with_reducible refine (laws_toValue.calls k a1_0 a1_1 _ _ l1_2 _ _ l1_3 t364 t365 t366 t369 _ ?side1 ?side2 ?side3 ?side4 A23.out).mono ?_
      (case side1 => exact Up.Cx HR1_2 HB)
      (case side2 => exact HC1_2.out)
      (case side3 => exact Up.Cx HR1_3 HB)
      (case side4 => exact HC1_3.out)
      rintro e w51 ⟨v367,v370,rfl,ho0,ho1,hb⟩
      refine ⟨_,rfl,?_⟩
      have n0_:=Up.RB HO337 hb
      have n1_:=Aside0.mk (Kd.R_mono (Kd.R_told (Kd.R_told (Kd.R_old (Up.Rup HO342) hb) (Kd.R_base ho0)) (Kd.R_base ho1)) (fun _ h_ => h_.1))
      have n2_:=Aside0.mk (Kd.R_elder' (Up.Rup HO345) (Kd.R_base ho1) hb)
      have n3_:=Up.RB HO349 hb
      have n4_:=Aside0.mk (Kd.R_mono (Kd.R_told (Kd.R_told (Kd.R_old (Up.Rup HO354) hb) (Kd.R_base ho0)) (Kd.R_base ho1)) (fun _ h_ => h_.1))
      have n5_:=Aside0.mk (Kd.R_elder' (Up.Rup HO357) (Kd.R_base ho1) hb)
      have n6_:=Up.RB HO362 hb
      have n7_:=Aside0.mk (Kd.R_lower (Kd.R_newB (Kd.R_new' (Kd.R_new' (Kd.R_new' (Kd.R_new' ho0 (Kd.R_lt (Up.Rup HO342))) (Kd.R_lt (Up.Rup HO345))) (Kd.R_lt (Up.Rup HO354))) (Kd.R_lt (Up.Rup HO357))) (g:=gb358) (o:=.cells #[.string t350,.int .i64 t351,.slice Ao43 t352.length co43,.slice Ao44 t355.length co44] 27 (0,0)) (Up.Kup BK358)) (below_size (Up.Bx HB)))
      have n8_:=Aside0.mk (Kd.R_lower (Kd.R_new' (Kd.R_new' ho1 (Kd.R_lt (Up.Rup HO345))) (Kd.R_lt (Up.Rup HO357))) (below_size (Up.Bx HB)))
      have n9_:=Up.KB BK332 hb
      have n10_:=Up.KB BK358 hb
      have n11_:=Aside0.mk (below_step (Up.Bx HB) hb)
      clear HO337
      clear HO342
      clear HO345
      clear HO349
      clear HO354
      clear HO357
      clear HO362
      clear BK332
      clear BK358
      clear HB
      have HO337:=n0_
      have HO342:=n1_
      have HO345:=n2_
      have HO349:=n3_
      have HO354:=n4_
      have HO357:=n5_
      have HO362:=n6_
      have HO368:=n7_
      have HO371:=n8_
      have BK332:=n9_
      have BK358:=n10_
      have HB:=n11_
      clear n0_ n1_ n2_ n3_ n4_ n5_ n6_ n7_ n8_ n9_ n10_ n11_
      (try clear hb)
      (try clear hb2)
      (try clear hk)
      (try clear hi)
      (try clear ho0)
      (try clear ho1)
      obtain ⟨Ao52,co52,eo52⟩:=Kd.R_slice HO368.out
      (first | subst eo52 | (injection eo52 with f1_ f2_ f3_;have f4_:=f1_.symm;have f5_:=f3_.symm;clear f1_ f2_ f3_;subst f4_;subst f5_))
      obtain ⟨Ao53,co53,eo53⟩:=Kd.R_slice HO371.out
      (first | subst eo53 | (injection eo53 with f1_ f2_ f3_;have f4_:=f1_.symm;have f5_:=f3_.symm;clear f1_ f2_ f3_;subst f4_;subst f5_))
      refine hK.out _ _ ⟨Up.c0 BK358,Up.c1 BK358,Up.c2 BK358,Up.c3 BK358,Up.c0 BK332,Up.c1 BK332,Up.c2 BK332,Up.c3 BK332⟩ (fun hHeld => ?_)
      clear hK K
      refine Up.nm 42 ?_
      refine one_ (i:=3) (N:=some 43) #[true,true,true,true,false] rfl rfl (by kernel_rfl) (by decide) (fun K hK => ?_)
      refine Up.go Tryd.func20 #[.agg #[.string t350,.int .i64 t351,.slice Ao43 t352.length co43,.slice Ao44 t355.length co44],.agg #[.string t364,.int .i64 t365,.slice Ao52 t366.length co52,.slice Ao53 t369.length co53]] ?_
      with_reducible refine (laws_eqValue.calls k t350 t351 _ _ t352 _ _ t355 t364 t365 _ _ t366 _ _ t369 true _ ?side1 ?side2 ?side3 ?side4 ?side5 ?side6 ?side7 ?side8 A24.out).mono ?_
      (case side1 => repeat (first | exact (Kd.R_reads' HO354.out).2.2 | (with_reducible refine Kd.C_alloc ?_ _) | (with_reducible refine Kd.C_drewN ?_ _) | (with_reducible refine Kd.C_drew ?_)))
      (case side2 => exact (Kd.R_reads' HO354.out).2.1)
      (case side3 => repeat (first | exact (Kd.R_reads' HO357.out).2.2 | (with_reducible refine Kd.C_alloc ?_ _) | (with_reducible refine Kd.C_drewN ?_ _) | (with_reducible refine Kd.C_drew ?_)))
      (case side4 => exact (Kd.R_reads' HO357.out).2.1)
      (case side5 => repeat (first | exact (Kd.R_reads' HO368.out).2.2 | (with_reducible refine Kd.C_alloc ?_ _) | (with_reducible refine Kd.C_drewN ?_ _) | (with_reducible refine Kd.C_drew ?_)))
      (case side6 => exact (Kd.R_reads' HO368.out).2.1)
      (case side7 => repeat (first | exact (Kd.R_reads' HO371.out).2.2 | (with_reducible refine Kd.C_alloc ?_ _) | (with_reducible refine Kd.C_drewN ?_ _) | (with_reducible refine Kd.C_drew ?_)))
      (case side8 => exact (Kd.R_reads' HO371.out).2.1)
      rintro e w54 ⟨rfl,hb⟩
      refine ⟨_,rfl,?_⟩
      have n0_:=Up.RB HO337 hb
      have n1_:=Up.RB HO342 hb
      have n2_:=Up.RB HO345 hb
      have n3_:=Up.RB HO349 hb
      have n4_:=Up.RB HO354 hb
      have n5_:=Up.RB HO357 hb
      have n6_:=Up.RB HO362 hb
      have n7_:=Up.RB HO368 hb
      have n8_:=Up.RB HO371 hb
      have n9_:=Up.KB BK332 hb
      have n10_:=Up.KB BK358 hb
      have n11_:=Aside0.mk (below_step (Up.Bx HB) hb)
      clear HO337
      clear HO342
      clear HO345
      clear HO349
      clear HO354
      clear HO357
      clear HO362
      clear HO368
      clear HO371
      clear BK332
      clear BK358
      clear HB
      have HO337:=n0_
      have HO342:=n1_
      have HO345:=n2_
      have HO349:=n3_
      have HO354:=n4_
      have HO357:=n5_
      have HO362:=n6_
      have HO368:=n7_
      have HO371:=n8_
      have BK332:=n9_
      have BK358:=n10_
      have HB:=n11_
      clear n0_ n1_ n2_ n3_ n4_ n5_ n6_ n7_ n8_ n9_ n10_ n11_
      (try clear hb)
      (try clear hb2)
      (try clear hk)
      (try clear hi)
      refine hK.out _ _ ⟨Up.c0 BK358,Up.c1 BK358,Up.c2 BK358,Up.c3 BK358,Up.c0 BK332,Up.c1 BK332,Up.c2 BK332,Up.c3 BK332⟩ (fun hHeld => ?_)
      clear hK K
      refine Up.nm 43 ?_
      refine Up.pn 4 (some 44) ?_
      refine done_ (by kernel_rfl) ?_
      try go_wp2
      go_ret
      exact Up.e1 (Up.Bx HB)
     ·replace c25:=Bool.eq_false_iff.mpr c25
      subst c25
      have H1 : (some false) = some r:=by rw [if_neg (show ¬ (false = true) by decide)] at H;exact H
      clear H
      have H:=H1
      clear H1
      obtain rfl:=Option.some.inj H
      go_enter Tryd.func5,Tryd.ntmps5
      try go_wp2_with (first | ((with_reducible refine gate_dst (N:=3) rfl ?_);refine Up.bx 3 39 #[.string a1_0,.int .i64 a1_1,.slice A1_2 l1_2.length c1_2,.slice A1_3 l1_3.length c1_3] ?_;intro gb332 hg w55 hbox hb;have n0_:=Up.BB HB hb;have n1_:=Aside0.mk (hbox);have n2_:=Up.gw hg HB;have n3_:=Up.gw hg HB;clear HB;have HB:=n0_;have BK332:=n1_;have GW332:=n2_;have GE332:=n3_;clear n0_ n1_ n2_ n3_ hb hbox hg) | ((with_reducible refine gate_callee (f:=15) rfl ?_);refine Up.gl (some 12) Tryd.func15 #[.slice A0 l0.length c0,.int .i64 1048576] ?_;(with_reducible refine (laws_szRecordSS.calls k _ _ l0 1048576 t333 _ ?side1 ?side2 A3.out).mono ?_);(case side1 => exact Up.Cx HR0 HB);(case side2 => exact HC0.out);rintro e w56 ⟨rfl,hb⟩;refine ⟨_,rfl,?_⟩;have n0_:=Up.KB BK332 hb;have n1_:=Aside0.mk (below_step (Up.Bx HB) hb);clear BK332 HB;have BK332:=n0_;have HB:=n1_;clear n0_ n1_;(try clear hb);(try clear hb2);(try clear hk);(try clear hi);have hcz57_0:=Up.c0 BK332;have hcz57_1:=Up.c1 BK332;have hcz57_2:=Up.c2 BK332;have hcz57_3:=Up.c3 BK332;have hfz57_0:=blk_frozen BK332.out 0;have hfz57_1:=blk_frozen BK332.out 1;have hfz57_2:=blk_frozen BK332.out 2;have hfz57_3:=blk_frozen BK332.out 3) | ((with_reducible refine gate_callee (f:=16) rfl ?_);refine Up.gl (some 17) Tryd.func16 #[.agg #[.string a1_0,.int .i64 a1_1,.slice A1_2 l1_2.length c1_2,.slice A1_3 l1_3.length c1_3],.int .i64 t333] ?_;(with_reducible refine (laws_szValue.calls k a1_0 a1_1 _ _ l1_2 _ _ l1_3 t333 t334 _ ?side1 ?side2 ?side3 ?side4 A7.out).mono ?_);(case side1 => exact Up.Cx HR1_2 HB);(case side2 => exact HC1_2.out);(case side3 => exact Up.Cx HR1_3 HB);(case side4 => exact HC1_3.out);rintro e w58 ⟨rfl,hb⟩;refine ⟨_,rfl,?_⟩;have n0_:=Up.KB BK332 hb;have n1_:=Aside0.mk (below_step (Up.Bx HB) hb);clear BK332 HB;have BK332:=n0_;have HB:=n1_;clear n0_ n1_;(try clear hb);(try clear hb2);(try clear hk);(try clear hi)))
      have n0_:=Aside0.mk (blk_drew BK332.out)
      have n1_:=Aside0.mk (below_drew1 HB.out)
      clear BK332
      clear HB
      have BK332:=n0_
      have HB:=n1_
      clear n0_ n1_
      refine start_ (n:=6) (S:=fun w' => w'.cell? ⟨gb332,0,none⟩ = some (.string a1_0) ∧ w'.cell? ⟨gb332,1,none⟩ = some (.int .i64 a1_1) ∧ w'.cell? ⟨gb332,2,none⟩ = some (.slice A1_2 l1_2.length c1_2) ∧ w'.cell? ⟨gb332,3,none⟩ = some (.slice A1_3 l1_3.length c1_3)) (ds:=[]) #[false,false,false,false,false,false] (by kernel_rfl) rfl rfl ⟨Up.c0 BK332,Up.c1 BK332,Up.c2 BK332,Up.c3 BK332⟩ (fun hHeld => ?_)
      generalize w58.drew = w59 at BK332 HB hHeld ⊢
      refine Up.pn 0 (some 20) ?_
      refine take_ (i:=2) (N:=some 22) (v:=?_) (a':=?_) #[true,false,true,false,false,false] rfl rfl (by kernel_rfl) (fun _ _ _ h => h) (Or.inl ⟨by rfl,?_⟩) hHeld ?_ ?_
      rotate_left
      ·rintro w' ⟨s0,s1,s2,s3⟩
       go_simp
       with_reducible rfl
      rotate_left
      ·simp only [Act.put,List.setIfInBounds_toArray,List.set_cons_zero,List.set_cons_succ,i64_w,i32_w]
       rfl
      refine one_ (i:=1) (N:=some 21) #[true,true,true,false,false,false] rfl rfl (by kernel_rfl) (by decide) (fun K hK => ?_)
      refine Up.go Tryd.func17 #[.slice A0 l0.length c0] ?_
      with_reducible refine (laws_toRecordSS.calls k _ _ l0 t335 _ ?side1 ?side2 A13.out).mono ?_
      (case side1 => exact Up.Cx HR0 HB)
      (case side2 => exact HC0.out)
      rintro e w60 ⟨v336,rfl,ho0,hb⟩
      refine ⟨_,rfl,?_⟩
      have n0_:=Aside0.mk (Kd.R_lower ho0 (below_size (Up.Bx HB)))
      have n1_:=Up.KB BK332 hb
      have n2_:=Aside0.mk (below_step (Up.Bx HB) hb)
      clear BK332
      clear HB
      have HO337:=n0_
      have BK332:=n1_
      have HB:=n2_
      clear n0_ n1_ n2_
      (try clear hb)
      (try clear hb2)
      (try clear hk)
      (try clear hi)
      (try clear ho0)
      refine hK.out _ _ ⟨Up.c0 BK332,Up.c1 BK332,Up.c2 BK332,Up.c3 BK332⟩ (fun hHeld => ?_)
      clear hK K
      refine Up.nm 21 ?_
      refine one_ (i:=3) (N:=some 23) #[true,true,true,true,false,false] rfl rfl (by kernel_rfl) (by decide) (fun K hK => ?_)
      refine Up.go Tryd.func18 #[.agg #[.string a1_0,.int .i64 a1_1,.slice A1_2 l1_2.length c1_2,.slice A1_3 l1_3.length c1_3]] ?_
      with_reducible refine (laws_toValue.calls k a1_0 a1_1 _ _ l1_2 _ _ l1_3 t338 t339 t340 t343 _ ?side1 ?side2 ?side3 ?side4 A14.out).mono ?_
      (case side1 => exact Up.Cx HR1_2 HB)
      (case side2 => exact HC1_2.out)
      (case side3 => exact Up.Cx HR1_3 HB)
      (case side4 => exact HC1_3.out)
      rintro e w61 ⟨v341,v344,rfl,ho0,ho1,hb⟩
      refine ⟨_,rfl,?_⟩
      have n0_:=Up.RB HO337 hb
      have n1_:=Aside0.mk (Kd.R_lower ho0 (below_size (Up.Bx HB)))
      have n2_:=Aside0.mk (Kd.R_lower ho1 (below_size (Up.Bx HB)))
      have n3_:=Up.KB BK332 hb
      have n4_:=Aside0.mk (below_step (Up.Bx HB) hb)
      clear HO337
      clear BK332
      clear HB
      have HO337:=n0_
      have HO342:=n1_
      have HO345:=n2_
      have BK332:=n3_
      have HB:=n4_
      clear n0_ n1_ n2_ n3_ n4_
      (try clear hb)
      (try clear hb2)
      (try clear hk)
      (try clear hi)
      (try clear ho0)
      (try clear ho1)
      obtain ⟨Ao62,co62,eo62⟩:=Kd.R_slice HO337.out
      (first | subst eo62 | (injection eo62 with f1_ f2_ f3_;have f4_:=f1_.symm;have f5_:=f3_.symm;clear f1_ f2_ f3_;subst f4_;subst f5_))
      obtain ⟨Ao63,co63,eo63⟩:=Kd.R_slice HO342.out
      (first | subst eo63 | (injection eo63 with f1_ f2_ f3_;have f4_:=f1_.symm;have f5_:=f3_.symm;clear f1_ f2_ f3_;subst f4_;subst f5_))
      obtain ⟨Ao64,co64,eo64⟩:=Kd.R_slice HO345.out
      (first | subst eo64 | (injection eo64 with f1_ f2_ f3_;have f4_:=f1_.symm;have f5_:=f3_.symm;clear f1_ f2_ f3_;subst f4_;subst f5_))
      refine hK.out _ _ ⟨Up.c0 BK332,Up.c1 BK332,Up.c2 BK332,Up.c3 BK332⟩ (fun hHeld => ?_)
      clear hK K
      refine Up.nm 23 ?_
      refine one_ (i:=4) (N:=some 24) #[true,true,true,true,true,false] rfl rfl (by kernel_rfl) (by decide) (fun K hK => ?_)
      refine Up.go Tryd.func12 #[.slice Ao62 t335.length co62,.agg #[.string t338,.int .i64 t339,.slice Ao63 t340.length co63,.slice Ao64 t343.length co64]] ?_
      with_reducible refine (spec_ValueText.calls k _ _ t335 t338 t339 _ _ t340 _ _ t343 t346 _ ?side1 ?side2 ?side3 ?side4 ?side5 ?side6 A15.out).mono ?_
      (case side1 => repeat (first | exact (Kd.R_reads' HO337.out).2.2 | (with_reducible refine Kd.C_alloc ?_ _) | (with_reducible refine Kd.C_drewN ?_ _) | (with_reducible refine Kd.C_drew ?_)))
      (case side2 => exact (Kd.R_reads' HO337.out).2.1)
      (case side3 => repeat (first | exact (Kd.R_reads' HO342.out).2.2 | (with_reducible refine Kd.C_alloc ?_ _) | (with_reducible refine Kd.C_drewN ?_ _) | (with_reducible refine Kd.C_drew ?_)))
      (case side4 => exact (Kd.R_reads' HO342.out).2.1)
      (case side5 => repeat (first | exact (Kd.R_reads' HO345.out).2.2 | (with_reducible refine Kd.C_alloc ?_ _) | (with_reducible refine Kd.C_drewN ?_ _) | (with_reducible refine Kd.C_drew ?_)))
      (case side6 => exact (Kd.R_reads' HO345.out).2.1)
      rintro e w65 ⟨rfl,hb⟩
      refine ⟨_,rfl,?_⟩
      have n0_:=Up.RB HO337 hb
      have n1_:=Up.RB HO342 hb
      have n2_:=Up.RB HO345 hb
      have n3_:=Up.KB BK332 hb
      have n4_:=Aside0.mk (below_step (Up.Bx HB) hb)
      clear HO337
      clear HO342
      clear HO345
      clear BK332
      clear HB
      have HO337:=n0_
      have HO342:=n1_
      have HO345:=n2_
      have BK332:=n3_
      have HB:=n4_
      clear n0_ n1_ n2_ n3_ n4_
      (try clear hb)
      (try clear hb2)
      (try clear hk)
      (try clear hi)
      refine hK.out _ _ ⟨Up.c0 BK332,Up.c1 BK332,Up.c2 BK332,Up.c3 BK332⟩ (fun hHeld => ?_)
      clear hK K
      refine Up.nm 24 ?_
      refine Up.pn 5 (some 6) ?_
      refine done_ (by kernel_rfl) ?_
      try go_wp2_with (first | ((with_reducible refine gate_callee (f:=17) rfl ?_);refine Up.gl (some 26) Tryd.func17 #[.slice A0 l0.length c0] ?_;(with_reducible refine (laws_toRecordSS.calls k _ _ l0 t347 _ ?side1 ?side2 A16.out).mono ?_);(case side1 => exact Up.Cx HR0 HB);(case side2 => exact HC0.out);rintro e w66 ⟨v348,rfl,ho0,hb⟩;refine ⟨_,rfl,?_⟩;have n0_:=Aside0.mk (Kd.R_elder' (Up.Rup HO337) (Kd.R_base ho0) hb);have n1_:=Up.RB HO342 hb;have n2_:=Up.RB HO345 hb;have n3_:=Aside0.mk (Kd.R_lower (Kd.R_new' ho0 (Kd.R_lt (Up.Rup HO337))) (below_size (Up.Bx HB)));have n4_:=Up.KB BK332 hb;have n5_:=Aside0.mk (below_step (Up.Bx HB) hb);clear HO337 HO342 HO345 BK332 HB;have HO337:=n0_;have HO342:=n1_;have HO345:=n2_;have HO349:=n3_;have BK332:=n4_;have HB:=n5_;clear n0_ n1_ n2_ n3_ n4_ n5_;(try clear hb);(try clear hb2);(try clear hk);(try clear hi);(try clear ho0);have hcz67_0:=Up.c0 BK332;have hcz67_1:=Up.c1 BK332;have hcz67_2:=Up.c2 BK332;have hcz67_3:=Up.c3 BK332;have hfz67_0:=blk_frozen BK332.out 0;have hfz67_1:=blk_frozen BK332.out 1;have hfz67_2:=blk_frozen BK332.out 2;have hfz67_3:=blk_frozen BK332.out 3) | ((with_reducible refine gate_callee (f:=18) rfl ?_);refine Up.gl (some 28) Tryd.func18 #[.agg #[.string a1_0,.int .i64 a1_1,.slice A1_2 l1_2.length c1_2,.slice A1_3 l1_3.length c1_3]] ?_;(with_reducible refine (laws_toValue.calls k a1_0 a1_1 _ _ l1_2 _ _ l1_3 t350 t351 t352 t355 _ ?side1 ?side2 ?side3 ?side4 A17.out).mono ?_);(case side1 => exact Up.Cx HR1_2 HB);(case side2 => exact HC1_2.out);(case side3 => exact Up.Cx HR1_3 HB);(case side4 => exact HC1_3.out);rintro e w68 ⟨v353,v356,rfl,ho0,ho1,hb⟩;refine ⟨_,rfl,?_⟩;have n0_:=Up.RB HO337 hb;have n1_:=Aside0.mk (Kd.R_mono (Kd.R_told (Kd.R_told (Kd.R_old (Up.Rup HO342) hb) (Kd.R_base ho0)) (Kd.R_base ho1)) (fun _ h_ => h_.1));have n2_:=Aside0.mk (Kd.R_elder' (Up.Rup HO345) (Kd.R_base ho1) hb);have n3_:=Up.RB HO349 hb;have n4_:=Aside0.mk (Kd.R_lower (Kd.R_new' (Kd.R_new' ho0 (Kd.R_lt (Up.Rup HO342))) (Kd.R_lt (Up.Rup HO345))) (below_size (Up.Bx HB)));have n5_:=Aside0.mk (Kd.R_lower (Kd.R_new' ho1 (Kd.R_lt (Up.Rup HO345))) (below_size (Up.Bx HB)));have n6_:=Up.KB BK332 hb;have n7_:=Aside0.mk (below_step (Up.Bx HB) hb);clear HO337 HO342 HO345 HO349 BK332 HB;have HO337:=n0_;have HO342:=n1_;have HO345:=n2_;have HO349:=n3_;have HO354:=n4_;have HO357:=n5_;have BK332:=n6_;have HB:=n7_;clear n0_ n1_ n2_ n3_ n4_ n5_ n6_ n7_;(try clear hb);(try clear hb2);(try clear hk);(try clear hi);(try clear ho0);(try clear ho1)) | ((with_reducible refine gate_dst (N:=8) rfl ?_);refine Up.bx 8 27 #[.string (⟨#[]⟩ : ByteArray),.int .i64 0,.slice none 0 0,.slice none 0 0] ?_;intro gb358 hg w69 hbox hb;have n0_:=Up.RB HO337 hb;have n1_:=Aside0.mk (Kd.R_below (Kd.R_elderB (Up.Rup HO342) gb358 (Nat.le_of_eq hg.symm)) hb);have n2_:=Up.RB HO345 hb;have n3_:=Up.RB HO349 hb;have n4_:=Aside0.mk (Kd.R_below (Kd.R_elderB (Up.Rup HO354) gb358 (Nat.le_of_eq hg.symm)) hb);have n5_:=Up.RB HO357 hb;have n6_:=Up.KB BK332 hb;have n7_:=Aside0.mk (below_step (Up.Bx HB) hb);have n8_:=Aside0.mk (hbox);have n9_:=Up.gw hg HB;have n10_:=Up.gw hg HB;have n11_:=Up.nl hg BK332;have n12_:=Up.ng hg BK332;clear HO337 HO342 HO345 HO349 HO354 HO357 BK332 HB;have HO337:=n0_;have HO342:=n1_;have HO345:=n2_;have HO349:=n3_;have HO354:=n4_;have HO357:=n5_;have BK332:=n6_;have HB:=n7_;have BK358:=n8_;have GW358:=n9_;have GE358:=n10_;have NB332_358:=n11_;have NB358_332:=n12_;clear n0_ n1_ n2_ n3_ n4_ n5_ n6_ n7_ n8_ n9_ n10_ n11_ n12_ hb hbox hg;have hnb70:=NB358_332.out;have hnc70:=NB332_358.out;have hcz71_0:=Up.c0 BK358;have hcz71_1:=Up.c1 BK358;have hcz71_2:=Up.c2 BK358;have hcz71_3:=Up.c3 BK358;have hfz71_0:=blk_frozen BK358.out 0;have hfz71_1:=blk_frozen BK358.out 1;have hfz71_2:=blk_frozen BK358.out 2;have hfz71_3:=blk_frozen BK358.out 3;obtain ⟨Ao72,co72,eo72⟩:=Kd.R_slice HO354.out;subst eo72;obtain ⟨Ao73,co73,eo73⟩:=Kd.R_slice HO357.out;subst eo73;obtain ⟨Ao74,co74,eo74⟩:=Kd.R_slice HO349.out;subst eo74) | ((with_reducible refine gate_callee (f:=10) rfl ?_);refine Up.gl (some 31) Tryd.func10 #[.slice Ao74 t347.length co74,.agg #[.string t350,.int .i64 t351,.slice Ao72 t352.length co72,.slice Ao73 t355.length co73]] ?_;(with_reducible refine (impl_ValueText.calls (hT_:=?tab1) k _ _ t347 t350 t351 _ _ t352 _ _ t355 t359 _ ?side1 ?side2 ?side3 ?side4 ?side5 ?side6 A18.out).mono ?_);(case tab1 => exact hT_.below (Up.Bx HB));(case side1 => refine (Kd.R_reads' (e:=66) (base:=w.heap.size) (ok:=fun k_ => (True ∧ some k_ ≠ (.slice Ao62 t335.length co62 : Value).ownBlock)) (n:=t347.length) (c:=co74) ?_).2.2;exact (by (with_reducible repeat (first | apply Kd.R_alloc | apply Kd.R_drewN | apply Kd.R_drew));exact (Kd.R_mono (Kd.R_far (p:=⟨gb358,3,none⟩) (Kd.R_far (p:=⟨gb358,2,none⟩) (Kd.R_far (p:=⟨gb358,1,none⟩) (Kd.R_far (p:=⟨gb358,0,none⟩) (Kd.R_types HO349.out BK358.out (by decide)) (fun _ hk => hk.2) (.string t350)) (fun _ hk => hk.2) (.int .i64 t351)) (fun _ hk => hk.2) (.slice Ao72 t352.length co72)) (fun _ hk => hk.2) (.slice Ao73 t355.length co73)) (fun _ h_ => h_.1))));(case side2 => exact (Kd.R_reads' HO349.out).2.1);(case side3 => refine (Kd.R_reads' (e:=27) (base:=w.heap.size) (ok:=fun k_ => (((some k_ ≠ (.slice Ao73 t355.length co73 : Value).ownBlock ∧ some k_ ≠ (.slice Ao63 t340.length co63 : Value).ownBlock) ∧ some k_ ≠ (.slice Ao64 t343.length co64 : Value).ownBlock) ∧ k_ ≠ gb358)) (n:=t352.length) (c:=co72) ?_).2.2;exact (by (with_reducible repeat (first | apply Kd.R_alloc | apply Kd.R_drewN | apply Kd.R_drew));exact (Kd.R_mono (Kd.R_far (p:=⟨gb358,3,none⟩) (Kd.R_far (p:=⟨gb358,2,none⟩) (Kd.R_far (p:=⟨gb358,1,none⟩) (Kd.R_far (p:=⟨gb358,0,none⟩) (Kd.R_mono HO354.out (fun k_ hk => (⟨hk,hk.2⟩ : _ ∧ k_ ≠ gb358))) (fun _ hk => hk.2) (.string t350)) (fun _ hk => hk.2) (.int .i64 t351)) (fun _ hk => hk.2) (.slice Ao72 t352.length co72)) (fun _ hk => hk.2) (.slice Ao73 t355.length co73)) (fun _ h_ => h_.1))));(case side4 => exact (Kd.R_reads' HO354.out).2.1);(case side5 => refine (Kd.R_reads' (e:=3) (base:=w.heap.size) (ok:=fun k_ => (True ∧ some k_ ≠ (.slice Ao64 t343.length co64 : Value).ownBlock)) (n:=t355.length) (c:=co73) ?_).2.2;exact (by (with_reducible repeat (first | apply Kd.R_alloc | apply Kd.R_drewN | apply Kd.R_drew));exact (Kd.R_mono (Kd.R_far (p:=⟨gb358,3,none⟩) (Kd.R_far (p:=⟨gb358,2,none⟩) (Kd.R_far (p:=⟨gb358,1,none⟩) (Kd.R_far (p:=⟨gb358,0,none⟩) (Kd.R_types HO357.out BK358.out (by decide)) (fun _ hk => hk.2) (.string t350)) (fun _ hk => hk.2) (.int .i64 t351)) (fun _ hk => hk.2) (.slice Ao72 t352.length co72)) (fun _ hk => hk.2) (.slice Ao73 t355.length co73)) (fun _ h_ => h_.1))));(case side6 => exact (Kd.R_reads' HO357.out).2.1);rintro e w75 ⟨rfl,hb⟩;refine ⟨_,rfl,?_⟩;have n0_:=Aside0.mk (Kd.R_below (by (with_reducible repeat (first | apply Kd.R_alloc | apply Kd.R_drewN | apply Kd.R_drew));exact (Kd.R_mono (Kd.R_far (p:=⟨gb358,3,none⟩) (Kd.R_far (p:=⟨gb358,2,none⟩) (Kd.R_far (p:=⟨gb358,1,none⟩) (Kd.R_far (p:=⟨gb358,0,none⟩) (Kd.R_types HO337.out BK358.out (by decide)) (fun _ hk => hk.2) (.string t350)) (fun _ hk => hk.2) (.int .i64 t351)) (fun _ hk => hk.2) (.slice Ao72 t352.length co72)) (fun _ hk => hk.2) (.slice Ao73 t355.length co73)) (fun _ h_ => h_.1))) hb);have n1_:=Aside0.mk (Kd.R_below (by (with_reducible repeat (first | apply Kd.R_alloc | apply Kd.R_drewN | apply Kd.R_drew));exact (Kd.R_mono (Kd.R_far (p:=⟨gb358,3,none⟩) (Kd.R_far (p:=⟨gb358,2,none⟩) (Kd.R_far (p:=⟨gb358,1,none⟩) (Kd.R_far (p:=⟨gb358,0,none⟩) (Kd.R_mono HO342.out (fun k_ hk => (⟨hk,hk.2⟩ : _ ∧ k_ ≠ gb358))) (fun _ hk => hk.2) (.string t350)) (fun _ hk => hk.2) (.int .i64 t351)) (fun _ hk => hk.2) (.slice Ao72 t352.length co72)) (fun _ hk => hk.2) (.slice Ao73 t355.length co73)) (fun _ h_ => h_.1))) hb);have n2_:=Aside0.mk (Kd.R_below (by (with_reducible repeat (first | apply Kd.R_alloc | apply Kd.R_drewN | apply Kd.R_drew));exact (Kd.R_mono (Kd.R_far (p:=⟨gb358,3,none⟩) (Kd.R_far (p:=⟨gb358,2,none⟩) (Kd.R_far (p:=⟨gb358,1,none⟩) (Kd.R_far (p:=⟨gb358,0,none⟩) (Kd.R_types HO345.out BK358.out (by decide)) (fun _ hk => hk.2) (.string t350)) (fun _ hk => hk.2) (.int .i64 t351)) (fun _ hk => hk.2) (.slice Ao72 t352.length co72)) (fun _ hk => hk.2) (.slice Ao73 t355.length co73)) (fun _ h_ => h_.1))) hb);have n3_:=Aside0.mk (Kd.R_below (by (with_reducible repeat (first | apply Kd.R_alloc | apply Kd.R_drewN | apply Kd.R_drew));exact (Kd.R_mono (Kd.R_far (p:=⟨gb358,3,none⟩) (Kd.R_far (p:=⟨gb358,2,none⟩) (Kd.R_far (p:=⟨gb358,1,none⟩) (Kd.R_far (p:=⟨gb358,0,none⟩) (Kd.R_types HO349.out BK358.out (by decide)) (fun _ hk => hk.2) (.string t350)) (fun _ hk => hk.2) (.int .i64 t351)) (fun _ hk => hk.2) (.slice Ao72 t352.length co72)) (fun _ hk => hk.2) (.slice Ao73 t355.length co73)) (fun _ h_ => h_.1))) hb);have n4_:=Aside0.mk (Kd.R_below (by (with_reducible repeat (first | apply Kd.R_alloc | apply Kd.R_drewN | apply Kd.R_drew));exact (Kd.R_mono (Kd.R_far (p:=⟨gb358,3,none⟩) (Kd.R_far (p:=⟨gb358,2,none⟩) (Kd.R_far (p:=⟨gb358,1,none⟩) (Kd.R_far (p:=⟨gb358,0,none⟩) (Kd.R_mono HO354.out (fun k_ hk => (⟨hk,hk.2⟩ : _ ∧ k_ ≠ gb358))) (fun _ hk => hk.2) (.string t350)) (fun _ hk => hk.2) (.int .i64 t351)) (fun _ hk => hk.2) (.slice Ao72 t352.length co72)) (fun _ hk => hk.2) (.slice Ao73 t355.length co73)) (fun _ h_ => h_.1))) hb);have n5_:=Aside0.mk (Kd.R_below (by (with_reducible repeat (first | apply Kd.R_alloc | apply Kd.R_drewN | apply Kd.R_drew));exact (Kd.R_mono (Kd.R_far (p:=⟨gb358,3,none⟩) (Kd.R_far (p:=⟨gb358,2,none⟩) (Kd.R_far (p:=⟨gb358,1,none⟩) (Kd.R_far (p:=⟨gb358,0,none⟩) (Kd.R_types HO357.out BK358.out (by decide)) (fun _ hk => hk.2) (.string t350)) (fun _ hk => hk.2) (.int .i64 t351)) (fun _ hk => hk.2) (.slice Ao72 t352.length co72)) (fun _ hk => hk.2) (.slice Ao73 t355.length co73)) (fun _ h_ => h_.1))) hb);have n6_:=Aside0.mk (blk_below (g:=gb332) (o:=.cells #[.string a1_0,.int .i64 a1_1,.slice A1_2 l1_2.length c1_2,.slice A1_3 l1_3.length c1_3] 39 (0,0)) (Up.Kx BK332) hb);have n7_:=Aside0.mk (blk_below (g:=gb358) (o:=.cells #[.string t350,.int .i64 t351,.slice Ao72 t352.length co72,.slice Ao73 t355.length co73] 27 (0,0)) (Up.Kx BK358) hb);have n8_:=Aside0.mk (below_step (Up.Bx HB) hb);clear HO337 HO342 HO345 HO349 HO354 HO357 BK332 BK358 HB;have HO337:=n0_;have HO342:=n1_;have HO345:=n2_;have HO349:=n3_;have HO354:=n4_;have HO357:=n5_;have BK332:=n6_;have BK358:=n7_;have HB:=n8_;clear n0_ n1_ n2_ n3_ n4_ n5_ n6_ n7_ n8_;(try clear hb);(try clear hb2);(try clear hk);(try clear hi)) | ((with_reducible refine gate_callee (f:=17) rfl ?_);refine Up.gl (some 37) Tryd.func17 #[.slice A0 l0.length c0] ?_;(with_reducible refine (laws_toRecordSS.calls k _ _ l0 t360 _ ?side1 ?side2 A20.out).mono ?_);(case side1 => exact Up.Cx HR0 HB);(case side2 => exact HC0.out);rintro e w76 ⟨v361,rfl,ho0,hb⟩;refine ⟨_,rfl,?_⟩;have n0_:=Aside0.mk (Kd.R_elder' (Up.Rup HO337) (Kd.R_base ho0) hb);have n1_:=Up.RB HO342 hb;have n2_:=Up.RB HO345 hb;have n3_:=Aside0.mk (Kd.R_elder' (Up.Rup HO349) (Kd.R_base ho0) hb);have n4_:=Up.RB HO354 hb;have n5_:=Up.RB HO357 hb;have n6_:=Aside0.mk (Kd.R_lower (Kd.R_new' (Kd.R_new' ho0 (Kd.R_lt (Up.Rup HO337))) (Kd.R_lt (Up.Rup HO349))) (below_size (Up.Bx HB)));have n7_:=Up.KB BK332 hb;have n8_:=Up.KB BK358 hb;have n9_:=Aside0.mk (below_step (Up.Bx HB) hb);clear HO337 HO342 HO345 HO349 HO354 HO357 BK332 BK358 HB;have HO337:=n0_;have HO342:=n1_;have HO345:=n2_;have HO349:=n3_;have HO354:=n4_;have HO357:=n5_;have HO362:=n6_;have BK332:=n7_;have BK358:=n8_;have HB:=n9_;clear n0_ n1_ n2_ n3_ n4_ n5_ n6_ n7_ n8_ n9_;(try clear hb);(try clear hb2);(try clear hk);(try clear hi);(try clear ho0);obtain ⟨Ao77,co77,eo77⟩:=Kd.R_slice HO362.out;subst eo77) | ((with_reducible refine gate_callee (f:=19) rfl ?_);refine Up.gl (some 38) Tryd.func19 #[.slice Ao74 t347.length co74,.slice Ao77 t360.length co77] ?_;(with_reducible refine (laws_eqRecordSS.calls k _ _ t347 _ _ t360 true _ ?side1 ?side2 ?side3 ?side4 A21.out).mono ?_);(case side1 => repeat (first | exact (Kd.R_reads' HO349.out).2.2 | (with_reducible refine Kd.C_alloc ?_ _) | (with_reducible refine Kd.C_drewN ?_ _) | (with_reducible refine Kd.C_drew ?_)));(case side2 => exact (Kd.R_reads' HO349.out).2.1);(case side3 => repeat (first | exact (Kd.R_reads' HO362.out).2.2 | (with_reducible refine Kd.C_alloc ?_ _) | (with_reducible refine Kd.C_drewN ?_ _) | (with_reducible refine Kd.C_drew ?_)));(case side4 => exact (Kd.R_reads' HO362.out).2.1);rintro e w78 ⟨rfl,hb⟩;refine ⟨_,rfl,?_⟩;have n0_:=Up.RB HO337 hb;have n1_:=Up.RB HO342 hb;have n2_:=Up.RB HO345 hb;have n3_:=Up.RB HO349 hb;have n4_:=Up.RB HO354 hb;have n5_:=Up.RB HO357 hb;have n6_:=Up.RB HO362 hb;have n7_:=Up.KB BK332 hb;have n8_:=Up.KB BK358 hb;have n9_:=Aside0.mk (below_step (Up.Bx HB) hb);clear HO337 HO342 HO345 HO349 HO354 HO357 HO362 BK332 BK358 HB;have HO337:=n0_;have HO342:=n1_;have HO345:=n2_;have HO349:=n3_;have HO354:=n4_;have HO357:=n5_;have HO362:=n6_;have BK332:=n7_;have BK358:=n8_;have HB:=n9_;clear n0_ n1_ n2_ n3_ n4_ n5_ n6_ n7_ n8_ n9_;(try clear hb);(try clear hb2);(try clear hk);(try clear hi)))
      have n0_:=Aside0.mk (Kd.R_drew HO337.out)
      have n1_:=Aside0.mk (Kd.R_drew HO342.out)
      have n2_:=Aside0.mk (Kd.R_drew HO345.out)
      have n3_:=Aside0.mk (Kd.R_drew HO349.out)
      have n4_:=Aside0.mk (Kd.R_drew HO354.out)
      have n5_:=Aside0.mk (Kd.R_drew HO357.out)
      have n6_:=Aside0.mk (Kd.R_drew HO362.out)
      have n7_:=Aside0.mk (blk_drew BK332.out)
      have n8_:=Aside0.mk (blk_drew BK358.out)
      have n9_:=Aside0.mk (below_drew1 HB.out)
      clear HO337
      clear HO342
      clear HO345
      clear HO349
      clear HO354
      clear HO357
      clear HO362
      clear BK332
      clear BK358
      clear HB
      have HO337:=n0_
      have HO342:=n1_
      have HO345:=n2_
      have HO349:=n3_
      have HO354:=n4_
      have HO357:=n5_
      have HO362:=n6_
      have BK332:=n7_
      have BK358:=n8_
      have HB:=n9_
      clear n0_ n1_ n2_ n3_ n4_ n5_ n6_ n7_ n8_ n9_
      refine start_ (n:=5) (S:=fun w' => w'.cell? ⟨gb358,0,none⟩ = some (.string t350) ∧ w'.cell? ⟨gb358,1,none⟩ = some (.int .i64 t351) ∧ w'.cell? ⟨gb358,2,none⟩ = some (.slice Ao72 t352.length co72) ∧ w'.cell? ⟨gb358,3,none⟩ = some (.slice Ao73 t355.length co73) ∧ w'.cell? ⟨gb332,0,none⟩ = some (.string a1_0) ∧ w'.cell? ⟨gb332,1,none⟩ = some (.int .i64 a1_1) ∧ w'.cell? ⟨gb332,2,none⟩ = some (.slice A1_2 l1_2.length c1_2) ∧ w'.cell? ⟨gb332,3,none⟩ = some (.slice A1_3 l1_3.length c1_3)) (ds:=[]) #[false,false,false,false,false] (by kernel_rfl) rfl rfl ⟨Up.c0 BK358,Up.c1 BK358,Up.c2 BK358,Up.c3 BK358,Up.c0 BK332,Up.c1 BK332,Up.c2 BK332,Up.c3 BK332⟩ (fun hHeld => ?_)
      generalize w78.drew = w79 at HO337 HO342 HO345 HO349 HO354 HO357 HO362 BK332 BK358 HB hHeld ⊢
      refine take_ (i:=0) (N:=some 40) (v:=?_) (a':=?_) #[true,false,false,false,false] rfl rfl (by kernel_rfl) (fun _ _ _ h => h) (Or.inl ⟨by rfl,?_⟩) hHeld ?_ ?_
      rotate_left
      ·rintro w' ⟨s0,s1,s2,s3,s4,s5,s6,s7⟩
       go_simp
       with_reducible rfl
      rotate_left
      ·simp only [Act.put,List.setIfInBounds_toArray,List.set_cons_zero,List.set_cons_succ,i64_w,i32_w]
       rfl
      refine take_ (i:=1) (N:=some 41) (v:=?_) (a':=?_) #[true,true,false,false,false] rfl rfl (by kernel_rfl) (fun _ _ _ h => h) (Or.inl ⟨by rfl,?_⟩) hHeld ?_ ?_
      rotate_left
      ·rintro w' ⟨s0,s1,s2,s3,s4,s5,s6,s7⟩
       go_simp
       with_reducible rfl
      rotate_left
      ·simp only [Act.put,List.setIfInBounds_toArray,List.set_cons_zero,List.set_cons_succ,i64_w,i32_w]
       rfl
      refine one_ (i:=2) (N:=some 42) #[true,true,true,false,false] rfl rfl (by kernel_rfl) (by decide) (fun K hK => ?_)
      refine Up.go Tryd.func18 #[.agg #[.string a1_0,.int .i64 a1_1,.slice A1_2 l1_2.length c1_2,.slice A1_3 l1_3.length c1_3]] ?_
      with_reducible refine (laws_toValue.calls k a1_0 a1_1 _ _ l1_2 _ _ l1_3 t364 t365 t366 t369 _ ?side1 ?side2 ?side3 ?side4 A23.out).mono ?_
      (case side1 => exact Up.Cx HR1_2 HB)
      (case side2 => exact HC1_2.out)
      (case side3 => exact Up.Cx HR1_3 HB)
      (case side4 => exact HC1_3.out)
      rintro e w80 ⟨v367,v370,rfl,ho0,ho1,hb⟩
      refine ⟨_,rfl,?_⟩
      have n0_:=Up.RB HO337 hb
      have n1_:=Aside0.mk (Kd.R_mono (Kd.R_told (Kd.R_told (Kd.R_old (Up.Rup HO342) hb) (Kd.R_base ho0)) (Kd.R_base ho1)) (fun _ h_ => h_.1))
      have n2_:=Aside0.mk (Kd.R_elder' (Up.Rup HO345) (Kd.R_base ho1) hb)
      have n3_:=Up.RB HO349 hb
      have n4_:=Aside0.mk (Kd.R_mono (Kd.R_told (Kd.R_told (Kd.R_old (Up.Rup HO354) hb) (Kd.R_base ho0)) (Kd.R_base ho1)) (fun _ h_ => h_.1))
      have n5_:=Aside0.mk (Kd.R_elder' (Up.Rup HO357) (Kd.R_base ho1) hb)
      have n6_:=Up.RB HO362 hb
      have n7_:=Aside0.mk (Kd.R_lower (Kd.R_newB (Kd.R_new' (Kd.R_new' (Kd.R_new' (Kd.R_new' ho0 (Kd.R_lt (Up.Rup HO342))) (Kd.R_lt (Up.Rup HO345))) (Kd.R_lt (Up.Rup HO354))) (Kd.R_lt (Up.Rup HO357))) (g:=gb358) (o:=.cells #[.string t350,.int .i64 t351,.slice Ao72 t352.length co72,.slice Ao73 t355.length co73] 27 (0,0)) (Up.Kup BK358)) (below_size (Up.Bx HB)))
      have n8_:=Aside0.mk (Kd.R_lower (Kd.R_new' (Kd.R_new' ho1 (Kd.R_lt (Up.Rup HO345))) (Kd.R_lt (Up.Rup HO357))) (below_size (Up.Bx HB)))
      have n9_:=Up.KB BK332 hb
      have n10_:=Up.KB BK358 hb
      have n11_:=Aside0.mk (below_step (Up.Bx HB) hb)
      clear HO337
      clear HO342
      clear HO345
      clear HO349
      clear HO354
      clear HO357
      clear HO362
      clear BK332
      clear BK358
      clear HB
      have HO337:=n0_
      have HO342:=n1_
      have HO345:=n2_
      have HO349:=n3_
      have HO354:=n4_
      have HO357:=n5_
      have HO362:=n6_
      have HO368:=n7_
      have HO371:=n8_
      have BK332:=n9_
      have BK358:=n10_
      have HB:=n11_
      clear n0_ n1_ n2_ n3_ n4_ n5_ n6_ n7_ n8_ n9_ n10_ n11_
      (try clear hb)
      (try clear hb2)
      (try clear hk)
      (try clear hi)
      (try clear ho0)
      (try clear ho1)
      obtain ⟨Ao81,co81,eo81⟩:=Kd.R_slice HO368.out
      (first | subst eo81 | (injection eo81 with f1_ f2_ f3_;have f4_:=f1_.symm;have f5_:=f3_.symm;clear f1_ f2_ f3_;subst f4_;subst f5_))
      obtain ⟨Ao82,co82,eo82⟩:=Kd.R_slice HO371.out
      (first | subst eo82 | (injection eo82 with f1_ f2_ f3_;have f4_:=f1_.symm;have f5_:=f3_.symm;clear f1_ f2_ f3_;subst f4_;subst f5_))
      refine hK.out _ _ ⟨Up.c0 BK358,Up.c1 BK358,Up.c2 BK358,Up.c3 BK358,Up.c0 BK332,Up.c1 BK332,Up.c2 BK332,Up.c3 BK332⟩ (fun hHeld => ?_)
      clear hK K
      refine Up.nm 42 ?_
      refine one_ (i:=3) (N:=some 43) #[true,true,true,true,false] rfl rfl (by kernel_rfl) (by decide) (fun K hK => ?_)
      refine Up.go Tryd.func20 #[.agg #[.string t350,.int .i64 t351,.slice Ao72 t352.length co72,.slice Ao73 t355.length co73],.agg #[.string t364,.int .i64 t365,.slice Ao81 t366.length co81,.slice Ao82 t369.length co82]] ?_
      with_reducible refine (laws_eqValue.calls k t350 t351 _ _ t352 _ _ t355 t364 t365 _ _ t366 _ _ t369 false _ ?side1 ?side2 ?side3 ?side4 ?side5 ?side6 ?side7 ?side8 A24.out).mono ?_
      (case side1 => repeat (first | exact (Kd.R_reads' HO354.out).2.2 | (with_reducible refine Kd.C_alloc ?_ _) | (with_reducible refine Kd.C_drewN ?_ _) | (with_reducible refine Kd.C_drew ?_)))
      (case side2 => exact (Kd.R_reads' HO354.out).2.1)
      (case side3 => repeat (first | exact (Kd.R_reads' HO357.out).2.2 | (with_reducible refine Kd.C_alloc ?_ _) | (with_reducible refine Kd.C_drewN ?_ _) | (with_reducible refine Kd.C_drew ?_)))
      (case side4 => exact (Kd.R_reads' HO357.out).2.1)
      (case side5 => repeat (first | exact (Kd.R_reads' HO368.out).2.2 | (with_reducible refine Kd.C_alloc ?_ _) | (with_reducible refine Kd.C_drewN ?_ _) | (with_reducible refine Kd.C_drew ?_)))
      (case side6 => exact (Kd.R_reads' HO368.out).2.1)
      (case side7 => repeat (first | exact (Kd.R_reads' HO371.out).2.2 | (with_reducible refine Kd.C_alloc ?_ _) | (with_reducible refine Kd.C_drewN ?_ _) | (with_reducible refine Kd.C_drew ?_)))
      (case side8 => exact (Kd.R_reads' HO371.out).2.1)
      rintro e w83 ⟨rfl,hb⟩
      refine ⟨_,rfl,?_⟩
      have n0_:=Up.RB HO337 hb
      have n1_:=Up.RB HO342 hb
      have n2_:=Up.RB HO345 hb
      have n3_:=Up.RB HO349 hb
      have n4_:=Up.RB HO354 hb
      have n5_:=Up.RB HO357 hb
      have n6_:=Up.RB HO362 hb
      have n7_:=Up.RB HO368 hb
      have n8_:=Up.RB HO371 hb
      have n9_:=Up.KB BK332 hb
      have n10_:=Up.KB BK358 hb
      have n11_:=Aside0.mk (below_step (Up.Bx HB) hb)
      clear HO337
      clear HO342
      clear HO345
      clear HO349
      clear HO354
      clear HO357
      clear HO362
      clear HO368
      clear HO371
      clear BK332
      clear BK358
      clear HB
      have HO337:=n0_
      have HO342:=n1_
      have HO345:=n2_
      have HO349:=n3_
      have HO354:=n4_
      have HO357:=n5_
      have HO362:=n6_
      have HO368:=n7_
      have HO371:=n8_
      have BK332:=n9_
      have BK358:=n10_
      have HB:=n11_
      clear n0_ n1_ n2_ n3_ n4_ n5_ n6_ n7_ n8_ n9_ n10_ n11_
      (try clear hb)
      (try clear hb2)
      (try clear hk)
      (try clear hi)
      refine hK.out _ _ ⟨Up.c0 BK358,Up.c1 BK358,Up.c2 BK358,Up.c3 BK358,Up.c0 BK332,Up.c1 BK332,Up.c2 BK332,Up.c3 BK332⟩ (fun hHeld => ?_)
      clear hK K
      refine Up.nm 43 ?_
      refine Up.pn 4 (some 44) ?_
      refine done_ (by kernel_rfl) ?_
      try go_wp2
      go_ret
      exact Up.e1 (Up.Bx HB)
    ·replace c22:=Bool.eq_false_iff.mpr c22
     subst c22
     have H1 : (some false) = some r:=by rw [if_neg (show ¬ (false = true) by decide)] at H;exact H
     clear H
     have H:=H1
     clear H1
     obtain rfl:=Option.some.inj H
     go_enter Tryd.func5,Tryd.ntmps5
     try go_wp2_with (first | ((with_reducible refine gate_dst (N:=3) rfl ?_);refine Up.bx 3 39 #[.string a1_0,.int .i64 a1_1,.slice A1_2 l1_2.length c1_2,.slice A1_3 l1_3.length c1_3] ?_;intro gb332 hg w84 hbox hb;have n0_:=Up.BB HB hb;have n1_:=Aside0.mk (hbox);have n2_:=Up.gw hg HB;have n3_:=Up.gw hg HB;clear HB;have HB:=n0_;have BK332:=n1_;have GW332:=n2_;have GE332:=n3_;clear n0_ n1_ n2_ n3_ hb hbox hg) | ((with_reducible refine gate_callee (f:=15) rfl ?_);refine Up.gl (some 12) Tryd.func15 #[.slice A0 l0.length c0,.int .i64 1048576] ?_;(with_reducible refine (laws_szRecordSS.calls k _ _ l0 1048576 t333 _ ?side1 ?side2 A3.out).mono ?_);(case side1 => exact Up.Cx HR0 HB);(case side2 => exact HC0.out);rintro e w85 ⟨rfl,hb⟩;refine ⟨_,rfl,?_⟩;have n0_:=Up.KB BK332 hb;have n1_:=Aside0.mk (below_step (Up.Bx HB) hb);clear BK332 HB;have BK332:=n0_;have HB:=n1_;clear n0_ n1_;(try clear hb);(try clear hb2);(try clear hk);(try clear hi);have hcz86_0:=Up.c0 BK332;have hcz86_1:=Up.c1 BK332;have hcz86_2:=Up.c2 BK332;have hcz86_3:=Up.c3 BK332;have hfz86_0:=blk_frozen BK332.out 0;have hfz86_1:=blk_frozen BK332.out 1;have hfz86_2:=blk_frozen BK332.out 2;have hfz86_3:=blk_frozen BK332.out 3) | ((with_reducible refine gate_callee (f:=16) rfl ?_);refine Up.gl (some 17) Tryd.func16 #[.agg #[.string a1_0,.int .i64 a1_1,.slice A1_2 l1_2.length c1_2,.slice A1_3 l1_3.length c1_3],.int .i64 t333] ?_;(with_reducible refine (laws_szValue.calls k a1_0 a1_1 _ _ l1_2 _ _ l1_3 t333 t334 _ ?side1 ?side2 ?side3 ?side4 A7.out).mono ?_);(case side1 => exact Up.Cx HR1_2 HB);(case side2 => exact HC1_2.out);(case side3 => exact Up.Cx HR1_3 HB);(case side4 => exact HC1_3.out);rintro e w87 ⟨rfl,hb⟩;refine ⟨_,rfl,?_⟩;have n0_:=Up.KB BK332 hb;have n1_:=Aside0.mk (below_step (Up.Bx HB) hb);clear BK332 HB;have BK332:=n0_;have HB:=n1_;clear n0_ n1_;(try clear hb);(try clear hb2);(try clear hk);(try clear hi)))
     have n0_:=Aside0.mk (blk_drew BK332.out)
     have n1_:=Aside0.mk (below_drew1 HB.out)
     clear BK332
     clear HB
     have BK332:=n0_
     have HB:=n1_
     clear n0_ n1_
     refine start_ (n:=6) (S:=fun w' => w'.cell? ⟨gb332,0,none⟩ = some (.string a1_0) ∧ w'.cell? ⟨gb332,1,none⟩ = some (.int .i64 a1_1) ∧ w'.cell? ⟨gb332,2,none⟩ = some (.slice A1_2 l1_2.length c1_2) ∧ w'.cell? ⟨gb332,3,none⟩ = some (.slice A1_3 l1_3.length c1_3)) (ds:=[]) #[false,false,false,false,false,false] (by kernel_rfl) rfl rfl ⟨Up.c0 BK332,Up.c1 BK332,Up.c2 BK332,Up.c3 BK332⟩ (fun hHeld => ?_)
     generalize w87.drew = w88 at BK332 HB hHeld ⊢
     refine Up.pn 0 (some 20) ?_
     refine take_ (i:=2) (N:=some 22) (v:=?_) (a':=?_) #[true,false,true,false,false,false] rfl rfl (by kernel_rfl) (fun _ _ _ h => h) (Or.inl ⟨by rfl,?_⟩) hHeld ?_ ?_
     rotate_left
     ·rintro w' ⟨s0,s1,s2,s3⟩
      go_simp
      with_reducible rfl
     rotate_left
     ·simp only [Act.put,List.setIfInBounds_toArray,List.set_cons_zero,List.set_cons_succ,i64_w,i32_w]
      rfl
     refine one_ (i:=1) (N:=some 21) #[true,true,true,false,false,false] rfl rfl (by kernel_rfl) (by decide) (fun K hK => ?_)
     refine Up.go Tryd.func17 #[.slice A0 l0.length c0] ?_
     with_reducible refine (laws_toRecordSS.calls k _ _ l0 t335 _ ?side1 ?side2 A13.out).mono ?_
     (case side1 => exact Up.Cx HR0 HB)
     (case side2 => exact HC0.out)
     rintro e w89 ⟨v336,rfl,ho0,hb⟩
     refine ⟨_,rfl,?_⟩
     have n0_:=Aside0.mk (Kd.R_lower ho0 (below_size (Up.Bx HB)))
     have n1_:=Up.KB BK332 hb
     have n2_:=Aside0.mk (below_step (Up.Bx HB) hb)
     clear BK332
     clear HB
     have HO337:=n0_
     have BK332:=n1_
     have HB:=n2_
     clear n0_ n1_ n2_
     (try clear hb)
     (try clear hb2)
     (try clear hk)
     (try clear hi)
     (try clear ho0)
     refine hK.out _ _ ⟨Up.c0 BK332,Up.c1 BK332,Up.c2 BK332,Up.c3 BK332⟩ (fun hHeld => ?_)
     clear hK K
     refine Up.nm 21 ?_
     refine one_ (i:=3) (N:=some 23) #[true,true,true,true,false,false] rfl rfl (by kernel_rfl) (by decide) (fun K hK => ?_)
     refine Up.go Tryd.func18 #[.agg #[.string a1_0,.int .i64 a1_1,.slice A1_2 l1_2.length c1_2,.slice A1_3 l1_3.length c1_3]] ?_
     with_reducible refine (laws_toValue.calls k a1_0 a1_1 _ _ l1_2 _ _ l1_3 t338 t339 t340 t343 _ ?side1 ?side2 ?side3 ?side4 A14.out).mono ?_
     (case side1 => exact Up.Cx HR1_2 HB)
     (case side2 => exact HC1_2.out)
     (case side3 => exact Up.Cx HR1_3 HB)
     (case side4 => exact HC1_3.out)
     rintro e w90 ⟨v341,v344,rfl,ho0,ho1,hb⟩
     refine ⟨_,rfl,?_⟩
     have n0_:=Up.RB HO337 hb
     have n1_:=Aside0.mk (Kd.R_lower ho0 (below_size (Up.Bx HB)))
     have n2_:=Aside0.mk (Kd.R_lower ho1 (below_size (Up.Bx HB)))
     have n3_:=Up.KB BK332 hb
     have n4_:=Aside0.mk (below_step (Up.Bx HB) hb)
     clear HO337
     clear BK332
     clear HB
     have HO337:=n0_
     have HO342:=n1_
     have HO345:=n2_
     have BK332:=n3_
     have HB:=n4_
     clear n0_ n1_ n2_ n3_ n4_
     (try clear hb)
     (try clear hb2)
     (try clear hk)
     (try clear hi)
     (try clear ho0)
     (try clear ho1)
     obtain ⟨Ao91,co91,eo91⟩:=Kd.R_slice HO337.out
     (first | subst eo91 | (injection eo91 with f1_ f2_ f3_;have f4_:=f1_.symm;have f5_:=f3_.symm;clear f1_ f2_ f3_;subst f4_;subst f5_))
     obtain ⟨Ao92,co92,eo92⟩:=Kd.R_slice HO342.out
     (first | subst eo92 | (injection eo92 with f1_ f2_ f3_;have f4_:=f1_.symm;have f5_:=f3_.symm;clear f1_ f2_ f3_;subst f4_;subst f5_))
     obtain ⟨Ao93,co93,eo93⟩:=Kd.R_slice HO345.out
     (first | subst eo93 | (injection eo93 with f1_ f2_ f3_;have f4_:=f1_.symm;have f5_:=f3_.symm;clear f1_ f2_ f3_;subst f4_;subst f5_))
     refine hK.out _ _ ⟨Up.c0 BK332,Up.c1 BK332,Up.c2 BK332,Up.c3 BK332⟩ (fun hHeld => ?_)
     clear hK K
     refine Up.nm 23 ?_
     refine one_ (i:=4) (N:=some 24) #[true,true,true,true,true,false] rfl rfl (by kernel_rfl) (by decide) (fun K hK => ?_)
     refine Up.go Tryd.func12 #[.slice Ao91 t335.length co91,.agg #[.string t338,.int .i64 t339,.slice Ao92 t340.length co92,.slice Ao93 t343.length co93]] ?_
     with_reducible refine (spec_ValueText.calls k _ _ t335 t338 t339 _ _ t340 _ _ t343 t346 _ ?side1 ?side2 ?side3 ?side4 ?side5 ?side6 A15.out).mono ?_
     (case side1 => repeat (first | exact (Kd.R_reads' HO337.out).2.2 | (with_reducible refine Kd.C_alloc ?_ _) | (with_reducible refine Kd.C_drewN ?_ _) | (with_reducible refine Kd.C_drew ?_)))
     (case side2 => exact (Kd.R_reads' HO337.out).2.1)
     (case side3 => repeat (first | exact (Kd.R_reads' HO342.out).2.2 | (with_reducible refine Kd.C_alloc ?_ _) | (with_reducible refine Kd.C_drewN ?_ _) | (with_reducible refine Kd.C_drew ?_)))
     (case side4 => exact (Kd.R_reads' HO342.out).2.1)
     (case side5 => repeat (first | exact (Kd.R_reads' HO345.out).2.2 | (with_reducible refine Kd.C_alloc ?_ _) | (with_reducible refine Kd.C_drewN ?_ _) | (with_reducible refine Kd.C_drew ?_)))
     (case side6 => exact (Kd.R_reads' HO345.out).2.1)
     rintro e w94 ⟨rfl,hb⟩
     refine ⟨_,rfl,?_⟩
     have n0_:=Up.RB HO337 hb
     have n1_:=Up.RB HO342 hb
     have n2_:=Up.RB HO345 hb
     have n3_:=Up.KB BK332 hb
     have n4_:=Aside0.mk (below_step (Up.Bx HB) hb)
     clear HO337
     clear HO342
     clear HO345
     clear BK332
     clear HB
     have HO337:=n0_
     have HO342:=n1_
     have HO345:=n2_
     have BK332:=n3_
     have HB:=n4_
     clear n0_ n1_ n2_ n3_ n4_
     (try clear hb)
     (try clear hb2)
     (try clear hk)
     (try clear hi)
     refine hK.out _ _ ⟨Up.c0 BK332,Up.c1 BK332,Up.c2 BK332,Up.c3 BK332⟩ (fun hHeld => ?_)
     clear hK K
     refine Up.nm 24 ?_
     refine Up.pn 5 (some 6) ?_
     refine done_ (by kernel_rfl) ?_
     try go_wp2_with (first | ((with_reducible refine gate_callee (f:=17) rfl ?_);refine Up.gl (some 26) Tryd.func17 #[.slice A0 l0.length c0] ?_;(with_reducible refine (laws_toRecordSS.calls k _ _ l0 t347 _ ?side1 ?side2 A16.out).mono ?_);(case side1 => exact Up.Cx HR0 HB);(case side2 => exact HC0.out);rintro e w95 ⟨v348,rfl,ho0,hb⟩;refine ⟨_,rfl,?_⟩;have n0_:=Aside0.mk (Kd.R_elder' (Up.Rup HO337) (Kd.R_base ho0) hb);have n1_:=Up.RB HO342 hb;have n2_:=Up.RB HO345 hb;have n3_:=Aside0.mk (Kd.R_lower (Kd.R_new' ho0 (Kd.R_lt (Up.Rup HO337))) (below_size (Up.Bx HB)));have n4_:=Up.KB BK332 hb;have n5_:=Aside0.mk (below_step (Up.Bx HB) hb);clear HO337 HO342 HO345 BK332 HB;have HO337:=n0_;have HO342:=n1_;have HO345:=n2_;have HO349:=n3_;have BK332:=n4_;have HB:=n5_;clear n0_ n1_ n2_ n3_ n4_ n5_;(try clear hb);(try clear hb2);(try clear hk);(try clear hi);(try clear ho0);have hcz96_0:=Up.c0 BK332;have hcz96_1:=Up.c1 BK332;have hcz96_2:=Up.c2 BK332;have hcz96_3:=Up.c3 BK332;have hfz96_0:=blk_frozen BK332.out 0;have hfz96_1:=blk_frozen BK332.out 1;have hfz96_2:=blk_frozen BK332.out 2;have hfz96_3:=blk_frozen BK332.out 3) | ((with_reducible refine gate_callee (f:=18) rfl ?_);refine Up.gl (some 28) Tryd.func18 #[.agg #[.string a1_0,.int .i64 a1_1,.slice A1_2 l1_2.length c1_2,.slice A1_3 l1_3.length c1_3]] ?_;(with_reducible refine (laws_toValue.calls k a1_0 a1_1 _ _ l1_2 _ _ l1_3 t350 t351 t352 t355 _ ?side1 ?side2 ?side3 ?side4 A17.out).mono ?_);(case side1 => exact Up.Cx HR1_2 HB);(case side2 => exact HC1_2.out);(case side3 => exact Up.Cx HR1_3 HB);(case side4 => exact HC1_3.out);rintro e w97 ⟨v353,v356,rfl,ho0,ho1,hb⟩;refine ⟨_,rfl,?_⟩;have n0_:=Up.RB HO337 hb;have n1_:=Aside0.mk (Kd.R_mono (Kd.R_told (Kd.R_told (Kd.R_old (Up.Rup HO342) hb) (Kd.R_base ho0)) (Kd.R_base ho1)) (fun _ h_ => h_.1));have n2_:=Aside0.mk (Kd.R_elder' (Up.Rup HO345) (Kd.R_base ho1) hb);have n3_:=Up.RB HO349 hb;have n4_:=Aside0.mk (Kd.R_lower (Kd.R_new' (Kd.R_new' ho0 (Kd.R_lt (Up.Rup HO342))) (Kd.R_lt (Up.Rup HO345))) (below_size (Up.Bx HB)));have n5_:=Aside0.mk (Kd.R_lower (Kd.R_new' ho1 (Kd.R_lt (Up.Rup HO345))) (below_size (Up.Bx HB)));have n6_:=Up.KB BK332 hb;have n7_:=Aside0.mk (below_step (Up.Bx HB) hb);clear HO337 HO342 HO345 HO349 BK332 HB;have HO337:=n0_;have HO342:=n1_;have HO345:=n2_;have HO349:=n3_;have HO354:=n4_;have HO357:=n5_;have BK332:=n6_;have HB:=n7_;clear n0_ n1_ n2_ n3_ n4_ n5_ n6_ n7_;(try clear hb);(try clear hb2);(try clear hk);(try clear hi);(try clear ho0);(try clear ho1)) | ((with_reducible refine gate_dst (N:=8) rfl ?_);refine Up.bx 8 27 #[.string (⟨#[]⟩ : ByteArray),.int .i64 0,.slice none 0 0,.slice none 0 0] ?_;intro gb358 hg w98 hbox hb;have n0_:=Up.RB HO337 hb;have n1_:=Aside0.mk (Kd.R_below (Kd.R_elderB (Up.Rup HO342) gb358 (Nat.le_of_eq hg.symm)) hb);have n2_:=Up.RB HO345 hb;have n3_:=Up.RB HO349 hb;have n4_:=Aside0.mk (Kd.R_below (Kd.R_elderB (Up.Rup HO354) gb358 (Nat.le_of_eq hg.symm)) hb);have n5_:=Up.RB HO357 hb;have n6_:=Up.KB BK332 hb;have n7_:=Aside0.mk (below_step (Up.Bx HB) hb);have n8_:=Aside0.mk (hbox);have n9_:=Up.gw hg HB;have n10_:=Up.gw hg HB;have n11_:=Up.nl hg BK332;have n12_:=Up.ng hg BK332;clear HO337 HO342 HO345 HO349 HO354 HO357 BK332 HB;have HO337:=n0_;have HO342:=n1_;have HO345:=n2_;have HO349:=n3_;have HO354:=n4_;have HO357:=n5_;have BK332:=n6_;have HB:=n7_;have BK358:=n8_;have GW358:=n9_;have GE358:=n10_;have NB332_358:=n11_;have NB358_332:=n12_;clear n0_ n1_ n2_ n3_ n4_ n5_ n6_ n7_ n8_ n9_ n10_ n11_ n12_ hb hbox hg;have hnb99:=NB358_332.out;have hnc99:=NB332_358.out;have hcz100_0:=Up.c0 BK358;have hcz100_1:=Up.c1 BK358;have hcz100_2:=Up.c2 BK358;have hcz100_3:=Up.c3 BK358;have hfz100_0:=blk_frozen BK358.out 0;have hfz100_1:=blk_frozen BK358.out 1;have hfz100_2:=blk_frozen BK358.out 2;have hfz100_3:=blk_frozen BK358.out 3;obtain ⟨Ao101,co101,eo101⟩:=Kd.R_slice HO354.out;subst eo101;obtain ⟨Ao102,co102,eo102⟩:=Kd.R_slice HO357.out;subst eo102;obtain ⟨Ao103,co103,eo103⟩:=Kd.R_slice HO349.out;subst eo103) | ((with_reducible refine gate_callee (f:=10) rfl ?_);refine Up.gl (some 31) Tryd.func10 #[.slice Ao103 t347.length co103,.agg #[.string t350,.int .i64 t351,.slice Ao101 t352.length co101,.slice Ao102 t355.length co102]] ?_;(with_reducible refine (impl_ValueText.calls (hT_:=?tab1) k _ _ t347 t350 t351 _ _ t352 _ _ t355 t359 _ ?side1 ?side2 ?side3 ?side4 ?side5 ?side6 A18.out).mono ?_);(case tab1 => exact hT_.below (Up.Bx HB));(case side1 => refine (Kd.R_reads' (e:=66) (base:=w.heap.size) (ok:=fun k_ => (True ∧ some k_ ≠ (.slice Ao91 t335.length co91 : Value).ownBlock)) (n:=t347.length) (c:=co103) ?_).2.2;exact (by (with_reducible repeat (first | apply Kd.R_alloc | apply Kd.R_drewN | apply Kd.R_drew));exact (Kd.R_mono (Kd.R_far (p:=⟨gb358,3,none⟩) (Kd.R_far (p:=⟨gb358,2,none⟩) (Kd.R_far (p:=⟨gb358,1,none⟩) (Kd.R_far (p:=⟨gb358,0,none⟩) (Kd.R_types HO349.out BK358.out (by decide)) (fun _ hk => hk.2) (.string t350)) (fun _ hk => hk.2) (.int .i64 t351)) (fun _ hk => hk.2) (.slice Ao101 t352.length co101)) (fun _ hk => hk.2) (.slice Ao102 t355.length co102)) (fun _ h_ => h_.1))));(case side2 => exact (Kd.R_reads' HO349.out).2.1);(case side3 => refine (Kd.R_reads' (e:=27) (base:=w.heap.size) (ok:=fun k_ => (((some k_ ≠ (.slice Ao102 t355.length co102 : Value).ownBlock ∧ some k_ ≠ (.slice Ao92 t340.length co92 : Value).ownBlock) ∧ some k_ ≠ (.slice Ao93 t343.length co93 : Value).ownBlock) ∧ k_ ≠ gb358)) (n:=t352.length) (c:=co101) ?_).2.2;exact (by (with_reducible repeat (first | apply Kd.R_alloc | apply Kd.R_drewN | apply Kd.R_drew));exact (Kd.R_mono (Kd.R_far (p:=⟨gb358,3,none⟩) (Kd.R_far (p:=⟨gb358,2,none⟩) (Kd.R_far (p:=⟨gb358,1,none⟩) (Kd.R_far (p:=⟨gb358,0,none⟩) (Kd.R_mono HO354.out (fun k_ hk => (⟨hk,hk.2⟩ : _ ∧ k_ ≠ gb358))) (fun _ hk => hk.2) (.string t350)) (fun _ hk => hk.2) (.int .i64 t351)) (fun _ hk => hk.2) (.slice Ao101 t352.length co101)) (fun _ hk => hk.2) (.slice Ao102 t355.length co102)) (fun _ h_ => h_.1))));(case side4 => exact (Kd.R_reads' HO354.out).2.1);(case side5 => refine (Kd.R_reads' (e:=3) (base:=w.heap.size) (ok:=fun k_ => (True ∧ some k_ ≠ (.slice Ao93 t343.length co93 : Value).ownBlock)) (n:=t355.length) (c:=co102) ?_).2.2;exact (by (with_reducible repeat (first | apply Kd.R_alloc | apply Kd.R_drewN | apply Kd.R_drew));exact (Kd.R_mono (Kd.R_far (p:=⟨gb358,3,none⟩) (Kd.R_far (p:=⟨gb358,2,none⟩) (Kd.R_far (p:=⟨gb358,1,none⟩) (Kd.R_far (p:=⟨gb358,0,none⟩) (Kd.R_types HO357.out BK358.out (by decide)) (fun _ hk => hk.2) (.string t350)) (fun _ hk => hk.2) (.int .i64 t351)) (fun _ hk => hk.2) (.slice Ao101 t352.length co101)) (fun _ hk => hk.2) (.slice Ao102 t355.length co102)) (fun _ h_ => h_.1))));(case side6 => exact (Kd.R_reads' HO357.out).2.1);rintro e w104 ⟨rfl,hb⟩;refine ⟨_,rfl,?_⟩;have n0_:=Aside0.mk (Kd.R_below (by (with_reducible repeat (first | apply Kd.R_alloc | apply Kd.R_drewN | apply Kd.R_drew));exact (Kd.R_mono (Kd.R_far (p:=⟨gb358,3,none⟩) (Kd.R_far (p:=⟨gb358,2,none⟩) (Kd.R_far (p:=⟨gb358,1,none⟩) (Kd.R_far (p:=⟨gb358,0,none⟩) (Kd.R_types HO337.out BK358.out (by decide)) (fun _ hk => hk.2) (.string t350)) (fun _ hk => hk.2) (.int .i64 t351)) (fun _ hk => hk.2) (.slice Ao101 t352.length co101)) (fun _ hk => hk.2) (.slice Ao102 t355.length co102)) (fun _ h_ => h_.1))) hb);have n1_:=Aside0.mk (Kd.R_below (by (with_reducible repeat (first | apply Kd.R_alloc | apply Kd.R_drewN | apply Kd.R_drew));exact (Kd.R_mono (Kd.R_far (p:=⟨gb358,3,none⟩) (Kd.R_far (p:=⟨gb358,2,none⟩) (Kd.R_far (p:=⟨gb358,1,none⟩) (Kd.R_far (p:=⟨gb358,0,none⟩) (Kd.R_mono HO342.out (fun k_ hk => (⟨hk,hk.2⟩ : _ ∧ k_ ≠ gb358))) (fun _ hk => hk.2) (.string t350)) (fun _ hk => hk.2) (.int .i64 t351)) (fun _ hk => hk.2) (.slice Ao101 t352.length co101)) (fun _ hk => hk.2) (.slice Ao102 t355.length co102)) (fun _ h_ => h_.1))) hb);have n2_:=Aside0.mk (Kd.R_below (by (with_reducible repeat (first | apply Kd.R_alloc | apply Kd.R_drewN | apply Kd.R_drew));exact (Kd.R_mono (Kd.R_far (p:=⟨gb358,3,none⟩) (Kd.R_far (p:=⟨gb358,2,none⟩) (Kd.R_far (p:=⟨gb358,1,none⟩) (Kd.R_far (p:=⟨gb358,0,none⟩) (Kd.R_types HO345.out BK358.out (by decide)) (fun _ hk => hk.2) (.string t350)) (fun _ hk => hk.2) (.int .i64 t351)) (fun _ hk => hk.2) (.slice Ao101 t352.length co101)) (fun _ hk => hk.2) (.slice Ao102 t355.length co102)) (fun _ h_ => h_.1))) hb);have n3_:=Aside0.mk (Kd.R_below (by (with_reducible repeat (first | apply Kd.R_alloc | apply Kd.R_drewN | apply Kd.R_drew));exact (Kd.R_mono (Kd.R_far (p:=⟨gb358,3,none⟩) (Kd.R_far (p:=⟨gb358,2,none⟩) (Kd.R_far (p:=⟨gb358,1,none⟩) (Kd.R_far (p:=⟨gb358,0,none⟩) (Kd.R_types HO349.out BK358.out (by decide)) (fun _ hk => hk.2) (.string t350)) (fun _ hk => hk.2) (.int .i64 t351)) (fun _ hk => hk.2) (.slice Ao101 t352.length co101)) (fun _ hk => hk.2) (.slice Ao102 t355.length co102)) (fun _ h_ => h_.1))) hb);have n4_:=Aside0.mk (Kd.R_below (by (with_reducible repeat (first | apply Kd.R_alloc | apply Kd.R_drewN | apply Kd.R_drew));exact (Kd.R_mono (Kd.R_far (p:=⟨gb358,3,none⟩) (Kd.R_far (p:=⟨gb358,2,none⟩) (Kd.R_far (p:=⟨gb358,1,none⟩) (Kd.R_far (p:=⟨gb358,0,none⟩) (Kd.R_mono HO354.out (fun k_ hk => (⟨hk,hk.2⟩ : _ ∧ k_ ≠ gb358))) (fun _ hk => hk.2) (.string t350)) (fun _ hk => hk.2) (.int .i64 t351)) (fun _ hk => hk.2) (.slice Ao101 t352.length co101)) (fun _ hk => hk.2) (.slice Ao102 t355.length co102)) (fun _ h_ => h_.1))) hb);have n5_:=Aside0.mk (Kd.R_below (by (with_reducible repeat (first | apply Kd.R_alloc | apply Kd.R_drewN | apply Kd.R_drew));exact (Kd.R_mono (Kd.R_far (p:=⟨gb358,3,none⟩) (Kd.R_far (p:=⟨gb358,2,none⟩) (Kd.R_far (p:=⟨gb358,1,none⟩) (Kd.R_far (p:=⟨gb358,0,none⟩) (Kd.R_types HO357.out BK358.out (by decide)) (fun _ hk => hk.2) (.string t350)) (fun _ hk => hk.2) (.int .i64 t351)) (fun _ hk => hk.2) (.slice Ao101 t352.length co101)) (fun _ hk => hk.2) (.slice Ao102 t355.length co102)) (fun _ h_ => h_.1))) hb);have n6_:=Aside0.mk (blk_below (g:=gb332) (o:=.cells #[.string a1_0,.int .i64 a1_1,.slice A1_2 l1_2.length c1_2,.slice A1_3 l1_3.length c1_3] 39 (0,0)) (Up.Kx BK332) hb);have n7_:=Aside0.mk (blk_below (g:=gb358) (o:=.cells #[.string t350,.int .i64 t351,.slice Ao101 t352.length co101,.slice Ao102 t355.length co102] 27 (0,0)) (Up.Kx BK358) hb);have n8_:=Aside0.mk (below_step (Up.Bx HB) hb);clear HO337 HO342 HO345 HO349 HO354 HO357 BK332 BK358 HB;have HO337:=n0_;have HO342:=n1_;have HO345:=n2_;have HO349:=n3_;have HO354:=n4_;have HO357:=n5_;have BK332:=n6_;have BK358:=n7_;have HB:=n8_;clear n0_ n1_ n2_ n3_ n4_ n5_ n6_ n7_ n8_;(try clear hb);(try clear hb2);(try clear hk);(try clear hi)) | ((with_reducible refine gate_callee (f:=17) rfl ?_);refine Up.gl (some 37) Tryd.func17 #[.slice A0 l0.length c0] ?_;(with_reducible refine (laws_toRecordSS.calls k _ _ l0 t360 _ ?side1 ?side2 A20.out).mono ?_);(case side1 => exact Up.Cx HR0 HB);(case side2 => exact HC0.out);rintro e w105 ⟨v361,rfl,ho0,hb⟩;refine ⟨_,rfl,?_⟩;have n0_:=Aside0.mk (Kd.R_elder' (Up.Rup HO337) (Kd.R_base ho0) hb);have n1_:=Up.RB HO342 hb;have n2_:=Up.RB HO345 hb;have n3_:=Aside0.mk (Kd.R_elder' (Up.Rup HO349) (Kd.R_base ho0) hb);have n4_:=Up.RB HO354 hb;have n5_:=Up.RB HO357 hb;have n6_:=Aside0.mk (Kd.R_lower (Kd.R_new' (Kd.R_new' ho0 (Kd.R_lt (Up.Rup HO337))) (Kd.R_lt (Up.Rup HO349))) (below_size (Up.Bx HB)));have n7_:=Up.KB BK332 hb;have n8_:=Up.KB BK358 hb;have n9_:=Aside0.mk (below_step (Up.Bx HB) hb);clear HO337 HO342 HO345 HO349 HO354 HO357 BK332 BK358 HB;have HO337:=n0_;have HO342:=n1_;have HO345:=n2_;have HO349:=n3_;have HO354:=n4_;have HO357:=n5_;have HO362:=n6_;have BK332:=n7_;have BK358:=n8_;have HB:=n9_;clear n0_ n1_ n2_ n3_ n4_ n5_ n6_ n7_ n8_ n9_;(try clear hb);(try clear hb2);(try clear hk);(try clear hi);(try clear ho0);obtain ⟨Ao106,co106,eo106⟩:=Kd.R_slice HO362.out;subst eo106) | ((with_reducible refine gate_callee (f:=19) rfl ?_);refine Up.gl (some 38) Tryd.func19 #[.slice Ao103 t347.length co103,.slice Ao106 t360.length co106] ?_;(with_reducible refine (laws_eqRecordSS.calls k _ _ t347 _ _ t360 false _ ?side1 ?side2 ?side3 ?side4 A21.out).mono ?_);(case side1 => repeat (first | exact (Kd.R_reads' HO349.out).2.2 | (with_reducible refine Kd.C_alloc ?_ _) | (with_reducible refine Kd.C_drewN ?_ _) | (with_reducible refine Kd.C_drew ?_)));(case side2 => exact (Kd.R_reads' HO349.out).2.1);(case side3 => repeat (first | exact (Kd.R_reads' HO362.out).2.2 | (with_reducible refine Kd.C_alloc ?_ _) | (with_reducible refine Kd.C_drewN ?_ _) | (with_reducible refine Kd.C_drew ?_)));(case side4 => exact (Kd.R_reads' HO362.out).2.1);rintro e w107 ⟨rfl,hb⟩;refine ⟨_,rfl,?_⟩;have n0_:=Up.RB HO337 hb;have n1_:=Up.RB HO342 hb;have n2_:=Up.RB HO345 hb;have n3_:=Up.RB HO349 hb;have n4_:=Up.RB HO354 hb;have n5_:=Up.RB HO357 hb;have n6_:=Up.RB HO362 hb;have n7_:=Up.KB BK332 hb;have n8_:=Up.KB BK358 hb;have n9_:=Aside0.mk (below_step (Up.Bx HB) hb);clear HO337 HO342 HO345 HO349 HO354 HO357 HO362 BK332 BK358 HB;have HO337:=n0_;have HO342:=n1_;have HO345:=n2_;have HO349:=n3_;have HO354:=n4_;have HO357:=n5_;have HO362:=n6_;have BK332:=n7_;have BK358:=n8_;have HB:=n9_;clear n0_ n1_ n2_ n3_ n4_ n5_ n6_ n7_ n8_ n9_;(try clear hb);(try clear hb2);(try clear hk);(try clear hi)))
     go_ret
     exact Up.e1 (Up.Bx HB)
   ·rw [if_neg c19] at H
    have c19b0 : (t359.toList == t346.toList) = false:=beq_eq_false_iff_ne.mpr c19
    have c19b1 : (t359.toList != t346.toList) = true:=bne_iff_ne.mpr c19
    obtain rfl:=Option.some.inj H
    go_enter Tryd.func5,Tryd.ntmps5
    try go_wp2_with (first | ((with_reducible refine gate_dst (N:=3) rfl ?_);refine Up.bx 3 39 #[.string a1_0,.int .i64 a1_1,.slice A1_2 l1_2.length c1_2,.slice A1_3 l1_3.length c1_3] ?_;intro gb332 hg w108 hbox hb;have n0_:=Up.BB HB hb;have n1_:=Aside0.mk (hbox);have n2_:=Up.gw hg HB;have n3_:=Up.gw hg HB;clear HB;have HB:=n0_;have BK332:=n1_;have GW332:=n2_;have GE332:=n3_;clear n0_ n1_ n2_ n3_ hb hbox hg) | ((with_reducible refine gate_callee (f:=15) rfl ?_);refine Up.gl (some 12) Tryd.func15 #[.slice A0 l0.length c0,.int .i64 1048576] ?_;(with_reducible refine (laws_szRecordSS.calls k _ _ l0 1048576 t333 _ ?side1 ?side2 A3.out).mono ?_);(case side1 => exact Up.Cx HR0 HB);(case side2 => exact HC0.out);rintro e w109 ⟨rfl,hb⟩;refine ⟨_,rfl,?_⟩;have n0_:=Up.KB BK332 hb;have n1_:=Aside0.mk (below_step (Up.Bx HB) hb);clear BK332 HB;have BK332:=n0_;have HB:=n1_;clear n0_ n1_;(try clear hb);(try clear hb2);(try clear hk);(try clear hi);have hcz110_0:=Up.c0 BK332;have hcz110_1:=Up.c1 BK332;have hcz110_2:=Up.c2 BK332;have hcz110_3:=Up.c3 BK332;have hfz110_0:=blk_frozen BK332.out 0;have hfz110_1:=blk_frozen BK332.out 1;have hfz110_2:=blk_frozen BK332.out 2;have hfz110_3:=blk_frozen BK332.out 3) | ((with_reducible refine gate_callee (f:=16) rfl ?_);refine Up.gl (some 17) Tryd.func16 #[.agg #[.string a1_0,.int .i64 a1_1,.slice A1_2 l1_2.length c1_2,.slice A1_3 l1_3.length c1_3],.int .i64 t333] ?_;(with_reducible refine (laws_szValue.calls k a1_0 a1_1 _ _ l1_2 _ _ l1_3 t333 t334 _ ?side1 ?side2 ?side3 ?side4 A7.out).mono ?_);(case side1 => exact Up.Cx HR1_2 HB);(case side2 => exact HC1_2.out);(case side3 => exact Up.Cx HR1_3 HB);(case side4 => exact HC1_3.out);rintro e w111 ⟨rfl,hb⟩;refine ⟨_,rfl,?_⟩;have n0_:=Up.KB BK332 hb;have n1_:=Aside0.mk (below_step (Up.Bx HB) hb);clear BK332 HB;have BK332:=n0_;have HB:=n1_;clear n0_ n1_;(try clear hb);(try clear hb2);(try clear hk);(try clear hi)))
    have n0_:=Aside0.mk (blk_drew BK332.out)
    have n1_:=Aside0.mk (below_drew1 HB.out)
    clear BK332
    clear HB
    have BK332:=n0_
    have HB:=n1_
    clear n0_ n1_
    refine start_ (n:=6) (S:=fun w' => w'.cell? ⟨gb332,0,none⟩ = some (.string a1_0) ∧ w'.cell? ⟨gb332,1,none⟩ = some (.int .i64 a1_1) ∧ w'.cell? ⟨gb332,2,none⟩ = some (.slice A1_2 l1_2.length c1_2) ∧ w'.cell? ⟨gb332,3,none⟩ = some (.slice A1_3 l1_3.length c1_3)) (ds:=[]) #[false,false,false,false,false,false] (by kernel_rfl) rfl rfl ⟨Up.c0 BK332,Up.c1 BK332,Up.c2 BK332,Up.c3 BK332⟩ (fun hHeld => ?_)
    generalize w111.drew = w112 at BK332 HB hHeld ⊢
    refine Up.pn 0 (some 20) ?_
    refine take_ (i:=2) (N:=some 22) (v:=?_) (a':=?_) #[true,false,true,false,false,false] rfl rfl (by kernel_rfl) (fun _ _ _ h => h) (Or.inl ⟨by rfl,?_⟩) hHeld ?_ ?_
    rotate_left
    ·rintro w' ⟨s0,s1,s2,s3⟩
     go_simp
     with_reducible rfl
    rotate_left
    ·simp only [Act.put,List.setIfInBounds_toArray,List.set_cons_zero,List.set_cons_succ,i64_w,i32_w]
     rfl
    refine one_ (i:=1) (N:=some 21) #[true,true,true,false,false,false] rfl rfl (by kernel_rfl) (by decide) (fun K hK => ?_)
    refine Up.go Tryd.func17 #[.slice A0 l0.length c0] ?_
    with_reducible refine (laws_toRecordSS.calls k _ _ l0 t335 _ ?side1 ?side2 A13.out).mono ?_
    (case side1 => exact Up.Cx HR0 HB)
    (case side2 => exact HC0.out)
    rintro e w113 ⟨v336,rfl,ho0,hb⟩
    refine ⟨_,rfl,?_⟩
    have n0_:=Aside0.mk (Kd.R_lower ho0 (below_size (Up.Bx HB)))
    have n1_:=Up.KB BK332 hb
    have n2_:=Aside0.mk (below_step (Up.Bx HB) hb)
    clear BK332
    clear HB
    have HO337:=n0_
    have BK332:=n1_
    have HB:=n2_
    clear n0_ n1_ n2_
    (try clear hb)
    (try clear hb2)
    (try clear hk)
    (try clear hi)
    (try clear ho0)
    refine hK.out _ _ ⟨Up.c0 BK332,Up.c1 BK332,Up.c2 BK332,Up.c3 BK332⟩ (fun hHeld => ?_)
    clear hK K
    refine Up.nm 21 ?_
    refine one_ (i:=3) (N:=some 23) #[true,true,true,true,false,false] rfl rfl (by kernel_rfl) (by decide) (fun K hK => ?_)
    refine Up.go Tryd.func18 #[.agg #[.string a1_0,.int .i64 a1_1,.slice A1_2 l1_2.length c1_2,.slice A1_3 l1_3.length c1_3]] ?_
    with_reducible refine (laws_toValue.calls k a1_0 a1_1 _ _ l1_2 _ _ l1_3 t338 t339 t340 t343 _ ?side1 ?side2 ?side3 ?side4 A14.out).mono ?_
    (case side1 => exact Up.Cx HR1_2 HB)
    (case side2 => exact HC1_2.out)
    (case side3 => exact Up.Cx HR1_3 HB)
    (case side4 => exact HC1_3.out)
    rintro e w114 ⟨v341,v344,rfl,ho0,ho1,hb⟩
    refine ⟨_,rfl,?_⟩
    have n0_:=Up.RB HO337 hb
    have n1_:=Aside0.mk (Kd.R_lower ho0 (below_size (Up.Bx HB)))
    have n2_:=Aside0.mk (Kd.R_lower ho1 (below_size (Up.Bx HB)))
    have n3_:=Up.KB BK332 hb
    have n4_:=Aside0.mk (below_step (Up.Bx HB) hb)
    clear HO337
    clear BK332
    clear HB
    have HO337:=n0_
    have HO342:=n1_
    have HO345:=n2_
    have BK332:=n3_
    have HB:=n4_
    clear n0_ n1_ n2_ n3_ n4_
    (try clear hb)
    (try clear hb2)
    (try clear hk)
    (try clear hi)
    (try clear ho0)
    (try clear ho1)
    obtain ⟨Ao115,co115,eo115⟩:=Kd.R_slice HO337.out
    (first | subst eo115 | (injection eo115 with f1_ f2_ f3_;have f4_:=f1_.symm;have f5_:=f3_.symm;clear f1_ f2_ f3_;subst f4_;subst f5_))
    obtain ⟨Ao116,co116,eo116⟩:=Kd.R_slice HO342.out
    (first | subst eo116 | (injection eo116 with f1_ f2_ f3_;have f4_:=f1_.symm;have f5_:=f3_.symm;clear f1_ f2_ f3_;subst f4_;subst f5_))
    obtain ⟨Ao117,co117,eo117⟩:=Kd.R_slice HO345.out
    (first | subst eo117 | (injection eo117 with f1_ f2_ f3_;have f4_:=f1_.symm;have f5_:=f3_.symm;clear f1_ f2_ f3_;subst f4_;subst f5_))
    refine hK.out _ _ ⟨Up.c0 BK332,Up.c1 BK332,Up.c2 BK332,Up.c3 BK332⟩ (fun hHeld => ?_)
    clear hK K
    refine Up.nm 23 ?_
    refine one_ (i:=4) (N:=some 24) #[true,true,true,true,true,false] rfl rfl (by kernel_rfl) (by decide) (fun K hK => ?_)
    refine Up.go Tryd.func12 #[.slice Ao115 t335.length co115,.agg #[.string t338,.int .i64 t339,.slice Ao116 t340.length co116,.slice Ao117 t343.length co117]] ?_
    with_reducible refine (spec_ValueText.calls k _ _ t335 t338 t339 _ _ t340 _ _ t343 t346 _ ?side1 ?side2 ?side3 ?side4 ?side5 ?side6 A15.out).mono ?_
    (case side1 => repeat (first | exact (Kd.R_reads' HO337.out).2.2 | (with_reducible refine Kd.C_alloc ?_ _) | (with_reducible refine Kd.C_drewN ?_ _) | (with_reducible refine Kd.C_drew ?_)))
    (case side2 => exact (Kd.R_reads' HO337.out).2.1)
    (case side3 => repeat (first | exact (Kd.R_reads' HO342.out).2.2 | (with_reducible refine Kd.C_alloc ?_ _) | (with_reducible refine Kd.C_drewN ?_ _) | (with_reducible refine Kd.C_drew ?_)))
    (case side4 => exact (Kd.R_reads' HO342.out).2.1)
    (case side5 => repeat (first | exact (Kd.R_reads' HO345.out).2.2 | (with_reducible refine Kd.C_alloc ?_ _) | (with_reducible refine Kd.C_drewN ?_ _) | (with_reducible refine Kd.C_drew ?_)))
    (case side6 => exact (Kd.R_reads' HO345.out).2.1)
    rintro e w118 ⟨rfl,hb⟩
    refine ⟨_,rfl,?_⟩
    have n0_:=Up.RB HO337 hb
    have n1_:=Up.RB HO342 hb
    have n2_:=Up.RB HO345 hb
    have n3_:=Up.KB BK332 hb
    have n4_:=Aside0.mk (below_step (Up.Bx HB) hb)
    clear HO337
    clear HO342
    clear HO345
    clear BK332
    clear HB
    have HO337:=n0_
    have HO342:=n1_
    have HO345:=n2_
    have BK332:=n3_
    have HB:=n4_
    clear n0_ n1_ n2_ n3_ n4_
    (try clear hb)
    (try clear hb2)
    (try clear hk)
    (try clear hi)
    refine hK.out _ _ ⟨Up.c0 BK332,Up.c1 BK332,Up.c2 BK332,Up.c3 BK332⟩ (fun hHeld => ?_)
    clear hK K
    refine Up.nm 24 ?_
    refine Up.pn 5 (some 6) ?_
    refine done_ (by kernel_rfl) ?_
    try go_wp2_with (first | ((with_reducible refine gate_callee (f:=17) rfl ?_);refine Up.gl (some 26) Tryd.func17 #[.slice A0 l0.length c0] ?_;(with_reducible refine (laws_toRecordSS.calls k _ _ l0 t347 _ ?side1 ?side2 A16.out).mono ?_);(case side1 => exact Up.Cx HR0 HB);(case side2 => exact HC0.out);rintro e w119 ⟨v348,rfl,ho0,hb⟩;refine ⟨_,rfl,?_⟩;have n0_:=Aside0.mk (Kd.R_elder' (Up.Rup HO337) (Kd.R_base ho0) hb);have n1_:=Up.RB HO342 hb;have n2_:=Up.RB HO345 hb;have n3_:=Aside0.mk (Kd.R_lower (Kd.R_new' ho0 (Kd.R_lt (Up.Rup HO337))) (below_size (Up.Bx HB)));have n4_:=Up.KB BK332 hb;have n5_:=Aside0.mk (below_step (Up.Bx HB) hb);clear HO337 HO342 HO345 BK332 HB;have HO337:=n0_;have HO342:=n1_;have HO345:=n2_;have HO349:=n3_;have BK332:=n4_;have HB:=n5_;clear n0_ n1_ n2_ n3_ n4_ n5_;(try clear hb);(try clear hb2);(try clear hk);(try clear hi);(try clear ho0);have hcz120_0:=Up.c0 BK332;have hcz120_1:=Up.c1 BK332;have hcz120_2:=Up.c2 BK332;have hcz120_3:=Up.c3 BK332;have hfz120_0:=blk_frozen BK332.out 0;have hfz120_1:=blk_frozen BK332.out 1;have hfz120_2:=blk_frozen BK332.out 2;have hfz120_3:=blk_frozen BK332.out 3) | ((with_reducible refine gate_callee (f:=18) rfl ?_);refine Up.gl (some 28) Tryd.func18 #[.agg #[.string a1_0,.int .i64 a1_1,.slice A1_2 l1_2.length c1_2,.slice A1_3 l1_3.length c1_3]] ?_;(with_reducible refine (laws_toValue.calls k a1_0 a1_1 _ _ l1_2 _ _ l1_3 t350 t351 t352 t355 _ ?side1 ?side2 ?side3 ?side4 A17.out).mono ?_);(case side1 => exact Up.Cx HR1_2 HB);(case side2 => exact HC1_2.out);(case side3 => exact Up.Cx HR1_3 HB);(case side4 => exact HC1_3.out);rintro e w121 ⟨v353,v356,rfl,ho0,ho1,hb⟩;refine ⟨_,rfl,?_⟩;have n0_:=Up.RB HO337 hb;have n1_:=Aside0.mk (Kd.R_mono (Kd.R_told (Kd.R_told (Kd.R_old (Up.Rup HO342) hb) (Kd.R_base ho0)) (Kd.R_base ho1)) (fun _ h_ => h_.1));have n2_:=Aside0.mk (Kd.R_elder' (Up.Rup HO345) (Kd.R_base ho1) hb);have n3_:=Up.RB HO349 hb;have n4_:=Aside0.mk (Kd.R_lower (Kd.R_new' (Kd.R_new' ho0 (Kd.R_lt (Up.Rup HO342))) (Kd.R_lt (Up.Rup HO345))) (below_size (Up.Bx HB)));have n5_:=Aside0.mk (Kd.R_lower (Kd.R_new' ho1 (Kd.R_lt (Up.Rup HO345))) (below_size (Up.Bx HB)));have n6_:=Up.KB BK332 hb;have n7_:=Aside0.mk (below_step (Up.Bx HB) hb);clear HO337 HO342 HO345 HO349 BK332 HB;have HO337:=n0_;have HO342:=n1_;have HO345:=n2_;have HO349:=n3_;have HO354:=n4_;have HO357:=n5_;have BK332:=n6_;have HB:=n7_;clear n0_ n1_ n2_ n3_ n4_ n5_ n6_ n7_;(try clear hb);(try clear hb2);(try clear hk);(try clear hi);(try clear ho0);(try clear ho1)) | ((with_reducible refine gate_dst (N:=8) rfl ?_);refine Up.bx 8 27 #[.string (⟨#[]⟩ : ByteArray),.int .i64 0,.slice none 0 0,.slice none 0 0] ?_;intro gb358 hg w122 hbox hb;have n0_:=Up.RB HO337 hb;have n1_:=Aside0.mk (Kd.R_below (Kd.R_elderB (Up.Rup HO342) gb358 (Nat.le_of_eq hg.symm)) hb);have n2_:=Up.RB HO345 hb;have n3_:=Up.RB HO349 hb;have n4_:=Aside0.mk (Kd.R_below (Kd.R_elderB (Up.Rup HO354) gb358 (Nat.le_of_eq hg.symm)) hb);have n5_:=Up.RB HO357 hb;have n6_:=Up.KB BK332 hb;have n7_:=Aside0.mk (below_step (Up.Bx HB) hb);have n8_:=Aside0.mk (hbox);have n9_:=Up.gw hg HB;have n10_:=Up.gw hg HB;have n11_:=Up.nl hg BK332;have n12_:=Up.ng hg BK332;clear HO337 HO342 HO345 HO349 HO354 HO357 BK332 HB;have HO337:=n0_;have HO342:=n1_;have HO345:=n2_;have HO349:=n3_;have HO354:=n4_;have HO357:=n5_;have BK332:=n6_;have HB:=n7_;have BK358:=n8_;have GW358:=n9_;have GE358:=n10_;have NB332_358:=n11_;have NB358_332:=n12_;clear n0_ n1_ n2_ n3_ n4_ n5_ n6_ n7_ n8_ n9_ n10_ n11_ n12_ hb hbox hg;have hnb123:=NB358_332.out;have hnc123:=NB332_358.out;have hcz124_0:=Up.c0 BK358;have hcz124_1:=Up.c1 BK358;have hcz124_2:=Up.c2 BK358;have hcz124_3:=Up.c3 BK358;have hfz124_0:=blk_frozen BK358.out 0;have hfz124_1:=blk_frozen BK358.out 1;have hfz124_2:=blk_frozen BK358.out 2;have hfz124_3:=blk_frozen BK358.out 3;obtain ⟨Ao125,co125,eo125⟩:=Kd.R_slice HO354.out;subst eo125;obtain ⟨Ao126,co126,eo126⟩:=Kd.R_slice HO357.out;subst eo126;obtain ⟨Ao127,co127,eo127⟩:=Kd.R_slice HO349.out;subst eo127) | ((with_reducible refine gate_callee (f:=10) rfl ?_);refine Up.gl (some 31) Tryd.func10 #[.slice Ao127 t347.length co127,.agg #[.string t350,.int .i64 t351,.slice Ao125 t352.length co125,.slice Ao126 t355.length co126]] ?_;(with_reducible refine (impl_ValueText.calls (hT_:=?tab1) k _ _ t347 t350 t351 _ _ t352 _ _ t355 t359 _ ?side1 ?side2 ?side3 ?side4 ?side5 ?side6 A18.out).mono ?_);(case tab1 => exact hT_.below (Up.Bx HB));(case side1 => refine (Kd.R_reads' (e:=66) (base:=w.heap.size) (ok:=fun k_ => (True ∧ some k_ ≠ (.slice Ao115 t335.length co115 : Value).ownBlock)) (n:=t347.length) (c:=co127) ?_).2.2;exact (by (with_reducible repeat (first | apply Kd.R_alloc | apply Kd.R_drewN | apply Kd.R_drew));exact (Kd.R_mono (Kd.R_far (p:=⟨gb358,3,none⟩) (Kd.R_far (p:=⟨gb358,2,none⟩) (Kd.R_far (p:=⟨gb358,1,none⟩) (Kd.R_far (p:=⟨gb358,0,none⟩) (Kd.R_types HO349.out BK358.out (by decide)) (fun _ hk => hk.2) (.string t350)) (fun _ hk => hk.2) (.int .i64 t351)) (fun _ hk => hk.2) (.slice Ao125 t352.length co125)) (fun _ hk => hk.2) (.slice Ao126 t355.length co126)) (fun _ h_ => h_.1))));(case side2 => exact (Kd.R_reads' HO349.out).2.1);(case side3 => refine (Kd.R_reads' (e:=27) (base:=w.heap.size) (ok:=fun k_ => (((some k_ ≠ (.slice Ao126 t355.length co126 : Value).ownBlock ∧ some k_ ≠ (.slice Ao116 t340.length co116 : Value).ownBlock) ∧ some k_ ≠ (.slice Ao117 t343.length co117 : Value).ownBlock) ∧ k_ ≠ gb358)) (n:=t352.length) (c:=co125) ?_).2.2;exact (by (with_reducible repeat (first | apply Kd.R_alloc | apply Kd.R_drewN | apply Kd.R_drew));exact (Kd.R_mono (Kd.R_far (p:=⟨gb358,3,none⟩) (Kd.R_far (p:=⟨gb358,2,none⟩) (Kd.R_far (p:=⟨gb358,1,none⟩) (Kd.R_far (p:=⟨gb358,0,none⟩) (Kd.R_mono HO354.out (fun k_ hk => (⟨hk,hk.2⟩ : _ ∧ k_ ≠ gb358))) (fun _ hk => hk.2) (.string t350)) (fun _ hk => hk.2) (.int .i64 t351)) (fun _ hk => hk.2) (.slice Ao125 t352.length co125)) (fun _ hk => hk.2) (.slice Ao126 t355.length co126)) (fun _ h_ => h_.1))));(case side4 => exact (Kd.R_reads' HO354.out).2.1);(case side5 => refine (Kd.R_reads' (e:=3) (base:=w.heap.size) (ok:=fun k_ => (True ∧ some k_ ≠ (.slice Ao117 t343.length co117 : Value).ownBlock)) (n:=t355.length) (c:=co126) ?_).2.2;exact (by (with_reducible repeat (first | apply Kd.R_alloc | apply Kd.R_drewN | apply Kd.R_drew));exact (Kd.R_mono (Kd.R_far (p:=⟨gb358,3,none⟩) (Kd.R_far (p:=⟨gb358,2,none⟩) (Kd.R_far (p:=⟨gb358,1,none⟩) (Kd.R_far (p:=⟨gb358,0,none⟩) (Kd.R_types HO357.out BK358.out (by decide)) (fun _ hk => hk.2) (.string t350)) (fun _ hk => hk.2) (.int .i64 t351)) (fun _ hk => hk.2) (.slice Ao125 t352.length co125)) (fun _ hk => hk.2) (.slice Ao126 t355.length co126)) (fun _ h_ => h_.1))));(case side6 => exact (Kd.R_reads' HO357.out).2.1);rintro e w128 ⟨rfl,hb⟩;refine ⟨_,rfl,?_⟩;have n0_:=Aside0.mk (Kd.R_below (by (with_reducible repeat (first | apply Kd.R_alloc | apply Kd.R_drewN | apply Kd.R_drew));exact (Kd.R_mono (Kd.R_far (p:=⟨gb358,3,none⟩) (Kd.R_far (p:=⟨gb358,2,none⟩) (Kd.R_far (p:=⟨gb358,1,none⟩) (Kd.R_far (p:=⟨gb358,0,none⟩) (Kd.R_types HO337.out BK358.out (by decide)) (fun _ hk => hk.2) (.string t350)) (fun _ hk => hk.2) (.int .i64 t351)) (fun _ hk => hk.2) (.slice Ao125 t352.length co125)) (fun _ hk => hk.2) (.slice Ao126 t355.length co126)) (fun _ h_ => h_.1))) hb);have n1_:=Aside0.mk (Kd.R_below (by (with_reducible repeat (first | apply Kd.R_alloc | apply Kd.R_drewN | apply Kd.R_drew));exact (Kd.R_mono (Kd.R_far (p:=⟨gb358,3,none⟩) (Kd.R_far (p:=⟨gb358,2,none⟩) (Kd.R_far (p:=⟨gb358,1,none⟩) (Kd.R_far (p:=⟨gb358,0,none⟩) (Kd.R_mono HO342.out (fun k_ hk => (⟨hk,hk.2⟩ : _ ∧ k_ ≠ gb358))) (fun _ hk => hk.2) (.string t350)) (fun _ hk => hk.2) (.int .i64 t351)) (fun _ hk => hk.2) (.slice Ao125 t352.length co125)) (fun _ hk => hk.2) (.slice Ao126 t355.length co126)) (fun _ h_ => h_.1))) hb);have n2_:=Aside0.mk (Kd.R_below (by (with_reducible repeat (first | apply Kd.R_alloc | apply Kd.R_drewN | apply Kd.R_drew));exact (Kd.R_mono (Kd.R_far (p:=⟨gb358,3,none⟩) (Kd.R_far (p:=⟨gb358,2,none⟩) (Kd.R_far (p:=⟨gb358,1,none⟩) (Kd.R_far (p:=⟨gb358,0,none⟩) (Kd.R_types HO345.out BK358.out (by decide)) (fun _ hk => hk.2) (.string t350)) (fun _ hk => hk.2) (.int .i64 t351)) (fun _ hk => hk.2) (.slice Ao125 t352.length co125)) (fun _ hk => hk.2) (.slice Ao126 t355.length co126)) (fun _ h_ => h_.1))) hb);have n3_:=Aside0.mk (Kd.R_below (by (with_reducible repeat (first | apply Kd.R_alloc | apply Kd.R_drewN | apply Kd.R_drew));exact (Kd.R_mono (Kd.R_far (p:=⟨gb358,3,none⟩) (Kd.R_far (p:=⟨gb358,2,none⟩) (Kd.R_far (p:=⟨gb358,1,none⟩) (Kd.R_far (p:=⟨gb358,0,none⟩) (Kd.R_types HO349.out BK358.out (by decide)) (fun _ hk => hk.2) (.string t350)) (fun _ hk => hk.2) (.int .i64 t351)) (fun _ hk => hk.2) (.slice Ao125 t352.length co125)) (fun _ hk => hk.2) (.slice Ao126 t355.length co126)) (fun _ h_ => h_.1))) hb);have n4_:=Aside0.mk (Kd.R_below (by (with_reducible repeat (first | apply Kd.R_alloc | apply Kd.R_drewN | apply Kd.R_drew));exact (Kd.R_mono (Kd.R_far (p:=⟨gb358,3,none⟩) (Kd.R_far (p:=⟨gb358,2,none⟩) (Kd.R_far (p:=⟨gb358,1,none⟩) (Kd.R_far (p:=⟨gb358,0,none⟩) (Kd.R_mono HO354.out (fun k_ hk => (⟨hk,hk.2⟩ : _ ∧ k_ ≠ gb358))) (fun _ hk => hk.2) (.string t350)) (fun _ hk => hk.2) (.int .i64 t351)) (fun _ hk => hk.2) (.slice Ao125 t352.length co125)) (fun _ hk => hk.2) (.slice Ao126 t355.length co126)) (fun _ h_ => h_.1))) hb);have n5_:=Aside0.mk (Kd.R_below (by (with_reducible repeat (first | apply Kd.R_alloc | apply Kd.R_drewN | apply Kd.R_drew));exact (Kd.R_mono (Kd.R_far (p:=⟨gb358,3,none⟩) (Kd.R_far (p:=⟨gb358,2,none⟩) (Kd.R_far (p:=⟨gb358,1,none⟩) (Kd.R_far (p:=⟨gb358,0,none⟩) (Kd.R_types HO357.out BK358.out (by decide)) (fun _ hk => hk.2) (.string t350)) (fun _ hk => hk.2) (.int .i64 t351)) (fun _ hk => hk.2) (.slice Ao125 t352.length co125)) (fun _ hk => hk.2) (.slice Ao126 t355.length co126)) (fun _ h_ => h_.1))) hb);have n6_:=Aside0.mk (blk_below (g:=gb332) (o:=.cells #[.string a1_0,.int .i64 a1_1,.slice A1_2 l1_2.length c1_2,.slice A1_3 l1_3.length c1_3] 39 (0,0)) (Up.Kx BK332) hb);have n7_:=Aside0.mk (blk_below (g:=gb358) (o:=.cells #[.string t350,.int .i64 t351,.slice Ao125 t352.length co125,.slice Ao126 t355.length co126] 27 (0,0)) (Up.Kx BK358) hb);have n8_:=Aside0.mk (below_step (Up.Bx HB) hb);clear HO337 HO342 HO345 HO349 HO354 HO357 BK332 BK358 HB;have HO337:=n0_;have HO342:=n1_;have HO345:=n2_;have HO349:=n3_;have HO354:=n4_;have HO357:=n5_;have BK332:=n6_;have BK358:=n7_;have HB:=n8_;clear n0_ n1_ n2_ n3_ n4_ n5_ n6_ n7_ n8_;(try clear hb);(try clear hb2);(try clear hk);(try clear hi)))
    go_ret
    exact Up.e1 (Up.Bx HB)

end Go.Proofs.YtdgmlakgnbmbbaaDoor.OFnExactValueText
